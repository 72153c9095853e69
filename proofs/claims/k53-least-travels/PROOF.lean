import PyProof.Rows.All
import Wide.All
import OpenK.AllK
import Wide.FinOn
import PyProof.DictRoadsH
import KE.DataEq
import HandS.ForMost
import HandS.ForSpec
import HandS.Comp
import HandS.Iter
import HandS.Walk
import HandS.Text
import HandS.TupAny
import HandS.TupMul
import HandS.Style
import HandS.IsInst
import HandS.Conv
import HandS.Rev
import HandS.CallSlots
import HandS.AnyAll
import HandS.RevRange
import HandS.Flow
import HandS.Star
import KE.DataMinMax
import KE.DataCmp
import KE.SortData
import HandS.More
import KE.SortCalls
import HandS.Zip
import HandS.Words
import HandS.WordsExc
import HandS.GenList
import HandS.Dict
import HandS.Head0
import HandS.Head1
import HandS.Head2
import HandS.HeadEnd
import HandS.HeadHook1
import HandS.HeadHook2
import HandS.HeadHook3
import HandS.HeadHook4
import HandS.HeadWalk
import HandS.EndTab
import HandS.Remove
import HandS.SetFor
import HandS.NoneIn
import PySem.Challenge.RW_plantkept_k53_whole_least_travels_of_lif
import KE.KStateDown
section
set_option Elab.async false
set_option linter.all false
set_option maxRecDepth 100000
/-! Dicts by any keys, part a: data as keys (ints, bools, texts, tuples of these, nested). -/
namespace DK
open PySem PySem.Spec PyProof.Rows PySem.SeqAt
open Sem (wp)
mutual
/-- what can be a key here -/
def kOk : PyData → Bool
  | .bool _ => true
  | .int _ => true
  | .str _ => true
  | .tuple xs => kOkAll xs
  | _ => false
def kOkAll : List PyData → Bool
  | [] => true
  | x :: xs => kOk x && kOkAll xs
end
mutual
/-- as keys, bools are numbers -/
def norm : PyData → PyData
  | .bool b => .int (if b then 1 else 0)
  | .tuple xs => .tuple (normAll xs)
  | d => d
def normAll : List PyData → List PyData
  | [] => []
  | x :: xs => norm x :: normAll xs
end
mutual
theorem norm_eqv : ∀ x y : PyData, kOk x = true → kOk y = true → (PyData.eqv x y = true ↔ norm x = norm y)
  | .bool a, y, _, hy => by
    cases y with
    | bool b => cases a <;> cases b <;> simp [PyData.eqv, norm]
    | int j => simp [PyData.eqv, norm]
    | str z => simp [PyData.eqv, norm]
    | tuple zs => simp [PyData.eqv, norm]
    | _ => cases hy
  | .int i, y, _, hy => by
    cases y with
    | bool b => simp [PyData.eqv, norm]
    | int j => simp [PyData.eqv, norm]
    | str z => simp [PyData.eqv, norm]
    | tuple zs => simp [PyData.eqv, norm]
    | _ => cases hy
  | .str i, y, _, hy => by
    cases y with
    | bool b => simp [PyData.eqv, norm]
    | int j => simp [PyData.eqv, norm]
    | str z => simp [PyData.eqv, norm]
    | tuple zs => simp [PyData.eqv, norm]
    | _ => cases hy
  | .tuple xs, y, hx, hy => by
    cases y with
    | bool b => simp [PyData.eqv, norm]
    | int j => simp [PyData.eqv, norm]
    | str z => simp [PyData.eqv, norm]
    | tuple zs =>
      have := normAll_eqv xs zs (by simpa [kOk] using hx) (by simpa [kOk] using hy)
      simp [PyData.eqv, norm, this]
    | _ => cases hy
  | .none, _, hx, _ => by cases hx
  | .list _, _, hx, _ => by cases hx
  | .dict _, _, hx, _ => by cases hx
theorem normAll_eqv : ∀ xs ys : List PyData, kOkAll xs = true → kOkAll ys = true → (PyData.eqvAll xs ys = true ↔ normAll xs = normAll ys)
  | [], [], _, _ => by simp [PyData.eqvAll, normAll]
  | [], _ :: _, _, _ => by simp [PyData.eqvAll, normAll]
  | _ :: _, [], _, _ => by simp [PyData.eqvAll, normAll]
  | x :: xs, y :: ys, hx, hy => by
    simp only [kOkAll, Bool.and_eq_true] at hx hy
    simp [PyData.eqvAll, normAll, norm_eqv x y hx.1 hy.1, normAll_eqv xs ys hx.2 hy.2]
end
theorem slot_bool_hash : Slot "bool" "__hash__" "int.__hash__" :=
  .of (owner := "int") (n := "__hash__") (by rw [typeLookup_type, builtinLookup_eq_fast]; kernel_rfl) (by decide +kernel) (by decide +kernel) (by decide +kernel)
    (by first | exact .inl (by decide +kernel) | exact .inr (by decide +kernel)) (by rw [isSubtype_type]; kernel_rfl)
section
variable {prog : Program} {w : World} {A : Around} {E : Value → Shared → Prop} {s : Shared}
theorem wpAny_pyHash_bool {b : Bool} {Q : Int → Shared → Prop} (h : Q (hashInt (if b then 1 else 0)) { s with toks := s.toks + 1 }) :
    wpAny (model prog w) A (pyHash (.bool b)) Q E s := by
  have hr := rawHash_range (if b then 1 else 0)
  have hT : s.TypeIs (.bool b) "bool" := rfl
  unfold pyHash
  have hv : [Value.bool b].any Value.onHeap = false := rfl
  refine wpAny_bind ?_
  rw [cRoomFor, if_neg (by rw [hv]; exact Bool.false_ne_true)]; refine wpAny_pure ?_
  refine wpAny_bind (wpAny_specialOf hT slot_bool_hash.lookup ?_)
  show wpAny _ _ (if (some (Value.builtin "int.__hash__") == some Value.none) = true then _ else _) Q E s
  rw [if_neg (by rw [beq_builtin_none]; exact Bool.false_ne_true)]
  refine wpAny_bind (wpAny_specialOf hT slot_bool_hash.lookup ?_)
  show wpAny _ _ (callSpecialIfBoundUnlessNone? (.bool b) "__hash__" _ >>= _) Q E s
  refine wpAny_bind (wpAny_callSpecialIfBoundUnlessNone?_slot hT slot_bool_hash
    (wpAny_call_entry slot_bool_hash hT entry_int_hash
      (show wpAny _ _ (do ret (← mkInt (rawHash (if b then 1 else 0)))) _ _ s from wpAny_ret_mkInt ?_) (args_int_hash _)))
  show wpAny _ _ (if (decide (-(2 : Int) ^ 63 ≤ rawHash (if b then 1 else 0)) && decide (rawHash (if b then 1 else 0) < 2 ^ 63)) = true then _ else _) Q E _
  rw [if_pos (by rw [decide_eq_true hr.1, decide_eq_true hr.2]; rfl)]
  exact wpAny_pure h
end
mutual
def hashD (w : World) : PyData → Int
  | .bool b => hashInt (if b then 1 else 0)
  | .int i => hashInt i
  | .str x => hashStr w x
  | .tuple xs => reduceHash (Builtin.Tuple.tupleHashOf (hashAll w xs))
  | _ => 0
def hashAll (w : World) : List PyData → List Int
  | [] => []
  | x :: xs => hashD w x :: hashAll w xs
end
mutual
theorem hash_norm (w : World) : ∀ x : PyData, hashD w (norm x) = hashD w x
  | .bool _ => by simp [norm, hashD]
  | .int _ => rfl
  | .str _ => rfl
  | .tuple xs => by simp [norm, hashD, hashAll_norm w xs]
  | .none => rfl
  | .list _ => rfl
  | .dict _ => rfl
theorem hashAll_norm (w : World) : ∀ xs : List PyData, hashAll w (normAll xs) = hashAll w xs
  | [] => rfl
  | x :: xs => by simp [normAll, hashAll, hash_norm w x, hashAll_norm w xs]
end
mutual
def drawD : PyData → Nat
  | .tuple xs => drawAll xs + 1
  | _ => 1
def drawAll : List PyData → Nat
  | [] => 0
  | x :: xs => drawD x + drawAll xs
end
mutual
theorem draw_norm : ∀ x : PyData, drawD (norm x) = drawD x
  | .bool _ => rfl
  | .int _ => rfl
  | .str _ => rfl
  | .tuple xs => by simp [norm, drawD, drawAll_norm xs]
  | .none => rfl
  | .list _ => rfl
  | .dict _ => rfl
theorem drawAll_norm : ∀ xs : List PyData, drawAll (normAll xs) = drawAll xs
  | [] => rfl
  | x :: xs => by simp [normAll, drawAll, draw_norm x, drawAll_norm xs]
end
theorem hashAll_append (w : World) : ∀ xs ys : List PyData, hashAll w (xs ++ ys) = hashAll w xs ++ hashAll w ys
  | [], _ => rfl
  | x :: xs, ys => by simp [hashAll, hashAll_append w xs ys]
theorem drawAll_append : ∀ xs ys : List PyData, drawAll (xs ++ ys) = drawAll xs + drawAll ys
  | [], _ => by simp [drawAll]
  | x :: xs, ys => by simp [drawAll, drawAll_append xs ys, Nat.add_assoc]
theorem kOkAll_mem : ∀ {xs : List PyData} {x : PyData}, kOkAll xs = true → x ∈ xs → kOk x = true
  | y :: ys, x, h, hm => by
    simp only [kOkAll, Bool.and_eq_true] at h
    rcases List.mem_cons.mp hm with e | hm
    · rw [e]; exact h.1
    · exact kOkAll_mem h.2 hm
theorem depth_mem : ∀ {xs : List PyData} {x : PyData}, x ∈ xs → x.depth ≤ PyData.depthAll xs
  | y :: ys, x, hm => by
    rw [PyData.depthAll]
    rcases List.mem_cons.mp hm with e | hm
    · rw [e]; exact Nat.le_max_left _ _
    · exact Nat.le_trans (depth_mem hm) (Nat.le_max_right _ _)
theorem Reads.toks {h : Heap} {v : Value} {d : PyData} {as : List Addr} (r : Reads h v d as) : Reads h v d as := r
section
variable {prog : Program} {w : World}
theorem hash_data : ∀ (n : Nat) (d : PyData) (v : Value) (as : List Addr) (A : Around) (E : Value → Shared → Prop) (s : Shared) (Q : Int → Shared → Prop), d.depth ≤ n → kOk d = true → Reads s.heap v d as → A.units + d.depth < cLine →
    Q (hashD w d) { s with toks := s.toks + drawD d } → wpAny (model prog w) A (pyHash v) Q E s
  | _, .bool b, v, as, A, E, s, Q, _, hk, r, hu, h => by
    cases r
    exact wpAny_pyHash_bool h
  | _, .int i, v, as, A, E, s, Q, _, hk, r, hu, h => by
    cases r
    exact wpAny_pyHash_int h
  | _, .str x, v, as, A, E, s, Q, _, hk, r, hu, h => by
    cases r
    exact wpAny_pyHash_str h
  | 0, .tuple xs, v, as, A, E, s, Q, hn, hk, r, hu, h => by simp [PyData.depth] at hn
  | n + 1, .tuple xs, v, as, A, E, s, Q, hn, hk, r, hu, h => by
    cases r with
    | tuple ho hc hd hi =>
      rename_i a o vs m
      have hT : s.TypeIs (.ref a) "tuple" := ⟨o, ho, hc⟩
      simp only [PyData.depth] at hu hn
      simp only [kOk] at hk
      unfold pyHash
      first | unfold pyHashByItsType | skip
      first | refine wpAny_bind (wpAny_cRoomFor_or (.inr (by omega)) ?_) | skip
      refine wpAny_bind (wpAny_specialOf hT F.slot_tuple_hash.lookup ?_)
      show wpAny _ _ (if (some (Value.builtin "tuple.__hash__") == some Value.none) = true then _ else _) Q E s
      rw [if_neg (by rw [beq_builtin_none]; exact Bool.false_ne_true)]
      refine wpAny_bind (wpAny_specialOf hT F.slot_tuple_hash.lookup ?_)
      show wpAny _ _ (callSpecialIfBoundUnlessNone? (.ref a) "__hash__" _ >>= _) Q E s
      refine wpAny_bind (wpAny_callSpecialIfBoundUnlessNone?_slot hT F.slot_tuple_hash (wpAny_call_entry F.slot_tuple_hash hT F.entry_tuple_hash ?_ (F.args_tuple_hash_1 _)))
      show wpAny _ _ (Builtin.Tuple.tupleItemsOf (.ref a) >>= _) _ _ s
      refine wpAny_bind (wpAny_tupleItemsOf ho hd ?_)
      refine wpAny_bind ?_
      rw [← Array.forIn_toList]
      refine wpAny_forIn_list _
        (fun rest (b : Array Int) s' => ∃ done left bs, xs = done ++ left ∧ ReadsAll s.heap rest left bs ∧ b.toList = hashAll w done ∧ s' = { s with toks := s.toks + drawAll done })
        _ ?_ ?_ _ _ ⟨[], xs, _, rfl, hi, rfl, rfl⟩
      · rintro x rest b s' ⟨done, left, bs, exs, hl, hb, rfl⟩
        cases hl with
        | cons h1 hl' =>
          rename_i d1 ds1 as1 bs1
          have hm : d1 ∈ xs := by rw [exs]; simp
          have hdm := depth_mem hm
          have hA : A.in1.units = A.units + 1 := rfl
          refine wpAny_bind (hash_data n d1 x _ _ _ _ _ (by omega) (kOkAll_mem hk hm) h1 (by show A.in1.units + _ < _; rw [hA]; omega) ?_)
          have hres : ∃ done left bs, xs = done ++ left ∧ ReadsAll s.heap rest left bs ∧ (b.push (hashD w d1)).toList = hashAll w done ∧ ({ { s with toks := s.toks + drawAll done } with toks := s.toks + drawAll done } : Shared) = { s with toks := s.toks + drawAll done } := by
            refine ⟨done ++ [d1], ds1, _, by rw [exs]; simp, hl', ?_, rfl⟩
            rw [hashAll_append, ← hb]
            simp [hashAll]
          have hst : ({ { s with toks := s.toks + drawAll done } with toks := { s with toks := s.toks + drawAll done }.toks + drawD d1 } : Shared) = { s with toks := s.toks + drawAll (done ++ [d1]) } := by
            rw [drawAll_append]
            simp [drawAll, Nat.add_assoc]
          rw [hst]
          first
            | exact wpAny_pure ⟨done ++ [d1], ds1, _, by rw [exs]; simp, hl', by rw [hashAll_append, ← hb]; simp [hashAll], rfl⟩
            | exact wpAny_bind (wpAny_pure (wpAny_pure ⟨done ++ [d1], ds1, _, by rw [exs]; simp, hl', by rw [hashAll_append, ← hb]; simp [hashAll], rfl⟩))
      · rintro b s' ⟨done, left, bs, exs, hl, hb, rfl⟩
        cases hl
        rw [List.append_nil] at exs
        subst exs
        show wpAny _ _ (retInt (Builtin.Tuple.tupleHashOf b.toList)) _ _ _
        rw [hb]
        refine wpAny_ret_mkInt ?_
        show wpAny _ _ (if (decide (-(2 : Int) ^ 63 ≤ Builtin.Tuple.tupleHashOf (hashAll w xs)) && decide (Builtin.Tuple.tupleHashOf (hashAll w xs) < 2 ^ 63)) = true then _ else _) Q E _
        simp only [hashD, reduceHash, drawD] at h
        by_cases hr : (decide (-(2 : Int) ^ 63 ≤ Builtin.Tuple.tupleHashOf (hashAll w xs)) && decide (Builtin.Tuple.tupleHashOf (hashAll w xs) < 2 ^ 63)) = true
        · rw [if_pos hr]
          rw [if_pos hr] at h
          exact wpAny_pure (by simpa [Nat.add_assoc] using h)
        · rw [if_neg hr]
          rw [if_neg hr] at h
          exact wpAny_bind (wpAny_rule (wpAny_pure (by simpa [Nat.add_assoc] using h)))
  | _, .none, _, _, _, _, _, _, _, hk, _, _, _ => by cases hk
  | _, .list _, _, _, _, _, _, _, _, hk, _, _, _ => by cases hk
  | _, .dict _, _, _, _, _, _, _, _, hk, _, _, _ => by cases hk
end
mutual
theorem kOk_plain : ∀ d : PyData, kOk d = true → d.plain = true
  | .bool _, _ => rfl
  | .int _, _ => rfl
  | .str _, _ => rfl
  | .tuple xs, h => by
    rw [PyData.plain]
    exact kOkAll_plain xs (by simpa [kOk] using h)
  | .none, h => by cases h
  | .list _, h => by cases h
  | .dict _, h => by cases h
theorem kOkAll_plain : ∀ xs : List PyData, kOkAll xs = true → PyData.plainAll xs = true
  | [], _ => rfl
  | x :: xs, h => by
    simp only [kOkAll, Bool.and_eq_true] at h
    rw [PyData.plainAll, kOk_plain x h.1, kOkAll_plain xs h.2]; rfl
end
mutual
/-- a dict is changed: what keys are stays -/
theorem reads_but {h h' : Heap} {a : Addr} {o : Obj} {es : Array DictEntry} {ep : Nat} (ho : h.get? a = some o) (hd : o.data = .dict es ep) (hs : Heap.SameBut a h h') : ∀ (d : PyData) (v : Value) (as : List Addr), kOk d = true → Reads h v d as → Reads h' v d as
  | .bool _, _, _, _, r => by cases r; exact .bool _
  | .int _, _, _, _, r => by cases r; exact .int _ _
  | .str _, _, _, _, r => by cases r; exact .str _ _
  | .tuple xs, _, _, hk, r => by
    cases r with
    | @tuple b o' vs n _ _ h1 h2 h3 h4 =>
      have hb : b ≠ a := by
        rintro rfl
        rw [ho] at h1
        cases h1
        rw [hd] at h3
        cases h3
      exact .tuple ((hs.2 b hb).trans h1) h2 h3 (readsAll_but ho hd hs xs _ _ (by simpa [kOk] using hk) h4)
  | .none, _, _, h, _ => by cases h
  | .list _, _, _, h, _ => by cases h
  | .dict _, _, _, h, _ => by cases h
theorem readsAll_but {h h' : Heap} {a : Addr} {o : Obj} {es : Array DictEntry} {ep : Nat} (ho : h.get? a = some o) (hd : o.data = .dict es ep) (hs : Heap.SameBut a h h') : ∀ (xs : List PyData) (vs : List Value) (as : List Addr), kOkAll xs = true → ReadsAll h vs xs as → ReadsAll h' vs xs as
  | [], _, _, _, r => by cases r; exact .nil
  | x :: xs, _, _, hk, r => by
    simp only [kOkAll, Bool.and_eq_true] at hk
    cases r with
    | cons r1 r2 => exact .cons (reads_but ho hd hs x _ _ hk.1 r1) (readsAll_but ho hd hs xs _ _ hk.2 r2)
end
/-- a ref that is a key -/
def IsK (h : Heap) (k : PyData) (a : Addr) : Prop := ∃ d as, Reads h (.ref a) d as ∧ kOk d = true ∧ d.depth ≤ 7 ∧ norm d = k
theorem reads_ref {h : Heap} {a : Addr} {d : PyData} {as : List Addr} (r : Reads h (.ref a) d as) (hk : kOk d = true) : ∃ xs o vs n, d = .tuple xs ∧ h.get? a = some o ∧ o.cls = .type "tuple" ∧ o.data = .seq vs n ∧ ReadsAll h vs.toList xs as := by
  cases r with
  | tuple h1 h2 h3 h4 => exact ⟨_, _, _, _, rfl, h1, h2, h3, h4⟩
  | list h1 h2 h3 h4 => cases hk
  | dict h1 h2 h3 h4 h5 => cases hk
section
variable {prog : Program} {w : World}
theorem quiet_data : ∀ (n : Nat) (d : PyData) (v : Value) (as : List Addr) (A : Around) (E : Value → Shared → Prop) (s : Shared) (Q : Bool → Shared → Prop), d.depth ≤ n → kOk d = true → Reads s.heap v d as → Q true s → wpAny (model prog w) A (eqIsQuiet n v) Q E s
  | n, .bool b, v, as, A, E, s, Q, _, hk, r, h => by
    cases r
    rw [eqIsQuiet_byValue n rfl]; exact wpAny_pure h
  | n, .int b, v, as, A, E, s, Q, _, hk, r, h => by
    cases r
    rw [eqIsQuiet_byValue n rfl]; exact wpAny_pure h
  | n, .str b, v, as, A, E, s, Q, _, hk, r, h => by
    cases r
    rw [eqIsQuiet_byValue n rfl]; exact wpAny_pure h
  | 0, .tuple xs, v, as, A, E, s, Q, hn, hk, r, h => by simp [PyData.depth] at hn
  | n + 1, .tuple xs, v, as, A, E, s, Q, hn, hk, r, h => by
    cases r with
    | tuple ho hc hd hi =>
      rename_i a o vs m
      have hT : s.TypeIs (.ref a) "tuple" := ⟨o, ho, hc⟩
      simp only [PyData.depth] at hn
      simp only [kOk] at hk
      unfold eqIsQuiet
      refine wpAny_bind (wpAny_specialOf hT F.slot_tuple_eq.lookup ?_)
      show wpAny _ _ (isInstance (.ref a) (.type "tuple") >>= _) _ _ s
      refine wpAny_bind (wpAny_isInstance hT isSubtype_tuple_tuple ?_)
      simp only [Bool.not_true, Bool.false_eq_true, if_false]
      refine wpAny_bind (wpAny_seqItems ho hd ?_)
      refine wpAny_bind ?_
      show wpAny _ _ (forIn vs _ _) _ _ s
      rw [← Array.forIn_toList]
      refine wpAny_forIn_list _ (fun rest r s' => r.1 = none ∧ s' = s ∧ ∃ left bs, ReadsAll s.heap rest left bs ∧ ∀ x ∈ left, x ∈ xs) _ ?_ ?_ _ _ ⟨rfl, rfl, xs, _, hi, fun _ h => h⟩
      · rintro v rest r s' ⟨hr, rfl, left, bs, hl, hsub⟩
        cases hl with
        | cons h1 hl' =>
          rename_i d1 ds1 as1 bs1
          have hm : d1 ∈ xs := hsub d1 List.mem_cons_self
          have hdm := depth_mem hm
          refine wpAny_bind (quiet_data n d1 v _ _ _ _ _ (by omega) (kOkAll_mem hk hm) h1 ?_)
          simp only [Bool.not_true, Bool.false_eq_true, if_false]
          exact wpAny_pure ⟨rfl, rfl, ds1, _, hl', fun x hx => hsub x (List.mem_cons_of_mem _ hx)⟩
      · rintro ⟨r1, r2⟩ s' ⟨hr, rfl, _⟩
        simp only at hr
        subst hr
        exact wpAny_pure h
  | _, .none, _, _, _, _, _, _, _, hk, _, _ => by cases hk
  | _, .list _, _, _, _, _, _, _, _, hk, _, _ => by cases hk
  | _, .dict _, _, _, _, _, _, _, _, hk, _, _ => by cases hk
theorem quiet_up : ∀ (n : Nat) (v : Value) (d : PyData) (as : List Addr) (A : Around) (E : Value → Shared → Prop) (s : Shared) (Q : Bool → Shared → Prop), n ≤ 8 → d.depth ≤ n → kOk d = true → Reads s.heap v d as → Q true s → wpAny (model prog w) A (eqIsQuiet 8 v) Q E s :=
  fun n v d as A E s Q h8 hd hk r h => quiet_data 8 d v as A E s Q (by omega) hk r h
noncomputable local instance pdEq : DecidableEq PyData := fun a b => Classical.propDecidable (a = b)
/-- data as keys: tuples, nested -/
noncomputable def dataKind : HeapKind prog w PyData where
  is := IsK
  hash := hashD w
  draws := drawD
  room := fun A => A.units + 48 < cLine
  inj := by
    rintro h a x y ⟨d, as, r, hk, _, rfl⟩ ⟨d', as', r', hk', _, rfl⟩
    rw [plain_unique d d' _ as as' (kOk_plain d hk) r r']
  keeps := by
    rintro h h' k a d o es ep ⟨x, as, r, hk, hdep, rfl⟩ ho hd hs
    exact ⟨x, as, reads_but ho hd hs x _ as hk r, hk, hdep, rfl⟩
  pyHash := by
    rintro A E s k a Q hu ⟨d, as, r, hk, hdep, rfl⟩ h
    refine hash_data 7 d _ as A E s Q hdep hk r (by omega) ?_
    rw [hash_norm, draw_norm] at h
    exact h
  eqBool := by
    rintro A E s x y a b Q hu ⟨d, as, r, hk, hdep, rfl⟩ ⟨d', as', r', hk', hdep', rfl⟩ h
    refine eqAt_plain d d' A s _ _ as as' r r' (kOk_plain d hk) (kOk_plain d' hk') (by omega) prog w E Q ?_
    have : PyData.eqv d d' = decide (norm d = norm d') := by
      rw [Bool.eq_iff_iff, decide_eq_true_iff]
      exact norm_eqv d d' hk hk'
    rw [this]
    exact h
  quiet := by
    rintro A E s k a Q ⟨d, as, r, hk, hdep, rfl⟩ h
    exact quiet_data 8 d _ as A E s Q (by omega) hk r h
end
end DK
end
section
set_option Elab.async false
set_option linter.all false
set_option maxRecDepth 100000
/-! The data layer, part a: data as values, what lives and what is frozen, states. -/
namespace DL
open PySem PySem.Spec PyProof.Rows L2

/-- what a slot holds: data, or an own object -/
inductive SV where
  | pure (d : PyData)
  | scr (ds : List PyData)
  | obj (i : Nat)
/-- an own object: it may be changed -/
inductive O where
  | lst (ds : List PyData)
  | dK (kvs : List (Key × PyData))
  /-- a dict whose keys are tuples (of ints, bools, texts, tuples) -/
  | dM (kvs : List (PyData × PyData))
  | dead
abbrev Sto := List O
structure S where
  env : List (Option SV)
  st : Sto
inductive Res (α : Type) where
  | ok (a : α)
  | exc (c : Str) (s : S)
  | stuck
namespace Res
variable {α β : Type}
def bind : Res α → (α → Res β) → Res β
  | .ok a, f => f a
  | .exc c s, _ => .exc c s
  | .stuck, _ => .stuck
@[simp] theorem bind_ok (a : α) (f : α → Res β) : (Res.ok a).bind f = f a := rfl
@[simp] theorem bind_exc (c : Str) (s : S) (f : α → Res β) : (Res.exc c s : Res α).bind f = .exc c s := rfl
@[simp] theorem bind_stuck (f : α → Res β) : (Res.stuck : Res α).bind f = .stuck := rfl
end Res

/-! ### data in the abstract heap -/
/-- a tuple that is read; av: addresses that it must not lie at -/
def TupAt (K : PySem.W.Frag) (av : List Addr) (H : Hp) (a : Addr) (xs : List V) : Prop :=
  (Rd H a (.tup xs) ∧ a ∉ av) ∨
    ∃ (o : Obj) (its : Array Value) (n : Nat), K.lookup a = some o ∧ o.cls = .type "tuple" ∧ o.data = .seq its n ∧ its.size ≤ sizeLine ∧ Vals xs its.toList
def LstAt (K : PySem.W.Frag) (av : List Addr) (H : Hp) (a : Addr) (xs : List V) : Prop := H a = some (.lst xs) ∧ a ∉ av
/-- a list that is read and never written (the script) -/
def ScrAt (K : PySem.W.Frag) (av : List Addr) (H : Hp) (a : Addr) (xs : List V) : Prop :=
  (Rd H a (.lst xs) ∧ a ∉ av) ∨
    ∃ (o : Obj) (its : Array Value) (n : Nat), K.lookup a = some o ∧ o.cls = .type "list" ∧ o.dict = none ∧ o.data = .seq its n ∧ its.size ≤ sizeLine ∧ Vals xs its.toList
theorem ScrAt.sq {K : PySem.W.Frag} {av : List Addr} {H : Hp} {a : Addr} {xs : List V} (h : ScrAt K av H a xs) : SqL K H a xs := by
  rcases h with h | h
  · exact .inl h.1
  · exact .inr h
theorem TupAt.sq {K : PySem.W.Frag} {av : List Addr} {H : Hp} {a : Addr} {xs : List V} (h : TupAt K av H a xs) : SqT K H a xs := by
  rcases h with h | h
  · exact .inl h.1
  · exact .inr h
theorem LstAt.sq {K : PySem.W.Frag} {av : List Addr} {H : Hp} {a : Addr} {xs : List V} (h : LstAt K av H a xs) : SqL K H a xs := .inl (.inl h.1)

mutual
/-- v is the datum, in H; its lists and tuples lie at none of av -/
def Rep (K : PySem.W.Frag) (av : List Addr) (H : Hp) : PyData → V → Prop
  | .none, v => v = .non
  | .bool b, v => v = .bl b
  | .int i, v => v = .int i
  | .str x, v => v = .str x
  | .list ds, v => ∃ a vs, v = .ref a ∧ LstAt K av H a vs ∧ RepA K av H ds vs
  | .tuple ds, v => ∃ a vs, v = .ref a ∧ TupAt K av H a vs ∧ RepA K av H ds vs
  | .dict _, _ => False
def RepA (K : PySem.W.Frag) (av : List Addr) (H : Hp) : List PyData → List V → Prop
  | [], vs => vs = []
  | d :: ds, vs => ∃ v r, vs = v :: r ∧ Rep K av H d v ∧ RepA K av H ds r
end

/-- a code object at c, its table at P -/
def CodeT (c P : Addr) : HO := .ext fun h => PySem.W.CodeHd h c P
/-- tracked tables: each code object that one of them tells is tracked, and so is its table -/
def Tr (S : Addr → Prop) (H : Hp) : Prop := ∀ P, S P → ∃ ps : Array Value, H P = some (.tbl ps) ∧ TriplesOk ps.toList ∧ ∀ (pos : Pos) (cv : Value), codeAmong pos ps.toList = some cv → ∃ c' P', cv = .ref c' ∧ H c' = some (CodeT c' P') ∧ S P'
def TabT (H : Hp) (P : Addr) : Prop := ∃ S : Addr → Prop, S P ∧ Tr S H
theorem TabT.kept {H H' : Hp} {P : Addr} (h : TabT H P) (ht : ∀ a ps, H a = some (.tbl ps) → H' a = some (.tbl ps)) (he : ∀ a c Q, H a = some (CodeT c Q) → H' a = some (CodeT c Q)) : TabT H' P := by
  obtain ⟨S, h1, h2⟩ := h
  refine ⟨S, h1, fun P hP => ?_⟩
  obtain ⟨ps, q1, q2, q3⟩ := h2 P hP
  refine ⟨ps, ht P ps q1, q2, fun pos cv e => ?_⟩
  obtain ⟨c', P', r1, r2, r3⟩ := q3 pos cv e
  exact ⟨c', P', r1, he _ _ _ r2, r3⟩
theorem TabT.g {H : Hp} {P : Addr} (h : TabT H P) : GxR.TabG H P := by
  obtain ⟨S, h1, h2⟩ := h
  obtain ⟨ps, q1, q2, _⟩ := h2 P h1
  exact ⟨ps, q1, q2⟩
theorem TabT.out {H : Hp} {P : Addr} {ps : Array Value} (h : TabT H P) (hP : H P = some (.tbl ps)) {pos : Pos} {cv : Value} (e : codeAmong pos ps.toList = some cv) : ∃ c' P', cv = .ref c' ∧ H c' = some (CodeT c' P') ∧ TabT H P' := by
  obtain ⟨S, h1, h2⟩ := h
  obtain ⟨qs, q1, q2, q3⟩ := h2 P h1
  rw [hP] at q1
  cases q1
  obtain ⟨c', P', r1, r2, r3⟩ := q3 pos cv e
  exact ⟨c', P', r1, r2, S, r3, h2⟩
/-- neither a table nor a thing of its own kind -/
def Mut (o : HO) : Prop := (∀ ps, o ≠ .tbl ps) ∧ ∀ c P, o ≠ CodeT c P
/-- what is left as it was: all that is tracked, but at W; tables may grow -/
structure Evo (W : List Addr) (H H' : Hp) : Prop where
  keep : ∀ a o, H a = some o → a ∉ W → (∀ ps, o ≠ .tbl ps) → H' a = some o
  ext : ∀ a c P, H a = some (CodeT c P) → H' a = some (CodeT c P)
  tbl : ∀ a ps, H a = some (.tbl ps) → ∃ more, H' a = some (.tbl (ps ++ more))
  tab : ∀ P, TabT H P → TabT H' P
section
variable {W W' W2 : List Addr} {H H1 H2 : Hp} {K : PySem.W.Frag} {av : List Addr}
theorem Evo.refl : Evo W H H := ⟨fun _ _ h _ _ => h, fun _ _ _ h => h, fun a ps h => ⟨#[], by rw [h]; simp⟩, fun _ h => h⟩
theorem Evo.mono (e : Evo W H H1) (h : ∀ a ∈ W, a ∈ W') : Evo W' H H1 := ⟨fun a o q n t => e.keep a o q (fun z => n (h a z)) t, e.ext, e.tbl, e.tab⟩
theorem Evo.wide (e : Evo [] H H1) : Evo W H H1 := e.mono fun _ h => by cases h
theorem Evo.there (e : Evo W H H1) {a : Addr} {o : HO} (h : H a = some o) (n : a ∉ W) : ∃ o', H1 a = some o' := by
  cases o with
  | tbl ps => obtain ⟨m, q⟩ := e.tbl a ps h; exact ⟨_, q⟩
  | _ => exact ⟨_, e.keep a _ h n (fun _ z => by cases z)⟩
theorem Evo.trans (a : Evo W H H1) (b : Evo W2 H1 H2) (h : ∀ x ∈ W2, x ∈ W ∨ H x = none) : Evo W H H2 :=
  ⟨fun x o q n t => b.keep x o (a.keep x o q n t) (fun z => (h x z).elim n fun y => by rw [q] at y; cases y) t,
   fun x c P q => b.ext x c P (a.ext x c P q),
   fun x ps q => by
    obtain ⟨m1, q1⟩ := a.tbl x ps q
    obtain ⟨m2, q2⟩ := b.tbl x _ q1
    exact ⟨m1 ++ m2, by rw [q2, Array.append_assoc]⟩,
   fun P t => b.tab P (a.tab P t)⟩
theorem Evo.trans' (a : Evo W H H1) (b : Evo W H1 H2) : Evo W H H2 := a.trans b fun _ h => .inl h
theorem Evo.free (e : Evo W H H1) {a : Addr} (h : H1 a = none) : a ∈ W ∨ H a = none := by
  by_cases n : a ∈ W
  · exact .inl n
  · cases q : H a with
    | none => exact .inr rfl
    | some o => obtain ⟨o', q'⟩ := e.there q n; rw [h] at q'; cases q'
/-- a new object -/
theorem Evo.new {p : Addr} {o : HO} (h : H p = none) : Evo W H (upd H p o) :=
  ⟨fun a u q _ _ => by rw [upd_ne (ne_of_none q h)]; exact q, fun a c P q => by rw [upd_ne (ne_of_none q h)]; exact q, fun a ps q => ⟨#[], by rw [upd_ne (ne_of_none q h), q]; simp⟩,
   fun P t => t.kept (fun a ps q => by rw [upd_ne (ne_of_none q h)]; exact q) fun a c P q => by rw [upd_ne (ne_of_none q h)]; exact q⟩
/-- an own object is changed -/
theorem Evo.at {p : Addr} {o o' : HO} (h : H p = some o') (ht : Mut o') (hp : p ∈ W) : Evo W H (upd H p o) :=
  have e1 : ∀ a c P, H a = some (CodeT c P) → upd H p o a = some (CodeT c P) := fun a c P q => by rw [upd_ne (fun z => by rw [z, h] at q; exact ht.2 c P (Option.some.inj q))]; exact q
  have e2 : ∀ a ps, H a = some (.tbl ps) → upd H p o a = some (.tbl ps) := fun a ps q => by rw [upd_ne (fun z => by rw [z, h] at q; exact ht.1 ps (Option.some.inj q))]; exact q
  ⟨fun a u q n _ => by rw [upd_ne (fun z => n (by rw [z]; exact hp))]; exact q, e1,
   fun a ps q => ⟨#[], by rw [e2 a ps q]; simp⟩,
   fun P t => t.kept e2 e1⟩
theorem Evo.rd (e : Evo W H H1) {a : Addr} {u : HO} (h : Rd H a u) (n : a ∉ W) (ht : ∀ ps, u ≠ .tbl ps) : Rd H1 a u := by
  rcases h with h | ⟨o, h⟩
  · exact .inl (e.keep a u h n ht)
  · exact .inr ⟨o, e.keep a _ h n (fun _ z => by cases z)⟩
theorem rd_ne {a : Addr} {u : HO} (h : Rd H a u) : H a ≠ none := by
  rcases h with h | ⟨o, h⟩ <;> rw [h] <;> simp
theorem TupAt.evo {a : Addr} {xs : List V} (h : TupAt K av H a xs) (e : Evo W H H1) (hw : ∀ x ∈ W, x ∈ av) : TupAt K av H1 a xs := by
  rcases h with ⟨h, n⟩ | h
  · exact .inl ⟨e.rd h (fun z => n (hw a z)) (fun _ z => by cases z), n⟩
  · exact .inr h
theorem ScrAt.evo {a : Addr} {xs : List V} (h : ScrAt K av H a xs) (e : Evo W H H1) (hw : ∀ x ∈ W, x ∈ av) : ScrAt K av H1 a xs := by
  rcases h with ⟨h, n⟩ | h
  · exact .inl ⟨e.rd h (fun z => n (hw a z)) (fun _ z => by cases z), n⟩
  · exact .inr h
theorem ScrAt.avoid {av' : List Addr} (hw : ∀ x ∈ av', x ∈ av ∨ H x = none) {a : Addr} {xs : List V} (l : ScrAt K av H a xs) : ScrAt K av' H a xs := by
  rcases l with l | l
  · exact .inl ⟨l.1, fun z => (hw a z).elim l.2 (rd_ne l.1)⟩
  · exact .inr l
theorem sql_evo0 {a : Addr} {xs : List V} (h : SqL K H a xs) (e : Evo [] H H1) : SqL K H1 a xs := by
  rcases h with h | h
  · exact .inl (e.rd h (by simp) (fun _ z => by cases z))
  · exact .inr h
theorem LstAt.evo {a : Addr} {xs : List V} (h : LstAt K av H a xs) (e : Evo W H H1) (hw : ∀ x ∈ W, x ∈ av) : LstAt K av H1 a xs :=
  ⟨e.keep a _ h.1 (fun z => h.2 (hw a z)) (fun _ z => by cases z), h.2⟩

mutual
theorem Rep.evo (e : Evo W H H1) (hw : ∀ x ∈ W, x ∈ av) : ∀ (d : PyData) (v : V), Rep K av H d v → Rep K av H1 d v
  | .none, _, h => h
  | .bool _, _, h => h
  | .int _, _, h => h
  | .str _, _, h => h
  | .list ds, v, h => by
    simp only [Rep] at h ⊢
    obtain ⟨a, vs, r, l, rs⟩ := h
    exact ⟨a, vs, r, l.evo e hw, RepA.evo e hw ds vs rs⟩
  | .tuple ds, v, h => by
    simp only [Rep] at h ⊢
    obtain ⟨a, vs, r, l, rs⟩ := h
    exact ⟨a, vs, r, l.evo e hw, RepA.evo e hw ds vs rs⟩
  | .dict _, _, h => h
theorem RepA.evo (e : Evo W H H1) (hw : ∀ x ∈ W, x ∈ av) : ∀ (ds : List PyData) (vs : List V), RepA K av H ds vs → RepA K av H1 ds vs
  | [], _, h => h
  | d :: ds, vs, h => by
    simp only [RepA] at h ⊢
    obtain ⟨v, r, z, h1, h2⟩ := h
    exact ⟨v, r, z, Rep.evo e hw d v h1, RepA.evo e hw ds r h2⟩
end
mutual
/-- other addresses to be avoided: fewer, or new ones -/
theorem Rep.avoid {av' : List Addr} (hw : ∀ x ∈ av', x ∈ av ∨ H x = none) : ∀ (d : PyData) (v : V), Rep K av H d v → Rep K av' H d v
  | .none, _, h => h
  | .bool _, _, h => h
  | .int _, _, h => h
  | .str _, _, h => h
  | .list ds, v, h => by
    simp only [Rep] at h ⊢
    obtain ⟨a, vs, r, l, rs⟩ := h
    exact ⟨a, vs, r, ⟨l.1, fun z => (hw a z).elim l.2 (rd_ne (.inl l.1))⟩, RepA.avoid hw ds vs rs⟩
  | .tuple ds, v, h => by
    simp only [Rep] at h ⊢
    obtain ⟨a, vs, r, l, rs⟩ := h
    refine ⟨a, vs, r, ?_, RepA.avoid hw ds vs rs⟩
    rcases l with l | l
    · exact .inl ⟨l.1, fun z => (hw a z).elim l.2 (rd_ne l.1)⟩
    · exact .inr l
  | .dict _, _, h => h
theorem RepA.avoid {av' : List Addr} (hw : ∀ x ∈ av', x ∈ av ∨ H x = none) : ∀ (ds : List PyData) (vs : List V), RepA K av H ds vs → RepA K av' H ds vs
  | [], _, h => h
  | d :: ds, vs, h => by
    simp only [RepA] at h ⊢
    obtain ⟨v, r, z, h1, h2⟩ := h
    exact ⟨v, r, z, Rep.avoid hw d v h1, RepA.avoid hw ds r h2⟩
end
theorem RepA.length : ∀ {ds : List PyData} {vs : List V}, RepA K av H ds vs → vs.length = ds.length
  | [], _, h => by simp only [RepA] at h; subst h; rfl
  | d :: ds, vs, h => by
    simp only [RepA] at h
    obtain ⟨v, r, z, _, h2⟩ := h
    subst z
    simp [RepA.length h2]
theorem RepA.get : ∀ {ds : List PyData} {vs : List V} {i : Nat} {d : PyData}, RepA K av H ds vs → ds[i]? = some d → ∃ v, vs[i]? = some v ∧ Rep K av H d v
  | [], _, _, _, _, e => by simp at e
  | d :: ds, vs, 0, x, h, e => by
    simp only [RepA] at h
    obtain ⟨v, r, z, h1, h2⟩ := h
    subst z
    simp only [List.getElem?_cons_zero, Option.some.injEq] at e
    subst e
    exact ⟨v, rfl, h1⟩
  | d :: ds, vs, i + 1, x, h, e => by
    simp only [RepA] at h
    obtain ⟨v, r, z, h1, h2⟩ := h
    subst z
    simpa using RepA.get (i := i) h2 (by simpa using e)
theorem RepA.nil : RepA K av H [] [] := by simp [RepA]
theorem RepA.cons {d : PyData} {ds : List PyData} {v : V} {vs : List V} (h : Rep K av H d v) (r : RepA K av H ds vs) : RepA K av H (d :: ds) (v :: vs) := by
  simp only [RepA]; exact ⟨v, vs, rfl, h, r⟩
theorem RepA.append : ∀ {ds es : List PyData} {vs ws : List V}, RepA K av H ds vs → RepA K av H es ws → RepA K av H (ds ++ es) (vs ++ ws)
  | [], _, _, _, h, r => by simp only [RepA] at h; subst h; exact r
  | d :: ds, es, vs, ws, h, r => by
    simp only [RepA] at h
    obtain ⟨v, q, z, h1, h2⟩ := h
    subst z
    exact .cons h1 (RepA.append h2 r)
theorem RepA.set : ∀ {ds : List PyData} {vs : List V} (i : Nat) {d : PyData} {v : V}, RepA K av H ds vs → Rep K av H d v → RepA K av H (ds.set i d) (vs.set i v)
  | [], _, _, _, _, h, _ => by simp only [RepA] at h; subst h; exact .nil
  | d :: ds, vs, 0, x, y, h, r => by
    simp only [RepA] at h
    obtain ⟨v, q, z, h1, h2⟩ := h
    subst z
    exact .cons r h2
  | d :: ds, vs, i + 1, x, y, h, r => by
    simp only [RepA] at h
    obtain ⟨v, q, z, h1, h2⟩ := h
    subst z
    exact .cons h1 (RepA.set i h2 r)
theorem RepA.take : ∀ {ds : List PyData} {vs : List V} (n : Nat), RepA K av H ds vs → RepA K av H (ds.take n) (vs.take n)
  | _, _, 0, _ => by simp [RepA]
  | [], _, _ + 1, h => by simp only [RepA] at h; subst h; exact .nil
  | d :: ds, vs, n + 1, h => by
    simp only [RepA] at h
    obtain ⟨v, q, z, h1, h2⟩ := h
    subst z
    exact .cons h1 (RepA.take n h2)
theorem RepA.drop : ∀ {ds : List PyData} {vs : List V} (n : Nat), RepA K av H ds vs → RepA K av H (ds.drop n) (vs.drop n)
  | _, _, 0, h => h
  | [], _, _ + 1, h => by simp only [RepA] at h; subst h; exact .nil
  | d :: ds, vs, n + 1, h => by
    simp only [RepA] at h
    obtain ⟨v, q, z, h1, h2⟩ := h
    subst z
    exact RepA.drop n h2
theorem RepA.reverse : ∀ {ds : List PyData} {vs : List V}, RepA K av H ds vs → RepA K av H ds.reverse vs.reverse
  | [], _, h => by simp only [RepA] at h; subst h; exact .nil
  | d :: ds, vs, h => by
    simp only [RepA] at h
    obtain ⟨v, q, z, h1, h2⟩ := h
    subst z
    rw [List.reverse_cons, List.reverse_cons]
    exact (RepA.reverse h2).append (.cons h1 .nil)
theorem RepA.dropLast {ds : List PyData} {vs : List V} (h : RepA K av H ds vs) : RepA K av H ds.dropLast vs.dropLast := by
  rw [List.dropLast_eq_take, List.dropLast_eq_take, h.length]; exact h.take _
theorem RepA.flat {ds : List PyData} {vs : List V} (h : RepA K av H ds vs) : ∀ k : Nat, RepA K av H (List.replicate k ds).flatten (List.replicate k vs).flatten
  | 0 => .nil
  | k + 1 => by
    rw [List.replicate_succ, List.replicate_succ, List.flatten_cons, List.flatten_cons]
    exact h.append (RepA.flat h k)
theorem RepA.split : ∀ {ds es : List PyData} {vs : List V}, RepA K av H (ds ++ es) vs → ∃ v1 v2, vs = v1 ++ v2 ∧ RepA K av H ds v1 ∧ RepA K av H es v2
  | [], _, vs, h => ⟨[], vs, rfl, .nil, h⟩
  | d :: ds, es, vs, h => by
    rw [List.cons_append] at h
    simp only [RepA] at h
    obtain ⟨v, r, z, h1, h2⟩ := h
    obtain ⟨v1, v2, e, q1, q2⟩ := RepA.split h2
    subst z e
    exact ⟨v :: v1, v2, rfl, .cons h1 q1, q2⟩

/-- data that may be an own list itself (its items are frozen) -/
def RepT (K : PySem.W.Frag) (av : List Addr) (H : Hp) (d : PyData) (v : V) : Prop :=
  Rep K av H d v ∨ ∃ a ds vs, d = .list ds ∧ v = .ref a ∧ SqL K H a vs ∧ RepA K av H ds vs
theorem Rep.t {d : PyData} {v : V} (h : Rep K av H d v) : RepT K av H d v := .inl h
def RepX (tr : Bool) (K : PySem.W.Frag) (av : List Addr) (H : Hp) (d : PyData) (v : V) : Prop := if tr = true then RepT K av H d v else Rep K av H d v
theorem RepX.t {tr : Bool} {d : PyData} {v : V} (h : RepX tr K av H d v) : RepT K av H d v := by
  cases tr with
  | true => exact h
  | false => exact Or.inl h
theorem RepT.evo0 {d : PyData} {v : V} (h : RepT K av H d v) (e : Evo [] H H1) : RepT K av H1 d v := by
  rcases h with h | ⟨a, ds, vs, z1, z2, q, r⟩
  · exact .inl (h.evo e (fun _ z => by cases z) d v)
  · exact .inr ⟨a, ds, vs, z1, z2, sql_evo0 q e, RepA.evo e (fun _ z => by cases z) ds vs r⟩
theorem RepX.evo {tr : Bool} {d : PyData} {v : V} (h : RepX tr K av H d v) (e : Evo W H H1) (hw : ∀ x ∈ W, x ∈ av) (ht : tr = true → W = []) : RepX tr K av H1 d v := by
  cases tr with
  | true => rw [ht rfl] at e; exact RepT.evo0 h e
  | false => exact Rep.evo e hw d v h
/-- a list, read -/
theorem RepT.list {ds : List PyData} {v : V} (h : RepT K av H (.list ds) v) : ∃ a vs, v = .ref a ∧ SqL K H a vs ∧ RepA K av H ds vs := by
  rcases h with h | ⟨a, ds', vs, z1, z2, q, r⟩
  · simp only [Rep] at h
    obtain ⟨a, vs, r, l, rs⟩ := h
    exact ⟨a, vs, r, l.sq, rs⟩
  · cases z1
    exact ⟨a, vs, z2, q, r⟩
theorem RepT.tuple {ds : List PyData} {v : V} (h : RepT K av H (.tuple ds) v) : ∃ a vs, v = .ref a ∧ TupAt K av H a vs ∧ RepA K av H ds vs := by
  rcases h with h | ⟨a, ds', vs, z1, _⟩
  · simpa only [Rep] using h
  · cases z1
theorem RepT.int {i : Int} {v : V} (h : RepT K av H (.int i) v) : v = .int i := by
  rcases h with h | ⟨a, ds', vs, z1, _⟩
  · simpa only [Rep] using h
  · cases z1
theorem RepT.bool {i : Bool} {v : V} (h : RepT K av H (.bool i) v) : v = .bl i := by
  rcases h with h | ⟨a, ds', vs, z1, _⟩
  · simpa only [Rep] using h
  · cases z1
theorem RepT.str {i : Str} {v : V} (h : RepT K av H (.str i) v) : v = .str i := by
  rcases h with h | ⟨a, ds', vs, z1, _⟩
  · simpa only [Rep] using h
  · cases z1
theorem RepT.none {v : V} (h : RepT K av H .none v) : v = .non := by
  rcases h with h | ⟨a, ds', vs, z1, _⟩
  · simpa only [Rep] using h
  · cases z1
theorem Rep.newTup {ds : List PyData} {vs : List V} {p : Addr} (h : RepA K av H ds vs) (hp : H p = Option.none) (hn : p ∉ av) : Rep K av (upd H p (.tup vs)) (.tuple ds) (.ref p) := by
  simp only [Rep]
  exact ⟨p, vs, rfl, .inl ⟨.inl upd_same, hn⟩, RepA.evo (W := []) (Evo.new hp) (fun _ z => by cases z) ds vs h⟩
theorem Rep.newLst {ds : List PyData} {vs : List V} {p : Addr} (h : RepA K av H ds vs) (hp : H p = Option.none) (hn : p ∉ av) : Rep K av (upd H p (.lst vs)) (.list ds) (.ref p) := by
  simp only [Rep]
  exact ⟨p, vs, rfl, ⟨upd_same, hn⟩, RepA.evo (W := []) (Evo.new hp) (fun _ z => by cases z) ds vs h⟩
end

/-! ### states -/
/-- facts of the text: the tables of the defs that have generator expressions, the classes of errors -/
structure Cfg where
  TT : List Addr
  CC : List (Addr × Addr)
  cls : Str → Value
  /-- what keys hash to -/
  hs : PyData → Int
def RepS (K : PySem.W.Frag) (av as : List Addr) (H : Hp) : SV → V → Prop
  | .pure d, v => Rep K av H d v
  | .scr ds, v => ∃ a vs, v = .ref a ∧ ScrAt K av H a vs ∧ RepA K av H ds vs
  | .obj i, v => ∃ a, as[i]? = some a ∧ v = .ref a
def KRep (K : PySem.W.Frag) (av : List Addr) (H : Hp) : List (Key × PyData) → List (Key × V) → Prop := Paired fun p q => p.1 = q.1 ∧ Rep K av H p.2 q.2
/-- a dict's object, by its entries -/
def DictAt (hs : PyData → Int) (a : Addr) (xs : List (PyData × Addr × V)) : Heap → Prop := fun h => (a == sysModules) = false ∧ (xs.map (·.1)).Nodup ∧
  ∃ ys : List (PyData × Addr × Value), Paired (fun (p : PyData × Addr × V) (q : PyData × Addr × Value) => p.1 = q.1 ∧ p.2.1 = q.2.1 ∧ RelV p.2.2 q.2.2) xs ys ∧
    ∃ o es ep, h.get? a = some o ∧ o.ExactDict ∧ o.data = .dict es ep ∧ es.toList = ys.map (fun x => (⟨hs x.1, .ref x.2.1, x.2.2⟩ : DictEntry))
def DictT (hs : PyData → Int) (a : Addr) (xs : List (PyData × Addr × V)) : HO := .ext (DictAt hs a xs)
def MRep (K : PySem.W.Frag) (av : List Addr) (H : Hp) : List (PyData × PyData) → List (PyData × Addr × V) → Prop := Paired fun p q => DK.norm p.1 = q.1 ∧ DK.kOk p.1 = true ∧ p.1.depth ≤ 7 ∧ Rep K av H p.1 (.ref q.2.1) ∧ Rep K av H p.2 q.2.2
def ORep (K : PySem.W.Frag) (hs : PyData → Int) (av : List Addr) (H : Hp) (a : Addr) : O → Prop
  | .lst ds => ∃ vs, H a = some (.lst vs) ∧ RepA K av H ds vs
  | .dK kvs => ∃ kvv, H a = some (.dK kvv) ∧ KRep K av H kvs kvv
  | .dM kvs => ∃ xs, H a = some (DictT hs a xs) ∧ Mut (DictT hs a xs) ∧ kvs.length ≤ sizeLine ∧ MRep K av H kvs xs
  | .dead => ∃ o, H a = some o ∧ Mut o
/-- the tables of the defs; the code objects that are known -/
structure TabsOk (c : Cfg) (H : Hp) : Prop where
  tab : ∀ P ∈ c.TT, TabT H P
  code : ∀ p ∈ c.CC, H p.1 = some (CodeT p.1 p.2) ∧ TabT H p.2
theorem TabsOk.evo {c : Cfg} {W : List Addr} {H H' : Hp} (t : TabsOk c H) (e : Evo W H H') : TabsOk c H' :=
  ⟨fun P h => e.tab P (t.tab P h), fun p h => ⟨e.ext _ _ _ (t.code p h).1, e.tab _ (t.code p h).2⟩⟩
/-- the state s is held: B: what lives outside, as: where the own objects stand -/
structure SR (K : PySem.W.Frag) (c : Cfg) (B as : List Addr) (H : Hp) (σ : L2.St) (s : S) : Prop where
  len : σ.length = s.env.length
  slot : ∀ (i : Nat) (sv : SV), s.env[i]? = some (some sv) → ∃ v, σ[i]? = some (some v) ∧ RepS K (B ++ as) as H sv v
  nd : as.Nodup
  aslen : as.length = s.st.length
  objs : ∀ (i : Nat) (o : O) (a : Addr), s.st[i]? = some o → as[i]? = some a → ORep K c.hs (B ++ as) H a o
  out : ∀ a ∈ B, H a ≠ none
  tabs : TabsOk c H
section
variable {K : PySem.W.Frag} {c : Cfg} {B as W : List Addr} {H H1 : Hp} {σ : L2.St} {s : S}
theorem KRep.evo {av : List Addr} (e : Evo W H H1) (hw : ∀ x ∈ W, x ∈ av) {kvs : List (Key × PyData)} {kvv : List (Key × V)} (h : KRep K av H kvs kvv) : KRep K av H1 kvs kvv :=
  Paired.mapP h fun _ _ r => ⟨r.1, r.2.evo e hw⟩
theorem ORep.there {hs : PyData → Int} {av : List Addr} {a : Addr} {o : O} (h : ORep K hs av H a o) : ∃ u, H a = some u ∧ Mut u := by
  cases o with
  | lst ds => obtain ⟨vs, q, _⟩ := h; exact ⟨_, q, ⟨(fun _ z => by cases z), (fun _ _ z => by cases z)⟩⟩
  | dK ds => obtain ⟨vs, q, _⟩ := h; exact ⟨_, q, ⟨(fun _ z => by cases z), (fun _ _ z => by cases z)⟩⟩
  | dM ds => obtain ⟨xs, q, m, _⟩ := h; exact ⟨_, q, m⟩
  | dead => exact h
theorem MRep.evo {av : List Addr} (e : Evo W H H1) (hw : ∀ x ∈ W, x ∈ av) {kvs : List (PyData × PyData)} {xs : List (PyData × Addr × V)} (h : MRep K av H kvs xs) : MRep K av H1 kvs xs :=
  Paired.mapP h fun _ _ r => ⟨r.1, r.2.1, r.2.2.1, r.2.2.2.1.evo e hw, r.2.2.2.2.evo e hw⟩
theorem ORep.evo0 {hs : PyData → Int} {av : List Addr} {a : Addr} {o : O} (h : ORep K hs av H a o) (e : Evo W H H1) (hw : ∀ x ∈ W, x ∈ av) (hn : a ∉ W) : ORep K hs av H1 a o := by
  cases o with
  | lst ds => obtain ⟨vs, q, r⟩ := h; exact ⟨vs, e.keep a _ q hn (fun _ z => by cases z), RepA.evo e hw ds vs r⟩
  | dK ds => obtain ⟨vs, q, r⟩ := h; exact ⟨vs, e.keep a _ q hn (fun _ z => by cases z), r.evo e hw⟩
  | dM ds => obtain ⟨vs, q, m, l, r⟩ := h; exact ⟨vs, e.keep a _ q hn m.1, m, l, r.evo e hw⟩
  | dead => obtain ⟨u, q, t⟩ := h; exact ⟨u, e.keep a _ q hn t.1, t⟩
theorem SR.there (r : SR K c B as H σ s) {a : Addr} (h : a ∈ as) : ∃ u, H a = some u ∧ Mut u := by
  obtain ⟨i, hi, e⟩ := List.getElem_of_mem h
  have h1 : i < s.st.length := by rw [← r.aslen]; exact hi
  exact (r.objs i s.st[i] a (List.getElem?_eq_getElem h1) (by rw [List.getElem?_eq_getElem hi, e])).there
theorem SR.notnew (r : SR K c B as H σ s) {p : Addr} (h : H p = none) : p ∉ B ++ as := fun z => by
  rcases List.mem_append.mp z with z | z
  · exact r.out p z h
  · obtain ⟨u, q, _⟩ := r.there z
    rw [h] at q; cases q
/-- nothing of ours changes -/
theorem SR.evo (r : SR K c B as H σ s) (e : Evo [] H H1) : SR K c B as H1 σ s where
  len := r.len
  slot := fun i sv q => by
    obtain ⟨v, q1, q2⟩ := r.slot i sv q
    refine ⟨v, q1, ?_⟩
    cases sv with
    | pure d => exact Rep.evo e (fun _ z => by cases z) d v q2
    | scr ds =>
      obtain ⟨a, vs, z1, z2, z3⟩ := q2
      exact ⟨a, vs, z1, z2.evo e (fun _ z => by cases z), RepA.evo e (fun _ z => by cases z) ds vs z3⟩
    | obj j => exact q2
  nd := r.nd
  aslen := r.aslen
  objs := fun i o a q1 q2 => (r.objs i o a q1 q2).evo0 e (fun _ z => by cases z) (by simp)
  out := fun a h z => by
    cases q : H a with
    | none => exact r.out a h q
    | some o => obtain ⟨o', q'⟩ := e.there q (by simp); rw [z] at q'; cases q'
  tabs := r.tabs.evo e
end
end DL
end
section
set_option Elab.async false
set_option linter.all false
set_option maxRecDepth 100000
/-! The data layer, part b: judgements of expressions; operators, comparisons. -/
namespace DL
open PySem PySem.Spec PyProof.Rows L2

/-- what an evaluation without effect on own objects leaves alone -/
def wq (q : Bool) (as : List Addr) : List Addr := if q = true then [] else as
theorem wq_sub {q : Bool} {as : List Addr} {B : List Addr} : ∀ x ∈ wq q as, x ∈ B ++ as := fun x h => by
  unfold wq at h
  split at h
  · cases h
  · exact List.mem_append_right _ h
theorem wq_as {q : Bool} {as : List Addr} : ∀ x ∈ wq q as, x ∈ as := fun x h => by
  unfold wq at h
  split at h
  · cases h
  · exact h
theorem wq_and1 {q r : Bool} {as : List Addr} : ∀ x ∈ wq q as, x ∈ wq (q && r) as := fun x h => by
  cases q with
  | true => cases h
  | false => exact h
theorem wq_and2 {q r : Bool} {as : List Addr} : ∀ x ∈ wq r as, x ∈ wq (q && r) as := fun x h => by
  cases r with
  | true => cases h
  | false => rw [Bool.and_false]; exact h

abbrev RE := Res (PyData × Sto)
abbrev EvD := S → RE
abbrev RT := Res (Bool × Sto)
abbrev EvT := S → RT
abbrev RA := Res (List SV × Sto)
abbrev EvA := S → RA
/-- what the end of an evaluation hands on; R: how the result is held -/
def WantsG {α β : Type} (X : Cx) (c : Cfg) (W : WX) (R : List Addr → List Addr → Hp → α → β → Prop) (B as : List Addr) (σ : L2.St) (H : Hp) (env : List (Option SV)) (q : Bool) (Q : β → Hp → Prop) : Res (α × Sto) → Prop
  | .ok p => ∀ v H', Evo (wq q as) H H' → SR X.K c B as H' σ ⟨env, p.2⟩ → R B as H' p.1 v → Q v H'
  | .exc cl s' => ∀ H', Evo as H H' → SR X.K c B as H' σ ⟨env, s'.st⟩ → W (c.cls cl) none σ H'
  | .stuck => False
abbrev RepE (K : PySem.W.Frag) (tr : Bool) : List Addr → List Addr → Hp → PyData → V → Prop := fun B as H d v => RepX tr K (B ++ as) H d v
abbrev RepB : List Addr → List Addr → Hp → Bool → Bool → Prop := fun _ _ _ a b => b = a
def RepSA (K : PySem.W.Frag) (av as : List Addr) (H : Hp) : List SV → List V → Prop
  | [], vs => vs = []
  | d :: ds, vs => ∃ v r, vs = v :: r ∧ RepS K av as H d v ∧ RepSA K av as H ds r
abbrev RepAE (K : PySem.W.Frag) : List Addr → List Addr → Hp → List SV → List V → Prop := fun B as H ds vs => RepSA K (B ++ as) as H ds vs
/-- the expression e evaluates as f says -/
def DE (X : Cx) (c : Cfg) (W : WX) (e : Expr) (tr q : Bool) (f : EvD) : Prop :=
  ∃ t, PE X e t ∧ ∀ (B as : List Addr) (σ : L2.St) (H : Hp) (s : S) (Q : VK), SR X.K c B as H σ s → WantsG X c W (RepE X.K tr) B as σ H s.env q Q (f s) → t σ H Q
/-- tests -/
def DT (X : Cx) (c : Cfg) (W : WX) (e : Expr) (f : EvT) : Prop :=
  ∃ t, PT X e t ∧ ∀ (B as : List Addr) (σ : L2.St) (H : Hp) (s : S) (Q : Bool → Hp → Prop), SR X.K c B as H σ s → WantsG X c W RepB B as σ H s.env false Q (f s) → t σ H Q
def DW (X : Cx) (c : Cfg) (W : WX) (e : Expr) (f : EvT) : Prop :=
  ∃ t, PW X e t ∧ ∀ (B as : List Addr) (σ : L2.St) (H : Hp) (s : S) (Q : Bool → Hp → Prop), SR X.K c B as H σ s → WantsG X c W RepB B as σ H s.env false Q (f s) → t σ H Q
/-- arguments -/
def DA (X : Cx) (c : Cfg) (W : WX) (es : List Expr) (q : Bool) (f : EvA) : Prop :=
  ∃ t, PA X es t ∧ ∀ (B as : List Addr) (σ : L2.St) (H : Hp) (s : S) (Q : List V → Hp → Prop), SR X.K c B as H σ s → WantsG X c W (RepAE X.K) B as σ H s.env q Q (f s) → t σ H Q
section
variable {X : Cx} {c : Cfg} {W : WX} {B as : List Addr} {σ : L2.St} {H H1 : Hp} {env : List (Option SV)} {s : S}
section
variable {α β γ δ : Type} {R : List Addr → List Addr → Hp → α → β → Prop} {R2 : List Addr → List Addr → Hp → γ → δ → Prop}
theorem WantsG.step {qa qb : Bool} {Q : β → Hp → Prop} {r : Res (α × Sto)} (h : WantsG X c W R B as σ H env (qa && qb) Q r) (e : Evo (wq qa as) H H1) : WantsG X c W R B as σ H1 env qb Q r := by
  cases r with
  | ok p => exact fun v H' e' sr rp => h v H' ((e.mono wq_and1).trans' (e'.mono wq_and2)) sr rp
  | exc cl s' => exact fun H' e' sr => h H' ((e.mono wq_as).trans' e') sr
  | stuck => exact h
theorem WantsG.bind {f : S → Res (α × Sto)} {k : α × Sto → Res (γ × Sto)} {ta : L2.St → Hp → (β → Hp → Prop) → Prop} {qa qb : Bool} {Q : δ → Hp → Prop} {Q1 : β → Hp → Prop} (hw : WantsG X c W R2 B as σ H s.env (qa && qb) Q ((f s).bind k)) (sr : SR X.K c B as H σ s)
    (ra : ∀ (B as : List Addr) (σ : L2.St) (H : Hp) (s : S) (Q : β → Hp → Prop), SR X.K c B as H σ s → WantsG X c W R B as σ H s.env qa Q (f s) → ta σ H Q)
    (h : ∀ v H1 d st1, f s = .ok (d, st1) → Evo (wq qa as) H H1 → SR X.K c B as H1 σ ⟨s.env, st1⟩ → R B as H1 d v → WantsG X c W R2 B as σ H1 s.env qb Q (k (d, st1)) → Q1 v H1) : ta σ H Q1 := by
  refine ra B as σ H s Q1 sr ?_
  cases e : f s with
  | stuck => rw [e] at hw; exact hw
  | exc cl s' => rw [e] at hw; exact hw
  | ok p =>
    obtain ⟨d, st1⟩ := p
    rw [e] at hw
    exact fun v H1 ev sr1 rp => h v H1 d st1 e ev sr1 rp (hw.step ev)
/-- the end of an evaluation that only makes new things -/
theorem WantsG.fin {q : Bool} {Q : β → Hp → Prop} {d : α} {st : Sto} (hw : WantsG X c W R B as σ H env q Q (.ok (d, st))) (sr : SR X.K c B as H σ ⟨env, st⟩) {v : β} {H' : Hp} (e : Evo [] H H') (r : R B as H' d v) : Q v H' :=
  hw v H' e.wide (sr.evo e) r
/-- effects may be forgotten -/
theorem WantsG.loud {q : Bool} {Q : β → Hp → Prop} {r : Res (α × Sto)} (hw : WantsG X c W R B as σ H env false Q r) : WantsG X c W R B as σ H env q Q r := by
  cases r with
  | ok p => exact fun v H' e sr rp => hw v H' (e.mono wq_as) sr rp
  | exc cl s' => exact hw
  | stuck => exact hw
def ofOpt {α : Type} (o : Option α) (st : Sto) : Res (α × Sto) := match o with
  | some d => .ok (d, st)
  | none => .stuck
@[simp] theorem ofOpt_some (d : α) (st : Sto) : ofOpt (some d) st = .ok (d, st) := rfl
theorem WantsG.opt {q : Bool} {Q : β → Hp → Prop} {o : Option α} {st : Sto} (hw : WantsG X c W R B as σ H env q Q (ofOpt o st)) : ∃ d, o = some d ∧ WantsG X c W R B as σ H env q Q (.ok (d, st)) := by
  cases o with
  | none => exact hw.elim
  | some d => exact ⟨d, rfl, hw⟩
end

/-! ### names, constants -/
def slotE (i : Nat) : EvD := fun s => match s.env[i]? with
  | some (some (.pure d)) => .ok (d, s.st)
  | _ => .stuck
theorem de_var {i : Nat} {x : Str} {pos : Pos} (hN : X.N[i]? = some x) (hv : Vis X.env.scope x) (hd : (x == ("__debug__" : Str)) = false) (hcd : (x == ("__classdict__" : Str)) = false) : DE X c W (.Name x pos) false true (slotE i) := by
  refine ⟨_, pe_var hN hv hd hcd, fun B as σ H s Q sr hw => ?_⟩
  unfold slotE at hw
  split at hw
  · rename_i d e
    obtain ⟨v, q1, q2⟩ := sr.slot i _ e
    exact ⟨v, q1, hw v H Evo.refl sr q2⟩
  · exact hw.elim
/-- an own list (or the script) read where it stands -/
def curE (i : Nat) : EvD := fun s => match s.env[i]? with
  | some (some (.obj j)) => (match s.st[j]? with
    | some (.lst ds) => .ok (.list ds, s.st)
    | _ => .stuck)
  | some (some (.scr ds)) => .ok (.list ds, s.st)
  | _ => .stuck
theorem de_cur {i : Nat} {x : Str} {pos : Pos} (hN : X.N[i]? = some x) (hv : Vis X.env.scope x) (hd : (x == ("__debug__" : Str)) = false) (hcd : (x == ("__classdict__" : Str)) = false) : DE X c W (.Name x pos) true true (curE i) := by
  refine ⟨_, pe_var hN hv hd hcd, fun B as σ H s Q sr hw => ?_⟩
  unfold curE at hw
  split at hw
  · rename_i j e
    split at hw
    · rename_i ds e2
      obtain ⟨v, q1, a, q2, rfl⟩ := sr.slot i _ e
      obtain ⟨vs, q3, q4⟩ := sr.objs j _ a e2 q2
      exact ⟨_, q1, hw _ H Evo.refl sr (.inr ⟨a, ds, vs, rfl, rfl, .of q3, q4⟩)⟩
    · exact hw.elim
  · rename_i ds e
    obtain ⟨v, q1, a, vs, rfl, q2, q3⟩ := sr.slot i _ e
    exact ⟨_, q1, hw _ H Evo.refl sr (.inr ⟨a, ds, vs, rfl, rfl, q2.sq, q3⟩)⟩
  · exact hw.elim
def constE (d : PyData) : EvD := fun s => .ok (d, s.st)
theorem de_int {i : Int} {j pos} : DE X c W (.Constant (.int i) j pos) false true (constE (.int i)) :=
  ⟨_, pe_int, fun B as σ H s Q sr hw => hw _ H Evo.refl sr (by simp [RepE, RepX, Rep])⟩
theorem de_bool {b : Bool} {j pos} : DE X c W (.Constant (.bool b) j pos) false true (constE (.bool b)) :=
  ⟨_, pe_bl, fun B as σ H s Q sr hw => hw _ H Evo.refl sr (by simp [RepE, RepX, Rep])⟩
theorem de_none {j pos} : DE X c W (.Constant .none j pos) false true (constE .none) :=
  ⟨_, pe_non, fun B as σ H s Q sr hw => hw _ H Evo.refl sr (by simp [RepE, RepX, Rep])⟩
theorem de_str {x : Str} {j pos} : DE X c W (.Constant (.str x) j pos) false true (constE (.str x)) :=
  ⟨_, pe_str, fun B as σ H s Q sr hw => hw _ H Evo.refl sr (by simp [RepE, RepX, Rep])⟩
/-- a module's constant -/
theorem de_glob {x : Str} {v : V} {u : Value} {d : PyData} {pos : Pos} (hg : Gl X x) (hm : X.mg x = some u) (r : RelV v u) (hr : ∀ av H, Rep X.K av H d v) (hd : (x == ("__debug__" : Str)) = false) : DE X c W (.Name x pos) false true (constE d) :=
  ⟨_, pe_glob hg hm r hd, fun B as σ H s Q sr hw => hw _ H Evo.refl sr (hr _ _)⟩

/-! ### operators -/
/-- by values: frozen operands -/
def OpD (X : Cx) (f : Value → Value → Sem Value) (g : PyData → PyData → Option PyData) : Prop :=
  ∃ r : R2, OpR X f r ∧ ∀ (H : Hp) (x y : V) (dx dy d : PyData) (av : List Addr) (Q : VK), (∀ p, H p = none → p ∉ av) → Rep X.K av H dx x → Rep X.K av H dy y → g dx dy = some d →
    (∀ z H', Evo [] H H' → Rep X.K av H' d z → Q z H') → r x y H Q
/-- operands that may be own lists -/
def OpDT (X : Cx) (f : Value → Value → Sem Value) (g : PyData → PyData → Option PyData) : Prop :=
  ∃ r : R2, OpR X f r ∧ ∀ (H : Hp) (x y : V) (dx dy d : PyData) (av : List Addr) (Q : VK), (∀ p, H p = none → p ∉ av) → RepT X.K av H dx x → RepT X.K av H dy y → g dx dy = some d →
    (∀ z H', Evo [] H H' → Rep X.K av H' d z → Q z H') → r x y H Q
def bin2 (g : PyData → PyData → Option PyData) (fa fb : EvD) : EvD := fun s => (fa s).bind fun p => (fb ⟨s.env, p.2⟩).bind fun q => ofOpt (g p.1 q.1) q.2
variable {a b : Expr} {pos : Pos} {fa fb : EvD} {g : PyData → PyData → Option PyData} {qa qb : Bool}
theorem de_bin {op : Operator} (h : OpD X (binaryOp op) g) (ha : DE X c W a false qa fa) (hb : DE X c W b false qb fb) : DE X c W (.BinOp a op b pos) false (qa && qb) (bin2 g fa fb) := by
  obtain ⟨r, hr, gr⟩ := h
  obtain ⟨ta, pa, ra⟩ := ha
  obtain ⟨tb, pb, rb⟩ := hb
  refine ⟨tOp r ta tb, pe_op hr pa pb, fun B as σ H s Q sr hw => ?_⟩
  show ta σ H _
  refine WantsG.bind (s := s) hw sr ra fun x H1 da st1 e1 ev1 sr1 r1 hw1 => ?_
  show tb σ H1 _
  rw [← Bool.and_true qb] at hw1
  refine WantsG.bind (s := ⟨s.env, st1⟩) hw1 sr1 rb fun y H2 db st2 e2 ev2 sr2 r2 hw2 => ?_
  obtain ⟨d, ed, hw3⟩ := hw2.opt
  exact gr H2 x y da db d _ Q (fun p hp => sr2.notnew hp) (Rep.evo ev2 wq_sub _ _ r1) r2 ed fun z H3 ev3 rz => hw3.fin sr2 ev3 rz
theorem de_cmp {op : CmpOp} {tra trb : Bool} (h : OpDT X (compareOp op) g) (hm : behindInMarks op b = false) (ha : DE X c W a tra qa fa) (hb : DE X c W b trb qb fb) (hq : tra = true → qb = true) : DE X c W (.Compare a [op] [b] pos) false (qa && qb) (bin2 g fa fb) := by
  obtain ⟨r, hr, gr⟩ := h
  obtain ⟨ta, pa, ra⟩ := ha
  obtain ⟨tb, pb, rb⟩ := hb
  refine ⟨tOp r ta tb, pe_cmpR hr pa pb hm, fun B as σ H s Q sr hw => ?_⟩
  show ta σ H _
  refine WantsG.bind (s := s) hw sr ra fun x H1 da st1 e1 ev1 sr1 r1 hw1 => ?_
  show tb σ H1 _
  rw [← Bool.and_true qb] at hw1
  refine WantsG.bind (s := ⟨s.env, st1⟩) hw1 sr1 rb fun y H2 db st2 e2 ev2 sr2 r2 hw2 => ?_
  obtain ⟨d, ed, hw3⟩ := hw2.opt
  exact gr H2 x y da db d _ Q (fun p hp => sr2.notnew hp) (RepX.t (r1.evo ev2 wq_sub fun z => by rw [hq z]; rfl)) r2.t ed fun z H3 ev3 rz => hw3.fin sr2 ev3 rz
/-- x op y op' z -/
def chain2 (g g' : PyData → PyData → Option PyData) (fa fb fc : EvD) : EvD := fun s => (fa s).bind fun p => (fb ⟨s.env, p.2⟩).bind fun q => match g p.1 q.1 with
  | some (.bool true) => (fc ⟨s.env, q.2⟩).bind fun r => ofOpt (g' q.1 r.1) r.2
  | some (.bool false) => .ok (.bool false, q.2)
  | _ => .stuck
theorem de_chain {op op' : CmpOp} {e : Expr} {fc : EvD} {g' : PyData → PyData → Option PyData} (h : OpDT X (compareOp op) g) (h' : OpDT X (compareOp op') g') (hm : lastMarks [op, op'] [b, e] = false)
    (ha : DE X c W a false qa fa) (hb : DE X c W b false qb fb) (hc : DE X c W e false true fc) : DE X c W (.Compare a [op, op'] [b, e] pos) false (qa && qb) (chain2 g g' fa fb fc) := by
  obtain ⟨r, hr, gr⟩ := h
  obtain ⟨r', hr', gr'⟩ := h'
  obtain ⟨ta, pa, ra⟩ := ha
  obtain ⟨tb, pb, rb⟩ := hb
  obtain ⟨tc, pc, rc⟩ := hc
  refine ⟨tChain r r' ta tb tc, pe_chain hr hr' pa pb pc hm, fun B as σ H s Q sr hw => ?_⟩
  show ta σ H _
  refine WantsG.bind (s := s) hw sr ra fun x H1 da st1 e1 ev1 sr1 r1 hw1 => ?_
  show tb σ H1 _
  rw [← Bool.and_true qb] at hw1
  refine WantsG.bind (s := ⟨s.env, st1⟩) hw1 sr1 rb fun y H2 db st2 e2 ev2 sr2 r2 hw2 => ?_
  simp only at hw2
  split at hw2
  · rename_i ed
    refine gr H2 x y da db _ _ _ (fun p hp => sr2.notnew hp) (RepX.t (r1.evo ev2 wq_sub fun z => by cases z)) r2.t ed fun z H3 ev3 rz => ?_
    simp only [Rep] at rz
    refine ⟨true, rz, ?_⟩
    rw [if_pos rfl]
    have hw3 := WantsG.step (qa := true) (qb := true) hw2 ev3
    rw [← Bool.and_true true] at hw3
    show tc σ H3 _
    refine WantsG.bind (s := ⟨s.env, st2⟩) hw3 (sr2.evo ev3) rc fun u H4 du st4 e4 ev4 sr4 r4 hw4 => ?_
    obtain ⟨d, ed', hw5⟩ := hw4.opt
    exact gr' H4 y u db du d _ Q (fun p hp => sr4.notnew hp) (Rep.t (Rep.evo ev4 wq_sub _ _ (Rep.evo ev3 (fun _ z => by cases z) _ _ r2))) r4.t ed' fun z' H5 ev5 rz' => hw5.fin sr4 ev5 rz'
  · rename_i ed
    refine gr H2 x y da db _ _ _ (fun p hp => sr2.notnew hp) (RepX.t (r1.evo ev2 wq_sub fun z => by cases z)) r2.t ed fun z H3 ev3 rz => ?_
    simp only [Rep] at rz
    refine ⟨false, rz, ?_⟩
    rw [if_neg Bool.false_ne_true]
    exact hw2.fin sr2 ev3 (by simp [RepE, RepX, Rep])
  · exact hw2.elim
end
end DL
end
section
set_option Elab.async false
set_option linter.all false
set_option maxRecDepth 100000
/-! The data layer, part c: operators and comparisons by values. -/
namespace DL
open PySem PySem.Spec PyProof.Rows L2 PySem.SeqAt PySem.W
section
variable {K : PySem.W.Frag} {av : List Addr} {H : Hp}
mutual
theorem Rep.plain : ∀ (d : PyData) (v : V), Rep K av H d v → d.plain = true
  | .none, _, _ => rfl
  | .bool _, _, _ => rfl
  | .int _, _, _ => rfl
  | .str _, _, _ => rfl
  | .list ds, v, h => by
    simp only [Rep] at h
    obtain ⟨a, vs, r, l, rs⟩ := h
    simpa [PyData.plain] using RepA.plain ds vs rs
  | .tuple ds, v, h => by
    simp only [Rep] at h
    obtain ⟨a, vs, r, l, rs⟩ := h
    simpa [PyData.plain] using RepA.plain ds vs rs
  | .dict _, _, h => by simp [Rep] at h
theorem RepA.plain : ∀ (ds : List PyData) (vs : List V), RepA K av H ds vs → PyData.plainAll ds = true
  | [], _, _ => rfl
  | d :: ds, vs, h => by
    simp only [RepA] at h
    obtain ⟨v, r, z, h1, h2⟩ := h
    simp [PyData.plainAll, Rep.plain d v h1, RepA.plain ds r h2]
end
theorem RepT.plain {d : PyData} {v : V} (h : RepT K av H d v) : d.plain = true := by
  rcases h with h | ⟨a, ds, vs, rfl, _, _, r⟩
  · exact Rep.plain d v h
  · simpa [PyData.plain] using RepA.plain ds vs r
end
section
variable {X : Cx} {pins : List (Addr × Obj)} {σ : L2.St} {H : Hp} {s : Shared} {av : List Addr}
mutual
theorem Rep.reads (I : Inv X pins σ H s) : ∀ (d : PyData) (v : V) (u : Value), Rep X.K av H d v → RelV v u → ∃ as, Reads s.heap u d as
  | .none, _, _, h, r => by
    simp only [Rep] at h; subst h; cases r; exact ⟨_, Reads.none⟩
  | .bool b, _, _, h, r => by
    simp only [Rep] at h; subst h; cases r; exact ⟨_, Reads.bool b⟩
  | .int i, _, _, h, r => by
    simp only [Rep] at h; subst h; obtain ⟨t, rfl⟩ := r; exact ⟨_, Reads.int i t⟩
  | .str x, _, _, h, r => by
    simp only [Rep] at h; subst h; obtain ⟨t, rfl⟩ := r; exact ⟨_, Reads.str x t⟩
  | .list ds, v, u, h, r => by
    simp only [Rep] at h
    obtain ⟨a, vs, rfl, l, rs⟩ := h
    cases r
    obtain ⟨its, rv, ⟨o, n, ho, hc, _, hd⟩, _⟩ := I.list l.sq
    obtain ⟨as, hr⟩ := RepA.reads I ds vs its rs rv
    exact ⟨_, Reads.list ho hc hd hr⟩
  | .tuple ds, v, u, h, r => by
    simp only [Rep] at h
    obtain ⟨a, vs, rfl, l, rs⟩ := h
    cases r
    obtain ⟨its, rv, ⟨o, ho, hc, n, hd⟩, _⟩ := I.tuple l.sq
    obtain ⟨as, hr⟩ := RepA.reads I ds vs its rs rv
    exact ⟨_, Reads.tuple ho hc hd hr⟩
  | .dict _, _, _, h, _ => by simp [Rep] at h
theorem RepA.reads (I : Inv X pins σ H s) : ∀ (ds : List PyData) (vs : List V) (us : List Value), RepA X.K av H ds vs → Vals vs us → ∃ as, ReadsAll s.heap us ds as
  | [], _, _, h, r => by
    simp only [RepA] at h; subst h; cases r; exact ⟨_, ReadsAll.nil⟩
  | d :: ds, vs, us, h, r => by
    simp only [RepA] at h
    obtain ⟨v, q, rfl, h1, h2⟩ := h
    cases r with
    | cons r1 r2 =>
      obtain ⟨as, q1⟩ := Rep.reads I d v _ h1 r1
      obtain ⟨bs, q2⟩ := RepA.reads I ds q _ h2 r2
      exact ⟨_, ReadsAll.cons q1 q2⟩
end
theorem RepT.reads (I : Inv X pins σ H s) {d : PyData} {v : V} {u : Value} (h : RepT X.K av H d v) (r : RelV v u) : ∃ as, Reads s.heap u d as := by
  rcases h with h | ⟨a, ds, vs, rfl, rfl, q, rs⟩
  · exact Rep.reads I d v u h r
  · cases r
    obtain ⟨its, rv, ⟨o, n, ho, hc, _, hd⟩, _⟩ := I.list q
    obtain ⟨as, hr⟩ := RepA.reads I ds vs its rs rv
    exact ⟨_, Reads.list ho hc hd hr⟩
end

/-! ### arithmetic -/
def addD : PyData → PyData → Option PyData
  | .int a, .int b => some (.int (a + b))
  | .str a, .str b => if a.length + b.length ≤ 16777216 then some (.str (a ++ b)) else none
  | .list a, .list b => if a.length + b.length ≤ 16777216 then some (.list (a ++ b)) else none
  | .tuple a, .tuple b => if a.length + b.length ≤ 16777216 then some (.tuple (a ++ b)) else none
  | _, _ => none
def subD : PyData → PyData → Option PyData
  | .int a, .int b => some (.int (a - b))
  | _, _ => none
noncomputable def mulD : PyData → PyData → Option PyData
  | .int a, .int b => haveI := Classical.propDecidable ((-(2 ^ 64) < a ∧ a < 2 ^ 64) ∨ (-(2 ^ 64) < b ∧ b < 2 ^ 64)); if (-(2 ^ 64) < a ∧ a < 2 ^ 64) ∨ (-(2 ^ 64) < b ∧ b < 2 ^ 64) then some (.int (a * b)) else none
  | .list a, .int k => haveI := Classical.propDecidable (-(2 ^ 63) ≤ k ∧ k < 2 ^ 63 ∧ a.length * k.toNat ≤ 16777216); if -(2 ^ 63) ≤ k ∧ k < 2 ^ 63 ∧ a.length * k.toNat ≤ 16777216 then some (.list (List.replicate k.toNat a).flatten) else none
  | .tuple a, .int k => haveI := Classical.propDecidable (a ≠ [] ∧ 2 ≤ k ∧ k ≤ 1000 ∧ a.length ≤ 1000); if a ≠ [] ∧ 2 ≤ k ∧ k ≤ 1000 ∧ a.length ≤ 1000 then some (.tuple (List.replicate k.toNat a).flatten) else none
  | _, _ => none
def modD : PyData → PyData → Option PyData
  | .int a, .int b => if 0 < b then some (.int (a % b)) else none
  | _, _ => none
noncomputable def fdivD : PyData → PyData → Option PyData
  | .int a, .int b => haveI := Classical.propDecidable (0 < b ∧ b < 1073741824); if 0 < b ∧ b < 1073741824 then some (.int (a / b)) else none
  | _, _ => none
noncomputable def powD : PyData → PyData → Option PyData
  | .int a, .int b => haveI := Classical.propDecidable (0 ≤ b ∧ b ≤ 1000000 ∧ a.natAbs < 2 ^ 64); if 0 ≤ b ∧ b ≤ 1000000 ∧ a.natAbs < 2 ^ 64 then some (.int (a ^ b.toNat)) else none
  | _, _ => none
def xorD : PyData → PyData → Option PyData
  | .int a, .int b => some (.int (Builtin.bitXor a b))
  | _, _ => none
def shrD : PyData → PyData → Option PyData
  | .int a, .int b => if 0 ≤ b then some (.int (a / 2 ^ b.toNat)) else none
  | _, _ => none
section
variable {X : Cx}
theorem opd_int {f : Value → Value → Sem Value} {C : Int → Int → Prop} {k : Int → Int → V} {g : PyData → PyData → Option PyData} (h : OpR X f (rI C k))
    (hg : ∀ dx dy d, g dx dy = some d → ∃ i j, dx = .int i ∧ dy = .int j ∧ C i j ∧ ∃ z, d = .int z ∧ k i j = .int z) : OpD X f g := by
  refine ⟨_, h, fun H x y dx dy d av Q hav r1 r2 e hQ => ?_⟩
  obtain ⟨i, j, rfl, rfl, hc, z, rfl, ek⟩ := hg dx dy d e
  simp only [Rep] at r1 r2
  refine ⟨i, j, r1, r2, hc, ?_⟩
  rw [ek]
  exact hQ _ H Evo.refl (by simp [Rep])
theorem opd_int0 {f : Value → Value → Sem Value} {k : Int → Int → V} {g : PyData → PyData → Option PyData} (h : OpR X f (rI0 k))
    (hg : ∀ dx dy d, g dx dy = some d → ∃ i j, dx = .int i ∧ dy = .int j ∧ ∃ z, d = .int z ∧ k i j = .int z) : OpD X f g := by
  refine ⟨_, h, fun H x y dx dy d av Q hav r1 r2 e hQ => ?_⟩
  obtain ⟨i, j, rfl, rfl, z, rfl, ek⟩ := hg dx dy d e
  simp only [Rep] at r1 r2
  refine ⟨i, j, r1, r2, ?_⟩
  rw [ek]
  exact hQ _ H Evo.refl (by simp [Rep])
theorem od_sub : OpD X (binaryOp .Sub) subD := opd_int0 op_sub fun dx dy d e => by
  unfold subD at e
  split at e <;> first | (cases e; exact ⟨_, _, rfl, rfl, _, rfl, rfl⟩) | cases e
theorem od_xor : OpD X (binaryOp .BitXor) xorD := opd_int0 op_xor fun dx dy d e => by
  unfold xorD at e
  split at e <;> first | (cases e; exact ⟨_, _, rfl, rfl, _, rfl, rfl⟩) | cases e
theorem od_mod : OpD X (binaryOp .Mod) modD := opd_int op_mod fun dx dy d e => by
  unfold modD at e
  split at e
  · split at e
    · cases e; exact ⟨_, _, rfl, rfl, by assumption, _, rfl, rfl⟩
    · cases e
  · cases e
theorem od_fdiv : OpD X (binaryOp .FloorDiv) fdivD := opd_int op_fdiv fun dx dy d e => by
  unfold fdivD at e
  split at e
  · split at e
    · cases e; exact ⟨_, _, rfl, rfl, by assumption, _, rfl, rfl⟩
    · cases e
  · cases e
theorem od_pow : OpD X (binaryOp .Pow) powD := opd_int op_pow fun dx dy d e => by
  unfold powD at e
  split at e
  · split at e
    · cases e; exact ⟨_, _, rfl, rfl, by assumption, _, rfl, rfl⟩
    · cases e
  · cases e
theorem od_shr : OpD X (binaryOp .RShift) shrD := opd_int op_shr fun dx dy d e => by
  unfold shrD at e
  split at e
  · split at e
    · cases e; exact ⟨_, _, rfl, rfl, by assumption, _, rfl, rfl⟩
    · cases e
  · cases e
theorem od_add : OpD X (binaryOp .Add) addD := by
  refine ⟨_, op_add.or (op_add_str.or (op_cat.or op_catA)), fun H x y dx dy d av Q hav r1 r2 e hQ => ?_⟩
  unfold addD at e
  split at e
  · cases e
    simp only [Rep] at r1 r2
    exact .inl ⟨_, _, r1, r2, hQ _ H Evo.refl (by simp [Rep])⟩
  · split at e
    · cases e
      simp only [Rep] at r1 r2
      exact .inr (.inl ⟨_, _, r1, r2, by rw [sizeLine_eq]; assumption, hQ _ H Evo.refl (by simp [Rep])⟩)
    · cases e
  · split at e
    · cases e
      simp only [Rep] at r1 r2
      obtain ⟨a, vs, rfl, l1, s1⟩ := r1
      obtain ⟨b, ws, rfl, l2, s2⟩ := r2
      refine .inr (.inr (.inl ⟨a, b, vs, ws, rfl, rfl, l1.1, l2.1, by rw [sizeLine_eq, s1.length, s2.length]; assumption, fun p hp => ?_⟩))
      exact hQ _ _ (Evo.new hp) (Rep.newLst (s1.append s2) hp (hav p hp))
    · cases e
  · split at e
    · cases e
      simp only [Rep] at r1 r2
      obtain ⟨a, vs, rfl, l1, s1⟩ := r1
      obtain ⟨b, ws, rfl, l2, s2⟩ := r2
      refine .inr (.inr (.inr ⟨a, b, vs, ws, rfl, rfl, l1.sq, l2.sq, by rw [sizeLine_eq, s1.length, s2.length]; assumption, fun z => ?_, fun _ z => ?_, fun _ _ p hp => ?_⟩))
      · subst z
        have z := s1.length
        rename_i as bs _
        cases as with
        | cons _ _ => simp at z
        | nil => exact hQ _ H Evo.refl (by simp only [Rep, List.nil_append]; exact ⟨b, ws, rfl, l2, s2⟩)
      · subst z
        have z := s2.length
        rename_i as bs _ _
        cases bs with
        | cons _ _ => simp at z
        | nil => exact hQ _ H Evo.refl (by simp only [Rep, List.append_nil]; exact ⟨a, vs, rfl, l1, s1⟩)
      · exact hQ _ _ (Evo.new hp) (Rep.newTup (s1.append s2) hp (hav p hp))
    · cases e
  · cases e
theorem od_mul : OpD X (binaryOp .Mult) mulD := by
  refine ⟨_, op_mul.or (op_rep.or op_repT), fun H x y dx dy d av Q hav r1 r2 e hQ => ?_⟩
  unfold mulD at e
  split at e
  · split at e
    · cases e
      simp only [Rep] at r1 r2
      exact .inl ⟨_, _, r1, r2, by assumption, hQ _ H Evo.refl (by simp [Rep])⟩
    · cases e
  · split at e
    · rename_i hc
      cases e
      simp only [Rep] at r1 r2
      obtain ⟨a, vs, rfl, l1, s1⟩ := r1
      refine .inr (.inl ⟨a, _, vs, rfl, r2, l1.1, hc.1, hc.2.1, by rw [sizeLine_eq, s1.length]; exact hc.2.2, fun p hp => ?_⟩)
      exact hQ _ _ (Evo.new hp) (Rep.newLst (s1.flat _) hp (hav p hp))
    · cases e
  · split at e
    · rename_i hc
      cases e
      simp only [Rep] at r1 r2
      obtain ⟨a, vs, rfl, l1, s1⟩ := r1
      refine .inr (.inr ⟨a, _, vs, rfl, r2, l1.sq, fun z => hc.1 ?_, hc.2.1, hc.2.2.1, by rw [s1.length]; exact hc.2.2.2, fun p hp => ?_⟩)
      · subst z
        have z := s1.length
        exact List.eq_nil_of_length_eq_zero z.symm
      · exact hQ _ _ (Evo.new hp) (Rep.newTup (s1.flat _) hp (hav p hp))
    · cases e
  · cases e

/-! ### comparisons -/
/-- a comparison of data: its answer a truth value -/
theorem odt_cmp {f : Value → Value → Sem Value} {g : PyData → PyData → Option PyData}
    (h : ∀ (pins : List (Addr × Obj)) (s : Shared) (σ : L2.St) (H : Hp) (av : List Addr) (x y : V) (v u : Value) (dx dy d : PyData) (Q : Value → Shared → Prop), Inv X pins σ H s → RelV x v → RelV y u → RepT X.K av H dx x → RepT X.K av H dy y →
      g dx dy = some d → (∀ b, d = .bool b → Q (.bool b) s) → (∃ b, d = .bool b) ∧ wpAny (model X.prog X.w) X.A (f v u) Q X.xe s) : OpDT X f g := by
  refine ⟨fun x y H Q => ∃ av dx dy d, RepT X.K av H dx x ∧ RepT X.K av H dy y ∧ g dx dy = some d ∧ ∀ b, d = .bool b → Q (.bl b) H, ?_, fun H x y dx dy d av Q hav r1 r2 e hQ => ?_⟩
  · intro pins s σ H x y v u Q I rx ry hr
    obtain ⟨av, dx, dy, d, r1, r2, e, hQ⟩ := hr
    exact (h pins s σ H av x y v u dx dy d _ I rx ry r1 r2 e fun b eb => ⟨.bl b, H, I, rfl, hQ b eb⟩).2
  · refine ⟨av, dx, dy, d, r1, r2, e, fun b eb => ?_⟩
    subst eb
    exact hQ _ H Evo.refl (by simp [Rep])
def eqD (a b : PyData) : Option PyData := if min a.depth b.depth ≤ 40 then some (.bool (PyData.eqv a b)) else none
def neD (a b : PyData) : Option PyData := if min a.depth b.depth ≤ 40 then some (.bool (!PyData.eqv a b)) else none
def ordOk (a b : PyData) : Prop := alike a b = true ∧ a.depth ≤ 40 ∧ (match a with | .none => false | _ => true) = true
instance (a b : PyData) : Decidable (ordOk a b) := by unfold ordOk; infer_instance
def ltD (a b : PyData) : Option PyData := if ordOk a b then some (.bool (dataLt a b)) else none
def gtD (a b : PyData) : Option PyData := if ordOk a b then some (.bool (dataLt b a)) else none
def leD (a b : PyData) : Option PyData := if ordOk a b then some (.bool (!dataLt b a)) else none
def geD (a b : PyData) : Option PyData := if ordOk a b then some (.bool (!dataLt a b)) else none
def signIn (c : Str) (z : Str) : Option Bool := if c.cps.size = 1 then some (decide (c.cps.getD 0 0 ∈ z.cps.toList)) else none
def inD : PyData → PyData → Option PyData
  | d, .list xs => if min (PyData.depthAll xs) d.depth ≤ 40 then some (.bool (xs.any fun y => PyData.eqv y d)) else none
  | d, .tuple xs => if min (PyData.depthAll xs) d.depth ≤ 40 then some (.bool (xs.any fun y => PyData.eqv y d)) else none
  | .str c, .str z => (signIn c z).map .bool
  | _, _ => none
def notInD (a b : PyData) : Option PyData := match inD a b with
  | some (.bool k) => some (.bool (!k))
  | _ => none
def isNoneD : PyData → Bool
  | .none => true
  | _ => false
def isD : PyData → PyData → Option PyData
  | a, .none => some (.bool (isNoneD a))
  | .bool a, .bool b => some (.bool (a == b))
  | _, _ => none
def isNotD : PyData → PyData → Option PyData
  | a, .none => some (.bool (!isNoneD a))
  | .bool a, .bool b => some (.bool (!(a == b)))
  | _, _ => none
theorem ord_ne {a b : PyData} (h : ordOk a b) : a ≠ .none := fun e => by
  subst e
  exact Bool.false_ne_true h.2.2
theorem od_eq (hu : X.A.units + 64 < cLine) : OpDT X (compareOp .Eq) eqD := odt_cmp fun pins s σ H av x y v u dx dy d Q I rx ry r1 r2 e hQ => by
  unfold eqD at e
  split at e
  · cases e
    obtain ⟨as, q1⟩ := r1.reads I rx
    obtain ⟨bs, q2⟩ := r2.reads I ry
    exact ⟨⟨_, rfl⟩, eq_plain q1 q2 r1.plain r2.plain (by omega) (hQ _ rfl)⟩
  · cases e
theorem od_ne (hu : X.A.units + 64 < cLine) : OpDT X (compareOp .NotEq) neD := odt_cmp fun pins s σ H av x y v u dx dy d Q I rx ry r1 r2 e hQ => by
  unfold neD at e
  split at e
  · cases e
    obtain ⟨as, q1⟩ := r1.reads I rx
    obtain ⟨bs, q2⟩ := r2.reads I ry
    exact ⟨⟨_, rfl⟩, ne_plain q1 q2 r1.plain r2.plain (by omega) (hQ _ rfl)⟩
  · cases e
theorem od_lt (hu : X.A.units + 64 < cLine) : OpDT X (compareOp .Lt) ltD := odt_cmp fun pins s σ H av x y v u dx dy d Q I rx ry r1 r2 e hQ => by
  unfold ltD at e
  split at e
  · rename_i hc
    cases e
    obtain ⟨as, q1⟩ := r1.reads I rx
    obtain ⟨bs, q2⟩ := r2.reads I ry
    exact ⟨⟨_, rfl⟩, lt_data q1 q2 hc.1 (ord_ne hc) (by have := hc.2.1; omega) (hQ _ rfl)⟩
  · cases e
theorem od_gt (hu : X.A.units + 64 < cLine) : OpDT X (compareOp .Gt) gtD := odt_cmp fun pins s σ H av x y v u dx dy d Q I rx ry r1 r2 e hQ => by
  unfold gtD at e
  split at e
  · rename_i hc
    cases e
    obtain ⟨as, q1⟩ := r1.reads I rx
    obtain ⟨bs, q2⟩ := r2.reads I ry
    exact ⟨⟨_, rfl⟩, gt_data q1 q2 hc.1 (ord_ne hc) (by have := hc.2.1; omega) (hQ _ rfl)⟩
  · cases e
theorem od_le (hu : X.A.units + 64 < cLine) : OpDT X (compareOp .LtE) leD := odt_cmp fun pins s σ H av x y v u dx dy d Q I rx ry r1 r2 e hQ => by
  unfold leD at e
  split at e
  · rename_i hc
    cases e
    obtain ⟨as, q1⟩ := r1.reads I rx
    obtain ⟨bs, q2⟩ := r2.reads I ry
    exact ⟨⟨_, rfl⟩, le_data q1 q2 hc.1 (ord_ne hc) (by have := hc.2.1; omega) (hQ _ rfl)⟩
  · cases e
theorem od_ge (hu : X.A.units + 64 < cLine) : OpDT X (compareOp .GtE) geD := odt_cmp fun pins s σ H av x y v u dx dy d Q I rx ry r1 r2 e hQ => by
  unfold geD at e
  split at e
  · rename_i hc
    cases e
    obtain ⟨as, q1⟩ := r1.reads I rx
    obtain ⟨bs, q2⟩ := r2.reads I ry
    exact ⟨⟨_, rfl⟩, ge_data q1 q2 hc.1 (ord_ne hc) (by have := hc.2.1; omega) (hQ _ rfl)⟩
  · cases e
theorem sign_eq {c : Str} (h : c.cps.size = 1) : c = ⟨#[c.cps.getD 0 0]⟩ := by
  obtain ⟨⟨l⟩⟩ := c
  cases l with
  | nil => simp at h
  | cons a r =>
    cases r with
    | nil => rfl
    | cons b r' => simp at h
theorem in_run (hu : X.A.units + 64 < cLine) {neg : Bool} {pins : List (Addr × Obj)} {s : Shared} {σ : L2.St} {H : Hp} {av : List Addr} {x y : V} {v u : Value} {dx dy : PyData} {k : Bool} {Q : Value → Shared → Prop} (I : Inv X pins σ H s) (rx : RelV x v) (ry : RelV y u)
    (r1 : RepT X.K av H dx x) (r2 : RepT X.K av H dy y) (e : inD dx dy = some (.bool k)) (hQ : Q (.bool (if neg = true then !k else k)) s) : wpAny (model X.prog X.w) X.A (compareOp (if neg = true then .NotIn else .In) v u) Q X.xe s := by
  obtain ⟨as, q1⟩ := r1.reads I rx
  obtain ⟨bs, q2⟩ := r2.reads I ry
  have p2 := r2.plain
  unfold inD at e
  split at e
  · split at e
    · cases e
      cases neg with
      | true => exact notIn_list_data q2 q1 (by simpa [PyData.plain] using p2) r1.plain (by omega) hQ
      | false => exact in_list_data q2 q1 (by simpa [PyData.plain] using p2) r1.plain (by omega) hQ
    · cases e
  · split at e
    · cases e
      cases neg with
      | true => exact notIn_tuple_data q2 q1 (by simpa [PyData.plain] using p2) r1.plain (by omega) hQ
      | false => exact in_tuple_data q2 q1 (by simpa [PyData.plain] using p2) r1.plain (by omega) hQ
    · cases e
  · rename_i c z
    unfold signIn at e
    split at e
    · rename_i h1
      cases e
      have e1 := r1.str
      have e2 := r2.str
      subst e1 e2
      obtain ⟨t, rfl⟩ := rx
      obtain ⟨t', rfl⟩ := ry
      have ec := sign_eq h1
      generalize c.cps.getD 0 0 = n at ec hQ
      subst ec
      cases neg with
      | true => exact PyProof.Rows.notIn_str (by rw [congrArg Bool.not (PySem.StrLaws.found_one z n)]; exact hQ)
      | false => exact PyProof.Rows.in_str (by rw [PySem.StrLaws.found_one z n]; exact hQ)
    · cases e
  · cases e
theorem inD_bool {a b d : PyData} (e : inD a b = some d) : ∃ k, d = .bool k := by
  unfold inD at e
  split at e
  · split at e <;> cases e; exact ⟨_, rfl⟩
  · split at e <;> cases e; exact ⟨_, rfl⟩
  · unfold signIn at e
    split at e <;> cases e; exact ⟨_, rfl⟩
  · cases e
theorem od_in (hu : X.A.units + 64 < cLine) : OpDT X (compareOp .In) inD := odt_cmp fun pins s σ H av x y v u dx dy d Q I rx ry r1 r2 e hQ => by
  obtain ⟨k, rfl⟩ := inD_bool e
  exact ⟨⟨_, rfl⟩, in_run (neg := false) hu I rx ry r1 r2 e (hQ _ rfl)⟩
theorem od_notIn (hu : X.A.units + 64 < cLine) : OpDT X (compareOp .NotIn) notInD := odt_cmp fun pins s σ H av x y v u dx dy d Q I rx ry r1 r2 e hQ => by
  unfold notInD at e
  split at e
  · rename_i k ek
    cases e
    exact ⟨⟨_, rfl⟩, in_run (neg := true) hu I rx ry r1 r2 ek (hQ _ rfl)⟩
  · cases e
theorem isNone_rep {K : PySem.W.Frag} {av : List Addr} {H : Hp} {d : PyData} {x : V} (r : RepT K av H d x) : decide (x = .non) = isNoneD d := by
  cases d with
  | none => have := r.none; subst this; rfl
  | bool b => have := r.bool; subst this; rfl
  | int b => have := r.int; subst this; rfl
  | str b => have := r.str; subst this; rfl
  | list ds => obtain ⟨a, vs, rfl, _⟩ := r.list; rfl
  | tuple ds => obtain ⟨a, vs, rfl, _⟩ := r.tuple; rfl
  | dict kvs =>
    rcases r with r | ⟨a, ds, vs, z, _⟩
    · simp [Rep] at r
    · cases z
theorem od_is : OpDT X (compareOp .Is) isD := by
  refine ⟨_, op_isN.or op_isBl, fun H x y dx dy d av Q hav r1 r2 e hQ => ?_⟩
  unfold isD at e
  split at e
  · cases e
    have e2 := r2.none
    subst e2
    exact .inl ⟨rfl, by rw [isNone_rep r1]; exact hQ _ H Evo.refl (by simp [Rep])⟩
  · cases e
    have e1 := r1.bool
    have e2 := r2.bool
    subst e1 e2
    refine .inr ⟨_, _, rfl, rfl, hQ _ H Evo.refl ?_⟩
    simp only [Rep]
    rename_i a b
    cases a <;> cases b <;> rfl
  · cases e
theorem od_isNot : OpDT X (compareOp .IsNot) isNotD := by
  refine ⟨_, op_notN.or op_notBl, fun H x y dx dy d av Q hav r1 r2 e hQ => ?_⟩
  unfold isNotD at e
  split at e
  · cases e
    have e2 := r2.none
    subst e2
    exact .inl ⟨rfl, by rw [isNone_rep r1]; exact hQ _ H Evo.refl (by simp [Rep])⟩
  · cases e
    have e1 := r1.bool
    have e2 := r2.bool
    subst e1 e2
    refine .inr ⟨_, _, rfl, rfl, hQ _ H Evo.refl ?_⟩
    simp only [Rep]
    rename_i a b
    cases a <;> cases b <;> rfl
  · cases e
end
end DL
end
section
set_option Elab.async false
set_option linter.all false
set_option maxRecDepth 100000
/-! The data layer, part d: tests, truth, arguments, displays, items, slices, built-ins. -/
namespace DL
open PySem PySem.Spec PyProof.Rows L2 PySem.SeqAt PySem.W
section
variable {X : Cx} {c : Cfg} {W : WX} {B as : List Addr} {σ : L2.St} {H H1 : Hp} {s : S} {a b e : Expr} {pos : Pos} {fa fb : EvD} {qa qb : Bool}
theorem DE.loud {tr : Bool} (h : DE X c W e tr true fa) (q : Bool) : DE X c W e tr q fa := by
  obtain ⟨t, p, r⟩ := h
  refine ⟨t, p, fun B as σ H s Q sr hw => r B as σ H s Q sr ?_⟩
  cases q with
  | true => exact hw
  | false => exact hw.loud
theorem DE.loud' {tr q : Bool} (h : DE X c W e tr q fa) : DE X c W e tr false fa := by
  cases q with
  | true => exact h.loud false
  | false => exact h

/-! ### tests -/
def boolOf : PyData × Sto → RT
  | (.bool k, st) => .ok (k, st)
  | _ => .stuck
def valT (f : EvD) : EvT := fun s => (f s).bind boolOf
/-- an expression whose value is a truth value, as a test -/
theorem dt_val (h : DE X c W e false qa fa) (he : ∀ whole, isTrue e X.env whole = (do let v ← whole; standAt e.pos; holding [v] (truthy v))) : DT X c W e (valT fa) := by
  obtain ⟨t, p, r⟩ := h.loud'
  refine ⟨tB t, pt_val p he, fun B as σ H s Q sr hw => ?_⟩
  show t σ H _
  have hw' : WantsG X c W RepB B as σ H s.env (false && true) Q ((fa s).bind boolOf) := hw
  refine WantsG.bind (s := s) hw' sr r fun x H1 da st1 e1 ev1 sr1 r1 hw1 => ?_
  unfold boolOf at hw1
  split at hw1
  · rename_i k st ek
    cases ek
    have z : x = .bl k := by simpa [RepE, RepX, Rep] using r1
    exact ⟨k, z, hw1.fin sr1 Evo.refl rfl⟩
  · exact hw1.elim
def cmpT (g : PyData → PyData → Option PyData) (fa fb : EvD) : EvT := valT (bin2 g fa fb)
theorem dt_cmp {op : CmpOp} {g : PyData → PyData → Option PyData} {tra trb : Bool} (h : OpDT X (compareOp op) g) (hm : behindInMarks op b = false) (ha : DE X c W a tra qa fa) (hb : DE X c W b trb qb fb) (hq : tra = true → qb = true) : DT X c W (.Compare a [op] [b] pos) (cmpT g fa fb) := by
  obtain ⟨r, hr, gr⟩ := h
  obtain ⟨ta, pa, ra⟩ := ha
  obtain ⟨tb, pb, rb⟩ := hb
  refine ⟨tTest (tOp r ta tb), pt_cmpR hr pa pb hm, fun B as σ H s Q sr hw => ?_⟩
  show ta σ H _
  unfold cmpT valT at hw
  have hw0 : WantsG X c W RepB B as σ H s.env (qa && qb) Q ((bin2 g fa fb s).bind boolOf) := hw.loud
  have hw' : WantsG X c W RepB B as σ H s.env (qa && qb) Q ((fa s).bind fun p => ((fb ⟨s.env, p.2⟩).bind fun q => ofOpt (g p.1 q.1) q.2).bind boolOf) := by
    unfold bin2 at hw0
    cases e : fa s <;> rw [e] at hw0 <;> exact hw0
  refine WantsG.bind (s := s) hw' sr ra fun x H1 da st1 e1 ev1 sr1 r1 hw1 => ?_
  show tb σ H1 _
  have hw1' : WantsG X c W RepB B as σ H1 s.env (qb && true) Q ((fb ⟨s.env, st1⟩).bind fun q => (ofOpt (g da q.1) q.2).bind boolOf) := by
    rw [Bool.and_true]
    cases e : fb ⟨s.env, st1⟩ <;> rw [e] at hw1 <;> exact hw1
  refine WantsG.bind (s := ⟨s.env, st1⟩) hw1' sr1 rb fun y H2 db st2 e2 ev2 sr2 r2 hw2 => ?_
  cases eg : g da db with
  | none => simp only [eg] at hw2; exact hw2.elim
  | some d =>
    simp only [eg, ofOpt_some, Res.bind_ok] at hw2
    refine gr H2 x y da db d _ _ (fun p hp => sr2.notnew hp) (RepX.t (r1.evo ev2 wq_sub fun z => by rw [hq z]; rfl)) r2.t eg fun z H3 ev3 rz => ?_
    unfold boolOf at hw2
    split at hw2
    · rename_i k st ek
      cases ek
      exact ⟨k, by simpa [Rep] using rz, hw2.fin sr2 ev3 rfl⟩
    · exact hw2.elim
theorem tchain_b {r r' : R2} {ta tb tc : TE} : True := trivial
theorem dt_chain {op op' : CmpOp} {g g' : PyData → PyData → Option PyData} {fc : EvD} (h : OpDT X (compareOp op) g) (h' : OpDT X (compareOp op') g') (hm : lastMarks [op, op'] [b, e] = false)
    (ha : DE X c W a false qa fa) (hb : DE X c W b false qb fb) (hc : DE X c W e false true fc) : DT X c W (.Compare a [op, op'] [b, e] pos) (valT (chain2 g g' fa fb fc)) := by
  obtain ⟨r, hr, gr⟩ := h
  obtain ⟨r', hr', gr'⟩ := h'
  obtain ⟨ta, pa, ra⟩ := ha
  obtain ⟨tb, pb, rb⟩ := hb
  obtain ⟨tc, pc, rc⟩ := hc
  refine ⟨_, pt_chain hr hr' pa pb pc hm, fun B as σ H s Q sr hw => ?_⟩
  show ta σ H _
  unfold valT chain2 at hw
  have hw0 : WantsG X c W RepB B as σ H s.env (qa && qb) Q _ := hw.loud
  have hw' : WantsG X c W RepB B as σ H s.env (qa && qb) Q ((fa s).bind fun p => ((fb ⟨s.env, p.2⟩).bind fun q => match g p.1 q.1 with
      | some (.bool true) => (fc ⟨s.env, q.2⟩).bind fun r => ofOpt (g' q.1 r.1) r.2
      | some (.bool false) => .ok (.bool false, q.2)
      | _ => .stuck).bind boolOf) := by
    cases e : fa s <;> rw [e] at hw0 <;> exact hw0
  refine WantsG.bind (s := s) hw' sr ra fun x H1 da st1 e1 ev1 sr1 r1 hw1 => ?_
  show tb σ H1 _
  have hw1' : WantsG X c W RepB B as σ H1 s.env (qb && true) Q ((fb ⟨s.env, st1⟩).bind fun q => (match g da q.1 with
      | some (.bool true) => (fc ⟨s.env, q.2⟩).bind fun r => ofOpt (g' q.1 r.1) r.2
      | some (.bool false) => .ok (.bool false, q.2)
      | _ => .stuck : RE).bind boolOf) := by
    rw [Bool.and_true]
    cases e : fb ⟨s.env, st1⟩ <;> rw [e] at hw1 <;> exact hw1
  refine WantsG.bind (s := ⟨s.env, st1⟩) hw1' sr1 rb fun y H2 db st2 e2 ev2 sr2 r2 hw2 => ?_
  simp only at hw2
  split at hw2
  · rename_i ed
    refine gr H2 x y da db _ _ _ (fun p hp => sr2.notnew hp) (RepX.t (r1.evo ev2 wq_sub fun z => by cases z)) r2.t ed fun z H3 ev3 rz => ?_
    simp only [Rep] at rz
    refine ⟨true, rz, ?_⟩
    rw [if_pos rfl]
    have hw3 := WantsG.step (qa := true) (qb := true) hw2 ev3
    have hw3' : WantsG X c W RepB B as σ H3 s.env (true && true) Q ((fc ⟨s.env, st2⟩).bind fun r => (ofOpt (g' db r.1) r.2).bind boolOf) := by
      cases e : fc ⟨s.env, st2⟩ <;> rw [e] at hw3 <;> exact hw3
    show tc σ H3 _
    refine WantsG.bind (s := ⟨s.env, st2⟩) hw3' (sr2.evo ev3) rc fun u H4 du st4 e4 ev4 sr4 r4 hw4 => ?_
    cases eg : g' db du with
    | none => simp only [eg] at hw4; exact hw4.elim
    | some d =>
      simp only [eg, ofOpt_some, Res.bind_ok] at hw4
      refine gr' H4 y u db du d _ _ (fun p hp => sr4.notnew hp) (Rep.t (Rep.evo ev4 wq_sub _ _ (Rep.evo ev3 (fun _ z => by cases z) _ _ r2))) r4.t eg fun z' H5 ev5 rz' => ?_
      unfold boolOf at hw4
      split at hw4
      · rename_i k st ek
        cases ek
        exact ⟨k, by simpa [Rep] using rz', hw4.fin sr4 ev5 rfl⟩
      · exact hw4.elim
  · rename_i ed
    refine gr H2 x y da db _ _ _ (fun p hp => sr2.notnew hp) (RepX.t (r1.evo ev2 wq_sub fun z => by cases z)) r2.t ed fun z H3 ev3 rz => ?_
    simp only [Rep] at rz
    refine ⟨false, rz, ?_⟩
    rw [if_neg Bool.false_ne_true]
    exact ⟨false, rfl, hw2.fin sr2 ev3 rfl⟩
  · exact hw2.elim
def andT (f g : EvT) : EvT := fun s => (f s).bind fun p => if p.1 = true then g ⟨s.env, p.2⟩ else .ok (false, p.2)
def orT (f g : EvT) : EvT := fun s => (f s).bind fun p => if p.1 = true then .ok (true, p.2) else g ⟨s.env, p.2⟩
def notT (f : EvT) : EvT := fun s => (f s).bind fun p => .ok (!p.1, p.2)
theorem dw_and1 {f : EvT} (h : DT X c W a f) : DW X c W (.BoolOp .And [a] pos) f := by
  obtain ⟨t, p, r⟩ := h
  exact ⟨t, pw_and1 p, r⟩
theorem dw_or1 {f : EvT} (h : DT X c W a f) : DW X c W (.BoolOp .Or [a] pos) f := by
  obtain ⟨t, p, r⟩ := h
  exact ⟨t, pw_or1 p, r⟩
theorem DW.dt {f : EvT} (h : DW X c W e f) : DT X c W e f := by
  obtain ⟨t, p, r⟩ := h
  exact ⟨t, p.pt, r⟩
theorem dw_and {f g : EvT} {rest : List Expr} (h : DT X c W a f) (h2 : DW X c W (.BoolOp .And (b :: rest) pos) g) : DW X c W (.BoolOp .And (a :: b :: rest) pos) (andT f g) := by
  obtain ⟨ta, pa, ra⟩ := h
  obtain ⟨tb, pb, rb⟩ := h2
  refine ⟨tAnd ta tb, pw_and pa pb, fun B as σ H s Q sr hw => ?_⟩
  show ta σ H _
  have hw' : WantsG X c W RepB B as σ H s.env (false && false) Q ((f s).bind fun p => if p.1 = true then g ⟨s.env, p.2⟩ else .ok (false, p.2)) := hw
  refine WantsG.bind (s := s) hw' sr ra fun x H1 k st1 e1 ev1 sr1 r1 hw1 => ?_
  have z : x = k := r1
  subst z
  cases x with
  | true => rw [if_pos rfl] at hw1 ⊢; exact rb B as σ H1 ⟨s.env, st1⟩ Q sr1 hw1
  | false => rw [if_neg Bool.false_ne_true] at hw1 ⊢; exact hw1.fin sr1 Evo.refl rfl
theorem dw_or {f g : EvT} {rest : List Expr} (h : DT X c W a f) (h2 : DW X c W (.BoolOp .Or (b :: rest) pos) g) : DW X c W (.BoolOp .Or (a :: b :: rest) pos) (orT f g) := by
  obtain ⟨ta, pa, ra⟩ := h
  obtain ⟨tb, pb, rb⟩ := h2
  refine ⟨tOr ta tb, pw_or pa pb, fun B as σ H s Q sr hw => ?_⟩
  show ta σ H _
  have hw' : WantsG X c W RepB B as σ H s.env (false && false) Q ((f s).bind fun p => if p.1 = true then .ok (true, p.2) else g ⟨s.env, p.2⟩) := hw
  refine WantsG.bind (s := s) hw' sr ra fun x H1 k st1 e1 ev1 sr1 r1 hw1 => ?_
  have z : x = k := r1
  subst z
  cases x with
  | true => rw [if_pos rfl] at hw1 ⊢; exact hw1.fin sr1 Evo.refl rfl
  | false => rw [if_neg Bool.false_ne_true] at hw1 ⊢; exact rb B as σ H1 ⟨s.env, st1⟩ Q sr1 hw1
theorem dt_not {f : EvT} (h : DT X c W a f) : DT X c W (.UnaryOp .Not a pos) (notT f) := by
  obtain ⟨ta, pa, ra⟩ := h
  refine ⟨tNot ta, pt_not pa, fun B as σ H s Q sr hw => ?_⟩
  show ta σ H _
  have hw' : WantsG X c W RepB B as σ H s.env (false && true) Q ((f s).bind fun p => .ok (!p.1, p.2)) := hw
  refine WantsG.bind (s := s) hw' sr ra fun x H1 k st1 e1 ev1 sr1 r1 hw1 => ?_
  have z : x = k := r1
  subst z
  exact hw1.fin sr1 Evo.refl rfl

/-! ### and, or, not as values -/
def andE (fa fb : EvD) : EvD := fun s => (fa s).bind fun p => match p.1 with
  | .bool true => fb ⟨s.env, p.2⟩
  | .bool false => .ok (.bool false, p.2)
  | _ => .stuck
def orE (fa fb : EvD) : EvD := fun s => (fa s).bind fun p => match p.1 with
  | .bool true => .ok (.bool true, p.2)
  | .bool false => fb ⟨s.env, p.2⟩
  | _ => .stuck
def notE (fa : EvD) : EvD := fun s => (fa s).bind fun p => match p.1 with
  | .bool k => .ok (.bool (!k), p.2)
  | _ => .stuck
theorem de_one {op : BoolOp} (h : DE X c W a false qa fa) : DE X c W (.BoolOp op [a] pos) false qa fa := by
  obtain ⟨t, p, r⟩ := h
  exact ⟨t, pe_one p, r⟩
theorem de_and {rest : List Expr} (h : DE X c W a false qa fa) (h2 : DE X c W (.BoolOp .And (b :: rest) pos) false qb fb) : DE X c W (.BoolOp .And (a :: b :: rest) pos) false (qa && qb) (andE fa fb) := by
  obtain ⟨ta, pa, ra⟩ := h
  obtain ⟨tb, pb, rb⟩ := h2
  refine ⟨tAndV ta tb, pe_and pa pb, fun B as σ H s Q sr hw => ?_⟩
  show ta σ H _
  refine WantsG.bind (s := s) hw sr ra fun x H1 da st1 e1 ev1 sr1 r1 hw1 => ?_
  simp only at hw1
  split at hw1
  · refine ⟨true, by simpa [RepE, RepX, Rep] using r1, ?_⟩
    rw [if_pos rfl]
    exact rb B as σ H1 ⟨s.env, st1⟩ Q sr1 hw1
  · refine ⟨false, by simpa [RepE, RepX, Rep] using r1, ?_⟩
    rw [if_neg Bool.false_ne_true]
    exact hw1.fin sr1 Evo.refl (by simp [RepE, RepX, Rep])
  · exact hw1.elim
theorem de_or {rest : List Expr} (h : DE X c W a false qa fa) (h2 : DE X c W (.BoolOp .Or (b :: rest) pos) false qb fb) : DE X c W (.BoolOp .Or (a :: b :: rest) pos) false (qa && qb) (orE fa fb) := by
  obtain ⟨ta, pa, ra⟩ := h
  obtain ⟨tb, pb, rb⟩ := h2
  refine ⟨tOrV ta tb, pe_or pa pb, fun B as σ H s Q sr hw => ?_⟩
  show ta σ H _
  refine WantsG.bind (s := s) hw sr ra fun x H1 da st1 e1 ev1 sr1 r1 hw1 => ?_
  simp only at hw1
  split at hw1
  · refine ⟨true, by simpa [RepE, RepX, Rep] using r1, ?_⟩
    rw [if_pos rfl]
    exact hw1.fin sr1 Evo.refl (by simp [RepE, RepX, Rep])
  · refine ⟨false, by simpa [RepE, RepX, Rep] using r1, ?_⟩
    rw [if_neg Bool.false_ne_true]
    exact rb B as σ H1 ⟨s.env, st1⟩ Q sr1 hw1
  · exact hw1.elim
theorem de_not (h : DE X c W a false qa fa) : DE X c W (.UnaryOp .Not a pos) false qa (notE fa) := by
  obtain ⟨ta, pa, ra⟩ := h
  refine ⟨tNotV ta, pe_not pa, fun B as σ H s Q sr hw => ?_⟩
  show ta σ H _
  rw [← Bool.and_true qa] at hw
  refine WantsG.bind (s := s) hw sr ra fun x H1 da st1 e1 ev1 sr1 r1 hw1 => ?_
  simp only at hw1
  split at hw1
  · exact ⟨_, by simpa [RepE, RepX, Rep] using r1, hw1.fin sr1 Evo.refl (by simp [RepE, RepX, Rep])⟩
  · exact hw1.elim
def negE (fa : EvD) : EvD := fun s => (fa s).bind fun p => match p.1 with
  | .int i => .ok (.int (-i), p.2)
  | _ => .stuck
theorem de_neg (h : DE X c W a false qa fa) : DE X c W (.UnaryOp .USub a pos) false qa (negE fa) := by
  obtain ⟨ta, pa, ra⟩ := h
  refine ⟨_, pe_un un_neg pa, fun B as σ H s Q sr hw => ?_⟩
  show ta σ H _
  rw [← Bool.and_true qa] at hw
  refine WantsG.bind (s := s) hw sr ra fun x H1 da st1 e1 ev1 sr1 r1 hw1 => ?_
  simp only at hw1
  split at hw1
  · exact ⟨_, by simpa [RepE, RepX, Rep] using r1, hw1.fin sr1 Evo.refl (by simp [RepE, RepX, Rep])⟩
  · exact hw1.elim
/-- a if t else b -/
def iteE (t : EvT) (fa fb : EvD) : EvD := fun s => (t s).bind fun p => if p.1 = true then fa ⟨s.env, p.2⟩ else fb ⟨s.env, p.2⟩
theorem de_ite {t : EvT} (ht : DT X c W e t) (ha : DE X c W a false qa fa) (hb : DE X c W b false qb fb) : DE X c W (.IfExp e a b pos) false false (iteE t fa fb) := by
  obtain ⟨tt, pt, rt⟩ := ht
  obtain ⟨ta, pa, ra⟩ := ha.loud'
  obtain ⟨tb, pb, rb⟩ := hb.loud'
  refine ⟨tIf tt ta tb, pe_ifExp pt pa pb, fun B as σ H s Q sr hw => ?_⟩
  show tt σ H _
  have hw' : WantsG X c W (RepE X.K false) B as σ H s.env (false && false) Q ((t s).bind fun p => if p.1 = true then fa ⟨s.env, p.2⟩ else fb ⟨s.env, p.2⟩) := hw
  refine WantsG.bind (s := s) hw' sr rt fun x H1 k st1 e1 ev1 sr1 r1 hw1 => ?_
  have z : x = k := r1
  subst z
  cases x with
  | true => rw [if_pos rfl] at hw1 ⊢; exact ra B as σ H1 ⟨s.env, st1⟩ Q sr1 hw1
  | false => rw [if_neg Bool.false_ne_true] at hw1 ⊢; exact rb B as σ H1 ⟨s.env, st1⟩ Q sr1 hw1
end

/-! ### arguments -/
section
variable {K : PySem.W.Frag} {av as W : List Addr} {H H1 : Hp}
theorem RepS.evo {sv : SV} {v : V} (h : RepS K av as H sv v) (e : Evo W H H1) (hw : ∀ x ∈ W, x ∈ av) : RepS K av as H1 sv v := by
  cases sv with
  | pure d => exact Rep.evo e hw d v h
  | scr ds => obtain ⟨a, vs, z1, z2, z3⟩ := h; exact ⟨a, vs, z1, z2.evo e hw, RepA.evo e hw ds vs z3⟩
  | obj i => exact h
theorem RepSA.evo (e : Evo W H H1) (hw : ∀ x ∈ W, x ∈ av) : ∀ {svs : List SV} {vs : List V}, RepSA K av as H svs vs → RepSA K av as H1 svs vs
  | [], _, h => h
  | d :: ds, vs, h => by
    obtain ⟨v, r, z, h1, h2⟩ := h
    exact ⟨v, r, z, h1.evo e hw, RepSA.evo e hw h2⟩
def pureAll : List SV → Option (List PyData)
  | [] => some []
  | .pure d :: r => (pureAll r).map (d :: ·)
  | _ => none
theorem pureAll_rep : ∀ {svs : List SV} {vs : List V} {ds : List PyData}, pureAll svs = some ds → RepSA K av as H svs vs → RepA K av H ds vs
  | [], vs, ds, e, h => by
    cases e
    simpa [RepA, RepSA] using h
  | .pure d :: r, vs, ds, e, h => by
    obtain ⟨v, q, rfl, h1, h2⟩ := h
    unfold pureAll at e
    cases e2 : pureAll r with
    | none => rw [e2] at e; cases e
    | some x =>
      rw [e2] at e
      cases e
      exact .cons h1 (pureAll_rep e2 h2)
  | .scr _ :: _, _, _, e, _ => by cases e
  | .obj _ :: _, _, _, e, _ => by cases e
theorem repSA_append : ∀ {s1 s2 : List SV} {v1 v2 : List V}, RepSA K av as H s1 v1 → RepSA K av as H s2 v2 → RepSA K av as H (s1 ++ s2) (v1 ++ v2)
  | [], _, _, _, h, r => by
    have : _ = [] := h
    subst this
    exact r
  | d :: ds, _, _, _, h, r => by
    obtain ⟨v, q, rfl, h1, h2⟩ := h
    exact ⟨v, _, rfl, h1, repSA_append h2 r⟩
theorem repSA_pure : ∀ {ds : List PyData} {vs : List V}, RepA K av H ds vs → RepSA K av as H (ds.map .pure) vs
  | [], vs, h => by simpa [RepA, RepSA] using h
  | d :: ds, vs, h => by
    simp only [RepA] at h
    obtain ⟨v, q, rfl, h1, h2⟩ := h
    exact ⟨v, q, rfl, h1, repSA_pure h2⟩
end
section
variable {X : Cx} {c : Cfg} {W : WX} {B as : List Addr} {σ : L2.St} {H H1 : Hp} {s : S} {a b e : Expr} {es : List Expr} {pos : Pos} {fa fb : EvD} {f : EvA} {qa qb : Bool}
def nilA : EvA := fun s => .ok ([], s.st)
theorem da_nil : DA X c W [] true nilA := ⟨tNil, pa_nil, fun B as σ H s Q sr hw => hw.fin sr Evo.refl rfl⟩
def consA (fa : EvD) (f : EvA) : EvA := fun s => (fa s).bind fun p => (f ⟨s.env, p.2⟩).bind fun q => .ok (.pure p.1 :: q.1, q.2)
theorem da_cons (ha : DE X c W e false qa fa) (hr : DA X c W es qb f) (hs : starEach (e :: es) X.env = (false, eval e X.env) :: starEach es X.env) : DA X c W (e :: es) (qa && qb) (consA fa f) := by
  obtain ⟨ta, pa, ra⟩ := ha
  obtain ⟨tb, pb, rb⟩ := hr
  refine ⟨tCons ta tb, pa_cons pa pb hs, fun B as σ H s Q sr hw => ?_⟩
  show ta σ H _
  refine WantsG.bind (s := s) hw sr ra fun x H1 da st1 e1 ev1 sr1 r1 hw1 => ?_
  show tb σ H1 _
  rw [← Bool.and_true qb] at hw1
  refine WantsG.bind (s := ⟨s.env, st1⟩) hw1 sr1 rb fun ys H2 db st2 e2 ev2 sr2 r2 hw2 => ?_
  exact hw2.fin sr2 Evo.refl ⟨x, ys, rfl, Rep.evo ev2 wq_sub _ _ r1, r2⟩
/-- a slot handed on as it is (an own object, the script) -/
def consSlotA (i : Nat) (f : EvA) : EvA := fun s => match s.env[i]? with
  | some (some sv) => (f s).bind fun q => .ok (sv :: q.1, q.2)
  | _ => .stuck
theorem da_slot {i : Nat} {x : Str} {p : Pos} (hN : X.N[i]? = some x) (hv : Vis X.env.scope x) (hd : (x == ("__debug__" : Str)) = false) (hcd : (x == ("__classdict__" : Str)) = false) (hr : DA X c W es qb f)
    (hs : starEach (.Name x p :: es) X.env = (false, eval (.Name x p) X.env) :: starEach es X.env) : DA X c W (.Name x p :: es) qb (consSlotA i f) := by
  obtain ⟨tb, pb, rb⟩ := hr
  refine ⟨tCons (tVar i) tb, pa_cons (pe_var hN hv hd hcd) pb hs, fun B as σ H s Q sr hw => ?_⟩
  unfold consSlotA at hw
  split at hw
  · rename_i sv e
    obtain ⟨v, q1, q2⟩ := sr.slot i _ e
    refine ⟨v, q1, ?_⟩
    show tb σ H _
    rw [← Bool.and_true qb] at hw
    refine WantsG.bind (s := s) hw sr rb fun ys H2 db st2 e2 ev2 sr2 r2 hw2 => ?_
    exact hw2.fin sr2 Evo.refl ⟨v, ys, rfl, q2.evo ev2 wq_sub, r2⟩
  · exact hw.elim
/-- *e, .. -/
def consStarA (fa : EvD) (f : EvA) : EvA := fun s => (fa s).bind fun p => match p.1 with
  | .list ds => (f ⟨s.env, p.2⟩).bind fun q => .ok (ds.map .pure ++ q.1, q.2)
  | .tuple ds => (f ⟨s.env, p.2⟩).bind fun q => .ok (ds.map .pure ++ q.1, q.2)
  | _ => .stuck
theorem da_star {tr : Bool} {p : Pos} (ha : DE X c W e tr qa fa) (hr : DA X c W es qb f) (hq : tr = true → qb = true) (hs : starEach (.Starred e p :: es) X.env = (true, eval e X.env) :: starEach es X.env) : DA X c W (.Starred e p :: es) (qa && qb) (consStarA fa f) := by
  obtain ⟨ta, pa, ra⟩ := ha
  obtain ⟨tb, pb, rb⟩ := hr
  refine ⟨StX.tStar X.K ta tb, StX.pa_star pa pb hs, fun B as σ H s Q sr hw => ?_⟩
  show ta σ H _
  refine WantsG.bind (s := s) hw sr ra fun x H1 da st1 e1 ev1 sr1 r1 hw1 => ?_
  simp only at hw1
  split at hw1
  · rename_i ds
    obtain ⟨p, xs, rfl, l, rs⟩ := RepT.list (RepX.t r1)
    refine ⟨p, xs, rfl, .inr l, ?_⟩
    show tb σ H1 _
    rw [← Bool.and_true qb] at hw1
    refine WantsG.bind (s := ⟨s.env, st1⟩) hw1 sr1 rb fun ys H2 db st2 e2 ev2 sr2 r2 hw2 => ?_
    exact hw2.fin sr2 Evo.refl (repSA_append (repSA_pure (RepA.evo ev2 wq_sub _ _ rs)) r2)
  · rename_i ds
    obtain ⟨p, xs, rfl, l, rs⟩ := RepT.tuple (RepX.t r1)
    refine ⟨p, xs, rfl, .inl l.sq, ?_⟩
    show tb σ H1 _
    rw [← Bool.and_true qb] at hw1
    refine WantsG.bind (s := ⟨s.env, st1⟩) hw1 sr1 rb fun ys H2 db st2 e2 ev2 sr2 r2 hw2 => ?_
    exact hw2.fin sr2 Evo.refl (repSA_append (repSA_pure (RepA.evo ev2 wq_sub _ _ rs)) r2)
  · exact hw1.elim

/-! ### displays -/
def short (n : Nat) : Bool := decide (n ≤ 16777216)
def tupE (f : EvA) : EvD := fun s => (f s).bind fun p => match pureAll p.1 with
  | some ds => if ds.length ≤ 16777216 then .ok (.tuple ds, p.2) else .stuck
  | none => .stuck
def lstE (f : EvA) : EvD := fun s => (f s).bind fun p => match pureAll p.1 with
  | some ds => if ds.length ≤ 16777216 then .ok (.list ds, p.2) else .stuck
  | none => .stuck
theorem de_tup {k : Nat} (h : DA X c W es qa f) : DE X c W (.Tuple es k pos) false qa (tupE f) := by
  obtain ⟨ta, pa, ra⟩ := h
  refine ⟨tTup ta, pe_tup pa, fun B as σ H s Q sr hw => ?_⟩
  show ta σ H _
  rw [← Bool.and_true qa] at hw
  refine WantsG.bind (s := s) hw sr ra fun x H1 da st1 e1 ev1 sr1 r1 hw1 => ?_
  simp only at hw1
  split at hw1
  · rename_i ds ep
    split at hw1
    · have rs := pureAll_rep ep r1
      refine ⟨by rw [sizeLine_eq, rs.length]; assumption, fun p hp => ?_⟩
      exact hw1.fin sr1 (Evo.new hp) (Rep.newTup rs hp (sr1.notnew hp))
    · exact hw1.elim
  · exact hw1.elim
theorem de_lst (h : DA X c W es qa f) : DE X c W (.List es pos) false qa (lstE f) := by
  obtain ⟨ta, pa, ra⟩ := h
  refine ⟨tLst ta, pe_lst pa, fun B as σ H s Q sr hw => ?_⟩
  show ta σ H _
  rw [← Bool.and_true qa] at hw
  refine WantsG.bind (s := s) hw sr ra fun x H1 da st1 e1 ev1 sr1 r1 hw1 => ?_
  simp only at hw1
  split at hw1
  · rename_i ds ep
    split at hw1
    · have rs := pureAll_rep ep r1
      refine ⟨by rw [sizeLine_eq, rs.length]; assumption, fun p hp => ?_⟩
      exact hw1.fin sr1 (Evo.new hp) (Rep.newLst rs hp (sr1.notnew hp))
    · exact hw1.elim
  · exact hw1.elim

/-! ### items -/
def itemD : PyData → PyData → Option PyData
  | .list ds, .int i => atI ds i
  | .tuple ds, .int i => atI ds i
  | .str z, .int i => if z.length ≤ 16777216 then (atI z.cps.toList i).map fun k => .str ⟨#[k]⟩ else none
  | _, _ => none
theorem atI_rep {K : PySem.W.Frag} {av : List Addr} {H : Hp} {ds : List PyData} {vs : List V} {i : Int} {d : PyData} (h : RepA K av H ds vs) (e : atI ds i = some d) : ∃ v, atI vs i = some v ∧ Rep K av H d v := by
  unfold atI at e ⊢
  rw [h.length]
  cases ej : ixN ds.length i with
  | none => rw [ej] at e; cases e
  | some j =>
    rw [ej] at e
    exact h.get e
theorem de_item {tr : Bool} (ha : DE X c W a tr qa fa) (hb : DE X c W b false qb fb) (hq : tr = true → qb = true) (hs : PlainIx b) : DE X c W (.Subscript a b pos) false (qa && qb) (bin2 itemD fa fb) := by
  obtain ⟨ta, pa, ra⟩ := ha
  obtain ⟨tb, pb, rb⟩ := hb
  refine ⟨_, pe_ix ix_seq pa pb hs, fun B as σ H s Q sr hw => ?_⟩
  show ta σ H _
  refine WantsG.bind (s := s) hw sr ra fun x H1 da st1 e1 ev1 sr1 r1 hw1 => ?_
  show tb σ H1 _
  rw [← Bool.and_true qb] at hw1
  refine WantsG.bind (s := ⟨s.env, st1⟩) hw1 sr1 rb fun y H2 db st2 e2 ev2 sr2 r2 hw2 => ?_
  obtain ⟨d, ed0, hw3⟩ := hw2.opt
  have ed : itemD da db = some d := ed0
  clear ed0
  have rt := RepX.t (r1.evo ev2 wq_sub fun z => by rw [hq z]; rfl)
  unfold itemD at ed
  split at ed
  · obtain ⟨p, vs, rfl, l, rs⟩ := rt.list
    obtain ⟨v, hv, rv⟩ := atI_rep rs ed
    exact .inl ⟨p, vs, _, v, rfl, by simpa [RepE, RepX, Rep] using r2, l, hv, hw3.fin sr2 Evo.refl rv⟩
  · obtain ⟨p, vs, rfl, l, rs⟩ := rt.tuple
    obtain ⟨v, hv, rv⟩ := atI_rep rs ed
    exact .inr (.inl ⟨p, vs, _, v, rfl, by simpa [RepE, RepX, Rep] using r2, l.sq, hv, hw3.fin sr2 Evo.refl rv⟩)
  · split at ed
    · rename_i z i hz
      cases ek : atI z.cps.toList i with
      | none => rw [ek] at ed; cases ed
      | some k =>
        rw [ek] at ed
        cases ed
        exact .inr (.inr ⟨z, i, k, rt.str, by simpa [RepE, RepX, Rep] using r2, by rw [sizeLine_eq]; exact hz, ek, hw3.fin sr2 Evo.refl (by simp [RepE, RepX, Rep])⟩)
    · cases ed
  · cases ed

/-! ### slices -/
def OE (X : Cx) (c : Cfg) (W : WX) (e : Option Expr) (f : S → Res (Option Int × Sto)) : Prop :=
  ∃ t, PO X e t ∧ ∀ (B as : List Addr) (σ : L2.St) (H : Hp) (s : S) (Q : Option Int → Hp → Prop), SR X.K c B as H σ s → WantsG X c W (fun _ _ _ a b => b = a) B as σ H s.env true Q (f s) → t σ H Q
def noneO : S → Res (Option Int × Sto) := fun s => .ok (none, s.st)
def someO (f : EvD) : S → Res (Option Int × Sto) := fun s => (f s).bind fun p => match p.1 with
  | .int i => .ok (some i, p.2)
  | _ => .stuck
theorem oe_none : OE X c W none noneO := ⟨_, po_none, fun B as σ H s Q sr hw => hw.fin sr Evo.refl rfl⟩
theorem oe_some (h : DE X c W e false true fa) : OE X c W (some e) (someO fa) := by
  obtain ⟨ta, pa, ra⟩ := h
  refine ⟨_, po_some pa, fun B as σ H s Q sr hw => ?_⟩
  show ta σ H _
  have hw' : WantsG X c W (fun _ _ _ a b => b = a) B as σ H s.env (true && true) Q ((fa s).bind fun p => match p.1 with
    | .int i => .ok (some i, p.2)
    | _ => .stuck) := hw
  refine WantsG.bind (s := s) hw' sr ra fun x H1 da st1 e1 ev1 sr1 r1 hw1 => ?_
  simp only at hw1
  split at hw1
  · exact ⟨_, by simpa [RepE, RepX, Rep] using r1, hw1.fin sr1 Evo.refl rfl⟩
  · exact hw1.elim
def cutD {α : Type} (xs : List α) (lo hi : Option Int) : List α := (xs.drop (HT.sIx xs.length 0 lo)).take (HT.sIx xs.length xs.length hi - HT.sIx xs.length 0 lo)
theorem cut_rep {K : PySem.W.Frag} {av : List Addr} {H : Hp} {ds : List PyData} {vs : List V} {lo hi : Option Int} (h : RepA K av H ds vs) : RepA K av H (cutD ds lo hi) (cutV vs lo hi) := by
  unfold cutD cutV
  rw [h.length]
  exact (h.drop _).take _
def sliceD (d : PyData) (lo hi : Option Int) : Option PyData := match d with
  | .list ds => some (.list (cutD ds lo hi))
  | .tuple ds => some (.tuple (cutD ds lo hi))
  | .str z => if z.length ≤ 16777216 then some (.str (cutS z lo hi)) else none
  | _ => none
def sliceE (fa : EvD) (fl fh : S → Res (Option Int × Sto)) : EvD := fun s => (fa s).bind fun p => (fl ⟨s.env, p.2⟩).bind fun l => (fh ⟨s.env, l.2⟩).bind fun h => ofOpt (sliceD p.1 l.1 h.1) h.2
theorem cutD_whole {α : Type} {xs : List α} {lo hi : Option Int} (h : HT.sIx xs.length 0 lo = 0 ∧ HT.sIx xs.length xs.length hi = xs.length) : cutD xs lo hi = xs := by
  unfold cutD
  rw [h.1, h.2]
  simp
theorem de_slice {tr : Bool} {lo hi : Option Expr} {p2 : Pos} {fl fh : S → Res (Option Int × Sto)} (ha : DE X c W a tr qa fa) (hl : OE X c W lo fl) (hh : OE X c W hi fh) : DE X c W (.Subscript a (.Slice lo hi none p2) pos) false qa (sliceE fa fl fh) := by
  obtain ⟨ta, pa, ra⟩ := ha
  obtain ⟨tl, pl, rl⟩ := hl
  obtain ⟨th, ph, rh⟩ := hh
  refine ⟨_, pe_slice (sl_list.or (sl_tupA.or sl_str)) pa pl ph, fun B as σ H s Q sr hw => ?_⟩
  show ta σ H _
  rw [← Bool.and_true qa] at hw
  refine WantsG.bind (s := s) hw sr ra fun x H1 da st1 e1 ev1 sr1 r1 hw1 => ?_
  show tl σ H1 _
  rw [← Bool.and_true true] at hw1
  refine WantsG.bind (s := ⟨s.env, st1⟩) hw1 sr1 rl fun y H2 db st2 e2 ev2 sr2 r2 hw2 => ?_
  show th σ H2 _
  rw [← Bool.and_true true] at hw2
  refine WantsG.bind (s := ⟨s.env, st2⟩) hw2 sr2 rh fun z H3 dc st3 e3 ev3 sr3 r3 hw3 => ?_
  obtain ⟨d, ed0, hw4⟩ := hw3.opt
  have ed : sliceD da db dc = some d := ed0
  clear ed0
  have z1 : y = db := r2
  have z2 : z = dc := r3
  subst z1 z2
  have rt := RepX.t ((r1.evo ev2 wq_sub fun _ => rfl).evo ev3 wq_sub fun _ => rfl)
  unfold sliceD at ed
  split at ed
  · cases ed
    obtain ⟨p, vs, rfl, l, rs⟩ := rt.list
    exact .inl ⟨p, vs, rfl, l, fun q hq => hw4.fin sr3 (Evo.new hq) (Rep.newLst (cut_rep rs) hq (sr3.notnew hq))⟩
  · cases ed
    obtain ⟨p, vs, rfl, l, rs⟩ := rt.tuple
    refine .inr (.inl ⟨p, vs, rfl, l.sq, fun hwh => ?_, fun _ q hq => hw4.fin sr3 (Evo.new hq) (Rep.newTup (cut_rep rs) hq (sr3.notnew hq))⟩)
    rw [rs.length] at hwh
    rw [cutD_whole hwh] at hw4
    refine hw4.fin sr3 Evo.refl ?_
    simp only [RepE, RepX, Bool.false_eq_true, if_false, Rep]
    exact ⟨p, vs, rfl, l, rs⟩
  · split at ed
    · rename_i zz hz
      cases ed
      exact .inr (.inr ⟨zz, rt.str, by rw [sizeLine_eq]; exact hz, hw4.fin sr3 Evo.refl (by simp [RepE, RepX, Rep])⟩)
    · cases ed
  · cases ed
end
end DL
end
section
set_option Elab.async false
set_option linter.all false
set_option maxRecDepth 100000
set_option maxHeartbeats 1000000
/-! sorted of a tuple (the library has lists alone). -/
namespace PySem.W
open PySem PySem.Calls PyProof.Rows
section
variable {prog : Program} {w : World} {A : Around} {E : Value → Shared → Prop} {s : Shared} {β : Type} {vs : List Value} {bs : List β} {enc : β → PyData} {R : Value → β → Prop}
theorem collect_tupT {l : Addr} {vs : List Value} {Q : List Value → Shared → Prop} (hl : IsTup s.heap l vs.toArray)
    (h : Q vs { s with heap := (s.heap.push (seqObj "list" #[] 0)).update s.heap.objs.size (Obj.mapSeq (· ++ vs.toArray)) }) (hsz : vs.length ≤ sizeLine) :
    wpAny (model prog w) A (collect (.ref l)) Q E s := by
  obtain ⟨o, ho, hc, n, hd⟩ := id hl
  unfold collect
  refine wpAny_bind (wpAny_runValue (codeAny_builtin entry_proto_collect' ?_))
  show wpAny _ _ (do again (.builtin "list.__iadd__" ⟨[← newList [], .ref l], []⟩)) _ _ s
  refine wpAny_bind (wpAny_newList (wpAny_pure ⟨Code.quiet_builtin _ (by decide +kernel), codeAny_builtin entry_list_iadd' ?_⟩))
  show wpAny _ _ (Builtin.List.listExtendWith (.ref s.heap.objs.size) (.ref l) (.ref s.heap.objs.size)) _ _ { s with heap := s.heap.push (seqObj "list" #[] 0) }
  unfold Builtin.List.listExtendWith
  have ho' : (s.heap.push (seqObj "list" #[] 0)).get? l = some o := Heap.get?_push_of_some _ ho
  refine wpAny_bind (wpAny_typeOf (T := "tuple") ⟨o, ho', hc⟩ ?_)
  have ht : (Value.type "tuple" == Value.type "tuple") = true := by rfl
  rw [if_pos (by rw [ht]; simp)]
  refine wpAny_bind (listItems_at ho' hd ?_)
  refine wpAny_bind (listItems_at (xs := #[]) (n := 0) (Heap.get?_push_size _ rfl) rfl ?_)
  rw [if_neg (by simp)]
  refine wpAny_bind (listUpdate_at (xs := #[]) (n := 0) (Heap.get?_push_size _ rfl) rfl ?_ (Nat.zero_le _) (by show (#[] ++ vs.toArray).size ≤ sizeLine + 1; simp only [Array.size_append, List.size_toArray, List.length_nil]; omega))
  refine wpAny_pure ?_
  show wpAny (model prog w) A (do
      let o ← load s.heap.objs.size
      match o.data with
      | .seq xs _ => pure xs.toList
      | _ => unsupported "internal:collect") Q E { s with heap := (s.heap.push (seqObj "list" #[] 0)).update s.heap.objs.size (Obj.mapSeq (· ++ vs.toArray)) }
  refine wpAny_bind (wpAny_load (get?_update_seq (Heap.get?_push_size _ rfl) _) ?_)
  show wpAny _ _ (pure ((#[] : Array Value) ++ vs.toArray).toList) Q E _
  rw [show ((#[] : Array Value) ++ vs.toArray).toList = vs by simp]
  exact wpAny_pure h
theorem sorted_of_sortT {l : Addr} {vs : List Value} {kw : List (Str × Value)} {Q : Value → Shared → Prop} (hl : IsTup s.heap l vs.toArray) (hL : vs.length ≤ sizeLine) (ha1 : argsOk "sorted" ⟨[.ref l], kw⟩) (ha2 : ∀ x, argsOk "list.sort" ⟨[.ref x], kw⟩)
    (body : ∀ E' : Value → Shared → Prop, wpAny (model prog w) A.in1.in1 (Builtin.«list.sort» ⟨[.ref (s.heap.objs.size + 1)], kw⟩) (fun f s' => f = .done (.ret .none) ∧ Q (.ref (s.heap.objs.size + 1)) s') E' { s with heap := copyHeap s.heap vs }) :
    wpAny (model prog w) A (call (.builtin "sorted") [.ref l] kw) Q E s := by
  refine call_function_entry_kw kind_sorted plain_sorted entry_sorted ha1 ?_
  unfold Builtin.«sorted»
  refine wpAny_bind (m := checkCount "sorted" 1 1 _) (wpAny_pure ?_)
  refine wpAny_bind (collect_tupT hl ?_ hL)
  refine wpAny_bind (wpAny_newList ?_ hL)
  have hsz : ((s.heap.push (seqObj "list" #[] 0)).update s.heap.objs.size (Obj.mapSeq (· ++ vs.toArray))).objs.size = s.heap.objs.size + 1 := by
    rw [Heap.size_update, size_push']
  show wpAny _ _ _ _ _ { s with heap := copyHeap s.heap vs }
  rw [hsz]
  refine wpAny_bind (wpAny_holding (wpAny_call_entry_kw slot_list_sort ⟨_, copyHeap_at s.heap vs, rfl⟩ entry_list_sort ?body (ha2 _)))
  case body =>
    show wpAny (model prog w) A.in1.in1 (Builtin.«list.sort» ⟨[.ref (s.heap.objs.size + 1)], kw⟩) _ _ _
    refine wpAny_mono (body _) (fun f s' hf => ?_) fun _ _ e => e
    obtain ⟨rfl, hq⟩ := hf
    exact ⟨_, rfl, wpAny_pure ⟨_, rfl, hq⟩⟩
theorem sorted_valsT {κ : PyProof.Rows.KeyKind} {l : Addr} {vs : List Value} {Q : Value → Shared → Prop} (hl : IsTup s.heap l vs.toArray) (S : SortsAt prog w A.in1.in1 { s with heap := sortingHeap (copyHeap s.heap vs) (s.heap.objs.size + 1) vs } κ vs) (hL : vs.length ≤ sizeLine)
    (h : Q (.ref (s.heap.objs.size + 1)) { s with heap := sortedAll s.heap vs (sortVals κ false vs vs).toArray }) : wpAny (model prog w) A (call (.builtin "sorted") [.ref l]) Q E s :=
  sorted_of_sortT hl hL (args_sorted1 _) (fun _ => args_list_sort _) fun _ => list_sort_vals (s := { s with heap := copyHeap s.heap vs }) (copyHeap_at s.heap vs) S hL ⟨rfl, h⟩
theorem sorted_dataT {l : Addr} {Q : Value → Shared → Prop} (hl : IsTup s.heap l vs.toArray) (e : EachIs R vs bs) (er : EachIs (fun v b => ∃ as, Reads s.heap v (enc b) as) vs bs) (hal : AllAlike (bs.map enc)) (hk : Sortable (bs.map enc)) (hL : bs.length ≤ sizeLine)
    (hu : ∀ b, b ∈ bs → A.units + 2 + (enc b).depth < cLine) (h : ∀ out, out.length = bs.length → EachIs R out (bs.mergeSort (dataLe false enc)) → Q (.ref (s.heap.objs.size + 1)) { s with heap := sortedAll s.heap vs (List.toArray out) }) :
    wpAny (model prog w) A (call (.builtin "sorted") [.ref l]) Q E s := by
  have er' : EachIs (fun v b => ∃ as, Reads (sortingHeap (copyHeap s.heap vs) (s.heap.objs.size + 1) vs) v (enc b) as) vs bs := er.mono fun _ _ ⟨as, r⟩ => ⟨as, PyProof.Rows.Reads.keeps (fun _ _ => sorting_copy_old) r⟩
  exact sorted_valsT hl (SortsAt.data (s := { s with heap := sortingHeap (copyHeap s.heap vs) (s.heap.objs.size + 1) vs }) (each_map (R := fun v d => ∃ as, Reads (sortingHeap (copyHeap s.heap vs) (s.heap.objs.size + 1) vs) v d as) enc er') hal hk (bound_map hu)) (by rw [e.length]; exact hL)
    (h _ (by rw [sortVals_length false rfl]; exact e.length) (sortVals_data false e er' hal))
end
end PySem.W
end
section
set_option Elab.async false
set_option linter.all false
set_option maxRecDepth 100000
set_option maxHeartbeats 1000000
/-! The data layer, part e: built-ins. -/
namespace DL
open PySem PySem.Spec PyProof.Rows L2 PySem.SeqAt PySem.W
/-! ### calls of built-ins with one argument -/
def CallD (X : Cx) (f : Value) (g : PyData → Option PyData) : Prop :=
  ∃ r, CallR X f r ∧ ∀ (H : Hp) (x : V) (dx d : PyData) (av : List Addr) (Q : VK), (∀ p, H p = none → p ∉ av) → RepT X.K av H dx x → g dx = some d → (∀ z H', Evo [] H H' → Rep X.K av H' d z → Q z H') → r [x] H Q
def un1 (g : PyData → Option PyData) (fa : EvD) : EvD := fun s => (fa s).bind fun p => ofOpt (g p.1) p.2
section
variable {X : Cx} {c : Cfg} {W : WX} {B as : List Addr} {σ : L2.St} {H H1 : Hp} {s : S} {a b e : Expr} {p pos : Pos} {fa fb : EvD} {qa qb tr : Bool} {g : PyData → Option PyData}
theorem un1_ref {ta : TE} {r : List V → Hp → VK → Prop} (hg : ∀ (H : Hp) (x : V) (dx d : PyData) (av : List Addr) (Q : VK), (∀ p, H p = none → p ∉ av) → RepT X.K av H dx x → g dx = some d → (∀ z H', Evo [] H H' → Rep X.K av H' d z → Q z H') → r [x] H Q)
    (ra : ∀ (B as : List Addr) (σ : L2.St) (H : Hp) (s : S) (Q : VK), SR X.K c B as H σ s → WantsG X c W (RepE X.K tr) B as σ H s.env qa Q (fa s) → ta σ H Q)
    {Q : VK} (sr : SR X.K c B as H σ s) (hw : WantsG X c W (RepE X.K false) B as σ H s.env qa Q (un1 g fa s)) : tCB r (tCons ta tNil) σ H Q := by
  show ta σ H _
  rw [← Bool.and_true qa] at hw
  refine WantsG.bind (s := s) hw sr ra fun x H1 da st1 e1 ev1 sr1 r1 hw1 => ?_
  obtain ⟨d, ed, hw3⟩ := hw1.opt
  exact hg H1 x da d _ _ (fun p hp => sr1.notnew hp) (RepX.t r1) ed fun z H3 ev3 rz => hw3.fin sr1 ev3 rz
theorem de_callB {x : Str} {id : String} (h : CallD X (.builtin id) g) (hg : Gl X x) (hm : X.mg x = none) (hv : bootBuiltins x = some (.builtin id)) (ha : DE X c W a tr qa fa) (hs : starEach [a] X.env = (false, eval a X.env) :: starEach [] X.env)
    (hn : x ≠ "__name__") (hdb : (x == ("__debug__" : Str)) = false) : DE X c W (.Call (.Name x p) [a] [] pos) false qa (un1 g fa) := by
  obtain ⟨r, hr, gr⟩ := h
  obtain ⟨ta, pa, ra⟩ := ha
  exact ⟨_, pe_callB hr hg hm hv (pa_cons pa pa_nil hs) hn hdb hs rfl, fun B as σ H s Q sr hw => un1_ref gr ra sr hw⟩
theorem de_callTy {x : Str} {T : String} (h : CallD X (.type T) g) (hg : Gl X x) (hm : X.mg x = none) (hv : bootBuiltins x = some (.type T)) (ha : DE X c W a tr qa fa) (hs : starEach [a] X.env = (false, eval a X.env) :: starEach [] X.env)
    (hn : x ≠ "__name__") (hdb : (x == ("__debug__" : Str)) = false) : DE X c W (.Call (.Name x p) [a] [] pos) false qa (un1 g fa) := by
  obtain ⟨r, hr, gr⟩ := h
  obtain ⟨ta, pa, ra⟩ := ha
  exact ⟨_, pe_callTy hr hg hm hv (pa_cons pa pa_nil hs) hn hdb hs rfl, fun B as σ H s Q sr hw => un1_ref gr ra sr hw⟩
/-- with two arguments, numbers -/
def CallD2 (X : Cx) (f : Value) (g : PyData → PyData → Option PyData) : Prop :=
  ∃ r, CallR X f r ∧ ∀ (H : Hp) (x y : V) (dx dy d : PyData) (av : List Addr) (Q : VK), (∀ p, H p = none → p ∉ av) → Rep X.K av H dx x → Rep X.K av H dy y → g dx dy = some d → (∀ z H', Evo [] H H' → Rep X.K av H' d z → Q z H') → r [x, y] H Q
theorem de_callB2 {x : Str} {id : String} {g : PyData → PyData → Option PyData} (h : CallD2 X (.builtin id) g) (hg : Gl X x) (hm : X.mg x = none) (hv : bootBuiltins x = some (.builtin id)) (ha : DE X c W a false qa fa) (hb : DE X c W b false qb fb)
    (hs : starEach [a, b] X.env = (false, eval a X.env) :: starEach [b] X.env) (hs2 : starEach [b] X.env = (false, eval b X.env) :: starEach [] X.env)
    (hn : x ≠ "__name__") (hdb : (x == ("__debug__" : Str)) = false) : DE X c W (.Call (.Name x p) [a, b] [] pos) false (qa && qb) (bin2 g fa fb) := by
  obtain ⟨r, hr, gr⟩ := h
  obtain ⟨ta, pa, ra⟩ := ha
  obtain ⟨tb, pb, rb⟩ := hb
  refine ⟨_, pe_callB hr hg hm hv (pa_cons pa (pa_cons pb pa_nil hs2) hs) hn hdb hs (by rw [hs2]; rfl), fun B as σ H s Q sr hw => ?_⟩
  show ta σ H _
  refine WantsG.bind (s := s) hw sr ra fun x H1 da st1 e1 ev1 sr1 r1 hw1 => ?_
  show tb σ H1 _
  rw [← Bool.and_true qb] at hw1
  refine WantsG.bind (s := ⟨s.env, st1⟩) hw1 sr1 rb fun y H2 db st2 e2 ev2 sr2 r2 hw2 => ?_
  obtain ⟨d, ed, hw3⟩ := hw2.opt
  exact gr H2 x y da db d _ _ (fun p hp => sr2.notnew hp) (Rep.evo ev2 wq_sub _ _ r1) r2 ed fun z H3 ev3 rz => hw3.fin sr2 ev3 rz
end

/-! ### len, abs, int, tuple, list, sum -/
def lenD : PyData → Option PyData
  | .list ds => some (.int ds.length)
  | .tuple ds => some (.int ds.length)
  | .str z => if z.length ≤ 16777216 then some (.int z.length) else none
  | _ => none
def absD : PyData → Option PyData
  | .int i => some (.int (if i < 0 then -i else i))
  | _ => none
def intD : PyData → Option PyData
  | .int i => some (.int i)
  | .bool k => some (.int (if k then 1 else 0))
  | _ => none
def tupleD : PyData → Option PyData
  | .list ds => some (.tuple ds)
  | .tuple ds => some (.tuple ds)
  | _ => none
def listD : PyData → Option PyData
  | .list ds => some (.list ds)
  | .tuple ds => some (.list ds)
  | _ => none
def intsOf : List PyData → Option (List Int)
  | [] => some []
  | .int i :: r => (intsOf r).map (i :: ·)
  | _ => none
def sumD : PyData → Option PyData
  | .list ds => (intsOf ds).map fun ns => .int ns.sum
  | _ => none
theorem intsOf_eq : ∀ {ds : List PyData} {ns : List Int}, intsOf ds = some ns → ds = ns.map .int
  | [], ns, e => by cases e; rfl
  | .int i :: r, ns, e => by
    unfold intsOf at e
    cases e2 : intsOf r with
    | none => rw [e2] at e; cases e
    | some x => rw [e2] at e; cases e; rw [intsOf_eq e2]; rfl
  | .none :: _, _, e => by cases e
  | .bool _ :: _, _, e => by cases e
  | .str _ :: _, _, e => by cases e
  | .list _ :: _, _, e => by cases e
  | .tuple _ :: _, _, e => by cases e
  | .dict _ :: _, _, e => by cases e
theorem rep_ints {K : PySem.W.Frag} {av : List Addr} {H : Hp} : ∀ {ns : List Int} {vs : List V}, RepA K av H (ns.map .int) vs → vs = ns.map V.int
  | [], vs, h => by simpa [RepA] using h
  | n :: ns, vs, h => by
    rw [List.map_cons] at h
    simp only [RepA, Rep] at h
    obtain ⟨v, r, rfl, rfl, h2⟩ := h
    rw [rep_ints h2]; rfl
theorem ints_rep {K : PySem.W.Frag} {av : List Addr} {H : Hp} : ∀ (ns : List Int), RepA K av H (ns.map .int) (ns.map V.int)
  | [] => .nil
  | n :: ns => .cons (by simp [Rep]) (ints_rep ns)
section
variable {X : Cx}
theorem cd_len : CallD X (.builtin "len") lenD := by
  refine ⟨_, call_len_seq.or call_len_str, fun H x dx d av Q hav r e hQ => ?_⟩
  unfold lenD at e
  split at e
  · cases e
    obtain ⟨a, vs, rfl, l, rs⟩ := r.list
    exact .inl ⟨a, vs, rfl, .inl l, by rw [rs.length]; exact hQ _ H Evo.refl (by simp [Rep])⟩
  · cases e
    obtain ⟨a, vs, rfl, l, rs⟩ := r.tuple
    exact .inl ⟨a, vs, rfl, .inr l.sq, by rw [rs.length]; exact hQ _ H Evo.refl (by simp [Rep])⟩
  · split at e
    · rename_i z hz
      cases e
      have := r.str
      subst this
      exact .inr ⟨z, rfl, by rw [sizeLine_eq]; exact hz, hQ _ H Evo.refl (by simp [Rep])⟩
    · cases e
  · cases e
theorem cd_abs : CallD X (.builtin "abs") absD := by
  refine ⟨_, call_abs, fun H x dx d av Q hav r e hQ => ?_⟩
  unfold absD at e
  split at e
  · cases e
    have := r.int
    subst this
    exact ⟨_, rfl, hQ _ H Evo.refl (by simp [Rep])⟩
  · cases e
theorem cd_int : CallD X (.type "int") intD := by
  refine ⟨_, call_int1, fun H x dx d av Q hav r e hQ => ?_⟩
  unfold intD at e
  split at e
  · cases e
    have := r.int
    subst this
    exact .inl ⟨_, rfl, hQ _ H Evo.refl (by simp [Rep])⟩
  · cases e
    have := r.bool
    subst this
    exact .inr ⟨_, rfl, hQ _ H Evo.refl (by simp [Rep])⟩
  · cases e
theorem cd_tuple : CallD X (.type "tuple") tupleD := by
  refine ⟨_, call_tuple_of, fun H x dx d av Q hav r e hQ => ?_⟩
  unfold tupleD at e
  split at e
  · cases e
    obtain ⟨a, vs, rfl, l, rs⟩ := r.list
    exact ⟨a, vs, rfl, .inl ⟨l, fun p hp => hQ _ _ (Evo.new hp) (Rep.newTup rs hp (hav p hp))⟩⟩
  · cases e
    obtain ⟨a, vs, rfl, l, rs⟩ := r.tuple
    exact ⟨a, vs, rfl, .inr ⟨l.sq, hQ _ H Evo.refl (by simp only [Rep]; exact ⟨a, vs, rfl, l, rs⟩)⟩⟩
  · cases e
theorem cd_list : CallD X (.type "list") listD := by
  refine ⟨_, call_list_of, fun H x dx d av Q hav r e hQ => ?_⟩
  unfold listD at e
  split at e
  · cases e
    obtain ⟨a, vs, rfl, l, rs⟩ := r.list
    exact ⟨a, vs, rfl, .inl l, fun p hp => hQ _ _ (Evo.new hp) (Rep.newLst rs hp (hav p hp))⟩
  · cases e
    obtain ⟨a, vs, rfl, l, rs⟩ := r.tuple
    exact ⟨a, vs, rfl, .inr l.sq, fun p hp => hQ _ _ (Evo.new hp) (Rep.newLst rs hp (hav p hp))⟩
  · cases e
theorem cd_sum (hc : X.calm = true) : CallD X (.builtin "sum") sumD := by
  refine ⟨_, cr_sum hc, fun H x dx d av Q hav r e hQ => ?_⟩
  unfold sumD at e
  split at e
  · rename_i ds
    cases ei : intsOf ds with
    | none => rw [ei] at e; cases e
    | some ns =>
      rw [ei] at e
      cases e
      obtain ⟨a, vs, rfl, l, rs⟩ := r.list
      rw [intsOf_eq ei] at rs
      rw [rep_ints rs] at l
      exact ⟨a, ns, rfl, l, hQ _ H Evo.refl (by simp [Rep])⟩
  · cases e
def max2D : PyData → PyData → Option PyData
  | .int a, .int b => some (.int (if b > a then b else a))
  | _, _ => none
def min2D : PyData → PyData → Option PyData
  | .int a, .int b => some (.int (if b < a then b else a))
  | _, _ => none
theorem cd_max2 (hc : X.calm = true) : CallD2 X (.builtin "max") max2D := by
  refine ⟨_, call_max2 hc, fun H x y dx dy d av Q hav r1 r2 e hQ => ?_⟩
  unfold max2D at e
  split at e
  · cases e
    simp only [Rep] at r1 r2
    subst r1 r2
    exact ⟨_, _, rfl, hQ _ H Evo.refl (by simp [Rep])⟩
  · cases e
theorem cd_min2 (hc : X.calm = true) : CallD2 X (.builtin "min") min2D := by
  refine ⟨_, call_min2 hc, fun H x y dx dy d av Q hav r1 r2 e hQ => ?_⟩
  unfold min2D at e
  split at e
  · cases e
    simp only [Rep] at r1 r2
    subst r1 r2
    exact ⟨_, _, rfl, hQ _ H Evo.refl (by simp [Rep])⟩
  · cases e

/-! ### least, greatest, sorted -/
open Classical in
noncomputable def minDD : PyData → Option PyData
  | .list (d :: ds) => if AlikeAll (d :: ds) ∧ PyData.depthAll (d :: ds) ≤ 40 then some (minD d ds) else none
  | _ => none
open Classical in
noncomputable def maxDD : PyData → Option PyData
  | .list (d :: ds) => if AlikeAll (d :: ds) ∧ PyData.depthAll (d :: ds) ≤ 40 then some (maxD d ds) else none
  | _ => none
theorem pick_rep {pins : List (Addr × Obj)} {s : Shared} {σ : L2.St} {H : Hp} {av : List Addr} {ds : List PyData} {vs : List V} {its : List Value} (I : Inv X pins σ H s) (rs : RepA X.K av H ds vs) (rv : Vals vs its) {i : Nat} {v : Value} {m : PyData} {bs : List Addr}
    (hv : its[i]? = some v) (hr : Reads s.heap v m bs) : ∃ x, RelV x v ∧ Rep X.K av H m x := by
  have hi : i < its.length := (List.getElem?_eq_some_iff.mp hv).1
  have h2 : i < ds.length := by rw [← rs.length, rv.length]; exact hi
  obtain ⟨x, hx, rx⟩ := rs.get (List.getElem?_eq_getElem h2)
  obtain ⟨u, hu, ru⟩ := rv.get hx
  rw [hv] at hu
  cases hu
  obtain ⟨as, q⟩ := Rep.reads I _ x v rx ru
  have e := plain_unique _ _ v as bs (Rep.plain _ x rx) q hr
  exact ⟨x, ru, by rw [← e]; exact rx⟩
theorem cd_min (hc : X.calm = true) (hu : X.A.units + 64 < cLine) : CallD X (.builtin "min") minDD := by
  refine ⟨fun xs H Q => ∃ av x dx d, xs = [x] ∧ RepT X.K av H dx x ∧ minDD dx = some d ∧ ∀ z, Rep X.K av H d z → Q z H, ?_, fun H x dx d av Q hav r e hQ => ⟨av, x, dx, d, rfl, r, e, fun z rz => hQ z H Evo.refl rz⟩⟩
  intro pins s σ H xs us Q I rv h
  obtain ⟨av, x, dx, d, rfl, r, e, hQ⟩ := h
  unfold minDD at e
  split at e
  · rename_i d0 ds
    split at e
    · rename_i hal
      cases e
      obtain ⟨a, vs, rfl, l, rs⟩ := r.list
      rw [Vals.ref1 rv]
      obtain ⟨its, rvs, hl, _⟩ := I.list l
      obtain ⟨as, hr⟩ := RepA.reads I _ vs its rs rvs
      refine min_list_data (I.ok.hd hc) hl.isList (by simpa using hr) hal.1 (by omega) fun i v h' tk bs hv hm hk => ?_
      have I1 : Inv X pins σ H { s with heap := h', toks := tk } := I.kept hk
      obtain ⟨z, rz, qz⟩ := pick_rep I1 rs rvs (by simpa using hv) hm
      exact ⟨z, H, I1, rz, hQ z qz⟩
    · cases e
  · cases e
theorem cd_max (hc : X.calm = true) (hu : X.A.units + 64 < cLine) : CallD X (.builtin "max") maxDD := by
  refine ⟨fun xs H Q => ∃ av x dx d, xs = [x] ∧ RepT X.K av H dx x ∧ maxDD dx = some d ∧ ∀ z, Rep X.K av H d z → Q z H, ?_, fun H x dx d av Q hav r e hQ => ⟨av, x, dx, d, rfl, r, e, fun z rz => hQ z H Evo.refl rz⟩⟩
  intro pins s σ H xs us Q I rv h
  obtain ⟨av, x, dx, d, rfl, r, e, hQ⟩ := h
  unfold maxDD at e
  split at e
  · rename_i d0 ds
    split at e
    · rename_i hal
      cases e
      obtain ⟨a, vs, rfl, l, rs⟩ := r.list
      rw [Vals.ref1 rv]
      obtain ⟨its, rvs, hl, _⟩ := I.list l
      obtain ⟨as, hr⟩ := RepA.reads I _ vs its rs rvs
      refine max_list_data (I.ok.hd hc) hl.isList (by simpa using hr) hal.1 (by omega) fun i v h' tk bs hv hm hk => ?_
      have I1 : Inv X pins σ H { s with heap := h', toks := tk } := I.kept hk
      obtain ⟨z, rz, qz⟩ := pick_rep I1 rs rvs (by simpa using hv) hm
      exact ⟨z, H, I1, rz, hQ z qz⟩
    · cases e
  · cases e
def sortD (ds : List PyData) : List PyData := ds.mergeSort (dataLe false fun d => d)
open Classical in
noncomputable def sortedDD : PyData → Option PyData
  | .list ds => if AllAlike ds ∧ Sortable ds ∧ PyData.depthAll ds ≤ 40 then some (.list (sortD ds)) else none
  | .tuple ds => if AllAlike ds ∧ Sortable ds ∧ PyData.depthAll ds ≤ 40 then some (.list (sortD ds)) else none
  | _ => none
theorem depth_mem : ∀ {ds : List PyData} {d : PyData}, d ∈ ds → d.depth ≤ PyData.depthAll ds
  | x :: xs, d, h => by
    rw [PyData.depthAll]
    rcases List.mem_cons.mp h with e | e
    · rw [e]; exact Nat.le_max_left _ _
    · exact Nat.le_trans (depth_mem e) (Nat.le_max_right _ _)
/-- the pairs of data and values -/
theorem each_pairs {av : List Addr} {pins : List (Addr × Obj)} {s : Shared} {σ : L2.St} {H : Hp} (I : Inv X pins σ H s) : ∀ {ds : List PyData} {vs : List V} {its : List Value}, RepA X.K av H ds vs → Vals vs its →
    EachIs (fun (v : Value) (b : PyData × V) => RelV b.2 v ∧ Rep X.K av H b.1 b.2) its (ds.zip vs) ∧ EachIs (fun (v : Value) (b : PyData × V) => ∃ as, Reads s.heap v b.1 as) its (ds.zip vs)
  | [], vs, its, h, r => by
    simp only [RepA] at h
    subst h
    cases r
    exact ⟨.nil, .nil⟩
  | d :: ds, vs, its, h, r => by
    simp only [RepA] at h
    obtain ⟨v, q, rfl, h1, h2⟩ := h
    cases r with
    | cons r1 r2 =>
      obtain ⟨a1, a2⟩ := each_pairs I h2 r2
      exact ⟨.cons ⟨r1, h1⟩ a1, .cons (Rep.reads I d v _ h1 r1) a2⟩
theorem pairs_back {av : List Addr} {H : Hp} : ∀ {out : List Value} {bs : List (PyData × V)}, EachIs (fun (v : Value) (b : PyData × V) => RelV b.2 v ∧ Rep X.K av H b.1 b.2) out bs → RepA X.K av H (bs.map (·.1)) (bs.map (·.2)) ∧ Vals (bs.map (·.2)) out
  | _, _, .nil => ⟨.nil, .nil⟩
  | _, _, .cons h t => by
    obtain ⟨q1, q2⟩ := pairs_back t
    exact ⟨.cons h.2 q1, .cons h.1 q2⟩
theorem cd_sorted (hu : X.A.units + 64 < cLine) : CallD X (.builtin "sorted") sortedDD := by
  refine ⟨fun xs H Q => ∃ av x dx d, xs = [x] ∧ (∀ p, H p = none → p ∉ av) ∧ RepT X.K av H dx x ∧ sortedDD dx = some d ∧ ∀ z H', Evo [] H H' → Rep X.K av H' d z → Q z H', ?_, fun H x dx d av Q hav r e hQ => ⟨av, x, dx, d, rfl, hav, r, e, hQ⟩⟩
  intro pins s σ H xs us Q I rv h
  obtain ⟨av, x, dx, d, rfl, hav, r, e, hQ⟩ := h
  unfold sortedDD at e
  split at e
  · rename_i ds
    split at e
    · rename_i hal
      cases e
      obtain ⟨a, vs, rfl, l, rs⟩ := r.list
      rw [Vals.ref1 rv]
      obtain ⟨its, rvs, hl, hz⟩ := I.list l
      obtain ⟨e1, e2⟩ := each_pairs I rs rvs
      have hmap : (ds.zip vs).map (fun b => b.1) = ds := by rw [List.map_fst_zip]; rw [rs.length]; exact Nat.le_refl _
      have hlen : (ds.zip vs).length = vs.length := by rw [List.length_zip, rs.length]; omega
      refine sorted_data (enc := fun b : PyData × V => b.1) (bs := ds.zip vs) hl.isList e1 e2 (by rw [hmap]; exact hal.1) (by rw [hmap]; exact hal.2.1) (by rw [hlen]; exact hz) (fun b hb => ?_) fun out h1 h2 => ?_
      · have : b.1 ∈ ds := by rw [← hmap]; exact List.mem_map.mpr ⟨b, hb, rfl⟩
        have := depth_mem this
        have := hal.2.2
        omega
      · obtain ⟨q1, q2⟩ := pairs_back h2
        have hs : ((ds.zip vs).mergeSort (dataLe false fun b => b.1)).map (fun b => b.1) = sortD ds := by
          exact (sort_maps (r := dataLe false fun b : PyData × V => b.1) (s := dataLe false fun d => d) (fun b : PyData × V => b.1) (fun a _ b _ => rfl)).trans (by rw [hmap]; rfl)
        rw [hs] at q1
        obtain ⟨ep, he'⟩ := PyProof.Rows.sortedAll_at s.heap its out.toArray
        refine ⟨.ref _, upd H (s.heap.objs.size + 1) (.lst _), I.laid (t' := s.toks) (fun _ _ => PyProof.Rows.sortedAll_old) (Nat.le_succ _) ⟨?_, out, ep, q2, by simpa using he'⟩, rfl, ?_⟩
        · rw [List.length_map, List.length_mergeSort, hlen]; exact hz
        · have hn := I.hok.fresh (Nat.le_succ s.heap.objs.size)
          exact hQ _ _ (Evo.new hn) (Rep.newLst q1 hn (hav _ hn))
    · cases e
  · rename_i ds
    split at e
    · rename_i hal
      cases e
      obtain ⟨a, vs, rfl, l, rs⟩ := r.tuple
      rw [Vals.ref1 rv]
      obtain ⟨its, rvs, hl, hz⟩ := I.tuple l.sq
      obtain ⟨e1, e2⟩ := each_pairs I rs rvs
      have hmap : (ds.zip vs).map (fun b => b.1) = ds := by rw [List.map_fst_zip]; rw [rs.length]; exact Nat.le_refl _
      have hlen : (ds.zip vs).length = vs.length := by rw [List.length_zip, rs.length]; omega
      refine sorted_dataT (enc := fun b : PyData × V => b.1) (bs := ds.zip vs) hl e1 e2 (by rw [hmap]; exact hal.1) (by rw [hmap]; exact hal.2.1) (by rw [hlen]; exact hz) (fun b hb => ?_) fun out h1 h2 => ?_
      · have : b.1 ∈ ds := by rw [← hmap]; exact List.mem_map.mpr ⟨b, hb, rfl⟩
        have := depth_mem this
        have := hal.2.2
        omega
      · obtain ⟨q1, q2⟩ := pairs_back h2
        have hs : ((ds.zip vs).mergeSort (dataLe false fun b => b.1)).map (fun b => b.1) = sortD ds := by
          exact (sort_maps (r := dataLe false fun b : PyData × V => b.1) (s := dataLe false fun d => d) (fun b : PyData × V => b.1) (fun a _ b _ => rfl)).trans (by rw [hmap]; rfl)
        rw [hs] at q1
        obtain ⟨ep, he'⟩ := PyProof.Rows.sortedAll_at s.heap its out.toArray
        refine ⟨.ref _, upd H (s.heap.objs.size + 1) (.lst _), I.laid (t' := s.toks) (fun _ _ => PyProof.Rows.sortedAll_old) (Nat.le_succ _) ⟨?_, out, ep, q2, by simpa using he'⟩, rfl, ?_⟩
        · rw [List.length_map, List.length_mergeSort, hlen]; exact hz
        · have hn := I.hok.fresh (Nat.le_succ s.heap.objs.size)
          exact hQ _ _ (Evo.new hn) (Rep.newLst q1 hn (hav _ hn))
    · cases e
  · cases e

/-! ### isinstance -/
inductive Ty where
  | int | bool | str | list | tuple
  deriving DecidableEq
def Ty.name : Ty → String
  | .int => "int"
  | .bool => "bool"
  | .str => "str"
  | .list => "list"
  | .tuple => "tuple"
def kindOf : PyData → String
  | .none => "NoneType"
  | .bool _ => "bool"
  | .int _ => "int"
  | .str _ => "str"
  | .list _ => "list"
  | .tuple _ => "tuple"
  | .dict _ => "dict"
def isiB : Ty → PyData → Bool
  | .int, .int _ => true
  | .int, .bool _ => true
  | .bool, .bool _ => true
  | .str, .str _ => true
  | .list, .list _ => true
  | .tuple, .tuple _ => true
  | _, _ => false
theorem kit_ok (T : Ty) (d : PyData) : kitB (kindOf d) T.name = some (isiB T d) := by
  cases d <;> cases T <;> first
    | (show kitB "NoneType" _ = some _; simp only [Ty.name, isiB]; decide +kernel)
    | (simp only [Ty.name, isiB, kindOf]; decide +kernel)
theorem repT_ty {K : PySem.W.Frag} {av : List Addr} {H : Hp} {d : PyData} {x : V} (r : RepT K av H d x) : TyX K H x (.type (kindOf d)) := by
  cases d with
  | none => have := r.none; subst this; exact .base .non
  | bool b => have := r.bool; subst this; exact .base (.bl b)
  | int b => have := r.int; subst this; exact .base (.int b)
  | str b => have := r.str; subst this; exact .base (.str b)
  | list ds =>
    obtain ⟨a, vs, rfl, l, _⟩ := r.list
    rcases l with (l | ⟨o, l⟩) | ⟨o, its, n, l, hc, _⟩
    · exact .base (.lst l)
    · exact .base (.frz l)
    · exact .kList l hc
  | tuple ds =>
    obtain ⟨a, vs, rfl, l, _⟩ := r.tuple
    rcases l with ⟨l | ⟨o, l⟩, _⟩ | ⟨o, its, n, l, hc, _⟩
    · exact .base (.tup l)
    · exact .fTuple l
    · exact .kTuple l hc
  | dict kvs =>
    rcases r with r | ⟨a, ds, vs, z, _⟩
    · simp [Rep] at r
    · cases z
def isiE (T : Ty) (fa : EvD) : EvD := un1 (fun d => some (.bool (isiB T d))) fa
theorem de_isi {c : Cfg} {W : WX} {a : Expr} {x T : Str} {p p2 pos : Pos} {ty : Ty} {tr qa : Bool} {fa : EvD} (hg : Gl X x) (hm : X.mg x = none) (hv : bootBuiltins x = some (.builtin "isinstance")) (hgT : Gl X T) (hmT : X.mg T = none) (hvT : bootBuiltins T = some (.type ty.name))
    (ha : DE X c W a tr qa fa) (hs : starEach [a, .Name T p2] X.env = (false, eval a X.env) :: starEach [.Name T p2] X.env) (hn : x ≠ "__name__") (hdb : (x == ("__debug__" : Str)) = false) (hnT : T ≠ "__name__") (hdbT : (T == ("__debug__" : Str)) = false) :
    DE X c W (.Call (.Name x p) [a, .Name T p2] [] pos) false qa (isiE ty fa) := by
  obtain ⟨ta, pa, ra⟩ := ha
  refine ⟨_, pe_callB call_isi hg hm hv (pa_cons pa (pa_cons (pe_bltn (v := .ty ty.name) hgT hmT hvT rfl hnT hdbT) pa_nil rfl) hs) hn hdb hs rfl, fun B as σ H s Q sr hw => ?_⟩
  show ta σ H _
  unfold isiE un1 at hw
  rw [← Bool.and_true qa] at hw
  refine WantsG.bind (s := s) hw sr ra fun x H1 da st1 e1 ev1 sr1 r1 hw1 => ?_
  exact ⟨x, .ty ty.name, _, _, isiB ty da, rfl, .ty _, repT_ty (RepX.t r1), kit_ty (kit_ok ty da), hw1.fin sr1 Evo.refl (by simp [RepE, RepX, Rep])⟩
end
end DL
end
section
set_option Elab.async false
set_option linter.all false
set_option maxRecDepth 100000
set_option maxHeartbeats 1000000
/-! The data layer, part f: calls of the text's own defs. -/
namespace DL
open PySem PySem.Spec PyProof.Rows L2 PySem.SeqAt PySem.W
/-- what a def does: its arguments, the own objects that are handed in; its result, these objects behind it -/
abbrev FSem := List SV → Sto → RE
def idOf : SV → Option Nat
  | .obj i => some i
  | _ => none
def idsOf : List SV → List Nat
  | [] => []
  | .obj i :: r => i :: idsOf r
  | _ :: r => idsOf r
def renum (ids : List Nat) : SV → SV
  | .obj i => .obj (ids.idxOf i)
  | sv => sv
def gather (st : Sto) : List Nat → Option Sto
  | [] => some []
  | i :: r => match st[i]?, gather st r with
    | some o, some os => some (o :: os)
    | _, _ => none
def scatter (st : Sto) : List Nat → Sto → Sto
  | i :: is, o :: os => scatter (st.set i o) is os
  | _, _ => st
def callS (n : Nat) (F : FSem) (svs : List SV) (s : S) : RE :=
  if svs.length = n ∧ (idsOf svs).Nodup then
    match gather s.st (idsOf svs) with
    | some objs => match F (svs.map (renum (idsOf svs))) objs with
      | .ok p => .ok (p.1, scatter s.st (idsOf svs) p.2)
      | .exc c s' => .exc c ⟨s.env, scatter s.st (idsOf svs) s'.st⟩
      | .stuck => .stuck
    | none => .stuck
  else .stuck
def callE (n : Nat) (F : FSem) (f : EvA) : EvD := fun s => (f s).bind fun p => callS n F p.1 ⟨s.env, p.2⟩
theorem gather_get : ∀ {st : Sto} {ids : List Nat} {objs : Sto}, gather st ids = some objs → objs.length = ids.length ∧ ∀ (k i : Nat), ids[k]? = some i → objs[k]? = st[i]? ∧ i < st.length
  | st, [], objs, e => by cases e; exact ⟨rfl, fun k i h => by simp at h⟩
  | st, i :: r, objs, e => by
    unfold gather at e
    split at e
    · rename_i o os h1 h2
      cases e
      obtain ⟨q1, q2⟩ := gather_get h2
      refine ⟨by simp [q1], fun k j h => ?_⟩
      cases k with
      | zero =>
        simp only [List.getElem?_cons_zero, Option.some.injEq] at h
        subst h
        exact ⟨by simp [h1], (List.getElem?_eq_some_iff.mp h1).1⟩
      | succ k => simpa using q2 k j (by simpa using h)
    · cases e
theorem scatter_len : ∀ (st : Sto) (ids : List Nat) (os : Sto), (scatter st ids os).length = st.length
  | st, [], os => by cases os <;> rfl
  | st, i :: r, [] => rfl
  | st, i :: r, o :: os => by
    show (scatter (st.set i o) r os).length = _
    rw [scatter_len, List.length_set]
theorem scatter_out : ∀ (st : Sto) (ids : List Nat) (os : Sto) (i : Nat), i ∉ ids → (scatter st ids os)[i]? = st[i]?
  | st, [], os, i, _ => by cases os <;> rfl
  | st, j :: r, [], i, _ => rfl
  | st, j :: r, o :: os, i, h => by
    show (scatter (st.set j o) r os)[i]? = _
    rw [scatter_out _ r os i (fun z => h (List.mem_cons_of_mem _ z)), List.getElem?_set_ne]
    intro z
    exact h (by rw [z]; exact List.mem_cons_self)
theorem scatter_in : ∀ (st : Sto) (ids : List Nat) (os : Sto) (k i : Nat), ids.Nodup → os.length = ids.length → ids[k]? = some i → i < st.length → (scatter st ids os)[i]? = os[k]?
  | st, [], os, k, i, _, _, h, _ => by simp at h
  | st, j :: r, [], k, i, _, hl, _, _ => by simp at hl
  | st, j :: r, o :: os, 0, i, nd, hl, h, hi => by
    simp only [List.getElem?_cons_zero, Option.some.injEq] at h
    subst h
    show (scatter (st.set j o) r os)[j]? = _
    rw [scatter_out _ r os j (List.nodup_cons.mp nd).1, List.getElem?_set_self hi]
    rfl
  | st, j :: r, o :: os, k + 1, i, nd, hl, h, hi => by
    show (scatter (st.set j o) r os)[i]? = os[k]?
    exact scatter_in _ r os k i (List.nodup_cons.mp nd).2 (by simpa using hl) (by simpa using h) (by rw [List.length_set]; exact hi)
/-- where the handed objects stand -/
def asC (as : List Addr) (ids : List Nat) : List Addr := ids.map fun i => (as[i]?).getD 0
section
variable {K : PySem.W.Frag} {c : Cfg} {B as : List Addr} {H H' : Hp} {σ : L2.St} {env : List (Option SV)} {st objs objs' : Sto} {ids : List Nat}
theorem asC_get {k i : Nat} {a : Addr} (h : ids[k]? = some i) (ha : as[i]? = some a) : (asC as ids)[k]? = some a := by
  unfold asC
  rw [List.getElem?_map, h]
  simp [ha]
theorem asC_mem (hlt : ∀ (k i : Nat), ids[k]? = some i → i < as.length) {a : Addr} (h : a ∈ asC as ids) : ∃ k i : Nat, ids[k]? = some i ∧ as[i]? = some a := by
  obtain ⟨k, hk, e⟩ := List.getElem_of_mem h
  have hk' : k < ids.length := by unfold asC at hk; simpa using hk
  have e1 : ids[k]? = some ids[k] := List.getElem?_eq_getElem hk'
  have hl := hlt k _ e1
  refine ⟨k, ids[k], e1, ?_⟩
  have e2 : (asC as ids)[k]? = some as[ids[k]] := asC_get e1 (List.getElem?_eq_getElem hl)
  rw [List.getElem?_eq_getElem hk] at e2
  rw [List.getElem?_eq_getElem hl, ← Option.some.inj e2, e]
theorem asC_in (hlt : ∀ (k i : Nat), ids[k]? = some i → i < as.length) {a : Addr} (h : a ∈ asC as ids) : a ∈ as := by
  obtain ⟨k, i, _, e⟩ := asC_mem hlt h
  exact List.mem_of_getElem? e
theorem nodup_at {α : Type} {l : List α} (hN : l.Nodup) {i j : Nat} {x : α} (a : l[i]? = some x) (b : l[j]? = some x) : i = j := nd_ix hN a b
theorem ORep.avoid {hs : PyData → Int} {av av' : List Addr} {a : Addr} {o : O} (h : ORep K hs av H a o) (hw : ∀ x ∈ av', x ∈ av ∨ H x = none) : ORep K hs av' H a o := by
  cases o with
  | lst ds => obtain ⟨vs, q, r⟩ := h; exact ⟨vs, q, RepA.avoid hw ds vs r⟩
  | dK ds => obtain ⟨vs, q, r⟩ := h; exact ⟨vs, q, Paired.mapP r fun _ _ z => ⟨z.1, Rep.avoid hw _ _ z.2⟩⟩
  | dM ds => obtain ⟨vs, q, m, l, r⟩ := h; exact ⟨vs, q, m, l, Paired.mapP r fun _ _ z => ⟨z.1, z.2.1, z.2.2.1, Rep.avoid hw _ _ z.2.2.2.1, Rep.avoid hw _ _ z.2.2.2.2⟩⟩
  | dead => exact h
theorem SR.callee (sr : SR K c B as H σ ⟨env, st⟩) (nd : ids.Nodup) (hg : gather st ids = some objs) : SR K c (B ++ as) (asC as ids) H [] ⟨[], objs⟩ := by
  obtain ⟨g1, g2⟩ := gather_get hg
  have hal : as.length = st.length := sr.aslen
  have hlt : ∀ (k i : Nat), ids[k]? = some i → i < as.length := fun k i h => by rw [hal]; exact (g2 k i h).2
  refine ⟨rfl, fun i sv h => by simp at h, ?_, by unfold asC; simpa using g1.symm, fun k o a h1 h2 => ?_, fun a h => ?_, sr.tabs⟩
  · unfold asC
    rw [List.Nodup, List.pairwise_map]
    refine List.Pairwise.imp_of_mem (fun {i j} hi hj hne e => hne ?_) nd
    obtain ⟨k1, h1, e1⟩ := List.getElem_of_mem hi
    obtain ⟨k2, h2, e2⟩ := List.getElem_of_mem hj
    have l1 : i < as.length := hlt k1 i (by rw [List.getElem?_eq_getElem h1, e1])
    have l2 : j < as.length := hlt k2 j (by rw [List.getElem?_eq_getElem h2, e2])
    rw [List.getElem?_eq_getElem l1, List.getElem?_eq_getElem l2] at e
    exact nodup_at sr.nd (List.getElem?_eq_getElem l1) (by rw [List.getElem?_eq_getElem l2]; exact congrArg some e.symm)
  · have hk : k < ids.length := by rw [← g1]; exact (List.getElem?_eq_some_iff.mp h1).1
    have e1 := List.getElem?_eq_getElem hk
    obtain ⟨q1, q2⟩ := g2 k _ e1
    have l := hlt k _ e1
    have e2 := asC_get (as := as) e1 (List.getElem?_eq_getElem l)
    rw [h2] at e2
    cases e2
    refine (sr.objs _ o _ (by rw [← q1]; exact h1) (List.getElem?_eq_getElem l)).avoid fun x hx => .inl ?_
    rcases List.mem_append.mp hx with z | z
    · exact z
    · exact List.mem_append_right _ (asC_in hlt z)
  · rcases List.mem_append.mp h with z | z
    · exact sr.out a z
    · obtain ⟨u, q, _⟩ := sr.there z
      rw [q]; simp
theorem idsOf_mem : ∀ {svs : List SV} {i : Nat}, .obj i ∈ svs → i ∈ idsOf svs
  | .obj j :: r, i, h => by
    rcases List.mem_cons.mp h with e | e
    · cases e; exact List.mem_cons_self
    · exact List.mem_cons_of_mem _ (idsOf_mem e)
  | .pure d :: r, i, h => by
    rcases List.mem_cons.mp h with e | e
    · cases e
    · exact idsOf_mem (svs := r) e
  | .scr d :: r, i, h => by
    rcases List.mem_cons.mp h with e | e
    · cases e
    · exact idsOf_mem (svs := r) e
theorem repSA_renum (hlt : ∀ (k i : Nat), ids[k]? = some i → i < as.length) : ∀ {svs : List SV} {vs : List V}, (∀ i, .obj i ∈ svs → i ∈ ids) → RepSA K (B ++ as) as H svs vs → RepSA K ((B ++ as) ++ asC as ids) (asC as ids) H (svs.map (renum ids)) vs
  | [], vs, _, h => h
  | sv :: r, vs, hi, h => by
    obtain ⟨v, q, rfl, h1, h2⟩ := h
    have hw : ∀ x ∈ (B ++ as) ++ asC as ids, x ∈ B ++ as ∨ H x = none := fun x hx => .inl (by
      rcases List.mem_append.mp hx with z | z
      · exact z
      · exact List.mem_append_right _ (asC_in hlt z))
    refine ⟨v, q, rfl, ?_, repSA_renum hlt (fun i h => hi i (List.mem_cons_of_mem _ h)) h2⟩
    cases sv with
    | pure d => exact Rep.avoid hw d v h1
    | scr ds => obtain ⟨a, ws, z1, z2, z3⟩ := h1; exact ⟨a, ws, z1, z2.avoid hw, RepA.avoid hw ds ws z3⟩
    | obj i =>
      obtain ⟨a, e1, rfl⟩ := h1
      have hm := hi i List.mem_cons_self
      have hl : ids.idxOf i < ids.length := List.idxOf_lt_length_iff.mpr hm
      exact ⟨a, asC_get (by rw [List.getElem?_eq_getElem hl, List.getElem_idxOf hl]) e1, rfl⟩
theorem SR.back (sr : SR K c B as H σ ⟨env, st⟩) (nd : ids.Nodup) (hg : gather st ids = some objs) (e : Evo (asC as ids) H H') (sr' : SR K c (B ++ as) (asC as ids) H' [] ⟨[], objs'⟩) : SR K c B as H' σ ⟨env, scatter st ids objs'⟩ := by
  obtain ⟨g1, g2⟩ := gather_get hg
  have hal : as.length = st.length := sr.aslen
  have hlt : ∀ (k i : Nat), ids[k]? = some i → i < as.length := fun k i h => by rw [hal]; exact (g2 k i h).2
  have hsub : ∀ x ∈ asC as ids, x ∈ B ++ as := fun x h => List.mem_append_right _ (asC_in hlt h)
  have hl' : objs'.length = ids.length := by
    have := sr'.aslen
    unfold asC at this
    simpa using this.symm
  refine ⟨sr.len, fun i sv h => ?_, sr.nd, by rw [scatter_len]; exact hal, fun i o a h1 h2 => ?_, fun a h z => ?_, sr'.tabs⟩
  · obtain ⟨v, q1, q2⟩ := sr.slot i sv h
    exact ⟨v, q1, q2.evo e hsub⟩
  · by_cases hi : i ∈ ids
    · obtain ⟨k, hk, ek⟩ := List.getElem_of_mem hi
      have e1 : ids[k]? = some i := by rw [List.getElem?_eq_getElem hk, ek]
      have h1' : (scatter st ids objs')[i]? = some o := h1
      rw [scatter_in st ids objs' k i nd hl' e1 (g2 k i e1).2] at h1'
      exact (sr'.objs k o a h1' (asC_get e1 h2)).avoid fun x hx => .inl (List.mem_append_left _ hx)
    · have h1' : (scatter st ids objs')[i]? = some o := h1
      rw [scatter_out st ids objs' i hi] at h1'
      refine (sr.objs i o a h1' h2).evo0 e hsub fun z => ?_
      obtain ⟨k, j, e1, e2⟩ := asC_mem hlt z
      have : i = j := nodup_at sr.nd h2 e2
      exact hi (by rw [this]; exact List.mem_of_getElem? e1)
  · cases q : H a with
    | none => exact sr.out a h q
    | some u =>
      by_cases n : a ∈ asC as ids
      · obtain ⟨u', q', _⟩ := sr'.there n
        rw [z] at q'; cases q'
      · obtain ⟨o', q'⟩ := e.there q n
        rw [z] at q'; cases q'
end
/-- a def's promise, by what it does -/
def spD (K : PySem.W.Frag) (c : Cfg) (n : Nat) (F : FSem) : Sp := fun vs H Q E => ∃ (B as : List Addr) (svs : List SV) (objs : Sto), svs.length = n ∧ SR K c B as H [] ⟨[], objs⟩ ∧ RepSA K (B ++ as) as H svs vs ∧
  match F svs objs with
  | .ok p => ∀ v H', Evo as H H' → SR K c B as H' [] ⟨[], p.2⟩ → Rep K (B ++ as) H' p.1 v → Q v H'
  | .exc cl s' => ∀ H', Evo as H H' → SR K c B as H' [] ⟨[], s'.st⟩ → E (c.cls cl) none H'
  | .stuck => False
theorem repSA_len {K : PySem.W.Frag} {av as : List Addr} {H : Hp} : ∀ {svs : List SV} {vs : List V}, RepSA K av as H svs vs → vs.length = svs.length
  | [], vs, h => by
    have : vs = [] := h
    subst this; rfl
  | _ :: r, vs, h => by
    obtain ⟨v, q, rfl, _, h2⟩ := h
    simp [repSA_len h2]
section
variable {X : Cx} {c : Cfg} {W : WX} {CX : CXT} {k n : Nat} {f : Addr} {fd : FuncData} {ps : List Str} {F : FSem} {x : Str} {p pos : Pos} {e : Expr} {es : List Expr} {fa : EvA} {qa : Bool}
theorem callS_ref {B as : List Addr} {σ : L2.St} {H : Hp} {env : List (Option SV)} {st : Sto} {svs : List SV} {vs : List V} {Q : VK} (sr : SR X.K c B as H σ ⟨env, st⟩) (r : RepSA X.K (B ++ as) as H svs vs)
    (hw : WantsG X c W (RepE X.K false) B as σ H env false Q (callS n F svs ⟨env, st⟩)) : spD X.K c n F vs H Q fun cls d H' => W cls d σ H' := by
  unfold callS at hw
  split at hw
  · rename_i hc
    obtain ⟨hn, nd⟩ := hc
    simp only at hw
    split at hw
    · rename_i objs hg
      obtain ⟨g1, g2⟩ := gather_get hg
      have hal : as.length = st.length := sr.aslen
      have hlt : ∀ (k i : Nat), (idsOf svs)[k]? = some i → i < as.length := fun k i h => by rw [hal]; exact (g2 k i h).2
      have hsub : ∀ x ∈ asC as (idsOf svs), x ∈ as := fun x h => asC_in hlt h
      refine ⟨B ++ as, asC as (idsOf svs), svs.map (renum (idsOf svs)), objs, by rw [List.length_map]; exact hn, sr.callee nd hg, repSA_renum hlt (fun i h => idsOf_mem h) r, ?_⟩
      split at hw
      · rename_i p ep
        intro v H' ev sr' rv
        exact hw v H' (ev.mono hsub) (sr.back nd hg ev sr') (Rep.avoid (fun x hx => .inl (List.mem_append_left _ hx)) _ _ rv)
      · rename_i cl s' ep
        intro H' ev sr'
        exact hw H' (ev.mono hsub) (sr.back nd hg ev sr')
      · exact hw.elim
    · exact hw.elim
  · exact hw.elim
/-- f(..) of a def of the text -/
theorem de_call (G : FnOk X.prog X.w X.K X.mg X.base CX k f fd ps (spD X.K c ps.length F)) (hr : Room k X.A) (hg : Gl X x) (hm : X.mg x = some (.ref f)) (hk : PySem.W.keepIn X.K (.ref f) = true) (hb : L2.Binds X.K fd ps [])
    (hx : ∀ σ, PassesAt CX X σ fun cls d H => W cls d σ H) (ha : DA X c W (e :: es) qa fa) (hdb : (x == ("__debug__" : Str)) = false) (he : starEach (e :: es) X.env = (false, eval e X.env) :: starEach es X.env)
    (hpl : (backTo pos (starEach es X.env)).any (·.1) = false) : DE X c W (.Call (.Name x p) (e :: es) [] pos) false false (callE ps.length F fa) := by
  obtain ⟨ta, pa, ra⟩ := ha
  refine ⟨_, pe_callSD (dvs := []) (E := fun σ cls d H => W cls d σ H) G hr hg hm hk hb .nil hx pa hdb he hpl, fun B as σ H s Q sr hw => ?_⟩
  show ta σ H fun vs H1 => spD X.K c ps.length F (vs ++ []) H1 Q _
  simp only [List.append_nil]
  unfold callE at hw
  have hw' : WantsG X c W (RepE X.K false) B as σ H s.env (qa && false) Q ((fa s).bind fun p => callS ps.length F p.1 ⟨s.env, p.2⟩) := by rw [Bool.and_false]; exact hw
  refine WantsG.bind (s := s) hw' sr ra fun vs H1 svs st1 e1 ev1 sr1 r1 hw1 => ?_
  exact callS_ref sr1 r1 hw1
end
end DL
end
section
set_option Elab.async false
set_option linter.all false
set_option maxRecDepth 100000
set_option maxHeartbeats 1000000
/-! The data layer, part g: values that may be new own objects; statements. -/
namespace DL
open PySem PySem.Spec PyProof.Rows L2 PySem.SeqAt PySem.W

/-! ### values that may be own objects -/
abbrev RV := Res (SV × Sto)
abbrev EvV := S → RV
def WantsV {α β : Type} (X : Cx) (c : Cfg) (W : WX) (R : List Addr → List Addr → Hp → α → β → Prop) (B as : List Addr) (σ : L2.St) (H : Hp) (env : List (Option SV)) (Q : β → Hp → Prop) : Res (α × Sto) → Prop
  | .ok p => ∀ v N H', Evo as H H' → (∀ a ∈ N, H a = none) → SR X.K c B (as ++ N) H' σ ⟨env, p.2⟩ → R B (as ++ N) H' p.1 v → Q v H'
  | .exc cl s' => ∀ N H', Evo as H H' → (∀ a ∈ N, H a = none) → SR X.K c B (as ++ N) H' σ ⟨env, s'.st⟩ → W (c.cls cl) none σ H'
  | .stuck => False
abbrev RepV (K : PySem.W.Frag) : List Addr → List Addr → Hp → SV → V → Prop := fun B as H d v => RepS K (B ++ as) as H d v
def DV (X : Cx) (c : Cfg) (W : WX) (e : Expr) (f : EvV) : Prop :=
  ∃ t, PE X e t ∧ ∀ (B as : List Addr) (σ : L2.St) (H : Hp) (s : S) (Q : VK), SR X.K c B as H σ s → WantsV X c W (RepV X.K) B as σ H s.env Q (f s) → t σ H Q
def DVA (X : Cx) (c : Cfg) (W : WX) (es : List Expr) (f : EvA) : Prop :=
  ∃ t, PA X es t ∧ ∀ (B as : List Addr) (σ : L2.St) (H : Hp) (s : S) (Q : List V → Hp → Prop), SR X.K c B as H σ s → WantsV X c W (RepAE X.K) B as σ H s.env Q (f s) → t σ H Q
section
variable {K : PySem.W.Frag} {c : Cfg} {B as : List Addr} {σ : L2.St} {H H1 H' : Hp} {s : S} {env : List (Option SV)} {st : Sto}
theorem SR.fresh (sr : SR K c B as H σ s) (e : Evo as H0 H) {a : Addr} (h : H a = none) : H0 a = none := by
  rcases e.free h with z | z
  · obtain ⟨u, q, _⟩ := sr.there z
    rw [h] at q; cases q
  · exact z
theorem RepS.more {N : List Addr} {sv : SV} {v : V} (h : RepS K (B ++ as) as H sv v) (hn : ∀ a ∈ N, H a = none) : RepS K (B ++ (as ++ N)) (as ++ N) H sv v := by
  have hw : ∀ x ∈ B ++ (as ++ N), x ∈ B ++ as ∨ H x = none := fun x hx => by
    rw [← List.append_assoc] at hx
    rcases List.mem_append.mp hx with z | z
    · exact .inl z
    · exact .inr (hn x z)
  cases sv with
  | pure d => exact Rep.avoid hw d v h
  | scr ds => obtain ⟨a, ws, z1, z2, z3⟩ := h; exact ⟨a, ws, z1, z2.avoid hw, RepA.avoid hw ds ws z3⟩
  | obj i =>
    obtain ⟨a, e, rfl⟩ := h
    exact ⟨a, by rw [List.getElem?_append_left (List.getElem?_eq_some_iff.mp e).1]; exact e, rfl⟩
/-- a new own object -/
theorem SR.push {a : Addr} {o : O} (sr : SR K c B as H σ ⟨env, st⟩) (hn : H a = none) (e : Evo [] H H') (ho : ORep K c.hs (a :: (B ++ as)) H' a o) : SR K c B (as ++ [a]) H' σ ⟨env, st ++ [o]⟩ := by
  have hna : a ∉ B ++ as := sr.notnew hn
  have hw : ∀ x ∈ B ++ (as ++ [a]), x ∈ B ++ as ∨ H x = none := fun x hx => by
    rw [← List.append_assoc] at hx
    rcases List.mem_append.mp hx with z | z
    · exact .inl z
    · exact .inr (by rw [List.mem_singleton.mp z]; exact hn)
  refine ⟨sr.len, fun i sv q => ?_, ?_, ?_, fun i o' a' h1 h2 => ?_, (sr.evo e).out, (sr.evo e).tabs⟩
  · obtain ⟨v, q1, q2⟩ := sr.slot i sv q
    exact ⟨v, q1, (q2.more (N := [a]) (fun x hx => by rw [List.mem_singleton.mp hx]; exact hn)).evo e (fun _ z => by cases z)⟩
  · rw [List.nodup_append]
    refine ⟨sr.nd, by simp, fun x hx y hy => ?_⟩
    rw [List.mem_singleton.mp hy]
    intro z
    exact hna (List.mem_append_right _ (by rw [← z]; exact hx))
  · rw [List.length_append, List.length_append, sr.aslen]; rfl
  · by_cases hi : i < as.length
    · rw [List.getElem?_append_left hi] at h2
      have hi' : i < st.length := by have := sr.aslen; simp only at this; omega
      rw [List.getElem?_append_left hi'] at h1
      exact ((sr.objs i o' a' h1 h2).avoid hw).evo0 e (fun _ z => by cases z) (by simp)
    · have hl := sr.aslen
      simp only at hl
      have e1 : i = as.length := by
        have := (List.getElem?_eq_some_iff.mp h2).1
        rw [List.length_append] at this
        simp at this
        omega
      subst e1
      rw [List.getElem?_append_right (Nat.le_refl _), Nat.sub_self] at h2
      simp only [List.getElem?_cons_zero, Option.some.injEq] at h2
      subst h2
      rw [hl, List.getElem?_append_right (Nat.le_refl _), Nat.sub_self] at h1
      simp only [List.getElem?_cons_zero, Option.some.injEq] at h1
      subst h1
      refine ho.avoid fun x hx => .inl ?_
      rw [← List.append_assoc] at hx
      rcases List.mem_append.mp hx with z | z
      · exact List.mem_cons_of_mem _ z
      · rw [List.mem_singleton.mp z]; exact List.mem_cons_self
end
section
variable {X : Cx} {c : Cfg} {W : WX} {B as : List Addr} {σ : L2.St} {H H1 : Hp} {env : List (Option SV)} {s : S} {e a b : Expr} {es : List Expr} {fa fb : EvD} {qa qb tr : Bool} {pos p : Pos}
section
variable {α β γ δ : Type} {R : List Addr → List Addr → Hp → α → β → Prop} {R2 : List Addr → List Addr → Hp → γ → δ → Prop}
theorem WantsV.step {N : List Addr} {Q : β → Hp → Prop} {r : Res (α × Sto)} (h : WantsV X c W R B as σ H env Q r) (e : Evo as H H1) (hn : ∀ a ∈ N, H a = none) : WantsV X c W R B (as ++ N) σ H1 env Q r := by
  have tr : ∀ {H' : Hp}, Evo (as ++ N) H1 H' → Evo as H H' := fun e' => e.trans e' fun x hx => (List.mem_append.mp hx).imp id (hn x)
  have hnn : ∀ {N2 : List Addr} {H' : Hp} {st : Sto}, (∀ a ∈ N2, H1 a = none) → SR X.K c B ((as ++ N) ++ N2) H' σ ⟨env, st⟩ → ∀ a ∈ N ++ N2, H a = none := fun {N2 H' st} h2 sr a ha => by
    rcases List.mem_append.mp ha with z | z
    · exact hn a z
    · rcases e.free (h2 a z) with y | y
      · have := List.nodup_append.mp sr.nd
        exact absurd rfl (this.2.2 a (List.mem_append_left _ y) a z)
      · exact y
  cases r with
  | ok p => exact fun v N2 H' e' h2 sr rp => h v (N ++ N2) H' (tr e') (hnn h2 sr) (by rw [← List.append_assoc]; exact sr) (by rw [← List.append_assoc]; exact rp)
  | exc cl s' => exact fun N2 H' e' h2 sr => h (N ++ N2) H' (tr e') (hnn h2 sr) (by rw [← List.append_assoc]; exact sr)
  | stuck => exact h
theorem WantsV.step0 {Q : β → Hp → Prop} {r : Res (α × Sto)} (h : WantsV X c W R B as σ H env Q r) (e : Evo as H H1) : WantsV X c W R B as σ H1 env Q r := by
  have := h.step (N := []) e (by simp)
  rwa [List.append_nil] at this
/-- behind an evaluation that makes no own object -/
theorem WantsV.bindG {f : S → Res (α × Sto)} {k : α × Sto → Res (γ × Sto)} {ta : L2.St → Hp → (β → Hp → Prop) → Prop} {qa : Bool} {Q : δ → Hp → Prop} {Q1 : β → Hp → Prop} (hw : WantsV X c W R2 B as σ H s.env Q ((f s).bind k)) (sr : SR X.K c B as H σ s)
    (ra : ∀ (B as : List Addr) (σ : L2.St) (H : Hp) (s : S) (Q : β → Hp → Prop), SR X.K c B as H σ s → WantsG X c W R B as σ H s.env qa Q (f s) → ta σ H Q)
    (h : ∀ v H1 d st1, f s = .ok (d, st1) → Evo (wq qa as) H H1 → SR X.K c B as H1 σ ⟨s.env, st1⟩ → R B as H1 d v → WantsV X c W R2 B as σ H1 s.env Q (k (d, st1)) → Q1 v H1) : ta σ H Q1 := by
  refine ra B as σ H s Q1 sr ?_
  cases e : f s with
  | stuck => rw [e] at hw; exact hw
  | exc cl s' =>
    rw [e] at hw
    exact fun H' ev sr' => hw [] H' ev (by simp) (by rw [List.append_nil]; exact sr')
  | ok p =>
    obtain ⟨d, st1⟩ := p
    rw [e] at hw
    exact fun v H1 ev sr1 rp => h v H1 d st1 e ev sr1 rp (hw.step0 (ev.mono wq_as))
theorem WantsV.bindV {f : S → Res (α × Sto)} {k : α × Sto → Res (γ × Sto)} {ta : L2.St → Hp → (β → Hp → Prop) → Prop} {Q : δ → Hp → Prop} {Q1 : β → Hp → Prop} (hw : WantsV X c W R2 B as σ H s.env Q ((f s).bind k)) (sr : SR X.K c B as H σ s)
    (ra : ∀ (B as : List Addr) (σ : L2.St) (H : Hp) (s : S) (Q : β → Hp → Prop), SR X.K c B as H σ s → WantsV X c W R B as σ H s.env Q (f s) → ta σ H Q)
    (h : ∀ v N H1 d st1, f s = .ok (d, st1) → Evo as H H1 → (∀ a ∈ N, H a = none) → SR X.K c B (as ++ N) H1 σ ⟨s.env, st1⟩ → R B (as ++ N) H1 d v → WantsV X c W R2 B (as ++ N) σ H1 s.env Q (k (d, st1)) → Q1 v H1) : ta σ H Q1 := by
  refine ra B as σ H s Q1 sr ?_
  cases e : f s with
  | stuck => rw [e] at hw; exact hw
  | exc cl s' => rw [e] at hw; exact hw
  | ok p =>
    obtain ⟨d, st1⟩ := p
    rw [e] at hw
    exact fun v N H1 ev hn sr1 rp => h v N H1 d st1 e ev hn sr1 rp (hw.step ev hn)
theorem WantsV.fin {Q : β → Hp → Prop} {d : α} {st : Sto} (hw : WantsV X c W R B as σ H env Q (.ok (d, st))) (sr : SR X.K c B as H σ ⟨env, st⟩) {v : β} {H' : Hp} (e : Evo [] H H') (r : R B as H' d v) : Q v H' :=
  hw v [] H' e.wide (by simp) (by rw [List.append_nil]; exact sr.evo e) (by rw [List.append_nil]; exact r)
/-- the end that makes a new own object -/
theorem WantsV.new {Q : VK} {o : O} {st : Sto} (hw : WantsV X c W (RepV X.K) B as σ H env Q (.ok (.obj st.length, st ++ [o]))) (sr : SR X.K c B as H σ ⟨env, st⟩) {a : Addr} {H' : Hp} (hn : H a = none) (e : Evo [] H H') (ho : ORep X.K c.hs (a :: (B ++ as)) H' a o) : Q (.ref a) H' := by
  refine hw (.ref a) [a] H' e.wide (fun x hx => by rw [List.mem_singleton.mp hx]; exact hn) (sr.push hn e ho) ⟨a, ?_, rfl⟩
  have hl := sr.aslen
  simp only at hl
  rw [← hl, List.getElem?_append_right (Nat.le_refl _), Nat.sub_self]
  rfl
end
def pureV (f : EvD) : EvV := fun s => (f s).bind fun p => .ok (.pure p.1, p.2)
theorem dv_de (h : DE X c W e false qa fa) : DV X c W e (pureV fa) := by
  obtain ⟨t, p, r⟩ := h
  refine ⟨t, p, fun B as σ H s Q sr hw => ?_⟩
  refine WantsV.bindG (s := s) hw sr r fun v H1 d st1 e1 ev1 sr1 r1 hw1 => ?_
  exact hw1.fin sr1 Evo.refl r1
def slotV (i : Nat) : EvV := fun s => match s.env[i]? with
  | some (some sv) => .ok (sv, s.st)
  | _ => .stuck
theorem dv_slot {i : Nat} {x : Str} {p : Pos} (hN : X.N[i]? = some x) (hv : Vis X.env.scope x) (hd : (x == ("__debug__" : Str)) = false) (hcd : (x == ("__classdict__" : Str)) = false) : DV X c W (.Name x p) (slotV i) := by
  refine ⟨_, pe_var hN hv hd hcd, fun B as σ H s Q sr hw => ?_⟩
  unfold slotV at hw
  split at hw
  · rename_i sv e
    obtain ⟨v, q1, q2⟩ := sr.slot i _ e
    exact ⟨v, q1, hw.fin sr Evo.refl q2⟩
  · exact hw.elim
def newL (st : Sto) (ds : List PyData) : SV × Sto := (.obj st.length, st ++ [.lst ds])
/-- a new list from values -/
def lstV (f : EvA) : EvV := fun s => (f s).bind fun p => match pureAll p.1 with
  | some ds => if ds.length ≤ 16777216 then .ok (newL p.2 ds) else .stuck
  | none => .stuck
theorem ORep.newLst {hs : PyData → Int} {K : PySem.W.Frag} {av : List Addr} {H : Hp} {ds : List PyData} {vs : List V} {p : Addr} (h : RepA K av H ds vs) (hp : H p = Option.none) : ORep K hs (p :: av) (upd H p (.lst vs)) p (.lst ds) :=
  ⟨vs, upd_same, RepA.evo (W := []) (Evo.new hp) (fun _ z => by cases z) ds vs (RepA.avoid (fun x hx => (List.mem_cons.mp hx).elim (fun z => .inr (by rw [z]; exact hp)) .inl) ds vs h)⟩
theorem dv_lst {f : EvA} (h : DA X c W es qa f) : DV X c W (.List es pos) (lstV f) := by
  obtain ⟨ta, pa, ra⟩ := h
  refine ⟨tLst ta, pe_lst pa, fun B as σ H s Q sr hw => ?_⟩
  show ta σ H _
  refine WantsV.bindG (s := s) hw sr ra fun x H1 da st1 e1 ev1 sr1 r1 hw1 => ?_
  simp only at hw1
  split at hw1
  · rename_i ds ep
    split at hw1
    · have rs := pureAll_rep ep r1
      refine ⟨by rw [sizeLine_eq, rs.length]; assumption, fun p hp => ?_⟩
      exact hw1.new sr1 hp (Evo.new hp) (ORep.newLst rs hp)
    · exact hw1.elim
  · exact hw1.elim
/-- an operator that makes a new list -/
def OpN (X : Cx) (f : Value → Value → Sem Value) (g : PyData → PyData → Option (List PyData)) : Prop :=
  ∃ r : R2, OpR X f r ∧ ∀ (H : Hp) (x y : V) (dx dy : PyData) (ds : List PyData) (av : List Addr) (Q : VK), Rep X.K av H dx x → Rep X.K av H dy y → g dx dy = some ds →
    (∀ p vs, H p = none → RepA X.K av H ds vs → Q (.ref p) (upd H p (.lst vs))) → r x y H Q
def ofOptL (o : Option (List PyData)) (st : Sto) : RV := match o with
  | some ds => .ok (newL st ds)
  | none => .stuck
def binV (g : PyData → PyData → Option (List PyData)) (fa fb : EvD) : EvV := fun s => (fa s).bind fun p => (fb ⟨s.env, p.2⟩).bind fun q => ofOptL (g p.1 q.1) q.2
theorem dv_bin {op : Operator} {g : PyData → PyData → Option (List PyData)} (h : OpN X (binaryOp op) g) (ha : DE X c W a false qa fa) (hb : DE X c W b false qb fb) : DV X c W (.BinOp a op b pos) (binV g fa fb) := by
  obtain ⟨r, hr, gr⟩ := h
  obtain ⟨ta, pa, ra⟩ := ha
  obtain ⟨tb, pb, rb⟩ := hb
  refine ⟨tOp r ta tb, pe_op hr pa pb, fun B as σ H s Q sr hw => ?_⟩
  show ta σ H _
  refine WantsV.bindG (s := s) hw sr ra fun x H1 da st1 e1 ev1 sr1 r1 hw1 => ?_
  show tb σ H1 _
  refine WantsV.bindG (s := ⟨s.env, st1⟩) hw1 sr1 rb fun y H2 db st2 e2 ev2 sr2 r2 hw2 => ?_
  cases eg : g da db with
  | none => simp only [eg] at hw2; exact hw2.elim
  | some ds =>
    simp only [eg] at hw2
    exact gr H2 x y da db ds _ Q (Rep.evo ev2 wq_sub _ _ r1) r2 eg fun p vs hp rs => WantsV.new hw2 sr2 hp (Evo.new hp) (ORep.newLst rs hp)
noncomputable def mulL : PyData → PyData → Option (List PyData)
  | .list ds, .int k => haveI := Classical.propDecidable (0 ≤ k ∧ k ≤ 4096 ∧ ds.length * k.toNat ≤ 16777216); if 0 ≤ k ∧ k ≤ 4096 ∧ ds.length * k.toNat ≤ 16777216 then some (List.replicate k.toNat ds).flatten else none
  | _, _ => none
def addL : PyData → PyData → Option (List PyData)
  | .list as, .list bs => if as.length + bs.length ≤ 16777216 then some (as ++ bs) else none
  | _, _ => none
def CallN (X : Cx) (f : Value) (g : PyData → Option (List PyData)) : Prop :=
  ∃ r, CallR X f r ∧ ∀ (H : Hp) (x : V) (dx : PyData) (ds : List PyData) (av : List Addr) (Q : VK), RepT X.K av H dx x → g dx = some ds → (∀ p vs, H p = none → RepA X.K av H ds vs → Q (.ref p) (upd H p (.lst vs))) → r [x] H Q
def un1V (g : PyData → Option (List PyData)) (fa : EvD) : EvV := fun s => (fa s).bind fun p => ofOptL (g p.1) p.2
theorem un1V_ref {g : PyData → Option (List PyData)} {ta : TE} {r : List V → Hp → VK → Prop} (hg : ∀ (H : Hp) (x : V) (dx : PyData) (ds : List PyData) (av : List Addr) (Q : VK), RepT X.K av H dx x → g dx = some ds → (∀ p vs, H p = none → RepA X.K av H ds vs → Q (.ref p) (upd H p (.lst vs))) → r [x] H Q)
    (ra : ∀ (B as : List Addr) (σ : L2.St) (H : Hp) (s : S) (Q : VK), SR X.K c B as H σ s → WantsG X c W (RepE X.K tr) B as σ H s.env qa Q (fa s) → ta σ H Q)
    {Q : VK} (sr : SR X.K c B as H σ s) (hw : WantsV X c W (RepV X.K) B as σ H s.env Q (un1V g fa s)) : tCB r (tCons ta tNil) σ H Q := by
  show ta σ H _
  refine WantsV.bindG (s := s) hw sr ra fun x H1 da st1 e1 ev1 sr1 r1 hw1 => ?_
  cases eg : g da with
  | none => simp only [eg] at hw1; exact hw1.elim
  | some ds =>
    simp only [eg] at hw1
    exact hg H1 x da ds _ _ (RepX.t r1) eg fun p vs hp rs => WantsV.new hw1 sr1 hp (Evo.new hp) (ORep.newLst rs hp)
theorem dv_callB {g : PyData → Option (List PyData)} {x : Str} {id : String} (h : CallN X (.builtin id) g) (hg : Gl X x) (hm : X.mg x = none) (hv : bootBuiltins x = some (.builtin id)) (ha : DE X c W a tr qa fa) (hs : starEach [a] X.env = (false, eval a X.env) :: starEach [] X.env)
    (hn : x ≠ "__name__") (hdb : (x == ("__debug__" : Str)) = false) : DV X c W (.Call (.Name x p) [a] [] pos) (un1V g fa) := by
  obtain ⟨r, hr, gr⟩ := h
  obtain ⟨ta, pa, ra⟩ := ha
  exact ⟨_, pe_callB hr hg hm hv (pa_cons pa pa_nil hs) hn hdb hs rfl, fun B as σ H s Q sr hw => un1V_ref gr ra sr hw⟩
theorem dv_callTy {g : PyData → Option (List PyData)} {x : Str} {T : String} (h : CallN X (.type T) g) (hg : Gl X x) (hm : X.mg x = none) (hv : bootBuiltins x = some (.type T)) (ha : DE X c W a tr qa fa) (hs : starEach [a] X.env = (false, eval a X.env) :: starEach [] X.env)
    (hn : x ≠ "__name__") (hdb : (x == ("__debug__" : Str)) = false) : DV X c W (.Call (.Name x p) [a] [] pos) (un1V g fa) := by
  obtain ⟨r, hr, gr⟩ := h
  obtain ⟨ta, pa, ra⟩ := ha
  exact ⟨_, pe_callTy hr hg hm hv (pa_cons pa pa_nil hs) hn hdb hs rfl, fun B as σ H s Q sr hw => un1V_ref gr ra sr hw⟩
def listL : PyData → Option (List PyData)
  | .list ds => some ds
  | .tuple ds => some ds
  | _ => none
theorem cn_list : CallN X (.type "list") listL := by
  refine ⟨_, call_list_of, fun H x dx d av Q r e hQ => ?_⟩
  unfold listL at e
  split at e
  · cases e
    obtain ⟨a, vs, rfl, l, rs⟩ := r.list
    exact ⟨a, vs, rfl, .inl l, fun p hp => hQ p vs hp rs⟩
  · cases e
    obtain ⟨a, vs, rfl, l, rs⟩ := r.tuple
    exact ⟨a, vs, rfl, .inr l.sq, fun p hp => hQ p vs hp rs⟩
  · cases e
theorem on_mul : OpN X (binaryOp .Mult) mulL := by
  refine ⟨_, op_rep, fun H x y dx dy ds av Q r1 r2 e hQ => ?_⟩
  unfold mulL at e
  split at e
  · split at e
    · rename_i hc
      cases e
      simp only [Rep] at r1 r2
      obtain ⟨a, vs, rfl, l1, s1⟩ := r1
      exact ⟨a, _, vs, rfl, r2, l1.1, by omega, by omega, by rw [sizeLine_eq, s1.length]; exact hc.2.2, fun p hp => hQ p _ hp (s1.flat _)⟩
    · cases e
  · cases e
theorem on_add : OpN X (binaryOp .Add) addL := by
  refine ⟨_, op_cat, fun H x y dx dy ds av Q r1 r2 e hQ => ?_⟩
  unfold addL at e
  split at e
  · split at e
    · cases e
      simp only [Rep] at r1 r2
      obtain ⟨a, vs, rfl, l1, s1⟩ := r1
      obtain ⟨b, ws, rfl, l2, s2⟩ := r2
      exact ⟨a, b, vs, ws, rfl, rfl, l1.1, l2.1, by rw [sizeLine_eq, s1.length, s2.length]; assumption, fun p hp => hQ p _ hp (s1.append s2)⟩
    · cases e
  · cases e
/-! arguments that may be new -/
theorem dva_nil : DVA X c W [] nilA := ⟨tNil, pa_nil, fun B as σ H s Q sr hw => hw.fin sr Evo.refl rfl⟩
def consV (fa : EvV) (f : EvA) : EvA := fun s => (fa s).bind fun p => (f ⟨s.env, p.2⟩).bind fun q => .ok (p.1 :: q.1, q.2)
theorem dva_cons {fa : EvV} {f : EvA} (ha : DV X c W e fa) (hr : DVA X c W es f) (hs : starEach (e :: es) X.env = (false, eval e X.env) :: starEach es X.env) : DVA X c W (e :: es) (consV fa f) := by
  obtain ⟨ta, pa, ra⟩ := ha
  obtain ⟨tb, pb, rb⟩ := hr
  refine ⟨tCons ta tb, pa_cons pa pb hs, fun B as σ H s Q sr hw => ?_⟩
  show ta σ H _
  refine WantsV.bindV (s := s) hw sr ra fun x N H1 da st1 e1 ev1 hn1 sr1 r1 hw1 => ?_
  show tb σ H1 _
  refine WantsV.bindV (s := ⟨s.env, st1⟩) hw1 sr1 rb fun ys N2 H2 db st2 e2 ev2 hn2 sr2 r2 hw2 => ?_
  refine hw2.fin sr2 Evo.refl ⟨x, ys, rfl, ?_, r2⟩
  refine (RepS.more (N := N2) r1 hn2).evo ev2 fun x hx => ?_
  exact List.mem_append_right _ (List.mem_append_left _ hx)
end
end DL
end
section
set_option Elab.async false
set_option linter.all false
set_option maxRecDepth 100000
set_option maxHeartbeats 1000000
/-! The data layer, part h: statements. -/
namespace DL
open PySem PySem.Spec PyProof.Rows L2 PySem.SeqAt PySem.W

/-- what an expression raises keeps the slots -/
def Res.bx {α β : Type} (r : Res α) (env : List (Option SV)) (k : α → Res β) : Res β := match r with
  | .ok a => k a
  | .exc c s' => .exc c ⟨env, s'.st⟩
  | .stuck => .stuck
@[simp] theorem Res.bx_ok {α β : Type} (a : α) (env : List (Option SV)) (k : α → Res β) : (Res.ok a).bx env k = k a := rfl
@[simp] theorem Res.bx_exc {α β : Type} (c : Str) (s : S) (env : List (Option SV)) (k : α → Res β) : (Res.exc c s : Res α).bx env k = .exc c ⟨env, s.st⟩ := rfl
@[simp] theorem Res.bx_stuck {α β : Type} (env : List (Option SV)) (k : α → Res β) : (Res.stuck : Res α).bx env k = .stuck := rfl
inductive Fl where
  | next | brk | cont
  | ret (sv : SV)
abbrev RS := Res (Fl × S)
abbrev EvS := Nat → S → RS
/-- B: what lives outside; P: the own objects that were there at the beginning (they stay); L: the later ones -/
structure SRL (K : PySem.W.Frag) (c : Cfg) (B P L : List Addr) (H : Hp) (σ : L2.St) (s : S) : Prop where
  sr : SR K c B (P ++ L) H σ s
  off : ∀ a ∈ L, a ∉ B ++ P
def EndsD (K : PySem.W.Frag) (B as : List Addr) (D : Ends) : Fl → L2.St → Hp → Prop
  | .next, σ, H => D.nx σ H
  | .brk, σ, H => D.bk σ H
  | .cont, σ, H => D.ct σ H
  | .ret sv, σ, H => ∀ v, RepS K (B ++ as) as H sv v → D.rt v H
def WantsS (X : Cx) (c : Cfg) (W : WX) (B P L : List Addr) (H : Hp) (D : Ends) : RS → Prop
  | .ok p => ∀ L' σ' H', Evo (P ++ L) H H' → (∀ a ∈ L', a ∈ L ∨ H a = none) → SRL X.K c B P L' H' σ' p.2 → EndsD X.K B (P ++ L') D p.1 σ' H'
  | .exc cl s' => ∀ L' σ' H', Evo (P ++ L) H H' → (∀ a ∈ L', a ∈ L ∨ H a = none) → SRL X.K c B P L' H' σ' s' → W (c.cls cl) none σ' H'
  | .stuck => False
def DS (X : Cx) (c : Cfg) (W : WX) (st : Stmt) (f : EvS) : Prop :=
  ∃ t, PS X st t ∧ ∀ (B P L : List Addr) (σ : L2.St) (H : Hp) (s : S) (D : Ends), SRL X.K c B P L H σ s → WantsS X c W B P L H D (f P.length s) → t D σ H
def DSs (X : Cx) (c : Cfg) (W : WX) (st : List Stmt) (f : EvS) : Prop :=
  ∃ t, PSs X st t ∧ ∀ (B P L : List Addr) (σ : L2.St) (H : Hp) (s : S) (D : Ends), SRL X.K c B P L H σ s → WantsS X c W B P L H D (f P.length s) → t D σ H
section
variable {X : Cx} {c : Cfg} {W : WX} {B P L L1 : List Addr} {σ : L2.St} {H H1 : Hp} {s : S} {D : Ends} {st : Stmt} {rest : List Stmt} {f g : EvS} {e : Expr} {pos : Pos} {fa fb : EvD} {q qa qb tr : Bool}
theorem SRL.fresh (srl : SRL X.K c B P L1 H σ s) {L : List Addr} {H0 : Hp} (e : Evo (P ++ L) H0 H1) {a : Addr} (hl : a ∈ L1) (h : H1 a = none) : a ∈ L ∨ H0 a = none := by
  rcases e.free h with z | z
  · rcases List.mem_append.mp z with y | y
    · exact absurd (List.mem_append_right _ y) (srl.off a hl)
    · exact .inl y
  · exact .inr z
theorem WantsS.step {r : RS} (h : WantsS X c W B P L H D r) (e : Evo (P ++ L) H H1) (fr : ∀ a ∈ L1, a ∈ L ∨ H a = none) : WantsS X c W B P L1 H1 D r := by
  have tr : ∀ {H' : Hp}, Evo (P ++ L1) H1 H' → Evo (P ++ L) H H' := fun e' => e.trans e' fun x hx => by
    rcases List.mem_append.mp hx with z | z
    · exact .inl (List.mem_append_left _ z)
    · exact (fr x z).imp (List.mem_append_right _) id
  have ff : ∀ {L' : List Addr} {H' : Hp} {σ' : L2.St} {s' : S}, (∀ a ∈ L', a ∈ L1 ∨ H1 a = none) → SRL X.K c B P L' H' σ' s' → ∀ a ∈ L', a ∈ L ∨ H a = none := fun f' srl a ha => by
    rcases f' a ha with z | z
    · exact fr a z
    · exact srl.fresh e ha z
  cases r with
  | ok p => exact fun L' σ' H' e' f' srl => h L' σ' H' (tr e') (ff f' srl) srl
  | exc cl s' => exact fun L' σ' H' e' f' srl => h L' σ' H' (tr e') (ff f' srl) srl
  | stuck => exact h
theorem WantsS.step0 {r : RS} (h : WantsS X c W B P L H D r) (e : Evo (P ++ L) H H1) : WantsS X c W B P L H1 D r := h.step e fun _ z => .inl z
section
variable {α β : Type} {R : List Addr → List Addr → Hp → α → β → Prop}
theorem WantsS.bindG {f : S → Res (α × Sto)} {k : α × Sto → RS} {ta : L2.St → Hp → (β → Hp → Prop) → Prop} {Q1 : β → Hp → Prop} (hw : WantsS X c W B P L H D ((f s).bx s.env k)) (srl : SRL X.K c B P L H σ s)
    (ra : ∀ (B as : List Addr) (σ : L2.St) (H : Hp) (s : S) (Q : β → Hp → Prop), SR X.K c B as H σ s → WantsG X c W R B as σ H s.env q Q (f s) → ta σ H Q)
    (h : ∀ v H1 d st1, f s = .ok (d, st1) → Evo (P ++ L) H H1 → SRL X.K c B P L H1 σ ⟨s.env, st1⟩ → R B (P ++ L) H1 d v → WantsS X c W B P L H1 D (k (d, st1)) → Q1 v H1) : ta σ H Q1 := by
  refine ra B (P ++ L) σ H s Q1 srl.sr ?_
  cases e : f s with
  | stuck => rw [e] at hw; exact hw
  | exc cl s' =>
    rw [e] at hw
    exact fun H' ev sr' => hw L σ H' ev (fun _ z => .inl z) ⟨sr', srl.off⟩
  | ok p =>
    obtain ⟨d, st1⟩ := p
    rw [e] at hw
    exact fun v H1 ev sr1 rp => h v H1 d st1 e (ev.mono wq_as) ⟨sr1, srl.off⟩ rp (hw.step0 (ev.mono wq_as))
theorem SRL.more {N : List Addr} {H' : Hp} {s' : S} (srl : SRL X.K c B P L H σ s) (hn : ∀ a ∈ N, H a = none) (sr : SR X.K c B ((P ++ L) ++ N) H' σ s') : SRL X.K c B P (L ++ N) H' σ s' :=
  ⟨by rw [← List.append_assoc]; exact sr, fun a ha => (List.mem_append.mp ha).elim (srl.off a) fun z y => by
    rcases List.mem_append.mp y with y | y
    · exact srl.sr.out a y (hn a z)
    · obtain ⟨u, q, _⟩ := srl.sr.there (List.mem_append_left L y)
      rw [hn a z] at q; cases q⟩
theorem WantsS.bindV {f : S → Res (α × Sto)} {k : α × Sto → RS} {ta : L2.St → Hp → (β → Hp → Prop) → Prop} {Q1 : β → Hp → Prop} (hw : WantsS X c W B P L H D ((f s).bx s.env k)) (srl : SRL X.K c B P L H σ s)
    (ra : ∀ (B as : List Addr) (σ : L2.St) (H : Hp) (s : S) (Q : β → Hp → Prop), SR X.K c B as H σ s → WantsV X c W R B as σ H s.env Q (f s) → ta σ H Q)
    (h : ∀ v N H1 d st1, f s = .ok (d, st1) → Evo (P ++ L) H H1 → SRL X.K c B P (L ++ N) H1 σ ⟨s.env, st1⟩ → R B (P ++ (L ++ N)) H1 d v → WantsS X c W B P (L ++ N) H1 D (k (d, st1)) → Q1 v H1) : ta σ H Q1 := by
  refine ra B (P ++ L) σ H s Q1 srl.sr ?_
  have fr : ∀ {N : List Addr}, (∀ a ∈ N, H a = none) → ∀ a ∈ L ++ N, a ∈ L ∨ H a = none := fun hn a ha => (List.mem_append.mp ha).imp id (hn a)
  cases e : f s with
  | stuck => rw [e] at hw; exact hw
  | exc cl s' =>
    rw [e] at hw
    exact fun N H' ev hn sr' => hw (L ++ N) σ H' ev (fr hn) (srl.more hn sr')
  | ok p =>
    obtain ⟨d, st1⟩ := p
    rw [e] at hw
    exact fun v N H1 ev hn sr1 rp => h v N H1 d st1 e ev (srl.more hn sr1) (by rw [← List.append_assoc]; exact rp) (hw.step ev (fr hn))
theorem WantsS.fin {fl : Fl} {s' : S} {σ' : L2.St} {H' : Hp} (hw : WantsS X c W B P L H D (.ok (fl, s'))) (e : Evo (P ++ L) H H') (srl : SRL X.K c B P L H' σ' s') : EndsD X.K B (P ++ L) D fl σ' H' :=
  hw L σ' H' e (fun _ z => .inl z) srl
theorem WantsS.now {fl : Fl} {s' : S} {σ' : L2.St} (hw : WantsS X c W B P L H D (.ok (fl, s'))) (srl : SRL X.K c B P L H σ' s') : EndsD X.K B (P ++ L) D fl σ' H :=
  hw.fin Evo.refl srl
end

/-! ### blocks -/
def nilS : EvS := fun _ s => .ok (.next, s)
def seqS (f g : EvS) : EvS := fun n s => match f n s with
  | .ok (.next, s1) => g n s1
  | .ok (fl, s1) => .ok (fl, s1)
  | .exc c s1 => .exc c s1
  | .stuck => .stuck
theorem dss_nil : DSs X c W [] nilS := ⟨_, pss_nil, fun B P L σ H s D srl hw => hw.now srl⟩
theorem dss_one (h : DS X c W st f) : DSs X c W [st] f := by
  obtain ⟨t, p, r⟩ := h
  exact ⟨t, pss_one p, r⟩
theorem dss_cons (h : DS X c W st f) (h2 : DSs X c W rest g) : DSs X c W (st :: rest) (seqS f g) := by
  obtain ⟨t, p, r⟩ := h
  obtain ⟨u, p2, r2⟩ := h2
  refine ⟨tSeq t u, pss_cons p p2, fun B P L σ H s D srl hw => ?_⟩
  refine r B P L σ H s _ srl ?_
  unfold seqS at hw
  cases e : f P.length s with
  | stuck => rw [e] at hw; exact hw.elim
  | exc cl s1 => rw [e] at hw; exact hw
  | ok p =>
    obtain ⟨fl, s1⟩ := p
    rw [e] at hw
    cases fl with
    | next => exact fun L' σ' H' ev fr srl' => r2 B P L' σ' H' s1 D srl' (WantsS.step hw ev fr)
    | brk => exact fun L' σ' H' ev fr srl' => hw L' σ' H' ev fr srl'
    | cont => exact fun L' σ' H' ev fr srl' => hw L' σ' H' ev fr srl'
    | ret sv => exact fun L' σ' H' ev fr srl' => hw L' σ' H' ev fr srl'
def passS : EvS := fun _ s => .ok (.next, s)
theorem ds_pass : DS X c W (.Pass pos) passS := ⟨_, ps_pass, fun B P L σ H s D srl hw => hw.now srl⟩
def brkS : EvS := fun _ s => .ok (.brk, s)
theorem ds_brk : DS X c W (.Break pos) brkS := ⟨_, ps_break, fun B P L σ H s D srl hw => hw.now srl⟩
def contS : EvS := fun _ s => .ok (.cont, s)
theorem ds_cont : DS X c W (.Continue pos) contS := ⟨_, ps_continue, fun B P L σ H s D srl hw => hw.now srl⟩
theorem ds_doc {x j pos pos'} : DS X c W (.Expr (.Constant (.str x) j pos) pos') passS := ⟨_, ps_doc, fun B P L σ H s D srl hw => hw.now srl⟩
def ifS (t : EvT) (f g : EvS) : EvS := fun n s => (t s).bx s.env fun p => if p.1 = true then f n ⟨s.env, p.2⟩ else g n ⟨s.env, p.2⟩
theorem ds_if {t : EvT} {a b : List Stmt} (ht : DT X c W e t) (ha : DSs X c W a f) (hb : DSs X c W b g) : DS X c W (.If e a b pos) (ifS t f g) := by
  obtain ⟨tt, pt, rt⟩ := ht
  obtain ⟨ta, pa, ra⟩ := ha
  obtain ⟨tb, pb, rb⟩ := hb
  refine ⟨tIfS tt ta tb, ps_if pt pa pb, fun B P L σ H s D srl hw => ?_⟩
  show tt σ H _
  refine WantsS.bindG (s := s) hw srl rt fun x H1 k st1 e1 ev1 sr1 r1 hw1 => ?_
  have z : x = k := r1
  subst z
  cases x with
  | true => rw [if_pos rfl] at hw1 ⊢; exact ra B P L σ H1 ⟨s.env, st1⟩ D sr1 hw1
  | false => rw [if_neg Bool.false_ne_true] at hw1 ⊢; exact rb B P L σ H1 ⟨s.env, st1⟩ D sr1 hw1
/-- code that is not reached -/
def neverS : EvS := fun _ _ => .stuck
theorem ds_never : DS X c W st neverS := ⟨_, ps_never, fun B P L σ H s D srl hw => hw⟩
theorem dss_never {sts : List Stmt} : DSs X c W sts neverS := ⟨_, pss_never, fun B P L σ H s D srl hw => hw⟩

/-! ### return, expressions, names -/
def retS (fa : EvV) : EvS := fun n s => (fa s).bx s.env fun p => .ok (.ret p.1, ⟨s.env, p.2⟩)
theorem ds_ret {fa : EvV} (h : DV X c W e fa) : DS X c W (.Return (some e) pos) (retS fa) := by
  obtain ⟨t, p, r⟩ := h
  refine ⟨tRet t, ps_ret p, fun B P L σ H s D srl hw => ?_⟩
  show t σ H _
  refine WantsS.bindV (s := s) hw srl r fun v N H1 d st1 e1 ev1 sr1 r1 hw1 => ?_
  exact hw1.now sr1 v r1
def retNS : EvS := fun n s => .ok (.ret (.pure .none), s)
theorem ds_retN : DS X c W (.Return none pos) retNS := ⟨_, ps_retN, fun B P L σ H s D srl hw => hw.now srl .non (by simp [RepS, Rep])⟩
def dropS (fa : EvD) : EvS := fun n s => (fa s).bx s.env fun p => .ok (.next, ⟨s.env, p.2⟩)
theorem ds_expr (h : DE X c W e tr q fa) (hs : swapsWith e none pos.line X.env = pure false) : DS X c W (.Expr e pos) (dropS fa) := by
  obtain ⟨t, p, r⟩ := h
  refine ⟨tDrop t, ps_expr p hs, fun B P L σ H s D srl hw => ?_⟩
  show t σ H _
  refine WantsS.bindG (s := s) hw srl r fun v H1 d st1 e1 ev1 sr1 r1 hw1 => ?_
  exact hw1.now sr1
theorem set_get {α : Type} {l : List α} {i j : Nat} {x y : α} (h : (l.set i x)[j]? = some y) : (i = j ∧ x = y ∧ i < l.length) ∨ (i ≠ j ∧ l[j]? = some y) := by
  by_cases e : i = j
  · subst e
    by_cases hl : i < l.length
    · rw [List.getElem?_set_self hl] at h
      exact .inl ⟨rfl, Option.some.inj h, hl⟩
    · rw [List.getElem?_eq_none (by rw [List.length_set]; omega)] at h
      cases h
  · rw [List.getElem?_set_ne e] at h
    exact .inr ⟨e, h⟩
theorem SR.setV {K : PySem.W.Frag} {as : List Addr} {i : Nat} {sv : SV} {v : V} (sr : SR K c B as H σ s) (h : RepS K (B ++ as) as H sv v) : SR K c B as H (σ.set i (some v)) ⟨s.env.set i (some sv), s.st⟩ :=
  ⟨by rw [List.length_set, List.length_set]; exact sr.len, fun j u q => by
    rcases set_get q with ⟨rfl, z, hl⟩ | ⟨hne, z⟩
    · cases z
      exact ⟨v, by rw [List.getElem?_set_self (by rw [sr.len]; exact hl)], h⟩
    · obtain ⟨w, q1, q2⟩ := sr.slot j u z
      exact ⟨w, by rw [List.getElem?_set_ne hne]; exact q1, q2⟩, sr.nd, sr.aslen, sr.objs, sr.out, sr.tabs⟩
def setS (i : Nat) (fa : EvV) : EvS := fun n s => (fa s).bx s.env fun p => .ok (.next, ⟨s.env.set i (some p.1), p.2⟩)
theorem ds_set {i : Nat} {x : Str} {pos' : Pos} {fa : EvV} (hN : X.N.Nodup) (hi : X.N[i]? = some x) (hx : Loc X.env.scope x) (h : DV X c W e fa) (hs : swapsWith e (some (.Name x pos')) pos.line X.env = pure false) (hf : X.fn x = true ∨ X.env.scope.names.lookup x = some .local) :
    DS X c W (.Assign [.Name x pos'] e pos) (setS i fa) := by
  obtain ⟨t, p, r⟩ := h
  refine ⟨_, ps_set hN hi hx p hs hf, fun B P L σ H s D srl hw => ?_⟩
  show t σ H _
  refine WantsS.bindV (s := s) hw srl r fun v N H1 d st1 e1 ev1 sr1 r1 hw1 => ?_
  exact hw1.now ⟨sr1.sr.setV r1, sr1.off⟩
/-- .. by another rule of the same reading -/
theorem ds_setBy {i : Nat} {fa : EvV} {t : TE} (p : PS X st (tAsg t (gName i))) (r : ∀ (B as : List Addr) (σ : L2.St) (H : Hp) (s : S) (Q : VK), SR X.K c B as H σ s → WantsV X c W (RepV X.K) B as σ H s.env Q (fa s) → t σ H Q) : DS X c W st (setS i fa) := by
  refine ⟨_, p, fun B P L σ H s D srl hw => ?_⟩
  show t σ H _
  refine WantsS.bindV (s := s) hw srl r fun v N H1 d st1 e1 ev1 sr1 r1 hw1 => ?_
  exact hw1.now ⟨sr1.sr.setV r1, sr1.off⟩
def parS (i j : Nat) (fa : EvA) : EvS := fun n s => (fa s).bx s.env fun p => match p.1 with
  | [a, b] => .ok (.next, ⟨(s.env.set i (some a)).set j (some b), p.2⟩)
  | _ => .stuck
theorem ds_par {i j : Nat} {x y : Str} {a b : Expr} {fa : EvA} {px py pt : Pos} {kt k2 pt2} (hc : X.calm = true) (hN : X.N.Nodup) (hi : X.N[i]? = some x) (hj : X.N[j]? = some y) (hij : i ≠ j)
    (hx : X.env.scope.names.lookup x = some .local) (hy : X.env.scope.names.lookup y = some .local) (ha : DVA X c W [a, b] fa)
    (hw : swappedStores [.Tuple [.Name x px, .Name y py] kt pt] (.Tuple [a, b] k2 pt2) X.env = pure (some [x, y]))
    (hs : swapsWithSole [.Tuple [.Name x px, .Name y py] kt pt] (.Tuple [a, b] k2 pt2) pos.line X.env = pure false) :
    DS X c W (.Assign [.Tuple [.Name x px, .Name y py] kt pt] (.Tuple [a, b] k2 pt2) pos) (parS i j fa) := by
  obtain ⟨t, p, r⟩ := ha
  refine ⟨_, ps_par hc hN hi hj hij hx hy p hw hs, fun B P L σ H s D srl hw => ?_⟩
  show t σ H _
  refine WantsS.bindV (s := s) hw srl r fun vs N H1 d st1 e1 ev1 sr1 r1 hw1 => ?_
  simp only at hw1
  split at hw1
  · obtain ⟨v, q1, rfl, h1, w, q2, rfl, h2, z⟩ := r1
    have z' : q2 = [] := z
    subst z'
    exact ⟨v, w, rfl, hw1.now ⟨(sr1.sr.setV h1).setV h2, sr1.off⟩⟩
  · exact hw1.elim
def par3S (i j l : Nat) (fa : EvA) : EvS := fun n s => (fa s).bx s.env fun p => match p.1 with
  | [a, b, d] => .ok (.next, ⟨((s.env.set i (some a)).set j (some b)).set l (some d), p.2⟩)
  | _ => .stuck
theorem ds_par3 {i j l : Nat} {x y z : Str} {a b d : Expr} {fa : EvA} {px py pz pt : Pos} {kt k2 pt2} (hc : X.calm = true) (hN : X.N.Nodup) (hi : X.N[i]? = some x) (hj : X.N[j]? = some y) (hl : X.N[l]? = some z) (hij : i ≠ j) (hil : i ≠ l) (hjl : j ≠ l)
    (hx : X.env.scope.names.lookup x = some .local) (hy : X.env.scope.names.lookup y = some .local) (hz : X.env.scope.names.lookup z = some .local) (ha : DVA X c W [a, b, d] fa)
    (hw : swappedStores [.Tuple [.Name x px, .Name y py, .Name z pz] kt pt] (.Tuple [a, b, d] k2 pt2) X.env = pure (some [x, y, z]))
    (hs : swapsWithSole [.Tuple [.Name x px, .Name y py, .Name z pz] kt pt] (.Tuple [a, b, d] k2 pt2) pos.line X.env = pure false) :
    DS X c W (.Assign [.Tuple [.Name x px, .Name y py, .Name z pz] kt pt] (.Tuple [a, b, d] k2 pt2) pos) (par3S i j l fa) := by
  obtain ⟨t, p, r⟩ := ha
  refine ⟨_, ps_par3 hc hN hi hj hl hij hil hjl hx hy hz p hw hs, fun B P L σ H s D srl hw => ?_⟩
  show t σ H _
  refine WantsS.bindV (s := s) hw srl r fun vs N H1 d st1 e1 ev1 sr1 r1 hw1 => ?_
  simp only at hw1
  split at hw1
  · obtain ⟨v, q1, rfl, h1, w, q2, rfl, h2, u, q3, rfl, h3, z⟩ := r1
    have z' : q3 = [] := z
    subst z'
    exact ⟨v, w, u, rfl, hw1.now ⟨((sr1.sr.setV h1).setV h2).setV h3, sr1.off⟩⟩
  · exact hw1.elim

/-! ### targets -/
theorem wipe_set_out {i : Nat} {x : Option V} : ∀ {vs : List Nat} {σ : L2.St}, i ∉ vs → L2.wipe (σ.set i x) vs = (L2.wipe σ vs).set i x
  | [], _, _ => rfl
  | v :: vs, σ, h => by
    show (L2.wipe (σ.set i x) vs).set v none = ((L2.wipe σ vs).set v none).set i x
    rw [wipe_set_out fun z => h (List.mem_cons_of_mem _ z), List.set_comm]
    intro z
    exact h (by rw [z]; exact List.mem_cons_self)
theorem wipe_set_in {i : Nat} {x : Option V} : ∀ {vs : List Nat} {σ : L2.St}, i ∈ vs → L2.wipe (σ.set i x) vs = L2.wipe σ vs
  | v :: vs, σ, h => by
    show (L2.wipe (σ.set i x) vs).set v none = (L2.wipe σ vs).set v none
    by_cases hi : i ∈ vs
    · rw [wipe_set_in hi]
    · rw [wipe_set_out hi]
      rcases List.mem_cons.mp h with e | e
      · rw [e, List.set_set]
      · exact absurd e hi
/-- only the slots is are touched -/
def Within (is : List Nat) (σ σ' : L2.St) : Prop := ∀ vs : List Nat, (∀ i ∈ is, i ∈ vs) → L2.wipe σ' vs = L2.wipe σ vs
abbrev GS := PyData → List (Option SV) → Option (List (Option SV))
abbrev GSs := List PyData → List (Option SV) → Option (List (Option SV))
def DG (X : Cx) (c : Cfg) (tg : Expr) (is : List Nat) (g : GS) : Prop :=
  ∃ t, PG X tg t ∧ ∀ (B as : List Addr) (σ : L2.St) (H : Hp) (s : S) (d : PyData) (v : V) (e1 : List (Option SV)) (Q : L2.St → Hp → Prop), SR X.K c B as H σ s → Rep X.K (B ++ as) H d v → g d s.env = some e1 →
    (∀ σ', SR X.K c B as H σ' ⟨e1, s.st⟩ → Within is σ σ' → Q σ' H) → t v σ H Q
def DGs (X : Cx) (c : Cfg) (ts : List Expr) (is : List Nat) (g : GSs) : Prop :=
  ∃ t, PGs X ts t ∧ ∀ (B as : List Addr) (σ : L2.St) (H : Hp) (s : S) (ds : List PyData) (vs : List V) (e1 : List (Option SV)) (Q : L2.St → Hp → Prop), SR X.K c B as H σ s → RepA X.K (B ++ as) H ds vs → g ds s.env = some e1 →
    (∀ σ', SR X.K c B as H σ' ⟨e1, s.st⟩ → Within is σ σ' → Q σ' H) → t vs σ H Q
def nameG (i : Nat) : GS := fun d env => some (env.set i (some (.pure d)))
theorem dg_name {i : Nat} {x : Str} (hN : X.N.Nodup) (hi : X.N[i]? = some x) (hx : Loc X.env.scope x) (hf : X.fn x = true ∨ X.env.scope.names.lookup x = some .local) : DG X c (.Name x pos) [i] (nameG i) :=
  ⟨_, pg_name hN hi hx hf, fun B as σ H s d v e1 Q sr rv e hQ => by
    cases e
    exact hQ _ (sr.setV (sv := .pure d) rv) fun vs h => wipe_set_in (h i (List.mem_singleton.mpr rfl))⟩
def nilG : GSs := fun ds env => match ds with
  | [] => some env
  | _ => none
def consG (g : GS) (h : GSs) : GSs := fun ds env => match ds with
  | d :: r => (g d env).bind (h r)
  | [] => none
theorem dgs_nil : DGs X c [] [] nilG := ⟨_, pgs_nil, fun B as σ H s ds vs e1 Q sr rv e hQ => by
  unfold nilG at e
  split at e
  · cases e
    simp only [RepA] at rv
    exact ⟨rv, hQ _ sr fun _ _ => rfl⟩
  · cases e⟩
theorem dgs_cons {e : Expr} {es : List Expr} {is js : List Nat} {g : GS} {h : GSs} (h1 : DG X c e is g) (h2 : DGs X c es js h) (hs : (assignEach (e :: es) X.env).map (·.2) = assign e X.env :: (assignEach es X.env).map (·.2)) : DGs X c (e :: es) (is ++ js) (consG g h) := by
  obtain ⟨t, p, r⟩ := h1
  obtain ⟨u, p2, r2⟩ := h2
  refine ⟨_, pgs_cons p p2 hs, fun B as σ H s ds vs e1 Q sr rv e hQ => ?_⟩
  unfold consG at e
  split at e
  · rename_i d ds
    simp only [RepA] at rv
    obtain ⟨v, q, rfl, h1, h2⟩ := rv
    cases eg : g d s.env with
    | none => rw [eg] at e; cases e
    | some env1 =>
      rw [eg] at e
      exact ⟨v, q, rfl, r B as σ H s d v env1 _ sr h1 eg fun σ' sr' w' => r2 B as σ' H ⟨env1, s.st⟩ ds q e1 Q sr' h2 e fun σ2 sr2 w2 => hQ σ2 sr2 fun vs hv => (w2 vs fun i hi => hv i (List.mem_append_right _ hi)).trans (w' vs fun i hi => hv i (List.mem_append_left _ hi))⟩
  · cases e
def tupG (n : Nat) (h : GSs) : GS := fun d env => match d with
  | .tuple ds => if ds.length = n then h ds env else none
  | _ => none
theorem dg_tup {es : List Expr} {k : Nat} {is : List Nat} {h : GSs} {n : Nat} (hc : X.calm = true) (hg : DGs X c es is h)
    (hn : (assignEach es X.env).length = n) (hst : (assignEach es X.env).findIdx? (·.1) = none) : DG X c (.Tuple es k pos) is (tupG n h) := by
  obtain ⟨t, p, r⟩ := hg
  refine ⟨_, pg_tup hc p hn hst, fun B as σ H s d v e1 Q sr rv e hQ => ?_⟩
  unfold tupG at e
  split at e
  · split at e
    · rename_i ds hl
      obtain ⟨a, vs, rfl, l, rs⟩ := (Rep.t rv).tuple
      exact ⟨a, vs, rfl, l.sq, by rw [rs.length]; exact hl, r B as σ H s ds vs e1 Q sr rs e hQ⟩
    · cases e
  · cases e
/-- (a, b, ..) = a tuple -/
def asgS (fa : EvD) (g : GS) : EvS := fun n s => (fa s).bx s.env fun p => match g p.1 s.env with
  | some e1 => .ok (.next, ⟨e1, p.2⟩)
  | none => .stuck
theorem ds_asg {tg : Expr} {is : List Nat} {g : GS} (h : DE X c W e false q fa) (hg : DG X c tg is g) (hs : swapsWithSole [tg] e pos.line X.env = pure false) (hw : swappedStores [tg] e X.env = pure none) (h1 : (assignEach [tg] X.env).map (·.2) = [assign tg X.env]) :
    DS X c W (.Assign [tg] e pos) (asgS fa g) := by
  obtain ⟨t, p, r⟩ := h
  obtain ⟨u, p2, r2⟩ := hg
  refine ⟨_, ps_asg p p2 hs hw h1, fun B P L σ H s D srl hw => ?_⟩
  show t σ H _
  refine WantsS.bindG (s := s) hw srl r fun v H1 d st1 e1 ev1 sr1 r1 hw1 => ?_
  simp only at hw1
  split at hw1
  · rename_i env1 eg
    exact r2 B (P ++ L) σ H1 ⟨s.env, st1⟩ d v env1 _ sr1.sr r1 eg fun σ' sr' _ => hw1.now ⟨sr', sr1.off⟩
  · exact hw1.elim

/-! ### own objects are changed -/
theorem SR.write {K : PySem.W.Frag} {as : List Addr} {j : Nat} {a : Addr} {o : O} {u : HO} (sr : SR K c B as H σ s) (hj : as[j]? = some a) (ho : ORep K c.hs (B ++ as) (upd H a u) a o) : Evo as H (upd H a u) ∧ SR K c B as (upd H a u) σ ⟨s.env, s.st.set j o⟩ := by
  have hm : a ∈ as := List.mem_of_getElem? hj
  obtain ⟨w, hw, ht⟩ := sr.there hm
  have ev : Evo [a] H (upd H a u) := Evo.at hw ht (List.mem_singleton.mpr rfl)
  have hs : ∀ x ∈ [a], x ∈ B ++ as := fun x hx => by rw [List.mem_singleton.mp hx]; exact List.mem_append_right _ hm
  refine ⟨Evo.at hw ht hm, sr.len, fun i sv q => ?_, sr.nd, by rw [List.length_set]; exact sr.aslen, fun i o' a' h1 h2 => ?_, fun x hx z => ?_, sr.tabs.evo ev⟩
  · obtain ⟨v, q1, q2⟩ := sr.slot i sv q
    exact ⟨v, q1, q2.evo ev hs⟩
  · rcases set_get h1 with ⟨rfl, z, _⟩ | ⟨hne, z⟩
    · subst z
      rw [hj] at h2
      cases h2
      exact ho
    · refine (sr.objs i o' a' z h2).evo0 ev hs fun y => hne ?_
      rw [List.mem_singleton.mp y] at h2
      exact nodup_at sr.nd hj h2
  · by_cases e : x = a
    · rw [e, upd_same] at z; cases z
    · rw [upd_ne e] at z; exact sr.out x hx z
theorem SR.writeL {K : PySem.W.Frag} {as : List Addr} {j : Nat} {a : Addr} {ds : List PyData} {vs : List V} (sr : SR K c B as H σ s) (hj : as[j]? = some a) (rs : RepA K (B ++ as) H ds vs) : Evo as H (upd H a (.lst vs)) ∧ SR K c B as (upd H a (.lst vs)) σ ⟨s.env, s.st.set j (.lst ds)⟩ := by
  have hm : a ∈ as := List.mem_of_getElem? hj
  obtain ⟨w, hw, ht⟩ := sr.there hm
  have ev : Evo [a] H (upd H a (.lst vs)) := Evo.at hw ht (List.mem_singleton.mpr rfl)
  exact sr.write hj ⟨vs, upd_same, RepA.evo ev (fun x hx => by rw [List.mem_singleton.mp hx]; exact List.mem_append_right _ hm) ds vs rs⟩
/-- the own object at slot i -/
def objAt (env : List (Option SV)) (i : Nat) : Option Nat := match env[i]? with
  | some (some (.obj j)) => some j
  | _ => none
theorem objAt_get {K : PySem.W.Frag} {as : List Addr} {i j : Nat} (sr : SR K c B as H σ s) (h : objAt s.env i = some j) : ∃ a, σ[i]? = some (some (.ref a)) ∧ as[j]? = some a := by
  unfold objAt at h
  split at h
  · rename_i j' e
    cases h
    obtain ⟨v, q1, a, q2, rfl⟩ := sr.slot i _ e
    exact ⟨a, q1, q2⟩
  · cases h
/-- x[i] = e -/
def stoS (i : Nat) (fi fe : EvD) : EvS := fun n s => (fe s).bx s.env fun p => match objAt s.env i with
  | some j => (fi ⟨s.env, p.2⟩).bx s.env fun q => (match q.1, q.2[j]? with
    | .int k, some (.lst ds) => (match ixN ds.length k with
      | some t => .ok (.next, ⟨s.env, q.2.set j (.lst (ds.set t p.1))⟩)
      | none => .stuck)
    | _, _ => .stuck)
  | none => .stuck
theorem ds_sto {i : Nat} {x : Str} {ie : Expr} {p1 p2 : Pos} {fi : EvD} (hN : X.N[i]? = some x) (hv : Vis X.env.scope x) (hd : (x == ("__debug__" : Str)) = false) (hcd : (x == ("__classdict__" : Str)) = false) (hi : DE X c W ie false qb fi) (he : DE X c W e false q fa)
    (ha : ∀ v, assign (.Subscript (.Name x p1) ie p2) X.env v = (do
      let ov ← holding [v] (eval (.Name x p1) X.env)
      let iv ← holding [v, ov] (eval ie X.env)
      standAt p2
      holding [v, ov, iv] (setItem ov iv v)
      release [v, ov, iv] [])) (hs : swapsWithSole [.Subscript (.Name x p1) ie p2] e pos.line X.env = pure false) (hw : swappedStores [.Subscript (.Name x p1) ie p2] e X.env = pure none)
    (h1 : (assignEach [.Subscript (.Name x p1) ie p2] X.env).map (·.2) = [assign (.Subscript (.Name x p1) ie p2) X.env]) :
    DS X c W (.Assign [.Subscript (.Name x p1) ie p2] e pos) (stoS i fi fa) := by
  obtain ⟨te, pe, re⟩ := he
  obtain ⟨ti, pi, ri⟩ := hi
  refine ⟨_, ps_asg pe (pg_sub (pe_var hN hv hd hcd) pi set_list ha) hs hw h1, fun B P L σ H s D srl hw => ?_⟩
  show te σ H _
  refine WantsS.bindG (s := s) hw srl re fun v H1 d st1 e1 ev1 sr1 r1 hw1 => ?_
  show tVar i σ H1 _
  simp only at hw1
  cases ej : objAt s.env i with
  | none => rw [ej] at hw1; exact hw1.elim
  | some j =>
    rw [ej] at hw1
    obtain ⟨a, q1, q2⟩ := objAt_get sr1.sr ej
    refine ⟨_, q1, ?_⟩
    show ti σ H1 _
    refine WantsS.bindG (s := ⟨s.env, st1⟩) hw1 sr1 ri fun y H2 d2 st2 e2 ev2 sr2 r2 hw2 => ?_
    simp only at hw2
    split at hw2
    · rename_i k ds el
      split at hw2
      · rename_i t et
        have z : y = .int k := by simpa [RepE, RepX, Rep] using r2
        subst z
        obtain ⟨vs, h1, h2⟩ := sr2.sr.objs j _ a el q2
        have rv : Rep X.K (B ++ (P ++ L)) H2 d v := Rep.evo ev2 (fun x hx => List.mem_append_right _ hx) _ _ r1
        obtain ⟨w1, w2⟩ := sr2.sr.writeL q2 (RepA.set t h2 rv)
        refine ⟨a, vs, k, t, rfl, rfl, h1, by rw [h2.length]; exact et, ?_⟩
        exact hw2.fin w1 ⟨w2, sr2.off⟩
      · exact hw2.elim
    · exact hw2.elim
/-! methods of own lists, as expressions -/
theorem WantsG.bindL {α β γ δ : Type} {R : List Addr → List Addr → Hp → α → β → Prop} {R2 : List Addr → List Addr → Hp → γ → δ → Prop} {as : List Addr} {f : S → Res (α × Sto)} {k : α × Sto → Res (γ × Sto)} {ta : L2.St → Hp → (β → Hp → Prop) → Prop} {qa : Bool} {Q : δ → Hp → Prop} {Q1 : β → Hp → Prop} (hw : WantsG X c W R2 B as σ H s.env false Q ((f s).bind k)) (sr : SR X.K c B as H σ s)
    (ra : ∀ (B as : List Addr) (σ : L2.St) (H : Hp) (s : S) (Q : β → Hp → Prop), SR X.K c B as H σ s → WantsG X c W R B as σ H s.env qa Q (f s) → ta σ H Q)
    (h : ∀ v H1 d st1, f s = .ok (d, st1) → Evo (wq qa as) H H1 → SR X.K c B as H1 σ ⟨s.env, st1⟩ → R B as H1 d v → WantsG X c W R2 B as σ H1 s.env false Q (k (d, st1)) → Q1 v H1) : ta σ H Q1 :=
  WantsG.bind (qb := false) (by rw [Bool.and_false]; exact hw) sr ra h
def isLst : Option O → Bool
  | some (.lst _) => true
  | _ => false
theorem SR.isList {K : PySem.W.Frag} {as : List Addr} {j : Nat} {a : Addr} (sr : SR K c B as H σ s) (hj : as[j]? = some a) (h : isLst s.st[j]? = true) : ∃ xs, SqL K H a xs := by
  cases e : s.st[j]? with
  | none => rw [e] at h; cases h
  | some o =>
    cases o with
    | lst ds => obtain ⟨vs, q, _⟩ := sr.objs j _ a e hj; exact ⟨vs, .of q⟩
    | dK _ => rw [e] at h; cases h
    | dM _ => rw [e] at h; cases h
    | dead => rw [e] at h; cases h
/-- x.append(e) -/
def appE (i : Nat) (fe : EvD) : EvD := fun s => match objAt s.env i with
  | some j => if isLst s.st[j]? = true then (fe s).bind fun p => (match p.2[j]? with
    | some (.lst ds) => if ds.length < 16777216 then .ok (.none, p.2.set j (.lst (ds ++ [p.1]))) else .stuck
    | _ => .stuck) else .stuck
  | none => .stuck
theorem de_app {i : Nat} {x : Str} {p1 apos cpos : Pos} {fe : EvD} (hN : X.N[i]? = some x) (hv : Vis X.env.scope x) (hd : (x == ("__debug__" : Str)) = false) (hcd : (x == ("__classdict__" : Str)) = false) (he : DE X c W e false q fe)
    (hbase : attributeBase (.Name x p1) "append" X.env (eval (.Name x p1) X.env) = eval (.Name x p1) X.env)
    (hfew : ((backTo cpos (starEach [e] X.env)).all (fun x => !x.1) && (backToKw cpos (keywordEach [] X.env)).all (fun x => x.1.isSome)
      && decide ([e].length + ([] : List Keyword).length + (if ([] : List Keyword).isEmpty then 0 else 1) < 30)) = true)
    (hline : (apos.endLine == cpos.line) = true) (hs : starEach [e] X.env = (false, eval e X.env) :: starEach [] X.env) : DE X c W (.Call (.Attribute (.Name x p1) "append" apos) [e] [] cpos) false false (appE i fe) := by
  obtain ⟨te, pe, re⟩ := he
  refine ⟨_, pe_bm PySem.F.plainAttrs_list PySem.F.slot_list_append PySem.F.type_list_append mt_append (pe_var hN hv hd hcd) (pa_cons pe pa_nil hs) hbase hfew hline hs rfl, fun B as σ H s Q sr hw => ?_⟩
  unfold appE at hw
  cases ej : objAt s.env i with
  | none => rw [ej] at hw; exact hw.elim
  | some j =>
    rw [ej] at hw
    simp only at hw
    split at hw
    · rename_i hl
      obtain ⟨a, q1, q2⟩ := objAt_get sr ej
      refine ⟨_, q1, .inl ⟨rfl, sr.isList q2 hl⟩, ?_⟩
      show te σ H _
      refine WantsG.bindL (s := s) hw sr re fun y H1 d1 st1 e1 ev1 sr1 r1 hw1 => ?_
      simp only at hw1
      split at hw1
      · rename_i ds el
        split at hw1
        · rename_i hlt
          obtain ⟨vs, h1, h2⟩ := sr1.objs j _ a el q2
          obtain ⟨w1, w2⟩ := sr1.writeL q2 (h2.append (.cons r1 .nil))
          exact ⟨a, vs, y, rfl, rfl, h1, by rw [sizeLine_eq, h2.length]; exact hlt, hw1 _ _ w1 w2 (by simp [RepE, RepX, Rep])⟩
        · exact hw1.elim
      · exact hw1.elim
    · exact hw.elim
/-- x.pop() -/
def popE (i : Nat) : EvD := fun s => match objAt s.env i with
  | some j => (match s.st[j]? with
    | some (.lst ds) => (match ds[ds.length - 1]? with
      | some d => .ok (d, s.st.set j (.lst ds.dropLast))
      | none => .stuck)
    | _ => .stuck)
  | none => .stuck
theorem de_pop {i : Nat} {x : Str} {p1 apos cpos : Pos} (hN : X.N[i]? = some x) (hv : Vis X.env.scope x) (hd : (x == ("__debug__" : Str)) = false) (hcd : (x == ("__classdict__" : Str)) = false)
    (hbase : attributeBase (.Name x p1) "pop" X.env (eval (.Name x p1) X.env) = eval (.Name x p1) X.env) (hline : (apos.endLine == cpos.line) = true) :
    DE X c W (.Call (.Attribute (.Name x p1) "pop" apos) [] [] cpos) false false (popE i) := by
  refine ⟨_, pe_bm0 PySem.F.plainAttrs_list PySem.F.slot_list_pop PySem.F.type_list_pop mt_pop (pe_var hN hv hd hcd) hbase hline, fun B as σ H s Q sr hw => ?_⟩
  unfold popE at hw
  cases ej : objAt s.env i with
  | none => rw [ej] at hw; exact hw.elim
  | some j =>
    rw [ej] at hw
    simp only at hw
    split at hw
    · rename_i ds el
      split at hw
      · rename_i d ed
        obtain ⟨a, q1, q2⟩ := objAt_get sr ej
        obtain ⟨vs, h1, h2⟩ := sr.objs j _ a el q2
        obtain ⟨v, hv2, rv⟩ := h2.get ed
        refine ⟨_, q1, .inl ⟨rfl, vs, .of h1⟩, a, vs, v, rfl, rfl, h1, by rw [h2.length]; exact hv2, ?_⟩
        obtain ⟨w1, w2⟩ := sr.writeL q2 h2.dropLast
        have hm := List.mem_of_getElem? q2
        exact hw _ _ w1 w2 (Rep.evo w1 (fun x hx => List.mem_append_right _ hx) _ _ rv)
      · exact hw.elim
    · exact hw.elim

/-! ### an own list is given away: from here on it is data -/
def unown (j : Nat) (ds : List PyData) : Option SV → Option SV
  | some (.obj k) => if k = j then some (.pure (.list ds)) else if j < k then some (.obj (k - 1)) else some (.obj k)
  | x => x
def frzAt (j : Nat) (ds : List PyData) (s : S) : S := ⟨s.env.map (unown j ds), s.st.eraseIdx j⟩
theorem SRL.freeze {j : Nat} {ds : List PyData} (srl : SRL X.K c B P L H σ s) (hj : P.length ≤ j) (h : s.st[j]? = some (.lst ds)) : SRL X.K c B P (L.eraseIdx (j - P.length)) H σ (frzAt j ds s) := by
  have hal := srl.sr.aslen
  have hjl : j < (P ++ L).length := by rw [hal]; exact (List.getElem?_eq_some_iff.mp h).1
  obtain ⟨a, ha⟩ : ∃ a, (P ++ L)[j]? = some a := ⟨_, List.getElem?_eq_getElem hjl⟩
  have haL : L[j - P.length]? = some a := by rw [← List.getElem?_append_right hj]; exact ha
  have haL' : a ∈ L := List.mem_of_getElem? haL
  have hcut : P ++ L.eraseIdx (j - P.length) = (P ++ L).eraseIdx j := by rw [List.eraseIdx_append_of_length_le hj]
  have hsub : ∀ x ∈ (P ++ L).eraseIdx j, x ∈ P ++ L := fun x hx => List.mem_of_mem_eraseIdx hx
  have hav : ∀ x ∈ B ++ (P ++ L).eraseIdx j, x ∈ B ++ (P ++ L) ∨ H x = none := fun x hx => .inl (by
    rcases List.mem_append.mp hx with z | z
    · exact List.mem_append_left _ z
    · exact List.mem_append_right _ (hsub x z))
  have hnot : a ∉ (P ++ L).eraseIdx j := fun z => by
    obtain ⟨k, hk, e⟩ := List.getElem_of_mem z
    have e' : ((P ++ L).eraseIdx j)[k]? = some a := by rw [List.getElem?_eq_getElem hk, e]
    rw [List.getElem?_eraseIdx] at e'
    split at e'
    · have := nodup_at srl.sr.nd e' ha; omega
    · have := nodup_at srl.sr.nd e' ha; omega
  obtain ⟨ws, hw1, hw2⟩ := srl.sr.objs j _ a h ha
  refine ⟨?_, fun x hx => srl.off x (List.mem_of_mem_eraseIdx hx)⟩
  rw [hcut]
  refine ⟨by show σ.length = (s.env.map _).length; rw [List.length_map]; exact srl.sr.len, fun i sv q => ?_, srl.sr.nd.eraseIdx j, ?_, fun i o x h1 h2 => ?_, srl.sr.out, srl.sr.tabs⟩
  · have q' : (s.env.map (unown j ds))[i]? = some (some sv) := q
    rw [List.getElem?_map] at q'
    cases eo : s.env[i]? with
    | none => rw [eo] at q'; cases q'
    | some osv =>
      rw [eo] at q'
      simp only [Option.map_some, Option.some.injEq] at q'
      cases osv with
      | none => cases q'
      | some sv0 =>
        obtain ⟨v, q1, q2⟩ := srl.sr.slot i _ eo
        cases sv0 with
        | pure d =>
          cases q'
          exact ⟨v, q1, Rep.avoid hav d v q2⟩
        | scr d =>
          cases q'
          obtain ⟨p, us, z1, z2, z3⟩ := q2
          exact ⟨v, q1, p, us, z1, z2.avoid hav, RepA.avoid hav _ us z3⟩
        | obj k =>
          obtain ⟨b, hb, rfl⟩ := q2
          unfold unown at q'
          simp only at q'
          split at q'
          · rename_i hkj
            cases q'
            subst hkj
            rw [ha] at hb
            cases hb
            refine ⟨_, q1, ?_⟩
            simp only [RepS, Rep]
            refine ⟨a, ws, rfl, ⟨hw1, fun z => ?_⟩, RepA.avoid hav ds ws hw2⟩
            rcases List.mem_append.mp z with z | z
            · exact srl.off a haL' (List.mem_append_left _ z)
            · exact hnot z
          · split at q'
            · cases q'
              refine ⟨_, q1, b, ?_, rfl⟩
              rw [List.getElem?_eraseIdx]
              rw [if_neg (by omega), show k - 1 + 1 = k by omega]
              exact hb
            · cases q'
              refine ⟨_, q1, b, ?_, rfl⟩
              rw [List.getElem?_eraseIdx, if_pos (by omega)]
              exact hb
  · show _ = (s.st.eraseIdx j).length
    rw [List.length_eraseIdx, List.length_eraseIdx, hal]
  · have h1' : (s.st.eraseIdx j)[i]? = some o := h1
    rw [List.getElem?_eraseIdx] at h1' h2
    split at h1'
    · rename_i hlt
      rw [if_pos hlt] at h2
      exact (srl.sr.objs i o x h1' h2).avoid hav
    · rename_i hlt
      rw [if_neg hlt] at h2
      exact (srl.sr.objs (i + 1) o x h1' h2).avoid hav
/-- ahead of a statement: the own list at slot i is given away -/
def fzS (i : Nat) (f : EvS) : EvS := fun n s => match objAt s.env i with
  | some j => if n ≤ j then (match s.st[j]? with
    | some (.lst ds) => f n (frzAt j ds s)
    | _ => .stuck) else .stuck
  | none => .stuck
theorem ds_fz {i : Nat} (h : DS X c W st f) : DS X c W st (fzS i f) := by
  obtain ⟨t, p, r⟩ := h
  refine ⟨t, p, fun B P L σ H s D srl hw => ?_⟩
  unfold fzS at hw
  split at hw
  · rename_i j ej
    split at hw
    · rename_i hj
      split at hw
      · rename_i ds ed
        exact r B P _ σ H _ D (srl.freeze hj ed) (WantsS.step hw Evo.refl fun a ha => .inl (List.mem_of_mem_eraseIdx ha))
      · exact hw.elim
    · exact hw.elim
  · exact hw.elim
end
end DL
end
section
set_option Elab.async false
set_option linter.all false
set_option maxRecDepth 100000
set_option maxHeartbeats 1000000
/-! The data layer, part i: loops, iterables. -/
namespace DL
open PySem PySem.Spec PyProof.Rows L2 PySem.SeqAt PySem.W

/-! ### the state behind a turn: names are forgotten, new objects too -/
def keepSV (n : Nat) : Option SV → Option SV
  | some (.obj j) => if j < n then some (.obj j) else none
  | x => x
def wipeE (ws : List Nat) (n : Nat) : Nat → List (Option SV) → List (Option SV)
  | _, [] => []
  | k, x :: r => (if ws.contains k = true then none else keepSV n x) :: wipeE ws n (k + 1) r
def wipeS (ws : List Nat) (n : Nat) (s : S) : S := ⟨wipeE ws n 0 s.env, s.st.take n⟩
theorem wipeE_len (ws : List Nat) (n : Nat) : ∀ (k : Nat) (env : List (Option SV)), (wipeE ws n k env).length = env.length
  | _, [] => rfl
  | k, x :: r => by simp [wipeE, wipeE_len ws n (k + 1) r]
theorem wipeE_get (ws : List Nat) (n : Nat) : ∀ (k : Nat) (env : List (Option SV)) (i : Nat) (sv : SV), (wipeE ws n k env)[i]? = some (some sv) → env[i]? = some (some sv) ∧ ∀ j, sv = .obj j → j < n
  | _, [], i, sv, h => by simp [wipeE] at h
  | k, x :: r, 0, sv, h => by
    simp only [wipeE, List.getElem?_cons_zero, Option.some.injEq] at h ⊢
    split at h
    · cases h
    · unfold keepSV at h
      split at h
      · split at h
        · rename_i hlt
          cases h
          exact ⟨rfl, fun j e => by cases e; exact hlt⟩
        · cases h
      · rename_i hx
        exact ⟨h, fun j e => absurd (by rw [h, e]) (hx j)⟩
  | k, x :: r, i + 1, sv, h => by
    simp only [wipeE, List.getElem?_cons_succ] at h ⊢
    exact wipeE_get ws n (k + 1) r i sv h
section
variable {X : Cx} {c : Cfg} {W : WX} {B P L as : List Addr} {σ : L2.St} {H H1 : Hp} {s : S} {D : Ends}
theorem SRL.wipe {L' : List Addr} (srl : SRL X.K c B as L' H σ s) (ws : List Nat) : SR X.K c B as H σ (wipeS ws as.length s) := by
  have hal := srl.sr.aslen
  rw [List.length_append] at hal
  have hav : ∀ x ∈ B ++ as, x ∈ B ++ (as ++ L') ∨ H x = none := fun x hx => .inl (by rw [← List.append_assoc]; exact List.mem_append_left _ hx)
  refine ⟨by rw [srl.sr.len]; exact (wipeE_len ..).symm, fun i sv q => ?_, (List.nodup_append.mp srl.sr.nd).1, by show as.length = (s.st.take as.length).length; rw [List.length_take]; omega, fun i o a h1 h2 => ?_, srl.sr.out, srl.sr.tabs⟩
  · obtain ⟨q1, q2⟩ := wipeE_get ws as.length 0 s.env i sv q
    obtain ⟨v, h1, h2⟩ := srl.sr.slot i sv q1
    refine ⟨v, h1, ?_⟩
    cases sv with
    | pure d => exact Rep.avoid hav d v h2
    | scr ds => obtain ⟨p, us, z1, z2, z3⟩ := h2; exact ⟨p, us, z1, z2.avoid hav, RepA.avoid hav _ us z3⟩
    | obj j =>
      obtain ⟨a, e, rfl⟩ := h2
      exact ⟨a, by rw [List.getElem?_append_left (q2 j rfl)] at e; exact e, rfl⟩
  · have h1' : (s.st.take as.length)[i]? = some o := h1
    have hi := (List.getElem?_eq_some_iff.mp h2).1
    rw [List.getElem?_take_of_lt hi] at h1'
    exact (srl.sr.objs i o a h1' (by rw [List.getElem?_append_left hi]; exact h2)).avoid hav
/-- the inside of a loop: all that is there stays -/
theorem SRL.inn (srl : SRL X.K c B P L H σ s) : SRL X.K c B (P ++ L) [] H σ s := ⟨by rw [List.append_nil]; exact srl.sr, fun _ h => by cases h⟩
theorem SRL.outL {L' : List Addr} (srl : SRL X.K c B (P ++ L) L' H σ s) (off : ∀ a ∈ L, a ∉ B ++ P) : SRL X.K c B P (L ++ L') H σ s :=
  ⟨by rw [← List.append_assoc]; exact srl.sr, fun a ha => (List.mem_append.mp ha).elim (off a) fun z y => srl.off a z (by rw [← List.append_assoc]; exact List.mem_append_left _ y)⟩
theorem fr_out {L' : List Addr} (h : ∀ a ∈ L', a ∈ ([] : List Addr) ∨ H a = none) : ∀ a ∈ L ++ L', a ∈ L ∨ H a = none := fun a ha => (List.mem_append.mp ha).imp id fun z => (h a z).resolve_left (by simp)

/-- what turns and ends of a body mean for a loop; k: the next turn -/
def turnS (ws : List Nat) (n : Nat) (k : S → RS) : RS → RS
  | .ok (.next, s2) => k (wipeS ws n s2)
  | .ok (.cont, s2) => k (wipeS ws n s2)
  | .ok (.brk, s2) => .ok (.next, s2)
  | .ok (.ret sv, s2) => .ok (.ret sv, s2)
  | .exc c s2 => .exc c s2
  | .stuck => .stuck
/-- a body, within a loop: N says what is wanted of the next turn -/
theorem turn_ref {ws : List Nat} {k : S → RS} {r : RS} {N : L2.St → Hp → Prop} (off : ∀ a ∈ L, a ∉ B ++ P) (hw : WantsS X c W B P L H D (turnS ws (P ++ L).length k r))
    (hN : ∀ σ' H' s', Evo (P ++ L) H H' → SR X.K c B (P ++ L) H' σ' s' → WantsS X c W B P L H' D (k s') → N σ' H') : WantsS X c W B (P ++ L) [] H { D with nx := N, ct := N, bk := D.nx } r := by
  have ev : ∀ {H' : Hp}, Evo ((P ++ L) ++ []) H H' → Evo (P ++ L) H H' := fun e => by rwa [List.append_nil] at e
  cases r with
  | stuck => exact hw
  | exc cl s2 => exact fun L' σ' H' e fr srl => hw (L ++ L') σ' H' (ev e) (fr_out fr) (srl.outL off)
  | ok p =>
    obtain ⟨fl, s2⟩ := p
    cases fl with
    | next => exact fun L' σ' H' e fr srl => hN σ' H' _ (ev e) (srl.wipe ws) (WantsS.step0 hw (ev e))
    | cont => exact fun L' σ' H' e fr srl => hN σ' H' _ (ev e) (srl.wipe ws) (WantsS.step0 hw (ev e))
    | brk => exact fun L' σ' H' e fr srl => hw (L ++ L') σ' H' (ev e) (fr_out fr) (srl.outL off)
    | ret sv => exact fun L' σ' H' e fr srl v rv => hw (L ++ L') σ' H' (ev e) (fr_out fr) (srl.outL off) v (by rw [show P ++ (L ++ L') = (P ++ L) ++ L' from (List.append_assoc ..).symm]; exact rv)

/-! ### loops come to their end -/
open Classical in
noncomputable def lim {α : Type} (f : Nat → Res α) : Res α := if h : ∃ m, f m ≠ .stuck then f (choose h) else .stuck
theorem lim_some {α : Type} {f : Nat → Res α} (h : lim f ≠ .stuck) : ∃ m, lim f = f m := by
  unfold lim at h ⊢
  split
  · rename_i h'; exact ⟨_, rfl⟩
  · rename_i h'; rw [dif_neg h'] at h; exact absurd rfl h
theorem lim_eq {α : Type} {f : Nat → Res α} {m : Nat} {r : Res α} (mono : ∀ m, f m ≠ .stuck → f (m + 1) = f m) (h : f m = r) (hr : r ≠ .stuck) : lim f = r := by
  have up : ∀ a k, f a ≠ .stuck → f (a + k) = f a := by
    intro a k ha
    induction k with
    | zero => rfl
    | succ k ih => rw [← Nat.add_assoc, mono _ (by rw [ih]; exact ha), ih]
  have hx : ∃ m, f m ≠ .stuck := ⟨m, by rw [h]; exact hr⟩
  unfold lim
  rw [dif_pos hx]
  have hc := Classical.choose_spec hx
  rcases Nat.le_total (Classical.choose hx) m with z | z
  · have := up _ (m - Classical.choose hx) hc
    rw [show Classical.choose hx + (m - Classical.choose hx) = m by omega, h] at this
    exact this.symm
  · have := up m (Classical.choose hx - m) (by rw [h]; exact hr)
    rw [show m + (Classical.choose hx - m) = Classical.choose hx by omega] at this
    rw [this, h]
/-! ### while -/
def whileN (t : EvT) (body : EvS) (ws : List Nat) : Nat → S → RS
  | 0, _ => .stuck
  | m + 1, s => (t s).bx s.env fun p => if p.1 = true then turnS ws p.2.length (whileN t body ws m) (body p.2.length ⟨s.env, p.2⟩) else .ok (.next, ⟨s.env, p.2⟩)
noncomputable def whileS (t : EvT) (body : EvS) (ws : List Nat) : EvS := fun _ s => lim fun m => whileN t body ws m s
theorem ds_while {e : Expr} {body : List Stmt} {pos : Pos} {t : EvT} {f : EvS} (ws : List Nat) (hp : PassesOwn (model X.prog X.w) X.A X.env X.xe) (ht : DT X c W e t) (hb : DSs X c W body f) : DS X c W (.While e body [] pos) (whileS t f ws) := by
  obtain ⟨tt, pt, rt⟩ := ht
  obtain ⟨tb, pb, rb⟩ := hb
  refine ⟨_, ps_while hp pt pb, fun B P L σ H s D srl hw => ?_⟩
  have hns : whileS t f ws P.length s ≠ .stuck := fun z => by rw [z] at hw; exact hw
  obtain ⟨m, em⟩ := lim_some hns
  have hw' : WantsS X c W B P L H D (whileN t f ws m s) := by rw [← em]; exact hw
  refine ⟨fun m σ H => ∃ s, SR X.K c B (P ++ L) H σ s ∧ WantsS X c W B P L H D (whileN t f ws m s), ⟨m, s, srl.sr, hw'⟩, ?_⟩
  rintro m σ H ⟨s, sr, hw⟩
  cases m with
  | zero => exact hw.elim
  | succ m =>
    unfold whileN at hw
    refine WantsS.bindG (s := s) hw ⟨sr, srl.off⟩ rt fun x H1 k st1 e1 ev1 sr1 r1 hw1 => ?_
    have z : x = k := r1
    subst z
    cases x with
    | false =>
      rw [if_neg Bool.false_ne_true] at hw1 ⊢
      exact hw1.now sr1
    | true =>
      rw [if_pos rfl] at hw1 ⊢
      refine ⟨fun σ' H' => ∃ s', SR X.K c B (P ++ L) H' σ' s' ∧ WantsS X c W B P L H' D (whileN t f ws m s'), fun σ' H' q => ⟨m, Nat.lt_succ_self m, q⟩, ?_⟩
      have hal := sr1.sr.aslen
      simp only at hal
      refine rb B (P ++ L) [] σ H1 ⟨s.env, st1⟩ _ sr1.inn ?_
      rw [hal]
      exact turn_ref sr1.off (by rw [hal]; exact hw1) fun σ' H' s' ev' sr' hw' => ⟨s', sr', hw'⟩

/-! ### what is walked -/
/-- the i-th item, as the own objects stand: none: no answer; some none: the end -/
abbrev IVal := Nat → Sto → Option (Option PyData)
structure WD (K : PySem.W.Frag) (c : Cfg) (B as : List Addr) (H0 : Hp) (J : It) (iv : IVal) : Prop where
  goes : ∀ B' i H σ s d, (∀ x ∈ B', x ∈ B ∨ H0 x = none) → Evo as H0 H → SR K c B' as H σ s → iv i s.st = some (some d) → J.go i H ∧ ∀ x H', J.yld i H x H' → Evo [] H H' ∧ Rep K (B' ++ as) H' d x
  stops : ∀ B' i H σ s, (∀ x ∈ B', x ∈ B ∨ H0 x = none) → Evo as H0 H → SR K c B' as H σ s → iv i s.st = some none → J.stop i H
abbrev RepI (K : PySem.W.Frag) (c : Cfg) : List Addr → List Addr → Hp → IVal → It → Prop := fun B as H iv J => WD K c B as H J iv
abbrev EvI := S → Res (IVal × Sto)
def DI (X : Cx) (c : Cfg) (W : WX) (tg e : Expr) (f : EvI) : Prop :=
  ∃ wi, PI X tg e wi ∧ ∀ (B as : List Addr) (σ : L2.St) (H : Hp) (s : S) (R : It → Hp → Prop), SR X.K c B as H σ s → WantsG X c W (RepI X.K c) B as σ H s.env false R (f s) → wi σ H R
def forN (iv : IVal) (g : GS) (body : EvS) (ws : List Nat) : Nat → Nat → S → RS
  | 0, _, _ => .stuck
  | m + 1, i, s => match iv i s.st with
    | some (some d) => (match g d s.env with
      | some e1 => turnS ws s.st.length (forN iv g body ws m (i + 1)) (body s.st.length ⟨e1, s.st⟩)
      | none => .stuck)
    | some none => .ok (.next, s)
    | none => .stuck
noncomputable def forS (fi : EvI) (g : GS) (body : EvS) (ws : List Nat) : EvS := fun _ s => (fi s).bx s.env fun p => lim fun m => forN p.1 g body ws m 0 ⟨s.env, p.2⟩
theorem ds_for {tg e : Expr} {body : List Stmt} {pos : Pos} {fi : EvI} {is : List Nat} {g : GS} {f : EvS} (ws : List Nat) (hp : PassesOwn (model X.prog X.w) X.A X.env X.xe) (hc : X.calm = true) (hi : DI X c W tg e fi) (hg : DG X c tg is g) (hb : DSs X c W body f)
    (hs : ∀ x, foldedSetIterable e X.env x = pure x) : DS X c W (.For tg e body [] pos) (forS fi g f ws) := by
  obtain ⟨wi, pi, ri⟩ := hi
  obtain ⟨tt, pg, rg⟩ := hg
  obtain ⟨tb, pb, rb⟩ := hb
  refine ⟨_, ps_for hp hc pi pg pb hs, fun B P L σ H s D srl hw => ?_⟩
  show wi σ H _
  refine WantsS.bindG (s := s) hw srl ri fun J H1 iv st1 e1 ev1 srl1 wd hw1 => ?_
  have hns : lim (fun m => forN iv g f ws m 0 ⟨s.env, st1⟩) ≠ .stuck := fun z => by simp only [z] at hw1; exact hw1
  obtain ⟨m, em⟩ := lim_some hns
  have hw' : WantsS X c W B P L H1 D (forN iv g f ws m 0 ⟨s.env, st1⟩) := by rw [← em]; exact hw1
  refine ⟨fun i m σ H => ∃ s, Evo (P ++ L) H1 H ∧ SR X.K c B (P ++ L) H σ s ∧ WantsS X c W B P L H D (forN iv g f ws m i s), ⟨m, _, Evo.refl, srl1.sr, hw'⟩, ?_⟩
  rintro i m σ H ⟨s, ev, sr, hw⟩
  cases m with
  | zero => exact hw.elim
  | succ m =>
    unfold forN at hw
    split at hw
    · rename_i d ei
      obtain ⟨go, yl⟩ := wd.goes B i H σ s d (fun _ z => .inl z) ev sr ei
      split at hw
      · rename_i env1 eg
        refine .inr ⟨go, fun σ' H' => ∃ s', Evo (P ++ L) H1 H' ∧ SR X.K c B (P ++ L) H' σ' s' ∧ WantsS X c W B P L H' D (forN iv g f ws m (i + 1) s'), fun σ' H' q => ⟨m, Nat.lt_succ_self m, q⟩, fun x H' y => ?_⟩
        obtain ⟨evn, rx⟩ := yl x H' y
        refine rg B (P ++ L) σ H' s d x env1 _ (sr.evo evn) rx eg fun σ2 sr2 _ => ?_
        have hal := sr2.aslen
        simp only at hal
        refine rb B (P ++ L) [] σ2 H' ⟨env1, s.st⟩ _ (SRL.inn ⟨sr2, srl.off⟩) ?_
        rw [hal]
        exact turn_ref srl.off (by rw [hal]; exact hw.step0 evn.wide) fun σ' H'' s' ev' sr' hw' => ⟨s', (ev.trans' evn.wide).trans' ev', sr', hw'⟩
      · exact hw.elim
    · rename_i ei
      exact .inl ⟨wd.stops B i H σ s (fun _ z => .inl z) ev sr ei, hw.now ⟨sr, srl.off⟩⟩
    · exact hw.elim
end
end DL
end
section
set_option Elab.async false
set_option linter.all false
set_option maxRecDepth 100000
set_option maxHeartbeats 1000000
/-! The data layer, part j: iterables. -/
namespace DL
open PySem PySem.Spec PyProof.Rows L2 PySem.SeqAt PySem.W
/-- a list or tuple that is walked: frozen, or an own list as it stands -/
structure Src where
  lst : Bool
  get : Sto → Option (List PyData)
def SqX (K : PySem.W.Frag) (k : Bool) (H : Hp) (a : Addr) (vs : List V) : Prop := if k = true then SqL K H a vs else SqT K H a vs
def SrcOk (K : PySem.W.Frag) (c : Cfg) (B as : List Addr) (H0 : Hp) (src : Src) (v : V) : Prop :=
  ∃ a, v = .ref a ∧ ∀ B' H σ s ds, (∀ x ∈ B', x ∈ B ∨ H0 x = none) → Evo as H0 H → SR K c B' as H σ s → src.get s.st = some ds → ∃ vs, SqX K src.lst H a vs ∧ RepA K (B' ++ as) H ds vs
theorem av_more {B B' as : List Addr} {H0 : Hp} (h : ∀ x ∈ B', x ∈ B ∨ H0 x = none) : ∀ x ∈ B' ++ as, x ∈ B ++ as ∨ H0 x = none := fun x hx => by
  rcases List.mem_append.mp hx with z | z
  · exact (h x z).imp (List.mem_append_left _) id
  · exact .inl (List.mem_append_right _ z)
theorem LstAt.avoid {K : PySem.W.Frag} {av av' : List Addr} {H : Hp} (hw : ∀ x ∈ av', x ∈ av ∨ H x = none) {a : Addr} {xs : List V} (l : LstAt K av H a xs) : LstAt K av' H a xs := ⟨l.1, fun z => (hw a z).elim l.2 (rd_ne (.inl l.1))⟩
theorem TupAt.avoid {K : PySem.W.Frag} {av av' : List Addr} {H : Hp} (hw : ∀ x ∈ av', x ∈ av ∨ H x = none) {a : Addr} {xs : List V} (l : TupAt K av H a xs) : TupAt K av' H a xs := by
  rcases l with l | l
  · exact .inl ⟨l.1, fun z => (hw a z).elim l.2 (rd_ne l.1)⟩
  · exact .inr l
abbrev EvR := S → Res (Src × Sto)
abbrev RepR (K : PySem.W.Frag) (c : Cfg) : List Addr → List Addr → Hp → Src → V → Prop := fun B as H src v => SrcOk K c B as H src v
def DR (X : Cx) (c : Cfg) (W : WX) (e : Expr) (f : EvR) : Prop :=
  ∃ t, PE X e t ∧ ∀ (B as : List Addr) (σ : L2.St) (H : Hp) (s : S) (Q : VK), SR X.K c B as H σ s → WantsG X c W (RepR X.K c) B as σ H s.env false Q (f s) → t σ H Q
section
variable {X : Cx} {c : Cfg} {W : WX} {B as : List Addr} {σ : L2.St} {H H1 : Hp} {s : S} {a b e tg : Expr} {p pos : Pos} {fa fb : EvD} {qa qb tr : Bool}
def froR (fa : EvD) : EvR := fun s => (fa s).bind fun p => match p.1 with
  | .list ds => .ok (⟨true, fun _ => some ds⟩, p.2)
  | .tuple ds => .ok (⟨false, fun _ => some ds⟩, p.2)
  | _ => .stuck
theorem src_list {K : PySem.W.Frag} {ds : List PyData} {v : V} (h : Rep K (B ++ as) H (.list ds) v) : SrcOk K c B as H ⟨true, fun _ => some ds⟩ v := by
  simp only [Rep] at h
  obtain ⟨a, vs, rfl, l, rs⟩ := h
  refine ⟨a, rfl, fun B' H' σ s ds' hB ev sr e => ?_⟩
  cases e
  exact ⟨vs, ((l.avoid (av_more hB)).evo ev fun x hx => List.mem_append_right _ hx).sq, RepA.evo ev (fun x hx => List.mem_append_right _ hx) _ _ (RepA.avoid (av_more hB) _ _ rs)⟩
theorem src_tuple {K : PySem.W.Frag} {ds : List PyData} {v : V} (h : Rep K (B ++ as) H (.tuple ds) v) : SrcOk K c B as H ⟨false, fun _ => some ds⟩ v := by
  simp only [Rep] at h
  obtain ⟨a, vs, rfl, l, rs⟩ := h
  refine ⟨a, rfl, fun B' H' σ s ds' hB ev sr e => ?_⟩
  cases e
  exact ⟨vs, ((l.avoid (av_more hB)).evo ev fun x hx => List.mem_append_right _ hx).sq, RepA.evo ev (fun x hx => List.mem_append_right _ hx) _ _ (RepA.avoid (av_more hB) _ _ rs)⟩
theorem dr_fro (h : DE X c W e false qa fa) : DR X c W e (froR fa) := by
  obtain ⟨t, p, r⟩ := h.loud'
  refine ⟨t, p, fun B as σ H s Q sr hw => ?_⟩
  refine WantsG.bindL (s := s) hw sr r fun v H1 d st1 e1 ev1 sr1 r1 hw1 => ?_
  simp only at hw1
  split at hw1
  · exact hw1.fin sr1 Evo.refl (src_list r1)
  · exact hw1.fin sr1 Evo.refl (src_tuple r1)
  · exact hw1.elim
def ownR (i : Nat) : EvR := fun s => match s.env[i]? with
  | some (some (.obj j)) => .ok (⟨true, fun st => match st[j]? with
    | some (.lst ds) => some ds
    | _ => none⟩, s.st)
  | some (some (.scr ds)) => .ok (⟨true, fun _ => some ds⟩, s.st)
  | _ => .stuck
theorem dr_own {i : Nat} {x : Str} (hN : X.N[i]? = some x) (hv : Vis X.env.scope x) (hd : (x == ("__debug__" : Str)) = false) (hcd : (x == ("__classdict__" : Str)) = false) : DR X c W (.Name x pos) (ownR i) := by
  refine ⟨_, pe_var hN hv hd hcd, fun B as σ H s Q sr hw => ?_⟩
  unfold ownR at hw
  split at hw
  · rename_i j e
    obtain ⟨v, q1, a, q2, rfl⟩ := sr.slot i _ e
    refine ⟨_, q1, hw _ H Evo.refl sr ⟨a, rfl, fun B' H' σ s ds hB ev sr' eg => ?_⟩⟩
    simp only at eg
    split at eg
    · rename_i ds' el
      cases eg
      obtain ⟨vs, h1, h2⟩ := sr'.objs j _ a el q2
      exact ⟨vs, .of h1, h2⟩
    · cases eg
  · rename_i ds e
    obtain ⟨v, q1, a, vs, rfl, l, rs⟩ := sr.slot i _ e
    refine ⟨_, q1, hw _ H Evo.refl sr ⟨a, rfl, fun B' H' σ s ds hB ev sr' eg => ?_⟩⟩
    cases eg
    exact ⟨vs, ((l.avoid (av_more hB)).evo ev fun x hx => List.mem_append_right _ hx).sq, RepA.evo ev (fun x hx => List.mem_append_right _ hx) _ _ (RepA.avoid (av_more hB) _ _ rs)⟩
  · exact hw.elim

/-! ### over a sequence -/
theorem pior {wi wi' : TI} (h : PI X tg e wi) (h' : PI X tg e wi') : PI X tg e (fun σ H R => wi σ H R ∨ wi' σ H R) :=
  ⟨fun pins s σ H R I q => q.elim (h.run pins s σ H R I) (h'.run pins s σ H R I)⟩
def seqIV (src : Src) : IVal := fun i st => (src.get st).map fun ds => ds[i]?
theorem wd_list {K : PySem.W.Frag} {src : Src} {a : Addr} (hl : src.lst = true) (h : SrcOk K c B as H src (.ref a)) : WD K c B as H (Itl K a) (seqIV src) := by
  obtain ⟨a', e, h⟩ := h
  cases e
  refine ⟨fun B' i H' σ s d hB ev sr e => ?_, fun B' i H' σ s hB ev sr e => ?_⟩
  all_goals
    unfold seqIV at e
    cases eg : src.get s.st with
    | none => rw [eg] at e; cases e
    | some ds =>
      rw [eg] at e
      obtain ⟨vs, q, rs⟩ := h B' H' σ s ds hB ev sr eg
      unfold SqX at q
      rw [if_pos hl] at q
      simp only [Option.map_some, Option.some.injEq] at e
      first
      | (obtain ⟨v, hv, rv⟩ := rs.get e
         refine ⟨⟨vs, v, q, hv⟩, fun x H2 y => ?_⟩
         obtain ⟨rfl, y⟩ := y
         have z := y vs q
         rw [hv] at z
         cases z
         exact ⟨Evo.refl, rv⟩)
      | exact ⟨vs, q, by rw [rs.length]; exact List.getElem?_eq_none_iff.mp e⟩
theorem wd_tuple {K : PySem.W.Frag} {src : Src} {a : Addr} (hl : src.lst = false) (h : SrcOk K c B as H src (.ref a)) : WD K c B as H (Itt K a) (seqIV src) := by
  obtain ⟨a', e, h⟩ := h
  cases e
  refine ⟨fun B' i H' σ s d hB ev sr e => ?_, fun B' i H' σ s hB ev sr e => ?_⟩
  all_goals
    unfold seqIV at e
    cases eg : src.get s.st with
    | none => rw [eg] at e; cases e
    | some ds =>
      rw [eg] at e
      obtain ⟨vs, q, rs⟩ := h B' H' σ s ds hB ev sr eg
      unfold SqX at q
      rw [if_neg (by rw [hl]; exact Bool.false_ne_true)] at q
      simp only [Option.map_some, Option.some.injEq] at e
      first
      | (obtain ⟨v, hv, rv⟩ := rs.get e
         refine ⟨⟨vs, v, q, hv⟩, fun x H2 y => ?_⟩
         obtain ⟨rfl, y⟩ := y
         have z := y vs q
         rw [hv] at z
         cases z
         exact ⟨Evo.refl, rv⟩)
      | exact ⟨vs, q, by rw [rs.length]; exact List.getElem?_eq_none_iff.mp e⟩
def seqI (f : EvR) : EvI := fun s => (f s).bind fun p => match p.1.get p.2 with
  | some _ => .ok (seqIV p.1, p.2)
  | none => .stuck
theorem di_seq {f : EvR} (h : DR X c W e f) : DI X c W tg e (seqI f) := by
  obtain ⟨t, p, r⟩ := h
  refine ⟨_, pior (pi_list p) (pi_tup p), fun B as σ H s R sr hw => ?_⟩
  have hw0 := hw
  unfold seqI at hw
  cases ef : f s with
  | stuck => rw [ef] at hw; exact hw.elim
  | exc cl s' =>
    refine .inl ?_
    refine r B as σ H s _ sr ?_
    rw [ef] at hw ⊢
    exact hw
  | ok q =>
    obtain ⟨src, st⟩ := q
    rw [ef] at hw
    simp only [Res.bind_ok] at hw
    cases eg : src.get st with
    | none => rw [eg] at hw; exact hw.elim
    | some ds =>
      rw [eg] at hw
      cases hl : src.lst with
      | true =>
        refine .inl (r B as σ H s _ sr ?_)
        rw [ef]
        intro v H1 ev sr1 ok
        obtain ⟨a, rfl, h⟩ := id ok
        obtain ⟨vs, q, _⟩ := h B H1 σ _ ds (fun _ z => .inl z) Evo.refl sr1 eg
        unfold SqX at q
        rw [if_pos hl] at q
        exact ⟨a, rfl, ⟨vs, q⟩, hw _ H1 ev sr1 (wd_list hl ok)⟩
      | false =>
        refine .inr (r B as σ H s _ sr ?_)
        rw [ef]
        intro v H1 ev sr1 ok
        obtain ⟨a, rfl, h⟩ := id ok
        obtain ⟨vs, q, _⟩ := h B H1 σ _ ds (fun _ z => .inl z) Evo.refl sr1 eg
        unfold SqX at q
        rw [if_neg (by rw [hl]; exact Bool.false_ne_true)] at q
        exact ⟨a, rfl, ⟨vs, q⟩, hw _ H1 ev sr1 (wd_tuple hl ok)⟩
/-- a text, sign by sign -/
def strIV (z : Str) : IVal := fun i _ => some ((z.cps[i]?).map fun k => .str ⟨#[k]⟩)
def strI (fa : EvD) : EvI := fun s => (fa s).bind fun p => match p.1 with
  | .str z => .ok (strIV z, p.2)
  | _ => .stuck
theorem di_str (h : DE X c W e false qa fa) : DI X c W tg e (strI fa) := by
  obtain ⟨t, p, r⟩ := h.loud'
  refine ⟨_, pi_str p, fun B as σ H s R sr hw => ?_⟩
  show t σ H _
  refine WantsG.bindL (s := s) hw sr r fun v H1 d st1 e1 ev1 sr1 r1 hw1 => ?_
  simp only at hw1
  split at hw1
  · rename_i z
    have ez : v = .str z := by simpa [RepE, RepX, Rep] using r1
    refine ⟨z, ez, hw1.fin sr1 Evo.refl ⟨fun B' i H' σ s d hB ev sr e => ?_, fun B' i H' σ s hB ev sr e => ?_⟩⟩
    · unfold strIV at e
      cases ek : z.cps[i]? with
      | none => rw [ek] at e; simp at e
      | some k =>
        rw [ek] at e
        simp only [Option.map_some, Option.some.injEq] at e
        subst e
        refine ⟨(Array.getElem?_eq_some_iff.mp ek).1, fun x H2 y => ?_⟩
        obtain ⟨rfl, k', h1, rfl⟩ := y
        rw [ek] at h1
        cases h1
        exact ⟨Evo.refl, by simp [Rep]⟩
    · unfold strIV at e
      cases ek : z.cps[i]? with
      | none => exact Array.getElem?_eq_none_iff.mp ek
      | some k => rw [ek] at e; simp at e
  · exact hw1.elim
/-- either, by the kind of the value -/
def anyI (fa : EvD) : EvI := fun s => match fa s with
  | .ok (.str _, _) => strI fa s
  | _ => seqI (froR fa) s
theorem di_any (h : DE X c W e false qa fa) : DI X c W tg e (anyI fa) := by
  obtain ⟨w1, p1, r1⟩ := di_str (tg := tg) h
  obtain ⟨w2, p2, r2⟩ := di_seq (tg := tg) (dr_fro h)
  refine ⟨_, pior p1 p2, fun B as σ H s R sr hw => ?_⟩
  unfold anyI at hw
  split at hw
  · exact .inl (r1 B as σ H s R sr hw)
  · exact .inr (r2 B as σ H s R sr hw)

/-! ### ranges -/
def rangeIV (lo : Int) (n : Nat) : IVal := fun i _ => some (if i < n then some (.int (lo + i)) else none)
theorem wd_range {K : PySem.W.Frag} {lo : Int} {n : Nat} : WD K c B as H (Itr lo n) (rangeIV lo n) := by
  refine ⟨fun B' i H' σ s d hB ev sr e => ?_, fun B' i H' σ s hB ev sr e => ?_⟩
  · unfold rangeIV at e
    split at e
    · rename_i hlt
      simp only [Option.some.injEq] at e
      subst e
      refine ⟨hlt, fun x H2 y => ?_⟩
      obtain ⟨rfl, rfl⟩ := y
      exact ⟨Evo.refl, by simp [Rep]⟩
    · simp at e
  · unfold rangeIV at e
    split at e
    · simp at e
    · rename_i hlt
      exact Nat.le_of_not_lt hlt
def small62 (i : Int) : Prop := -(2 ^ 62) ≤ i ∧ i < 2 ^ 62
noncomputable instance (i : Int) : Decidable (small62 i) := Classical.propDecidable _
noncomputable def range1I (fa : EvD) : EvI := fun s => (fa s).bind fun p => match p.1 with
  | .int j => if small62 j then .ok (rangeIV 0 j.toNat, p.2) else .stuck
  | _ => .stuck
theorem di_range1 (hg : Gl X "range") (hm : X.mg "range" = none) (h : DE X c W a false qa fa) (hs : starEach [a] X.env = (false, eval a X.env) :: starEach [] X.env) : DI X c W tg (.Call (.Name "range" p) [a] [] pos) (range1I fa) := by
  obtain ⟨t, p, r⟩ := h.loud'
  refine ⟨_, pi_range1 hg hm (pa_cons p pa_nil hs) hs, fun B as σ H s R sr hw => ?_⟩
  show t σ H _
  refine WantsG.bindL (s := s) hw sr r fun v H1 d st1 e1 ev1 sr1 r1 hw1 => ?_
  simp only at hw1
  split at hw1
  · rename_i j
    have ez : v = .int j := by simpa [RepE, RepX, Rep] using r1
    subst ez
    split at hw1
    · rename_i hj
      exact ⟨j, rfl, hj.1, hj.2, hw1.fin sr1 Evo.refl wd_range⟩
    · exact hw1.elim
  · exact hw1.elim
noncomputable def range2I (fa fb : EvD) : EvI := fun s => (fa s).bind fun p => (fb ⟨s.env, p.2⟩).bind fun q => match p.1, q.1 with
  | .int i, .int j => if small62 i ∧ small62 j then .ok (rangeIV i (j - i).toNat, q.2) else .stuck
  | _, _ => .stuck
theorem di_range2 (hg : Gl X "range") (hm : X.mg "range" = none) (ha : DE X c W a false qa fa) (hb : DE X c W b false qb fb) (hs : starEach [a, b] X.env = (false, eval a X.env) :: starEach [b] X.env) (hs2 : starEach [b] X.env = (false, eval b X.env) :: starEach [] X.env) : DI X c W tg (.Call (.Name "range" p) [a, b] [] pos) (range2I fa fb) := by
  obtain ⟨t, p, r⟩ := ha.loud'
  obtain ⟨t2, p2, r2⟩ := hb.loud'
  refine ⟨_, pi_range2 hg hm (pa_cons p (pa_cons p2 pa_nil hs2) hs) (by rw [hs, hs2]; rfl) (by rw [hs2]; rfl), fun B as σ H s R sr hw => ?_⟩
  show t σ H _
  refine WantsG.bindL (s := s) hw sr r fun v H1 d st1 e1 ev1 sr1 r1 hw1 => ?_
  show t2 σ H1 _
  refine WantsG.bindL (s := ⟨s.env, st1⟩) hw1 sr1 r2 fun v2 H2 d2 st2 e2 ev2 sr2 r3 hw2 => ?_
  simp only at hw2
  split at hw2
  · rename_i i j
    have ez : v = .int i := by simpa [RepE, RepX, Rep] using r1
    have ez2 : v2 = .int j := by simpa [RepE, RepX, Rep] using r3
    subst ez ez2
    split at hw2
    · rename_i hj
      exact ⟨i, j, rfl, ⟨hj.1.1, hj.1.2, hj.2.1, hj.2.2⟩, hw2.fin sr2 Evo.refl wd_range⟩
    · exact hw2.elim
  · exact hw2.elim
def rangeCIV (lo k : Int) (n : Nat) : IVal := fun i _ => some (if i < n then some (.int (lo + (i : Nat) * k)) else none)
theorem wd_rangeC {K : PySem.W.Frag} {lo k : Int} {n : Nat} : WD K c B as H (Itc lo k n) (rangeCIV lo k n) := by
  refine ⟨fun B' i H' σ s d hB ev sr e => ?_, fun B' i H' σ s hB ev sr e => ?_⟩
  · unfold rangeCIV at e
    split at e
    · rename_i hlt
      simp only [Option.some.injEq] at e
      subst e
      refine ⟨hlt, fun x H2 y => ?_⟩
      obtain ⟨rfl, rfl⟩ := y
      exact ⟨Evo.refl, by simp [Rep]⟩
    · simp at e
  · unfold rangeCIV at e
    split at e
    · simp at e
    · rename_i hlt
      exact Nat.le_of_not_lt hlt
/-- range(i, j, -1) -/
noncomputable def rangeDI (fa fb : EvD) : EvI := fun s => (fa s).bind fun p => (fb ⟨s.env, p.2⟩).bind fun q => match p.1, q.1 with
  | .int i, .int j => if small62 i ∧ small62 j then .ok (rangeCIV i (-1) (i - j).toNat, q.2) else .stuck
  | _, _ => .stuck
theorem di_rangeD {k1 p1 p2 : Pos} {k : Option Str} {k : Nat} {cst : Expr} (hc : PE X cst (tC (.int (-1)))) (hg : Gl X "range") (hm : X.mg "range" = none) (ha : DE X c W a false qa fa) (hb : DE X c W b false qb fb) (hs : starEach [a, b, cst] X.env = (false, eval a X.env) :: starEach [b, cst] X.env) (hs2 : starEach [b, cst] X.env = (false, eval b X.env) :: starEach [cst] X.env)
    (hs3 : starEach [cst] X.env = (false, eval cst X.env) :: starEach [] X.env) (hpl : (backTo pos (starEach [b, cst] X.env)).any (·.1) = false) : DI X c W tg (.Call (.Name "range" p) [a, b, cst] [] pos) (rangeDI fa fb) := by
  obtain ⟨t, p, r⟩ := ha.loud'
  obtain ⟨t2, p2, r2⟩ := hb.loud'
  refine ⟨_, pi_range3 hg hm (pa_cons p (pa_cons p2 (pa_cons hc pa_nil hs3) hs2) hs) hs hpl, fun B as σ H s R sr hw => ?_⟩
  show t σ H _
  refine WantsG.bindL (s := s) hw sr r fun v H1 d st1 e1 ev1 sr1 r1 hw1 => ?_
  show t2 σ H1 _
  refine WantsG.bindL (s := ⟨s.env, st1⟩) hw1 sr1 r2 fun v2 H2 d2 st2 e2 ev2 sr2 r3 hw2 => ?_
  simp only at hw2
  split at hw2
  · rename_i i j
    have ez : v = .int i := by simpa [RepE, RepX, Rep] using r1
    have ez2 : v2 = .int j := by simpa [RepE, RepX, Rep] using r3
    subst ez ez2
    split at hw2
    · rename_i hj
      exact ⟨i, j, -1, _, rfl, RgC.neg hj.1.1 hj.1.2 hj.2.1 hj.2.2, hw2.fin sr2 Evo.refl wd_rangeC⟩
    · exact hw2.elim
  · exact hw2.elim

/-! ### reversed, enumerate, zip -/
def revIV (src : Src) (n : Nat) : IVal := fun i st => if i < n then (match src.get st with
  | some ds => (match ds[n - 1 - i]? with
    | some d => some (some d)
    | none => none)
  | none => none) else some none
def revI (f : EvR) : EvI := fun s => (f s).bind fun p => match p.1.get p.2 with
  | some ds => .ok (revIV p.1 ds.length, p.2)
  | none => .stuck
theorem di_rev {f : EvR} (hg : Gl X "reversed") (hm : X.mg "reversed" = none) (h : DR X c W e f) (hs : starEach [e] X.env = (false, eval e X.env) :: starEach [] X.env) : DI X c W tg (.Call (.Name "reversed" p) [e] [] pos) (revI f) := by
  obtain ⟨t, p, r⟩ := h
  refine ⟨_, RT.pi_revA hg hm p hs, fun B as σ H s R sr hw => ?_⟩
  show t σ H _
  refine WantsG.bindL (s := s) hw sr r fun v H1 src st1 e1 ev1 sr1 ok hw1 => ?_
  simp only at hw1
  split at hw1
  · rename_i ds eg
    obtain ⟨a, rfl, h⟩ := id ok
    obtain ⟨vs, q, rs⟩ := h B H1 σ _ ds (fun _ z => .inl z) Evo.refl sr1 eg
    have hlen := rs.length
    refine ⟨a, vs, rfl, ?_⟩
    have main : ∀ (J : It), (∀ B' i H d, i < ds.length → (∀ x ∈ B', x ∈ B ∨ H1 x = none) → Evo as H1 H → (∃ σ s, SR X.K c B' as H σ s ∧ ∃ ds', src.get s.st = some ds' ∧ ds'[ds.length - 1 - i]? = some d) → J.go i H ∧ ∀ x H', J.yld i H x H' → Evo [] H H' ∧ Rep X.K (B' ++ as) H' d x) → (∀ i H, ds.length ≤ i → J.stop i H) → R J H1 := by
      intro J hgo hst
      refine hw1.fin sr1 Evo.refl ⟨fun B' i H' σ s d hB ev sr e => ?_, fun B' i H' σ s hB ev sr e => ?_⟩
      · unfold revIV at e
        split at e
        · rename_i hi
          split at e
          · rename_i ds' eg'
            split at e
            · rename_i d' ed
              simp only [Option.some.injEq] at e
              subst e
              exact hgo B' i H' _ hi hB ev ⟨σ, s, sr, ds', eg', ed⟩
            · cases e
          · cases e
        · simp at e
      · unfold revIV at e
        split at e
        · split at e
          · split at e
            · simp at e
            · cases e
          · cases e
        · rename_i hi
          exact hst i H' (Nat.le_of_not_lt hi)
    unfold SqX at q
    cases hl : src.lst with
    | true =>
      rw [hl, if_pos rfl] at q
      refine .inl ⟨q, main _ (fun B' i H' d hi hB ev ⟨σ, s, sr, ds', eg', ed⟩ => ?_) fun i H' hi => ?_⟩
      · obtain ⟨vs', q', rs'⟩ := h B' H' σ s ds' hB ev sr eg'
        unfold SqX at q'
        rw [hl, if_pos rfl] at q'
        obtain ⟨v, hv, rv⟩ := rs'.get ed
        rw [hlen]
        refine ⟨⟨hi, vs', v, q', hv⟩, fun x H2 y => ?_⟩
        obtain ⟨rfl, y⟩ := y
        have z := y vs' q'
        rw [hv] at z
        cases z
        exact ⟨Evo.refl, rv⟩
      · show vs.length ≤ i
        omega
    | false =>
      rw [hl, if_neg Bool.false_ne_true] at q
      refine .inr ⟨q, main _ (fun B' i H' d hi hB ev ⟨σ, s, sr, ds', eg', ed⟩ => ?_) fun i H' hi => ?_⟩
      · obtain ⟨vs', q', rs'⟩ := h B' H' σ s ds' hB ev sr eg'
        unfold SqX at q'
        rw [hl, if_neg Bool.false_ne_true] at q'
        obtain ⟨v, hv, rv⟩ := rs'.get ed
        rw [hlen]
        refine ⟨⟨hi, vs', v, q', hv⟩, fun x H2 y => ?_⟩
        obtain ⟨rfl, y⟩ := y
        have z := y vs' q'
        rw [hv] at z
        cases z
        exact ⟨Evo.refl, rv⟩
      · show vs.length ≤ i
        omega
  · exact hw1.elim
end
end DL
end
section
set_option Elab.async false
set_option linter.all false
set_option maxRecDepth 100000
set_option maxHeartbeats 1000000
/-! The data layer, part k: list comprehensions. -/
namespace DL
open PySem PySem.Spec PyProof.Rows L2 PySem.SeqAt PySem.W
/-! ### a new list, in the making: it lies outside -/
abbrev RC := Res (List PyData × Sto)
abbrev EvC := S → RC
def WantsC (X : Cx) (c : Cfg) (W : WX) (B as : List Addr) (σ : L2.St) (H : Hp) (env : List (Option SV)) (Q : VK) : RC → Prop
  | .ok p => ∀ D vs H', Evo as H H' → H D = none → SR X.K c (D :: B) as H' σ ⟨env, p.2⟩ → H' D = some (.lst vs) → RepA X.K ((D :: B) ++ as) H' p.1 vs → Q (.ref D) H'
  | .exc cl s' => ∀ H', Evo as H H' → SR X.K c B as H' σ ⟨env, s'.st⟩ → W (c.cls cl) none σ H'
  | .stuck => False
def DC (X : Cx) (c : Cfg) (W : WX) (e : Expr) (f : EvC) : Prop :=
  ∃ t, PE X e t ∧ ∀ (B as : List Addr) (σ : L2.St) (H : Hp) (s : S) (Q : VK), SR X.K c B as H σ s → WantsC X c W B as σ H s.env Q (f s) → t σ H Q
section
variable {X : Cx} {c : Cfg} {W : WX} {B as : List Addr} {σ : L2.St} {H H1 : Hp} {env : List (Option SV)} {st : Sto} {s : S} {e : Expr} {D : Addr}
theorem SR.less {K : PySem.W.Frag} {B' : List Addr} (sr : SR K c B' as H σ s) (h : ∀ x ∈ B, x ∈ B') : SR K c B as H σ s := by
  have hav : ∀ x ∈ B ++ as, x ∈ B' ++ as ∨ H x = none := fun x hx => .inl ((List.mem_append.mp hx).elim (fun z => List.mem_append_left _ (h x z)) (List.mem_append_right _))
  refine ⟨sr.len, fun i sv q => ?_, sr.nd, sr.aslen, fun i o a h1 h2 => (sr.objs i o a h1 h2).avoid hav, fun a ha => sr.out a (h a ha), sr.tabs⟩
  obtain ⟨v, q1, q2⟩ := sr.slot i sv q
  refine ⟨v, q1, ?_⟩
  cases sv with
  | pure d => exact Rep.avoid hav d v q2
  | scr ds => obtain ⟨p, us, z1, z2, z3⟩ := q2; exact ⟨p, us, z1, z2.avoid hav, RepA.avoid hav _ us z3⟩
  | obj j => exact q2
/-- a new object outside -/
theorem SR.outN {K : PySem.W.Frag} {u : HO} (sr : SR K c B as H σ s) (hn : H D = none) : SR K c (D :: B) as (upd H D u) σ s := by
  have ev : Evo [] H (upd H D u) := Evo.new hn
  have hav : ∀ x ∈ (D :: B) ++ as, x ∈ B ++ as ∨ H x = none := fun x hx => by
    rcases List.mem_cons.mp hx with z | z
    · exact .inr (by rw [z]; exact hn)
    · exact .inl z
  have e0 : ∀ x ∈ ([] : List Addr), x ∈ (D :: B) ++ as := fun _ z => by cases z
  refine ⟨sr.len, fun i sv q => ?_, sr.nd, sr.aslen, fun i o a h1 h2 => ((sr.objs i o a h1 h2).avoid hav).evo0 ev e0 (by simp), fun a ha z => ?_, sr.tabs.evo ev⟩
  · obtain ⟨v, q1, q2⟩ := sr.slot i sv q
    refine ⟨v, q1, ?_⟩
    cases sv with
    | pure d => exact Rep.evo ev e0 d v (Rep.avoid hav d v q2)
    | scr ds => obtain ⟨p, us, z1, z2, z3⟩ := q2; exact ⟨p, us, z1, (z2.avoid hav).evo ev e0, RepA.evo ev e0 _ us (RepA.avoid hav _ us z3)⟩
    | obj j => exact q2
  · by_cases e : a = D
    · rw [e, upd_same] at z; cases z
    · rw [upd_ne e] at z
      rcases List.mem_cons.mp ha with y | y
      · exact e y
      · exact sr.out a y z
/-- what lies outside is changed -/
theorem SR.updB {K : PySem.W.Frag} {u u' : HO} (sr : SR K c B as H σ s) (hD : D ∈ B) (hd : D ∉ as) (h : H D = some u') (ht : Mut u') : SR K c B as (upd H D u) σ s := by
  have ev : Evo [D] H (upd H D u) := Evo.at h ht (List.mem_singleton.mpr rfl)
  have e0 : ∀ x ∈ [D], x ∈ B ++ as := fun x z => by rw [List.mem_singleton.mp z]; exact List.mem_append_left _ hD
  refine ⟨sr.len, fun i sv q => ?_, sr.nd, sr.aslen, fun i o a h1 h2 => (sr.objs i o a h1 h2).evo0 ev e0 fun z => ?_, fun a ha z => ?_, sr.tabs.evo ev⟩
  · obtain ⟨v, q1, q2⟩ := sr.slot i sv q
    exact ⟨v, q1, q2.evo ev e0⟩
  · rw [List.mem_singleton.mp z] at h2
    exact hd (List.mem_of_getElem? h2)
  · by_cases e : a = D
    · rw [e, upd_same] at z; cases z
    · rw [upd_ne e] at z; exact sr.out a ha z
/-- from outside it becomes an own object -/
theorem SR.own {K : PySem.W.Frag} {ds : List PyData} {vs : List V} (sr : SR K c (D :: B) as H σ ⟨env, st⟩) (hd : D ∉ as) (h : H D = some (.lst vs)) (rs : RepA K ((D :: B) ++ as) H ds vs) : SR K c B (as ++ [D]) H σ ⟨env, st ++ [.lst ds]⟩ := by
  have hav : ∀ x ∈ B ++ (as ++ [D]), x ∈ (D :: B) ++ as ∨ H x = none := fun x hx => .inl (by
    rcases List.mem_append.mp hx with z | z
    · exact List.mem_append_left _ (List.mem_cons_of_mem _ z)
    · rcases List.mem_append.mp z with z | z
      · exact List.mem_append_right _ z
      · rw [List.mem_singleton.mp z]; exact List.mem_append_left _ List.mem_cons_self)
  have hal := sr.aslen
  simp only at hal
  refine ⟨sr.len, fun i sv q => ?_, ?_, by rw [List.length_append, List.length_append, hal]; rfl, fun i o a h1 h2 => ?_, fun a ha => sr.out a (List.mem_cons_of_mem _ ha), sr.tabs⟩
  · obtain ⟨v, q1, q2⟩ := sr.slot i sv q
    refine ⟨v, q1, ?_⟩
    cases sv with
    | pure d => exact Rep.avoid hav d v q2
    | scr ds => obtain ⟨p, us, z1, z2, z3⟩ := q2; exact ⟨p, us, z1, z2.avoid hav, RepA.avoid hav _ us z3⟩
    | obj j =>
      obtain ⟨a, e, rfl⟩ := q2
      exact ⟨a, by rw [List.getElem?_append_left (List.getElem?_eq_some_iff.mp e).1]; exact e, rfl⟩
  · rw [List.nodup_append]
    refine ⟨sr.nd, by simp, fun x hx y hy z => hd ?_⟩
    rw [List.mem_singleton.mp hy] at z
    rw [← z]; exact hx
  · by_cases hi : i < as.length
    · rw [List.getElem?_append_left hi] at h2
      have hi' : i < st.length := by omega
      rw [List.getElem?_append_left hi'] at h1
      exact (sr.objs i o a h1 h2).avoid hav
    · have e1 : i = as.length := by
        have := (List.getElem?_eq_some_iff.mp h2).1
        rw [List.length_append] at this
        simp at this
        omega
      subst e1
      rw [List.getElem?_append_right (Nat.le_refl _), Nat.sub_self] at h2
      simp only [List.getElem?_cons_zero, Option.some.injEq] at h2
      subst h2
      rw [hal, List.getElem?_append_right (Nat.le_refl _), Nat.sub_self] at h1
      simp only [List.getElem?_cons_zero, Option.some.injEq] at h1
      subst h1
      exact ⟨vs, h, RepA.avoid hav ds vs rs⟩
theorem not_as (sr : SR X.K c B as H σ s) (hn : H D = none) : D ∉ as := fun z => sr.notnew hn (List.mem_append_right _ z)
def lstOf (f : EvC) : EvD := fun s => (f s).bind fun p => .ok (.list p.1, p.2)
def ownOf (f : EvC) : EvV := fun s => (f s).bind fun p => .ok (newL p.2 p.1)
theorem wants_lst {f : EvC} {Q : VK} (sr : SR X.K c B as H σ s) (hw : WantsG X c W (RepE X.K false) B as σ H s.env false Q (lstOf f s)) : WantsC X c W B as σ H s.env Q (f s) := by
  unfold lstOf at hw
  cases e : f s with
  | stuck => rw [e] at hw; exact hw
  | exc cl s' => rw [e] at hw; exact hw
  | ok p =>
    rw [e] at hw
    intro D vs H' ev hn sr' hD rs
    refine hw (.ref D) H' ev (sr'.less fun x hx => List.mem_cons_of_mem _ hx) ?_
    simp only [RepE, RepX, Bool.false_eq_true, if_false, Rep]
    exact ⟨D, vs, rfl, ⟨hD, sr.notnew hn⟩, RepA.avoid (fun x hx => .inl (List.mem_cons_of_mem _ hx)) _ _ rs⟩
theorem wants_own {f : EvC} {Q : VK} (sr : SR X.K c B as H σ s) (hw : WantsV X c W (RepV X.K) B as σ H s.env Q (ownOf f s)) : WantsC X c W B as σ H s.env Q (f s) := by
  unfold ownOf at hw
  cases e : f s with
  | stuck => rw [e] at hw; exact hw
  | exc cl s' =>
    rw [e] at hw
    exact fun H' ev sr' => hw [] H' ev (by simp) (by rw [List.append_nil]; exact sr')
  | ok p =>
    rw [e] at hw
    intro D vs H' ev hn sr' hD rs
    have hal := sr'.aslen
    simp only at hal
    refine hw (.ref D) [D] H' ev (fun a ha => by rw [List.mem_singleton.mp ha]; exact hn) (sr'.own (not_as sr hn) hD rs) ⟨D, ?_, rfl⟩
    rw [← hal, List.getElem?_append_right (Nat.le_refl _), Nat.sub_self]
    rfl
theorem de_c {f : EvC} (h : DC X c W e f) : DE X c W e false false (lstOf f) := by
  obtain ⟨t, p, r⟩ := h
  exact ⟨t, p, fun B as σ H s Q sr hw => r B as σ H s Q sr (wants_lst sr hw)⟩
theorem dv_c {f : EvC} (h : DC X c W e f) : DV X c W e (ownOf f) := by
  obtain ⟨t, p, r⟩ := h
  exact ⟨t, p, fun B as σ H s Q sr hw => r B as σ H s Q sr (wants_own sr hw)⟩
theorem WantsC.bindG {α β : Type} {R : List Addr → List Addr → Hp → α → β → Prop} {f : S → Res (α × Sto)} {k : α × Sto → RC} {ta : L2.St → Hp → (β → Hp → Prop) → Prop} {qa : Bool} {Q : VK} {Q1 : β → Hp → Prop} (hw : WantsC X c W B as σ H s.env Q ((f s).bind k)) (sr : SR X.K c B as H σ s)
    (ra : ∀ (B as : List Addr) (σ : L2.St) (H : Hp) (s : S) (Q : β → Hp → Prop), SR X.K c B as H σ s → WantsG X c W R B as σ H s.env qa Q (f s) → ta σ H Q)
    (h : ∀ v H1 d st1, f s = .ok (d, st1) → Evo as H H1 → SR X.K c B as H1 σ ⟨s.env, st1⟩ → R B as H1 d v → WantsC X c W B as σ H1 s.env Q (k (d, st1)) → Q1 v H1) : ta σ H Q1 := by
  refine ra B as σ H s Q1 sr ?_
  cases e : f s with
  | stuck => rw [e] at hw; exact hw
  | exc cl s' => rw [e] at hw; exact hw
  | ok p =>
    obtain ⟨d, st1⟩ := p
    rw [e] at hw
    refine fun v H1 ev sr1 rp => h v H1 d st1 e (ev.mono wq_as) sr1 rp ?_
    have ev' := ev.mono (W' := as) wq_as
    have hw : WantsC X c W B as σ H s.env Q (k (d, st1)) := hw
    generalize k (d, st1) = r at hw
    cases r with
    | ok p => exact fun D vs H' e hn sr' hD rs => hw D vs H' (ev'.trans' e) (sr1.fresh ev' hn) sr' hD rs
    | exc cl s' => exact fun H' e sr' => hw H' (ev'.trans' e) sr'
    | stuck => exact hw

/-! ### the readings, the same for every context over one frame of facts -/
def tDE (K : PySem.W.Frag) (X : Cx) (c : Cfg) (W : WX) (tr q : Bool) (f : EvD) : TE := fun σ H Q => ∃ (B as : List Addr) (s : S), SR X.K c B as H σ s ∧ WantsG X c W (RepE X.K tr) B as σ H s.env q Q (f s)
theorem DE.pe {tr q : Bool} {f : EvD} (h : DE X c W e tr q f) : PE X e (tDE X.K X c W tr q f) := by
  obtain ⟨t, p, r⟩ := h
  exact ⟨fun pins s σ H Q I ⟨B, as, s', sr, hw⟩ => p.run pins s σ H Q I (r B as σ H s' Q sr hw)⟩
def DTs (X : Cx) (c : Cfg) (W : WX) (es : List Expr) (f : EvT) : Prop :=
  ∃ t, PTs X es t ∧ ∀ (B as : List Addr) (σ : L2.St) (H : Hp) (s : S) (Q : Bool → Hp → Prop), SR X.K c B as H σ s → WantsG X c W RepB B as σ H s.env false Q (f s) → t σ H Q
def yesT : EvT := fun s => .ok (true, s.st)
theorem dts_nil : DTs X c W [] yesT := ⟨_, pts_nil, fun B as σ H s Q sr hw => hw.fin sr Evo.refl rfl⟩
theorem dts_one {f : EvT} (h : DT X c W e f) : DTs X c W [e] f := by
  obtain ⟨t, p, r⟩ := h
  exact ⟨t, pts_one p, r⟩
def tDTs (X : Cx) (c : Cfg) (W : WX) (f : EvT) : TT := fun σ H Q => ∃ (B as : List Addr) (s : S), SR X.K c B as H σ s ∧ WantsG X c W RepB B as σ H s.env false Q (f s)
theorem DTs.pts {es : List Expr} {f : EvT} (h : DTs X c W es f) : PTs X es (tDTs X c W f) := by
  obtain ⟨t, p, r⟩ := h
  exact ⟨fun pins s σ H Q I ⟨B, as, s', sr, hw⟩ => p.run pins s σ H Q I (r B as σ H s' Q sr hw)⟩
def gDG (X : Cx) (c : Cfg) (is : List Nat) (g : GS) : TG := fun v σ H Q => ∃ (B as : List Addr) (s : S) (d : PyData) (e1 : List (Option SV)), SR X.K c B as H σ s ∧ Rep X.K (B ++ as) H d v ∧ g d s.env = some e1 ∧
    (∀ σ', SR X.K c B as H σ' ⟨e1, s.st⟩ → Within is σ σ' → Q σ' H)
theorem DG.pg {tg : Expr} {is : List Nat} {g : GS} (h : DG X c tg is g) : PG X tg (gDG X c is g) := by
  obtain ⟨t, p, r⟩ := h
  exact ⟨fun pins s σ H v u Q I rv ⟨B, as, s', d, e1, sr, rp, eg, hQ⟩ => p.run pins s σ H v u Q I rv (r B as σ H s' d v e1 Q sr rp eg hQ)⟩

/-! ### [elt for tg in iter if ..] -/
def wipeL (env : List (Option SV)) : List Nat → List (Option SV)
  | [] => env
  | v :: vs => (wipeL env vs).set v none
theorem wipeL_len (env : List (Option SV)) : ∀ vs : List Nat, (wipeL env vs).length = env.length
  | [] => rfl
  | v :: vs => by unfold wipeL; rw [List.length_set, wipeL_len env vs]
theorem SR.wipe {K : PySem.W.Frag} (sr : SR K c B as H σ s) : ∀ vs : List Nat, SR K c B as H (L2.wipe σ vs) ⟨wipeL s.env vs, s.st⟩
  | [] => sr
  | v :: vs => by
    have ih := SR.wipe sr vs
    refine ⟨?_, fun i sv q => ?_, ih.nd, ih.aslen, ih.objs, ih.out, ih.tabs⟩
    · show ((L2.wipe σ vs).set v none).length = ((wipeL s.env vs).set v none).length
      rw [List.length_set, List.length_set]; exact ih.len
    · have q' : ((wipeL s.env vs).set v none)[i]? = some (some sv) := q
      rcases set_get q' with ⟨_, z, _⟩ | ⟨hne, z⟩
      · cases z
      · obtain ⟨u, q1, q2⟩ := ih.slot i sv z
        exact ⟨u, by show ((L2.wipe σ vs).set v none)[i]? = _; rw [List.getElem?_set_ne hne]; exact q1, q2⟩
/-- the slots that are left alone -/
theorem SR.slots {K : PySem.W.Frag} {H' : Hp} {st' : Sto} {σ' : L2.St} {env' : List (Option SV)} (sr' : SR K c B as H' σ' ⟨env', st'⟩) (sr : SR K c B as H σ s) (ev : Evo as H H') : SR K c B as H' σ ⟨s.env, st'⟩ :=
  ⟨sr.len, fun i sv q => by
    obtain ⟨v, q1, q2⟩ := sr.slot i sv q
    exact ⟨v, q1, q2.evo ev fun x hx => List.mem_append_right _ hx⟩, sr'.nd, sr'.aslen, sr'.objs, sr'.out, sr'.tabs⟩
def compN (iv : IVal) (g : GS) (ft : EvT) (fe : EvD) (env : List (Option SV)) : Nat → Nat → Sto → List PyData → RC
  | 0, _, _, _ => .stuck
  | m + 1, i, st, acc => match iv i st with
    | some (some d) => (match g d env with
      | some e1 => (match ft ⟨e1, st⟩ with
        | .ok (true, st1) => (match fe ⟨e1, st1⟩ with
          | .ok (y, st2) => if acc.length < 16777216 then compN iv g ft fe env m (i + 1) st2 (acc ++ [y]) else .stuck
          | _ => .stuck)
        | .ok (false, st1) => compN iv g ft fe env m (i + 1) st1 acc
        | _ => .stuck)
      | none => .stuck)
    | some none => .ok (acc, st)
    | none => .stuck
noncomputable def compC (fi : EvI) (vs : List Nat) (g : GS) (ft : EvT) (fe : EvD) : EvC := fun s => (fi s).bind fun p => lim fun m => compN p.1 g ft fe (wipeL s.env vs) m 0 p.2 []
abbrev W0 : WX := fun _ _ _ _ => False
theorem wipe_twice (vs : List Nat) (σ : L2.St) : L2.wipe (L2.wipe σ vs) vs = L2.wipe σ vs := by
  have key : ∀ (us ws : List Nat) (τ : L2.St), (∀ i ∈ ws, i ∈ us) → L2.wipe (L2.wipe τ ws) us = L2.wipe τ us := by
    intro us ws
    induction ws with
    | nil => intro τ _; rfl
    | cons w ws ih =>
      intro τ h
      show L2.wipe ((L2.wipe τ ws).set w none) us = _
      rw [wipe_set_in (h w List.mem_cons_self)]
      exact ih τ fun i hi => h i (List.mem_cons_of_mem _ hi)
  exact key vs vs σ fun _ h => h
/-- what the reading of a comprehension asks -/
theorem lc_ref {wi : TI} {fi : EvI} {vs is : List Nat} {g : GS} {ft : EvT} {fe : EvD} {q : Bool} (his : ∀ i ∈ is, i ∈ vs)
    (ri : ∀ (B as : List Addr) (σ : L2.St) (H : Hp) (s : S) (R : It → Hp → Prop), SR X.K c B as H σ s → WantsG X c W (RepI X.K c) B as σ H s.env false R (fi s) → wi σ H R)
    {Q : VK} (sr : SR X.K c B as H σ s) (hw : WantsC X c W B as σ H s.env Q (compC fi vs g ft fe s)) : tLc wi (gDG X c is g) (tDTs X c W0 ft) (tDE X.K X c W0 false q fe) vs σ H Q := by
  show wi σ H _
  refine WantsC.bindG (s := s) hw sr ri fun J H1 iv st1 e1 ev1 sr1 wd hw1 => ?_
  intro D hD
  have hns : lim (fun m => compN iv g ft fe (wipeL s.env vs) m 0 st1 []) ≠ .stuck := fun z => by simp only [z] at hw1; exact hw1
  obtain ⟨m, em⟩ := lim_some hns
  have hw' : WantsC X c W B as σ H1 s.env Q (compN iv g ft fe (wipeL s.env vs) m 0 st1 []) := by rw [← em]; exact hw1
  clear em hns hw1
  generalize hR : compN iv g ft fe (wipeL s.env vs) m 0 st1 [] = R at hw'
  have hDas : D ∉ as := not_as sr1 hD
  refine ⟨fun i m H => ∃ st acc us, Evo as H1 H ∧ SR X.K c (D :: B) as H σ ⟨s.env, st⟩ ∧ H D = some (.lst us) ∧ RepA X.K ((D :: B) ++ as) H acc us ∧ compN iv g ft fe (wipeL s.env vs) m i st acc = R,
    ⟨m, st1, [], [], Evo.new hD, sr1.outN hD, upd_same, .nil, hR⟩, ?_⟩
  rintro i m H2 ⟨st, acc, us, ev, sr2, eD, rs, eR⟩
  have hB : ∀ x ∈ D :: B, x ∈ B ∨ H1 x = none := fun x hx => by
    rcases List.mem_cons.mp hx with z | z
    · exact .inr (by rw [z]; exact hD)
    · exact .inl z
  cases m with
  | zero => rw [← eR] at hw'; exact hw'.elim
  | succ m =>
    unfold compN at eR
    split at eR
    · rename_i d ei
      obtain ⟨go, yl⟩ := wd.goes (D :: B) i H2 σ ⟨s.env, st⟩ d hB ev sr2 ei
      split at eR
      · rename_i env1 eg
        refine .inr ⟨go, fun H' => ∃ st acc us, Evo as H1 H' ∧ SR X.K c (D :: B) as H' σ ⟨s.env, st⟩ ∧ H' D = some (.lst us) ∧ RepA X.K ((D :: B) ++ as) H' acc us ∧ compN iv g ft fe (wipeL s.env vs) m (i + 1) st acc = R, fun H' q => ⟨m, Nat.lt_succ_self m, q⟩, fun x H3 y => ?_⟩
        obtain ⟨evn, rx⟩ := yl x H3 y
        have sr3 := sr2.evo evn
        have srw := SR.wipe sr3 vs
        refine ⟨D :: B, as, ⟨wipeL s.env vs, st⟩, d, env1, srw, rx, eg, fun σ2 sr4 wn => ⟨?_, ?_⟩⟩
        · rw [wn vs his]
          clear wn sr4 srw
          -- wiped twice
          exact wipe_twice vs σ
        · refine ⟨D :: B, as, ⟨env1, st⟩, sr4, ?_⟩
          have eD3 : H3 D = some (.lst us) := evn.keep D _ eD (by simp) (fun _ z => by cases z)
          have rs3 := RepA.evo evn (fun _ z => by cases z) _ _ rs
          have kD : ∀ {H' : Hp}, Evo as H3 H' → H' D = some (.lst us) ∧ RepA X.K ((D :: B) ++ as) H' acc us := fun e' =>
            ⟨e'.keep D _ eD3 hDas (fun _ z => by cases z), RepA.evo e' (fun x hx => List.mem_append_right _ hx) _ _ rs3⟩
          have ev3 : Evo as H1 H3 := ev.trans' evn.wide
          split at eR
          · rename_i st2 eft
            rw [eft]
            intro b H4 e4 sr5 hb
            have hb' : b = true := hb
            subst hb'
            rw [if_pos rfl]
            refine ⟨D :: B, as, ⟨env1, st2⟩, sr5, ?_⟩
            have e4' : Evo as H3 H4 := e4
            split at eR
            · rename_i y2 st3 efe
              rw [efe]
              intro v H5 e5 sr6 rv
              have e5' : Evo as H4 H5 := e5.mono wq_as
              obtain ⟨k1, k2⟩ := kD (e4'.trans' e5')
              split at eR
              · rename_i hlt
                refine ⟨us, k1, by rw [sizeLine_eq, k2.length]; exact hlt, st3, acc ++ [y2], us ++ [v], (ev3.trans' (e4'.trans' e5')).trans (Evo.at k1 ⟨(fun _ z => by cases z), (fun _ _ z => by cases z)⟩ (List.mem_singleton.mpr rfl)) fun x hx => ?_, ?_, upd_same, ?_, eR⟩
                · rw [List.mem_singleton.mp hx]; exact .inr hD
                · exact SR.updB (SR.slots (s := ⟨s.env, st⟩) (σ := σ) sr6 sr3 (e4'.trans' e5')) List.mem_cons_self hDas k1 ⟨(fun _ z => by cases z), (fun _ _ z => by cases z)⟩
                · have r1 := k2.append (.cons rv .nil)
                  exact RepA.evo (Evo.at k1 ⟨(fun _ z => by cases z), (fun _ _ z => by cases z)⟩ (List.mem_singleton.mpr rfl)) (fun x hx => by rw [List.mem_singleton.mp hx]; exact List.mem_append_left _ List.mem_cons_self) _ _ r1
              · rw [← eR] at hw'; exact hw'.elim
            · rw [← eR] at hw'; exact hw'.elim
          · rename_i st2 eft
            rw [eft]
            intro b H4 e4 sr5 hb
            have hb' : b = false := hb
            subst hb'
            rw [if_neg Bool.false_ne_true]
            have e4' : Evo as H3 H4 := e4
            obtain ⟨k1, k2⟩ := kD e4'
            exact ⟨st2, acc, us, ev3.trans' e4', SR.slots (s := ⟨s.env, st⟩) (σ := σ) sr5 sr3 e4', k1, k2, eR⟩
          · rw [← eR] at hw'; exact hw'.elim
      · rw [← eR] at hw'; exact hw'.elim
    · rename_i ei
      refine .inl ⟨wd.stops (D :: B) i H2 σ ⟨s.env, st⟩ hB ev sr2 ei, ?_⟩
      rw [← eR] at hw'
      exact hw' D us H2 ev hD sr2 eD rs
    · rw [← eR] at hw'; exact hw'.elim
end
end DL
end
section
set_option Elab.async false
set_option linter.all false
set_option maxRecDepth 100000
set_option maxHeartbeats 1000000
/-! The data layer, part l: comprehensions as expressions; defs. -/
namespace DL
open PySem PySem.Spec PyProof.Rows L2 PySem.SeqAt PySem.W
section
variable {X : Cx} {c : Cfg} {W : WX} {elt tg iter : Expr} {ifs : List Expr} {scope : Scope} {own : List (Str × Nat)} {pos : Pos} {fi : EvI} {is : List Nat} {g : GS} {ft : EvT} {fe : EvD} {q : Bool}
theorem dc_lc (own : List (Str × Nat)) (hc : X.calm = true) (hN : X.N.Nodup) (hi : DI X c W tg iter fi) (ok : BlkOk X.N X.env.scope scope own)
    (hg : ∀ (s : Shared) (H : Hp) (C : Addr) (cl : List (Str × Addr)) (fp : List Addr), DG (X.blk s H scope (compEnvC scope cl C X.env) fp) c tg is g)
    (ht : ∀ (s : Shared) (H : Hp) (C : Addr) (cl : List (Str × Addr)) (fp : List Addr), DTs (X.blk s H scope (compEnvC scope cl C X.env) fp) c W0 ifs ft)
    (he : ∀ (s : Shared) (H : Hp) (C : Addr) (cl : List (Str × Addr)) (fp : List Addr), DE (X.blk s H scope (compEnvC scope cl C X.env) fp) c W0 elt false q fe)
    (his : ∀ i ∈ is, i ∈ own.map (·.2)) (hs : ∀ x, foldedSetIterable iter X.env x = pure x) : DC X c W (.ListComp elt [⟨tg, iter, ifs, 0⟩] scope pos) (compC fi (own.map (·.2)) g ft fe) := by
  obtain ⟨wi, pi, ri⟩ := hi
  exact ⟨_, pe_lc (g := gDG X c is g) (tt := tDTs X c W0 ft) (te := tDE X.K X c W0 false q fe) hc hN pi ok (fun s H C cl fp => (hg s H C cl fp).pg) (fun s H C cl fp => (ht s H C cl fp).pts) (fun s H C cl fp => (he s H C cl fp).pe) hs,
    fun B as σ H s Q sr hw => lc_ref his ri sr hw⟩
/-- name = [..] -/
theorem ds_setLc {i : Nat} {y : Str} {py spos : Pos} {fa : EvV} (own : List (Str × Nat)) (hc : X.calm = true) (hN : X.N.Nodup) (hy : X.N[i]? = some y) (hyl : X.env.scope.names.lookup y = some .local)
    (hsw : swapsWith (.ListComp elt [⟨tg, iter, ifs, 0⟩] scope pos) (some (.Name y py)) spos.line X.env = pure true) (hi : DI X c W tg iter fi) (ok : BlkOk X.N X.env.scope scope own)
    (hg : ∀ (s : Shared) (H : Hp) (C : Addr) (cl : List (Str × Addr)) (fp : List Addr), DG (X.blk s H scope (compEnvC scope cl C X.env) fp) c tg is g)
    (ht : ∀ (s : Shared) (H : Hp) (C : Addr) (cl : List (Str × Addr)) (fp : List Addr), DTs (X.blk s H scope (compEnvC scope cl C X.env) fp) c W0 ifs ft)
    (he : ∀ (s : Shared) (H : Hp) (C : Addr) (cl : List (Str × Addr)) (fp : List Addr), DE (X.blk s H scope (compEnvC scope cl C X.env) fp) c W0 elt false q fe)
    (his : ∀ i ∈ is, i ∈ own.map (·.2)) (hs : ∀ x, foldedSetIterable iter X.env x = pure x)
    (hfa : ∀ (B as : List Addr) (σ : L2.St) (H : Hp) (s : S) (Q : VK), SR X.K c B as H σ s → WantsV X c W (RepV X.K) B as σ H s.env Q (fa s) → WantsC X c W B as σ H s.env Q (compC fi (own.map (·.2)) g ft fe s)) :
    DS X c W (.Assign [.Name y py] (.ListComp elt [⟨tg, iter, ifs, 0⟩] scope pos) spos) (setS i fa) := by
  obtain ⟨wi, pi, ri⟩ := hi
  exact ds_setBy (ps_setLc (g := gDG X c is g) (tt := tDTs X c W0 ft) (te := tDE X.K X c W0 false q fe) hc hN hy hyl hsw pi ok (fun s H C cl fp => (hg s H C cl fp).pg) (fun s H C cl fp => (ht s H C cl fp).pts) (fun s H C cl fp => (he s H C cl fp).pe) hs)
    fun B as σ H s Q sr hw => lc_ref his ri sr (hfa B as σ H s Q sr hw)
theorem wants_pure {B as : List Addr} {σ : L2.St} {H : Hp} {s : S} {f : EvC} {Q : VK} (sr : SR X.K c B as H σ s) (hw : WantsV X c W (RepV X.K) B as σ H s.env Q (pureV (lstOf f) s)) : WantsC X c W B as σ H s.env Q (f s) := by
  unfold pureV lstOf at hw
  cases e : f s with
  | stuck => rw [e] at hw; exact hw
  | exc cl s' =>
    rw [e] at hw
    exact fun H' ev sr' => hw [] H' ev (by simp) (by rw [List.append_nil]; exact sr')
  | ok p =>
    rw [e] at hw
    intro D vs H' ev hn sr' hD rs
    have hw : WantsV X c W (RepV X.K) B as σ H s.env Q (.ok (.pure (.list p.1), p.2)) := hw
    refine hw (.ref D) [] H' ev (by simp) (by rw [List.append_nil]; exact sr'.less fun x hx => List.mem_cons_of_mem _ hx) ?_
    rw [List.append_nil]
    simp only [RepV, RepS, Rep]
    exact ⟨D, vs, rfl, ⟨hD, sr.notnew hn⟩, RepA.avoid (fun x hx => .inl (List.mem_cons_of_mem _ hx)) _ _ rs⟩
end

/-! ### defs -/
def envOf (N : Nat) (svs : List SV) : List (Option SV) := svs.map some ++ List.replicate (N - svs.length) none
def endF (n : Nat) : RS → RE
  | .ok (.ret (.pure d), s') => .ok (d, s'.st.take n)
  | .ok (.ret (.obj j), s') => if n ≤ j then (match s'.st[j]? with
    | some (.lst ds) => .ok (.list ds, s'.st.take n)
    | _ => .stuck) else .stuck
  | .ok (.next, s') => .ok (.none, s'.st.take n)
  | .exc c s' => .exc c ⟨[], s'.st.take n⟩
  | _ => .stuck
def runF (N : Nat) (body : EvS) : FSem := fun svs objs => endF objs.length (body objs.length ⟨envOf N svs, objs⟩)
theorem SR.part {K : PySem.W.Frag} {c : Cfg} {B as L : List Addr} {H : Hp} {σ : L2.St} {s : S} (sr : SR K c B (as ++ L) H σ s) : SR K c B as H [] ⟨[], s.st.take as.length⟩ := by
  have hav : ∀ x ∈ B ++ as, x ∈ B ++ (as ++ L) ∨ H x = none := fun x hx => .inl (by rw [← List.append_assoc]; exact List.mem_append_left _ hx)
  have hal := sr.aslen
  rw [List.length_append] at hal
  refine ⟨rfl, fun i sv q => by simp at q, (List.nodup_append.mp sr.nd).1, by show as.length = (s.st.take as.length).length; rw [List.length_take]; omega, fun i o a h1 h2 => ?_, sr.out, sr.tabs⟩
  have h1' : (s.st.take as.length)[i]? = some o := h1
  have hi := (List.getElem?_eq_some_iff.mp h2).1
  rw [List.getElem?_take_of_lt hi] at h1'
  exact (sr.objs i o a h1' (by rw [List.getElem?_append_left hi]; exact h2)).avoid hav
theorem repSA_get {K : PySem.W.Frag} {av as : List Addr} {H : Hp} : ∀ {svs : List SV} {vs : List V} {i : Nat} {sv : SV}, RepSA K av as H svs vs → svs[i]? = some sv → ∃ v, vs[i]? = some v ∧ RepS K av as H sv v
  | [], _, _, _, _, e => by simp at e
  | d :: ds, vs, 0, x, h, e => by
    obtain ⟨v, r, rfl, h1, h2⟩ := h
    simp only [List.getElem?_cons_zero, Option.some.injEq] at e
    subst e
    exact ⟨v, rfl, h1⟩
  | d :: ds, vs, i + 1, x, h, e => by
    obtain ⟨v, r, rfl, h1, h2⟩ := h
    simpa using repSA_get (i := i) h2 (by simpa using e)
theorem SR.begin {K : PySem.W.Frag} {c : Cfg} {B as : List Addr} {H : Hp} {objs : Sto} {svs : List SV} {vs : List V} {N : List Str} (sr : SR K c B as H [] ⟨[], objs⟩) (r : RepSA K (B ++ as) as H svs vs) : SR K c B as H (L2.start N vs) ⟨envOf N.length svs, objs⟩ := by
  have hl := repSA_len r
  refine ⟨?_, fun i sv q => ?_, sr.nd, sr.aslen, sr.objs, sr.out, sr.tabs⟩
  · unfold L2.start envOf
    simp only [List.length_append, List.length_map, List.length_replicate, hl]
  · have q' : (svs.map some ++ List.replicate (N.length - svs.length) none)[i]? = some (some sv) := q
    have hi : i < svs.length := by
      by_cases hi : i < svs.length
      · exact hi
      · rw [List.getElem?_append_right (by simpa using hi)] at q'
        rw [List.getElem?_replicate] at q'
        split at q' <;> cases q'
    rw [List.getElem?_append_left (by simpa using hi), List.getElem?_map] at q'
    have e : svs[i]? = some sv := by
      cases e : svs[i]? with
      | none => rw [e] at q'; cases q'
      | some a => rw [e] at q'; cases q'; rfl
    obtain ⟨v, hv, rv⟩ := repSA_get r e
    refine ⟨v, ?_, rv⟩
    unfold L2.start
    rw [List.getElem?_append_left (by rw [List.length_map, hl]; exact hi), List.getElem?_map, hv]
    rfl
/-- how exceptions leave the body of a def -/
abbrev WB (E : XK) : WX := fun cls d _ H => E cls d H
section
variable {P : Program} {w : World} {K : PySem.W.Frag} {mg : Str → Option Value} {base : Heap} {c : Cfg} {k : Nat} {x : Str} {st : Stmt} {f : Addr} {fd : FuncData} {N ps : List Str} {body : EvS}
/-- the context of a def's body -/
abbrev bCx (P : Program) (w : World) (K : PySem.W.Frag) (mg : Str → Option Value) (base : Heap) (N : List Str) (x : Str) (st : Stmt) (f : Addr) (cdv : Value) (A : Around) (outer : List Env) (s : Shared) (H : Hp) (E : XK) : Cx :=
  cxOf (L2.CX P w) P w K mg base N x (defScope st) f cdv A outer s H E
theorem body_run {cdv : Value} {A : Around} {outer : List Env} {s : Shared} {H : Hp} {E : XK} {n : Nat} {vs : List V} {Q : VK} (hb : DSs (bCx P w K mg base N x st f cdv A outer s H E) c (WB E) (defBody st) body) (h : spD K c n (runF N.length body) vs H Q E) :
    ∃ t, PSs (bCx P w K mg base N x st f cdv A outer s H E) (defBody st) t ∧ t { nx := fun _ H' => Q .non H', rt := Q } (L2.start N vs) H := by
    obtain ⟨B, as, svs, objs, hl, sr, r, hw⟩ := h
    obtain ⟨t, p, ref⟩ := hb
    refine ⟨t, p, ?_⟩
    refine ref B as [] (L2.start N vs) H ⟨envOf N.length svs, objs⟩ _ ⟨by rw [List.append_nil]; exact sr.begin r, fun _ z => by cases z⟩ ?_
    have hal : as.length = objs.length := sr.aslen
    unfold runF at hw
    rw [hal]
    generalize body objs.length ⟨envOf N.length svs, objs⟩ = R at hw
    have ev0 : ∀ {H' : Hp}, Evo (as ++ []) H H' → Evo as H H' := fun e => by rwa [List.append_nil] at e
    cases R with
    | stuck => exact hw
    | exc cl s' =>
      intro L' σ' H' ev fr srl
      have := srl.sr.part
      rw [hal] at this
      exact hw H' (ev0 ev) this
    | ok q =>
      obtain ⟨fl, s'⟩ := q
      cases fl with
      | next =>
        intro L' σ' H' ev fr srl
        have := srl.sr.part
        rw [hal] at this
        exact hw .non H' (ev0 ev) this (by simp [Rep])
      | brk => exact hw.elim
      | cont => exact hw.elim
      | ret sv =>
        intro L' σ' H' ev fr srl v rv
        have hp := srl.sr.part
        rw [hal] at hp
        have hav : ∀ y ∈ B ++ as, y ∈ B ++ (as ++ L') ∨ H' y = none := fun y hy => .inl (by rw [← List.append_assoc]; exact List.mem_append_left _ hy)
        cases sv with
        | scr ds => exact hw.elim
        | pure d => exact hw v H' (ev0 ev) hp (Rep.avoid hav d v rv)
        | obj j =>
          unfold endF at hw
          by_cases hj : objs.length ≤ j
          · simp only [if_pos hj] at hw
            cases ej : s'.st[j]? with
            | none => rw [ej] at hw; exact hw.elim
            | some o =>
              rw [ej] at hw
              cases o with
              | lst ds =>
                obtain ⟨a, ea, rfl⟩ := rv
                obtain ⟨us, hu, ru⟩ := srl.sr.objs j _ a ej ea
                refine hw (.ref a) H' (ev0 ev) hp ?_
                simp only [Rep]
                refine ⟨a, us, rfl, ⟨hu, ?_⟩, RepA.avoid hav _ _ ru⟩
                rw [List.getElem?_append_right (by omega)] at ea
                exact srl.off a (List.mem_of_getElem? ea)
              | dK _ => exact hw.elim
              | dM _ => exact hw.elim
              | dead => exact hw.elim
          · simp only [if_neg hj] at hw
theorem fn_ok (F : L2.Fun K x x st f fd) (S : FnScope N ps (defScope st))
    (hb : ∀ (cdv : Value) (A : Around) (outer : List Env) (s : Shared) (H : Hp) (E : XK), Room k (bCx P w K mg base N x st f cdv A outer s H E).A → DSs (bCx P w K mg base N x st f cdv A outer s H E) c (WB E) (defBody st) body) :
    FnOk P w K mg base (L2.CX P w) (k + 1) f fd ps (spD K c ps.length (runF N.length body)) := by
  refine F.okX S (fun vs H Q E h => ?_) fun cdv A outer s H vs Q E hr h => ?_
  · obtain ⟨B, as, svs, objs, hl, sr, r, _⟩ := h
    rw [repSA_len r, hl]
  · exact body_run (hb cdv A outer s H E hr) h
/-! a def that hands out a new list -/
def spN (K : PySem.W.Frag) (c : Cfg) (n : Nat) (F : FSem) : Sp := fun vs H Q E => ∃ (B as : List Addr) (svs : List SV) (objs : Sto), svs.length = n ∧ SR K c B as H [] ⟨[], objs⟩ ∧ RepSA K (B ++ as) as H svs vs ∧
  match F svs objs with
  | .ok (.list ds, st') => ∀ D us H', Evo as H H' → H D = none → SR K c (D :: B) as H' [] ⟨[], st'⟩ → H' D = some (.lst us) → RepA K ((D :: B) ++ as) H' ds us → Q (.ref D) H'
  | .exc cl s' => ∀ H', Evo as H H' → SR K c B as H' [] ⟨[], s'.st⟩ → E (c.cls cl) none H'
  | _ => False
def endN (n : Nat) : RS → RE
  | .ok (.ret (.obj j), s') => if n ≤ j then (match s'.st[j]? with
    | some (.lst ds) => .ok (.list ds, s'.st.take n)
    | _ => .stuck) else .stuck
  | .exc c s' => .exc c ⟨[], s'.st.take n⟩
  | _ => .stuck
def runN (N : Nat) (body : EvS) : FSem := fun svs objs => endN objs.length (body objs.length ⟨envOf N svs, objs⟩)
theorem body_runN {cdv : Value} {A : Around} {outer : List Env} {s : Shared} {H : Hp} {E : XK} {n : Nat} {vs : List V} {Q : VK} (hb : DSs (bCx P w K mg base N x st f cdv A outer s H E) c (WB E) (defBody st) body) (h : spN K c n (runN N.length body) vs H Q E) :
    ∃ t, PSs (bCx P w K mg base N x st f cdv A outer s H E) (defBody st) t ∧ t { nx := fun _ H' => Q .non H', rt := Q } (L2.start N vs) H := by
    obtain ⟨B, as, svs, objs, hl, sr, r, hw⟩ := h
    obtain ⟨t, p, ref⟩ := hb
    refine ⟨t, p, ?_⟩
    refine ref B as [] (L2.start N vs) H ⟨envOf N.length svs, objs⟩ _ ⟨by rw [List.append_nil]; exact sr.begin r, fun _ z => by cases z⟩ ?_
    have hal : as.length = objs.length := sr.aslen
    unfold runN at hw
    rw [hal]
    generalize body objs.length ⟨envOf N.length svs, objs⟩ = R at hw
    have ev0 : ∀ {H' : Hp}, Evo (as ++ []) H H' → Evo as H H' := fun e => by rwa [List.append_nil] at e
    cases R with
    | stuck => exact hw
    | exc cl s' =>
      intro L' σ' H' ev fr srl
      have := srl.sr.part
      rw [hal] at this
      exact hw H' (ev0 ev) this
    | ok q =>
      obtain ⟨fl, s'⟩ := q
      cases fl with
      | next => exact hw.elim
      | brk => exact hw.elim
      | cont => exact hw.elim
      | ret sv =>
        cases sv with
        | scr ds => exact hw.elim
        | pure d => exact hw.elim
        | obj j =>
          unfold endN at hw
          by_cases hj : objs.length ≤ j
          · simp only [if_pos hj] at hw
            cases ej : s'.st[j]? with
            | none => rw [ej] at hw; exact hw.elim
            | some o =>
              rw [ej] at hw
              cases o with
              | lst ds =>
                intro L' σ' H' ev fr srl v rv
                obtain ⟨a, ea, rfl⟩ := rv
                obtain ⟨us, hu, ru⟩ := srl.sr.objs j _ a ej ea
                have hp := srl.sr.part
                rw [hal] at hp
                rw [List.getElem?_append_right (by omega)] at ea
                have haL := List.mem_of_getElem? ea
                have hav : ∀ y ∈ (a :: B) ++ as, y ∈ B ++ (as ++ L') ∨ H' y = none := fun y hy => .inl (by
                  rw [← List.append_assoc]
                  rcases List.mem_append.mp hy with z | z
                  · rcases List.mem_cons.mp z with z | z
                    · rw [z]; exact List.mem_append_right _ haL
                    · exact List.mem_append_left _ (List.mem_append_left _ z)
                  · exact List.mem_append_left _ (List.mem_append_right _ z))
                refine hw a us H' (ev0 ev) ((fr a haL).resolve_left (by simp)) ⟨rfl, fun i sv q => by simp at q, hp.nd, hp.aslen, fun i o b h1 h2 => ?_, fun b hb => ?_, hp.tabs⟩ hu (RepA.avoid hav _ _ ru)
                · have h1' : (s'.st.take objs.length)[i]? = some o := h1
                  have hi := (List.getElem?_eq_some_iff.mp h2).1
                  rw [List.getElem?_take_of_lt (by omega)] at h1'
                  exact (srl.sr.objs i o b h1' (by rw [List.getElem?_append_left hi]; exact h2)).avoid hav
                · rcases List.mem_cons.mp hb with z | z
                  · rw [z, hu]; simp
                  · exact hp.out b z
              | dK _ => exact hw.elim
              | dM _ => exact hw.elim
              | dead => exact hw.elim
          · simp only [if_neg hj] at hw
theorem fn_okN (F : L2.Fun K x x st f fd) (S : FnScope N ps (defScope st))
    (hb : ∀ (cdv : Value) (A : Around) (outer : List Env) (s : Shared) (H : Hp) (E : XK), Room k (bCx P w K mg base N x st f cdv A outer s H E).A → DSs (bCx P w K mg base N x st f cdv A outer s H E) c (WB E) (defBody st) body) :
    FnOk P w K mg base (L2.CX P w) (k + 1) f fd ps (spN K c ps.length (runN N.length body)) := by
  refine F.okX S (fun vs H Q E h => ?_) fun cdv A outer s H vs Q E hr h => ?_
  · obtain ⟨B, as, svs, objs, hl, sr, r, _⟩ := h
    rw [repSA_len r, hl]
  · exact body_runN (hb cdv A outer s H E hr) h
/-- a def of the text, under its name -/
structure Def (K : PySem.W.Frag) (mg : Str → Option Value) (x : Str) (st : Stmt) (ps : List Str) : Prop where
  ex : ∃ (f : Addr) (fd : FuncData), L2.Fun K x x st f fd ∧ mg x = some (.ref f) ∧ Binds K fd ps []
/-- a def that may be called: what it does -/
structure Cal (P : Program) (w : World) (K : PySem.W.Frag) (mg : Str → Option Value) (base : Heap) (k : Nat) (x : Str) (sp : Sp) : Prop where
  ex : ∃ (f : Addr) (fd : FuncData) (ps : List Str), FnOk P w K mg base (L2.CX P w) k f fd ps sp ∧ mg x = some (.ref f) ∧ PySem.W.keepIn K (.ref f) = true ∧ Binds K fd ps []
theorem Cal.mono {j : Nat} {sp : Sp} (C : Cal P w K mg base j x sp) (h : j ≤ k) : Cal P w K mg base k x sp := by
  obtain ⟨f, fd, ps, a, r⟩ := C.ex
  exact ⟨f, fd, ps, a.mono h, r⟩
theorem cal_of (D : Def K mg x st ps) (S : FnScope N ps (defScope st))
    (hb : ∀ (f : Addr) (cdv : Value) (A : Around) (outer : List Env) (s : Shared) (H : Hp) (E : XK), Room k (bCx P w K mg base N x st f cdv A outer s H E).A → DSs (bCx P w K mg base N x st f cdv A outer s H E) c (WB E) (defBody st) body) :
    Cal P w K mg base (k + 1) x (spD K c ps.length (runF N.length body)) := by
  obtain ⟨f, fd, F, g, b⟩ := D.ex
  exact ⟨f, fd, ps, fn_ok F S (hb f), g, F.kp, b⟩
theorem cal_ofN (D : Def K mg x st ps) (S : FnScope N ps (defScope st))
    (hb : ∀ (f : Addr) (cdv : Value) (A : Around) (outer : List Env) (s : Shared) (H : Hp) (E : XK), Room k (bCx P w K mg base N x st f cdv A outer s H E).A → DSs (bCx P w K mg base N x st f cdv A outer s H E) c (WB E) (defBody st) body) :
    Cal P w K mg base (k + 1) x (spN K c ps.length (runN N.length body)) := by
  obtain ⟨f, fd, F, g, b⟩ := D.ex
  exact ⟨f, fd, ps, fn_okN F S (hb f), g, F.kp, b⟩
end
/-! ### calls -/
section
variable {X : Cx} {c : Cfg} {W : WX} {k j n : Nat} {F : FSem} {x : Str} {p pos : Pos} {e : Expr} {es : List Expr} {fa : EvA} {qa : Bool}
theorem de_fn (C : Cal X.prog X.w X.K X.mg X.base j x (spD X.K c n F)) (hr : Room k X.A) (hk : j ≤ k) (hg : Gl X x) (tk : Takes X W) (ha : DA X c W (e :: es) qa fa) (hdb : (x == ("__debug__" : Str)) = false) (he : starEach (e :: es) X.env = (false, eval e X.env) :: starEach es X.env)
    (hpl : (backTo pos (starEach es X.env)).any (·.1) = false) : DE X c W (.Call (.Name x p) (e :: es) [] pos) false false (callE n F fa) := by
  obtain ⟨f, fd, ps, G, hm, kp, b⟩ := C.ex
  obtain ⟨ta, pa, ra⟩ := ha
  refine ⟨_, pe_callSD (dvs := []) (E := fun σ cls d H => W cls d σ H) (G.mono hk) hr hg hm kp b .nil (fun σ => passAt tk σ) pa hdb he hpl, fun B as σ H s Q sr hw => ?_⟩
  show ta σ H fun vs H1 => spD X.K c n F (vs ++ []) H1 Q _
  simp only [List.append_nil]
  unfold callE at hw
  refine WantsG.bindL (s := s) hw sr ra fun vs H1 svs st1 e1 ev1 sr1 r1 hw1 => ?_
  exact callS_ref sr1 r1 hw1
def listC : RE → RC
  | .ok (.list ds, st) => .ok (ds, st)
  | .ok _ => .stuck
  | .exc c s => .exc c s
  | .stuck => .stuck
def callC (n : Nat) (F : FSem) (f : EvA) : EvC := fun s => (f s).bind fun p => listC (callS n F p.1 ⟨s.env, p.2⟩)
theorem dc_fn (C : Cal X.prog X.w X.K X.mg X.base j x (spN X.K c n F)) (hr : Room k X.A) (hk : j ≤ k) (hg : Gl X x) (tk : Takes X W) (ha : DA X c W (e :: es) qa fa) (hdb : (x == ("__debug__" : Str)) = false) (he : starEach (e :: es) X.env = (false, eval e X.env) :: starEach es X.env)
    (hpl : (backTo pos (starEach es X.env)).any (·.1) = false) : DC X c W (.Call (.Name x p) (e :: es) [] pos) (callC n F fa) := by
  obtain ⟨f, fd, ps, G, hm, kp, b⟩ := C.ex
  obtain ⟨ta, pa, ra⟩ := ha
  refine ⟨_, pe_callSD (dvs := []) (E := fun σ cls d H => W cls d σ H) (G.mono hk) hr hg hm kp b .nil (fun σ => passAt tk σ) pa hdb he hpl, fun B as σ H s Q sr hw => ?_⟩
  show ta σ H fun vs H1 => spN X.K c n F (vs ++ []) H1 Q _
  simp only [List.append_nil]
  unfold callC at hw
  refine WantsC.bindG (s := s) hw sr ra fun vs H1 svs st1 e1 ev1 sr1 r hw => ?_
  unfold callS at hw
  split at hw
  · rename_i hc
    obtain ⟨hn, nd⟩ := hc
    simp only at hw
    split at hw
    · rename_i objs hg
      obtain ⟨g1, g2⟩ := gather_get hg
      have hal : as.length = st1.length := sr1.aslen
      have hlt : ∀ (k i : Nat), (idsOf svs)[k]? = some i → i < as.length := fun k i h => by rw [hal]; exact (g2 k i h).2
      have hsub : ∀ x ∈ asC as (idsOf svs), x ∈ as := fun x h => asC_in hlt h
      refine ⟨B ++ as, asC as (idsOf svs), svs.map (renum (idsOf svs)), objs, by rw [List.length_map]; exact hn, sr1.callee nd hg, repSA_renum hlt (fun i h => idsOf_mem h) r, ?_⟩
      generalize F (svs.map (renum (idsOf svs))) objs = R at hw ⊢
      cases R with
      | stuck => exact hw
      | exc cl s' => exact fun H' ev sr' => hw H' (ev.mono hsub) (sr1.back nd hg ev sr')
      | ok q =>
        obtain ⟨d, st'⟩ := q
        cases d with
        | list ds =>
          intro D us H' ev hD sr' hu ru
          have hav : ∀ y ∈ (D :: B) ++ as, y ∈ D :: (B ++ as) := fun y hy => hy
          have srD : SR X.K c (D :: B) as (upd H1 D (.lst [])) σ ⟨s.env, st1⟩ := sr1.outN hD
          have hDas : D ∉ as := not_as sr1 hD
          -- the caller's own state, with the new list outside
          have evD : Evo (asC as (idsOf svs)) H1 H' := ev
          have base : SR X.K c (D :: B) as H' σ ⟨s.env, scatter st1 (idsOf svs) st'⟩ := by
            have hg' := hg
            have srD' : SR X.K c (D :: B) as (upd H1 D (.lst us)) σ ⟨s.env, st1⟩ := sr1.outN hD
            refine SR.back (H := upd H1 D (.lst us)) srD' nd hg ?_ ?_
            · refine ⟨fun a o q n t => ?_, fun a c P q => ?_, fun a ps q => ?_, fun P t => ev.tab P (t.kept (fun a ps q => ?_) fun a c P q => ?_)⟩
              · by_cases e : a = D
                · rw [e, upd_same] at q; cases q; rw [e]; exact hu
                · rw [upd_ne e] at q; exact ev.keep a o q n t
              · by_cases e : a = D
                · rw [e, upd_same] at q; cases q
                · rw [upd_ne e] at q; exact ev.ext a c P q
              · by_cases e : a = D
                · rw [e, upd_same] at q; cases q
                · rw [upd_ne e] at q; exact ev.tbl a ps q
              · by_cases e : a = D
                · rw [e, upd_same] at q; cases q
                · rw [upd_ne e] at q; exact q
              · by_cases e : a = D
                · rw [e, upd_same] at q; cases q
                · rw [upd_ne e] at q; exact q
            · exact sr'
          refine hw D us H' (ev.mono hsub) hD base hu (RepA.avoid (fun x hx => .inl ?_) _ _ ru)
          exact List.mem_append_left _ hx
        | _ => exact hw
    · exact hw.elim
  · exact hw.elim
theorem takesB {P : Program} {w : World} {K : PySem.W.Frag} {mg : Str → Option Value} {base : Heap} {N : List Str} {x : Str} {st : Stmt} {f : Addr} {cdv : Value} {A : Around} {outer : List Env} {s : Shared} {H : Hp} {E : XK} : Takes (bCx P w K mg base N x st f cdv A outer s H E) (WB E) :=
  takes_of rfl rfl rfl rfl
theorem passesB {P : Program} {w : World} {K : PySem.W.Frag} {mg : Str → Option Value} {base : Heap} {N : List Str} {x : Str} {st : Stmt} {f : Addr} {cdv : Value} {A : Around} {outer : List Env} {s : Shared} {H : Hp} {E : XK} :
    PassesOwn (model (bCx P w K mg base N x st f cdv A outer s H E).prog (bCx P w K mg base N x st f cdv A outer s H E).w) (bCx P w K mg base N x st f cdv A outer s H E).A (bCx P w K mg base N x st f cdv A outer s H E).env (bCx P w K mg base N x st f cdv A outer s H E).xe :=
  passes_of rfl
theorem takesW0 {X : Cx} : Takes X W0 := takes0
end
end DL
end
section
set_option Elab.async false
set_option linter.all false
set_option maxRecDepth 100000
set_option maxHeartbeats 1000000
/-! The data layer, part m: all(..), any(..) of a generator expression, its element any expression. -/
namespace DL
open PySem PySem.Spec PyProof.Rows L2 PySem.SeqAt PySem.W GxR GenW

/-- the block of a generator expression: it starts at s; its frame at C -/
abbrev gCx (X : Cx) (A : Around) (s : Shared) (H : Hp) (scope : Scope) (C : Addr) (cl : List (Str × Addr)) (code : Value) (fp : List Addr) (pn : List (Addr × Obj)) : Cx :=
  { X with A := A, s_0 := s, H_0 := H, env := genEnv scope cl C code builtinsNs X.env, outer := X.stack, stack := genEnv scope cl C code builtinsNs X.env :: X.stack, ex := fp, fn := fun x => scope.names.lookup x == some .cell, pn := pn, xe := fun _ _ => False }
structure GenOk (N : List Str) (sc scope : Scope) (own : List (Str × Nat)) : Prop where
  kind : scope.kind = .function
  co : scope.isCoroutine = false
  dot : scope.names.lookup (".0" : Str) = some NameKind.local
  uniq : ∀ y ∈ scope.names, scope.names.lookup y.1 = some y.2
  ix : ∀ p ∈ own, N[p.2]? = some p.1
  free : ∀ y ∈ scope.names, y.2 = .free → sc.names.lookup y.1 = some .cell ∨ sc.names.lookup y.1 = some .free
  own : ∀ y ∈ scope.names, y.2 = .local ∨ y.2 = .cell → y.1 ∈ own.map (·.1) ∨ y.1 ∉ N
section
variable {X : Cx} {pins : List (Addr × Obj)} {σ : L2.St} {H : Hp} {s s' : Shared}
/-- the cells of a generator's frame at C -/
abbrev clG (X : Cx) (scope : Scope) (C : Addr) : List (Str × Addr) := cellsFrom (C + 1) scope.names (cloFrom X.env.cells scope.names [])
/-- the heap with the new frame and its empty cells -/
abbrev frG (h : Heap) (scope : Scope) : Heap := pushCells (h.push { cls := .type "frame", data := .dict #[] }) scope.names
theorem frG_keeps {h : Heap} {scope : Scope} : ∀ b o, h.get? b = some o → (frG h scope).get? b = some o := fun b o e => pushCells_keeps _ _ b o (Heap.get?_push_of_some _ e)
theorem gen_make {M : Model} {A : Around} {E : Value → Shared → Prop} {s : Shared} {env : Env} {elt target iter : Expr} {ifs : List Expr} {scope : Scope} {cl : List (Str × Addr)} {pos : Pos} {Q : Value → Shared → Prop}
    (hco : scope.isCoroutine = false) (hclos : closureFor scope env = pure cl) (h0 : scope.names.lookup (".0" : Str) = some NameKind.local) (hkind : scope.kind = .function) (hroom : A.depth < recursionLimit)
    (h : wpAny M A (eval iter env) (fun xv s₁ => wpAny M A (pyIter xv) (fun it s₂ => s₂.heap.NoLimit ∧
      wpAny M A (genexprCode env pos (env.qual ++ "<genexpr>") scope) (fun code s₃ => wpAny M A (builtinsFor env.globals env.builtins) (fun bi s₄ =>
        ∀ h', h'.Ns s₄.heap.objs.size (fun y => if y = ".0" then some it else none) → Heap.SameBut s₄.heap.objs.size (frG s₄.heap scope) h' →
          Q (.ref h'.objs.size) { s₄ with
            gens := s₄.gens.push (.fresh (.compStart (.GeneratorExp elt [⟨target, iter, ifs, 0⟩] scope pos) 0 it .none (genEnv scope (cellsFrom (s₄.heap.objs.size + 1) scope.names cl) s₄.heap.objs.size code bi env))),
            toks := s₄.toks + 1 + 1 + 1,
            heap := h'.push { cls := .type "generator", data := .fields #[.int s₄.gens.size 0, .str "<genexpr>" (s₄.toks + 1), .str (env.qual ++ "<genexpr>") (s₄.toks + 1 + 1)] } }) E s₃) E s₂) E s₁) E s)
    (hs : ∀ x, genFold iter env x = pure x) : wpAny M A (eval (.GeneratorExp elt [⟨target, iter, ifs, 0⟩] scope pos) env) Q E s := by
  rw [eval_GeneratorExp1 _ _ _ _ _ _ _ hco, hclos]
  refine wpAny_bind (wpAny_mono h (fun xv s₁ h₁ => ?_) fun _ _ e => e)
  refine wpAny_bind (wpAny_standAt ?_)
  refine wpAny_bind (wpAny_of_eq (hs xv) ?_)
  refine wpAny_bind (wpAny_holding (wpAny_mono h₁ (fun it s₂ h₂ => ?_) fun _ _ e => e))
  refine wpAny_bind (wpAny_enterFrame h₂.1 hroom ?_)
  refine wpAny_bind (wpAny_pure ?_)
  refine wpAny_bind (wpAny_mono h₂.2 (fun code s₃ h₃ => ?_) fun _ _ e => e)
  refine wpAny_bind (wpAny_mono h₃ (fun bi s₄ h₄ => ?_) fun _ _ e => e)
  refine wpAny_bind ?_
  simp only [newFunctionEnv, Option.isSome_none, Bool.false_eq_true, if_false]
  refine wpAny_bind (wpAny_alloc ?_)
  refine wpAny_bind (wpAny_layCells _ (fun name kind cells => by cases hkc : kind == NameKind.cell <;> simp [hkc]) _ _ _ _ ?_)
  rw [show ({ s₄ with heap := s₄.heap.push { cls := .type "frame", data := .dict #[] } } : Shared).heap.objs.size = s₄.heap.objs.size + 1 from Heap.size_push ..]
  simp only [List.forIn_cons, List.forIn_nil]
  refine wpAny_bind (wpAny_bind (wpAny_bind (wpAny_storeName_local (m := fun _ => none) h0 ((Heap.Ns.new s₄.heap (.type "frame")).keeps (pushCells_keeps _ _)) (fun h' hn' hs' => wpAny_pure (wpAny_pure (wpAny_pure ?_))) (by rw [hkind]; rfl))))
  simp only [newGenerator, newFields]
  refine wpAny_bind (wpAny_newGen (wpAny_bind (wpAny_mkText (wpAny_bind (wpAny_mkText (wpAny_newObj_type ?_ (by size_fits)))))))
  exact h₄ h' hn' hs'
theorem gen_start {scope : Scope} {own : List (Str × Nat)} {fp : List Addr} {A : Around} {code it : Value} {a : Addr} {go : Obj} (I : Inv X pins σ H s) (ok : GenOk X.N X.env.scope scope own) (hN : X.N.Nodup) (hfp : ∀ b ∈ fp, FpOk X pins H b ∧ b < s.heap.objs.size)
    (hA : A.frames = some (genEnv scope (clG X scope s.heap.objs.size) s.heap.objs.size code builtinsNs X.env :: X.stack)) (hd : X.calm = true → A.handled = none)
    (kp : ∀ b o, s.heap.get? b = some o → s'.heap.get? b = some o) (hns : s'.heap.Ns s.heap.objs.size (fun y => if y = ".0" then some it else none)) (hcl : ∀ c, s.heap.objs.size + 1 ≤ c → (frG s.heap scope).IsCell c none → s'.heap.IsCell c none) (hos : s'.os = s.os) (hg : AllBare s'.gens)
    (ha : s'.heap.get? a = some go) (hsa : s.heap.objs.size < a) (hgd : ∀ v, go.data ≠ .cell v) :
    Inv (gCx X A s H scope s.heap.objs.size (clG X scope s.heap.objs.size) code fp [(a, go)]) [] (L2.wipe σ (own.map (·.2))) H s' := by
  have hfree : ∀ y ∈ scope.names, y.2 = .free → ∃ c, X.env.cells.lookup y.1 = some c := fun y hy e => by
    rcases ok.free y hy e with k | k
    · exact I.ok.has _ (.inl k)
    · exact I.ok.has _ (.inr k)
  have cm : ∀ {y c}, (y, c) ∈ cloFrom X.env.cells scope.names [] → X.env.cells.lookup y = some c ∧ c < s.heap.objs.size := fun {y c} e => by
    rcases cloFrom_mem e with hm | ⟨h1, rfl⟩
    · cases hm
    · obtain ⟨c, hc⟩ := hfree _ h1 rfl
      rw [hc]
      obtain ⟨w, z⟩ := I.cell _ _ hc
      exact ⟨rfl, z.lt⟩
  have sz : (s.heap.push { cls := .type "frame", data := .dict #[] }).objs.size = s.heap.objs.size + 1 := Heap.size_push ..
  -- where a cell is from
  have mem : ∀ {y c}, (clG X scope s.heap.objs.size).lookup y = some c → (X.env.cells.lookup y = some c ∧ c < s.heap.objs.size) ∨ ((y, NameKind.cell) ∈ scope.names ∧ s.heap.objs.size + 1 ≤ c ∧ s'.heap.IsCell c none) := fun {y c} e => by
    have e : (cellsFrom (s.heap.objs.size + 1) scope.names (cloFrom X.env.cells scope.names [])).lookup y = some c := e
    rw [← sz] at e
    rcases cells_mem (PySem.mem_of_lookup e) with hm | ⟨h1, h2, h3⟩
    · exact .inl (cm hm)
    · rw [sz] at h2
      exact .inr ⟨h1, h2, hcl c h2 h3⟩
  have look : ∀ {y}, scope.names.lookup y = some .free → ∃ c, (clG X scope s.heap.objs.size).lookup y = some c ∧ X.env.cells.lookup y = some c := fun {y} hl => by
    have hy : (y, NameKind.free) ∈ scope.names := PySem.mem_of_lookup hl
    obtain ⟨c', e'⟩ := mem_lookup (cells_acc (names := scope.names) (n := s.heap.objs.size + 1) (cloFrom_has (cells := X.env.cells) (acc := []) hy))
    refine ⟨c', e', ?_⟩
    rcases mem e' with ⟨h1, _⟩ | ⟨h1, _⟩
    · exact h1
    · have := ok.uniq _ h1
      rw [hl] at this; cases this
  have lt_a : s.heap.objs.size ≤ a := Nat.le_of_lt hsa
  have okB : (gCx X A s H scope s.heap.objs.size (clG X scope s.heap.objs.size) code fp [(a, go)]).Ok := by
    refine ⟨I.ok.mod, ok.kind, I.ok.glob, rfl, Nat.le_refl _, fun y z c e1 e2 => ?_, fun y hy => ?_, fun y c z e => ?_, hd, hA, .inr ⟨rfl, rfl⟩, fun b hb => ⟨Nat.ne_of_lt (hfp b hb).2, fun y c e z => ?_⟩, I.bs, Nat.le_trans I.ok.bsz I.sz,
      fun b o e hb => ?_, fun b hb z => ?_, I.stack, I.stkFree⟩
    · have e1 : (cellsFrom (s.heap.objs.size + 1) scope.names (cloFrom X.env.cells scope.names [])).lookup y = some c := e1
      have e2 : (cellsFrom (s.heap.objs.size + 1) scope.names (cloFrom X.env.cells scope.names [])).lookup z = some c := e2
      rw [← sz] at e1 e2
      refine cells_inj (fun p hp => ?_) (fun y z c a b => I.ok.inj y z c (cm a).1 (cm b).1) (PySem.mem_of_lookup e1) (PySem.mem_of_lookup e2)
      rw [sz]
      exact Nat.lt_succ_of_lt (cm (y := p.1) (c := p.2) hp).2
    · have hy : scope.names.lookup y = some .cell ∨ scope.names.lookup y = some .free := hy
      rcases hy with hy | hy
      · obtain ⟨c, hm⟩ := cells_has (n := s.heap.objs.size + 1) (acc := cloFrom X.env.cells scope.names []) (PySem.mem_of_lookup hy)
        exact mem_lookup hm
      · obtain ⟨c, h1, _⟩ := look hy
        exact ⟨c, h1⟩
    · have z : (scope.names.lookup y == some NameKind.cell) = true := z
      have z : scope.names.lookup y = some .cell := by simpa using z
      have e : (cellsFrom (s.heap.objs.size + 1) scope.names (cloFrom X.env.cells scope.names [])).lookup y = some c := e
      rw [← sz] at e
      rcases cells_mem (PySem.mem_of_lookup e) with hm | ⟨_, h2, _⟩
      · rcases cloFrom_mem hm with hm | ⟨h1, _⟩
        · cases hm
        · have q := ok.uniq _ h1
          rw [z] at q; cases q
      · rw [sz] at h2
        exact Nat.le_of_succ_le h2
    · rcases mem (show (clG X scope s.heap.objs.size).lookup y = some c from e) with ⟨h1, _⟩ | ⟨_, h1, _⟩
      · exact (hfp b hb).1.2.2.2.2.1 y c h1 z
      · have h2 : s.heap.objs.size + 1 ≤ b := by rw [← z]; exact h1
        exact absurd (Nat.lt_of_lt_of_le (hfp b hb).2 (Nat.le_of_succ_le h2)) (Nat.lt_irrefl _)
    · rcases (hfp b hb).1.2.2.2.1 with z | z
      · exact I.ok.noex b o e z
      · exact absurd (Nat.lt_of_lt_of_le (Heap.lt_size e) (Nat.le_trans I.ok.bsz z)) (Nat.lt_irrefl _)
    · rcases List.mem_cons.mp (I.stkSub b z) with z | z
      · exact (hfp b hb).1.2.1 z
      · exact (hfp b hb).1.2.2.1 z
  refine ⟨okB, hos, hg, Un.kept kp, ⟨_, hns, fun i y av e1 e2 e3 => ?_⟩, fun y c e => ?_, I.hok.fresh (Nat.le_refl _), fun y c e => ?_, fun p hp => ?_, I.hok.kept kp, by rw [wipe_length]; exact I.len⟩
  · obtain ⟨e2, hne⟩ := wipe_some e2
    have hfr : scope.names.lookup y = some .free := by
      have no : ¬ (scope.names.lookup y = some .local ∨ scope.names.lookup y = some .cell) := fun e => by
        have key : ∀ k, scope.names.lookup y = some k → k = .local ∨ k = .cell → False := fun k ek hk => by
          rcases ok.own _ (PySem.mem_of_lookup ek) hk with e' | e'
          · obtain ⟨p, hp, hpy⟩ := List.mem_map.mp e'
            have e3 := ok.ix p hp
            have : p.1 = y := hpy
            rw [this] at e3
            exact hne (List.mem_map.mpr ⟨p, hp, nodup_ix hN e3 e1⟩)
          · exact e' (List.mem_of_getElem? e1)
        rcases e with e | e
        · exact key _ e (.inl rfl)
        · exact key _ e (.inr rfl)
      have e3 : Vis scope y := e3
      rcases e3 with e3 | e3 | e3
      · exact absurd (.inl e3) no
      · exact absurd (.inr e3) no
      · exact e3
    obtain ⟨m, hn, hl⟩ := I.loc
    have hvis : Vis X.env.scope y := (ok.free _ (PySem.mem_of_lookup hfr) rfl).elim (fun k => .inr (.inl k)) (fun k => .inr (.inr k))
    obtain ⟨w, r, q⟩ := hl i y av e1 e2 hvis
    refine ⟨w, r, .inr ⟨.inr hfr, ?_⟩⟩
    obtain ⟨c, h1, h2⟩ := look hfr
    rcases q with ⟨k, _⟩ | ⟨_, c', e', z⟩
    · have k : X.env.scope.names.lookup y = some .local := k
      rcases ok.free _ (PySem.mem_of_lookup hfr) rfl with k' | k' <;> rw [show X.env.scope.names.lookup y = _ from k'] at k <;> cases k
    · rw [h2] at e'; cases e'
      exact ⟨c, h1, z.keeps kp⟩
  · rcases mem (show (clG X scope s.heap.objs.size).lookup y = some c from e) with ⟨h1, _⟩ | ⟨_, _, h1⟩
    · obtain ⟨w, z⟩ := I.cell y c h1
      exact ⟨w, z.keeps kp⟩
    · exact ⟨_, h1⟩
  · rcases mem (show (clG X scope s.heap.objs.size).lookup y = some c from e) with ⟨h1, _⟩ | ⟨_, h1, _⟩
    · exact I.freeC y c h1
    · exact I.hok.fresh (Nat.le_of_succ_le h1)
  · have hp : p ∈ [(a, go)] := by simpa using hp
    rw [List.mem_singleton.mp hp]
    refine ⟨ha, I.hok.fresh lt_a, Nat.ne_of_gt hsa, fun z => ?_, hgd⟩
    have z : a ∈ frs X.stack := z
    obtain ⟨_, o, ho, _⟩ := I.stack.mem z
    exact absurd (Nat.lt_of_lt_of_le (Heap.lt_size ho) lt_a) (Nat.lt_irrefl _)
/-- the generator's code, as a frame -/
theorem over_loopG {A : Around} {elt tg iter : Expr} {ifs : List Expr} {scope : Scope} {pos : Pos} {it acc : Value} {env : Env} : A.over (.compLoop (.GeneratorExp elt [⟨tg, iter, ifs, 0⟩] scope pos) 0 it acc env) [] = A.deeper env := by
  rfl
theorem over_startG {A : Around} {elt tg iter : Expr} {ifs : List Expr} {scope : Scope} {pos : Pos} {it acc : Value} {env : Env} : A.over (.compStart (.GeneratorExp elt [⟨tg, iter, ifs, 0⟩] scope pos) 0 it acc env) [] = A.deeper env := by
  rfl
/-- the turns of the generator: what all and any need -/
structure QRun (J : It) (vs : List Nat) (σ0 : L2.St) (W : Nat → Nat → Hp → Prop) (stopAt : Bool) (Q : VK) (g : TG) (tt : TT) (te : TE) : Prop where
  turn : ∀ i m H, W i m H → (J.stop i H ∧ Q (.bl (!stopAt)) H) ∨ (J.go i H ∧ ∃ Nx : Hp → Prop, (∀ H', Nx H' → ∃ m', m' < m ∧ W (i + 1) m' H') ∧ ∀ x H', J.yld i H x H' → g x σ0 H' fun (σ2 : L2.St) (H3 : Hp) => L2.wipe σ2 vs = σ0 ∧
    tt σ2 H3 fun b H4 => if b = true then te σ2 H4 fun y H5 => ∃ k, y = .bl k ∧ (if k = stopAt then Q (.bl stopAt) H5 else Nx H5) else Nx H4)
def QInv (Xg : Cx) (fp : List Addr) (tn : Nat → Heap → Prop) (σ0 : L2.St) (W : Nat → Nat → Hp → Prop) (n : Nat) (s : Shared) : Prop :=
  ∃ i H', Inv Xg [] σ0 H' s ∧ tn i s.heap ∧ (∀ b ∈ fp, H' b = none) ∧ W i n H'
def QEnd (Xg : Cx) (σ0 : L2.St) (stopAt : Bool) (Q : VK) (s₁ : Shared) : Prop := ∃ H', Inv Xg [] σ0 H' s₁ ∧ Q (.bl (!stopAt)) H'
def QR (Xg : Cx) (σ0 : L2.St) (stopAt : Bool) (Q : VK) : GenEnd := fun _ _ r s₁ => ((r = .ok (.ret .none) ∨ r = .ok .next) ∧ QEnd Xg σ0 stopAt Q s₁) ∨ ∃ e, r = .error e ∧ False
def QY (Xg : Cx) (stopAt : Bool) (Q : VK) : Protocol := fun _ _ v s₁ kap => ∃ (b : Bool) (σ' : L2.St) (H' : Hp), v = .bool b ∧ Inv Xg [] σ' H' s₁ ∧
  (if b = stopAt then Q (.bl stopAt) H' else ∀ s'' : Shared, s''.heap = s₁.heap → s''.os = s₁.os → AllBare s''.gens → kap (.send .none) s'')
theorem Inv.same {X : Cx} {pins : List (Addr × Obj)} {σ : L2.St} {H : Hp} {s s'' : Shared} (I : Inv X pins σ H s) (h1 : s''.heap = s.heap) (h2 : s''.os = s.os) (h3 : AllBare s''.gens) : Inv X pins σ H s'' := by
  obtain ⟨hp, gs, dr, tk, os⟩ := s''
  simp only at h1 h2 h3
  subst h1 h2
  exact ⟨I.ok, I.os, h3, I.base, I.loc, I.cell, I.free, I.freeC, I.pin, I.hok, I.len⟩
theorem seg_q {Xg : Cx} {A : Around} {J : It} {fp : List Addr} {it : Addr} {tn : Nat → Heap → Prop} {vs : List Nat} {σ0 : L2.St} {W : Nat → Nat → Hp → Prop} {stopAt : Bool} {Q : VK} {g : TG} {tt : TT} {te : TE} {elt tg iter : Expr} {ifs : List Expr} {scope : Scope} {pos : Pos}
    (hA : Xg.A = A.deeper Xg.env) (hc : Xg.calm = true) (hx : Xg.xe = fun _ _ => False) (hex : Xg.ex = fp) (hco : Xg.env.scope.isCoroutine = false) (T : Turn Xg.prog Xg.w Xg.K tg J fp it tn) (R : QRun J vs σ0 W stopAt Q g tt te)
    (pg : PG Xg tg g) (pt : PTs Xg ifs tt) (pe : PE Xg elt te) (hpn : ∀ b ∈ fp, ∀ p ∈ Xg.pn, p.1 ≠ b) :
    ∀ (n N : Nat) (s₀ s : Shared), n < N → QInv Xg fp tn σ0 W n s → Seg (model Xg.prog Xg.w) A (QR Xg σ0 stopAt Q) (QY Xg stopAt Q) N s₀ (.compLoop (.GeneratorExp elt [⟨tg, iter, ifs, 0⟩] scope pos) 0 (.ref it) .none Xg.env)
      ((model Xg.prog Xg.w).den (.compLoop (.GeneratorExp elt [⟨tg, iter, ifs, 0⟩] scope pos) 0 (.ref it) .none Xg.env)) [] s := by
  have stat : ∀ {σ' : L2.St} {H' : Hp} {s' : Shared}, Inv Xg [] σ' H' s' → (∀ b ∈ fp, H' b = none) → ∀ b ∈ fp, FpOk Xg [] H' b := fun {σ' H' s'} I' hn b hb => by
    have hb' : b ∈ Xg.ex := by rw [hex]; exact hb
    exact ⟨hn b hb, (I'.ok.exf b hb').1, I'.ok.exfs b hb', .inl hb', fun x c e => (I'.ok.exf b hb').2 x c e, fun p hp => hpn b hb p (by simpa using hp)⟩
  intro n
  induction n using Nat.strongRecOn with
  | ind n ih =>
  rintro N s₀ s hN ⟨i, H1, I1, st1, n1, w1⟩
  show Seg _ A _ _ N s₀ _ ((compTurn (.GeneratorExp elt [⟨tg, iter, ifs, 0⟩] scope pos) 0 (.ref it) .none Xg.env).onRaise (leaving Xg.env)) [] s
  rw [compTurn_gen, Sem.onRaise_eq_wrap]
  refine seg_bind_wrap (wpAny_standAt ?_)
  have hAo : A.over (.compLoop (.GeneratorExp elt [⟨tg, iter, ifs, 0⟩] scope pos) 0 (.ref it) .none Xg.env) [] = Xg.A := hA.symm
  rcases R.turn i n H1 w1 with ⟨stop, qq⟩ | ⟨go, Nx, hNx, step⟩
  · refine seg_bind_wrap ?_
    rw [hAo]
    refine wpAny_mono (T.done Xg rfl rfl rfl hc i [] s σ0 H1 (fun _ _ => False) I1 (stat I1 n1) st1 stop) (fun r s2 ⟨hr, I2⟩ => ?_) fun _ _ z => z.elim
    subst hr
    exact seg_end (.ok .next) (.inl ⟨.inr rfl, H1, I2, qq⟩)
  · refine seg_bind_wrap ?_
    rw [hAo]
    refine wpAny_mono (T.item Xg rfl rfl rfl hc i [] s σ0 H1 (fun _ _ => False) I1 (stat I1 n1) st1 go) (fun r s2 ⟨u, hr, h2⟩ => ?_) fun _ _ z => z.elim
    subst hr
    refine seg_bind_wrap ?_
    rw [hAo]
    refine wpAny_mono h2 (fun _ s3 ⟨x, H3, I3, r3, y3, st3, n3⟩ => ?_) fun _ _ z => z.elim
    have I3' := I3.pinned (stat I3 n3) (T.obj _ _ st3)
    refine seg_bind_wrap ?_
    rw [hAo]
    refine wpAny_mono (pg.run _ s3 _ H3 x u _ I3' r3 (step x H3 y3)) (fun _ s4 ⟨σ4, H4, I4, hw4, q4⟩ => ?_) fun _ _ z => by rw [hx] at z; exact z.elim
    refine seg_bind_wrap ?_
    rw [hAo]
    refine wpAny_mono (pt.run _ s4 σ4 H4 _ I4 q4) (fun b s5 ⟨H5, I5, q5⟩ => ?_) fun _ _ z => by rw [hx] at z; exact z.elim
    -- the turn's end
    have fin : ∀ {s' : Shared} {H' : Hp}, Inv Xg ([] ++ pinsAt fp s3.heap) σ4 H' s' → Nx H' → ∃ m, m < n ∧ QInv Xg fp tn σ0 W m s' := fun {s' H'} I' nx => by
      obtain ⟨m', hm, w'⟩ := hNx H' nx
      have pin' : ∀ b ∈ fp, ∀ o, s3.heap.get? b = some o → s'.heap.get? b = some o ∧ H' b = none := fun b hb o e =>
        let z := I'.pin (b, o) (List.mem_append_right _ (List.mem_append_right _ (mem_pinsAt hb e)))
        ⟨z.1, z.2.1⟩
      refine ⟨m', hm, i + 1, H', (I'.unpinned (pins := [])).weak (by rw [← hw4, wipe_length]) (fun j v e => by rw [← hw4] at e; exact (wipe_some e).1), T.keep _ _ _ st3 fun b hb o e => (pin' b hb o e).1, fun b hb => ?_, w'⟩
      obtain ⟨o, e, _⟩ := T.obj _ _ st3 b hb
      exact (pin' b hb o e).2
    cases b with
    | false =>
      rw [if_neg Bool.false_ne_true] at q5
      simp only [Bool.false_eq_true, if_false]
      obtain ⟨m, hm, hq⟩ := fin I5 q5
      exact seg_again rfl (ih m hm N s₀ s5 (by omega) hq)
    | true =>
      rw [if_pos rfl] at q5
      simp only [if_true]
      have hy : ∀ v, yieldOut Xg.env v = yieldValue v := fun v => by simp only [yieldOut, hco, Bool.false_eq_true, if_false]
      simp only [hy]
      rw [Sem.bind_eq_wrap', Sem.bind_eq_wrap', Sem.wrap_wrap, Sem.wrap_wrap]
      refine seg_wrap ?_
      rw [hAo]
      refine wpAny_mono (pe.run _ s5 σ4 H5 _ I5 q5) (fun v s6 ⟨yv, H6, I6, r6, k, ek, q6⟩ => ?_) fun _ _ z => by rw [hx] at z; exact z.elim
      subst ek
      have ev : v = Value.bool k := r6
      subst ev
      have hN1 : ∃ N', N = N' + 1 := ⟨N - 1, by omega⟩
      obtain ⟨N', rfl⟩ := hN1
      refine seg_at (seg_yield rfl rfl rfl ⟨k, σ4, H6, rfl, I6.unpinned (pins := []), ?_⟩)
      by_cases hk : k = stopAt
      · rw [if_pos hk] at q6 ⊢
        exact q6
      · rw [if_neg hk] at q6 ⊢
        intro s'' e1 e2 e3
        obtain ⟨m, hm, hq⟩ := fin (Inv.same I6 e1 e2 e3) q6
        exact seg_again rfl (ih m hm N' s'' s'' (by omega) hq)
/-- the loop of all over the generator -/
theorem loop_all {Xg : Cx} {A : Around} {a : Addr} {g : Nat} {go : Obj} {σ0 : L2.St} {Q : VK} {Rr : Result → Shared → Prop} (hh : A.handled = none) (hd : A.depth < recursionLimit) (hpn : Xg.pn = [(a, go)]) (hgo : ∀ h : Heap, h.get? a = some go → h.IsGen a g)
    (hend : ∀ s' b, (∃ σ' H', Inv Xg [] σ' H' s' ∧ Q (.bl b) H') → Rr (.ok (.ret (.bool b))) s') :
    ∀ (N : Nat) (s : Shared), s.heap.IsGen a g → s.heap.NoLimit → (∃ gs, s.gens[g]? = some gs ∧ gs.Goes (model Xg.prog Xg.w) A.in1.in1 (QR Xg σ0 false Q) (QY Xg false Q) N (.send .none) (s.setGen g .running)) →
      codeAny (model Xg.prog Xg.w) A (.builtin "all.loop" ⟨[.ref a], []⟩) Rr s := by
  have isg : ∀ {σ' : L2.St} {H' : Hp} {s' : Shared}, Inv Xg [] σ' H' s' → s'.heap.IsGen a g := fun {σ' H' s'} I => hgo _ (I.pin (a, go) (by rw [hpn]; simp)).1
  intro N
  induction N with
  | zero =>
    rintro s hg hl ⟨gs, hgs, hgoes⟩
    refine codeAny_builtin F.entry_all_loop ?_
    rw [Around.under_plainId F.plain_all_loop _]
    show wpAny _ A.in1 (pyNext (.ref a) >>= _) _ _ s
    refine wpAny_bind (next_genG (A := A.in1) (F := fun _ _ s₁ => QEnd Xg σ0 false Q s₁) (Er := fun _ _ => False) hh hl hd hg hgs hgoes (fun v s₁ gs' hbare hv => ?_) (fun s₁ hp h' hk => ?_) fun e s₁ he => he.elim)
    · obtain ⟨b, σ', H', rfl, I, q⟩ := hv
      refine wpAny_bind (wpAny_holding (wpAny_truthy_bool (wpAny_bind (wpAny_letGo ?_))))
      cases b with
      | false =>
        rw [if_pos rfl] at q
        simp only [Bool.false_eq_true, if_false]
        refine wpAny_bind (wpAny_rule (wpAny_pure (hend _ false ⟨σ', H', Inv.same I rfl rfl (allBare_setGen I.bare hbare), q⟩)))
      | true =>
        rw [if_neg (by decide)] at q
        exact (q _ rfl rfl I.bare).elim
    · obtain ⟨H', I, q⟩ := hp
      refine wpAny_bind (wpAny_rule (wpAny_pure (hend _ true ⟨σ0, H', ?_, q⟩)))
      exact Inv.same (Inv.kept (t' := s₁.toks) I hk) rfl rfl (allBare_setGen I.bare rfl)
  | succ N ih =>
    rintro s hg hl ⟨gs, hgs, hgoes⟩
    have hgl : g < s.gens.size := (Array.getElem?_eq_some_iff.mp hgs).1
    refine codeAny_builtin F.entry_all_loop ?_
    rw [Around.under_plainId F.plain_all_loop _]
    show wpAny _ A.in1 (pyNext (.ref a) >>= _) _ _ s
    refine wpAny_bind (wpAny_gsz (n := g + 1) hgl (next_genG (A := A.in1) (F := fun _ _ s₁ => QEnd Xg σ0 false Q s₁) (Er := fun _ _ => False) hh hl hd hg hgs hgoes (fun v s₁ gs' hbare hv => ?_) (fun s₁ hp h' hk => ?_) fun e s₁ he => he.elim))
    · intro hsz
      obtain ⟨b, σ', H', rfl, I, q⟩ := hv
      refine wpAny_bind (wpAny_holding (wpAny_truthy_bool (wpAny_bind (wpAny_letGo ?_))))
      have I2 : Inv Xg [] σ' H' (s₁.setGen g gs') := Inv.same I rfl rfl (allBare_setGen I.bare hbare)
      cases b with
      | false =>
        rw [if_pos rfl] at q
        simp only [Bool.false_eq_true, if_false]
        refine wpAny_bind (wpAny_rule (wpAny_pure (hend _ false ⟨σ', H', I2, q⟩)))
      | true =>
        rw [if_neg (by decide)] at q
        simp only [if_true]
        have hsz1 : g < s₁.gens.size := by
          have q : (s₁.setGen g gs').gens.size = s₁.gens.size := setGen_size _ _ _
          omega
        refine wpAny_pure ⟨plainId_quiet F.plain_all_loop _, ih (s₁.setGen g gs') (isg I2) I2.nolimit ⟨gs', setGen_at hsz1, ?_⟩⟩
        exact q _ rfl rfl (allBare_setGen (s := s₁.setGen g gs') I2.bare rfl)
    · intro _
      obtain ⟨H', I, q⟩ := hp
      refine wpAny_bind (wpAny_rule (wpAny_pure (hend _ true ⟨σ0, H', ?_, q⟩)))
      exact Inv.same (Inv.kept (t' := s₁.toks) I hk) rfl rfl (allBare_setGen I.bare rfl)
/-- the loop of any over the generator -/
theorem loop_any {Xg : Cx} {A : Around} {a : Addr} {g : Nat} {go : Obj} {σ0 : L2.St} {Q : VK} {Rr : Result → Shared → Prop} (hh : A.handled = none) (hd : A.depth < recursionLimit) (hpn : Xg.pn = [(a, go)]) (hgo : ∀ h : Heap, h.get? a = some go → h.IsGen a g)
    (hend : ∀ s' b, (∃ σ' H', Inv Xg [] σ' H' s' ∧ Q (.bl b) H') → Rr (.ok (.ret (.bool b))) s') :
    ∀ (N : Nat) (s : Shared), s.heap.IsGen a g → s.heap.NoLimit → (∃ gs, s.gens[g]? = some gs ∧ gs.Goes (model Xg.prog Xg.w) A.in1.in1 (QR Xg σ0 true Q) (QY Xg true Q) N (.send .none) (s.setGen g .running)) →
      codeAny (model Xg.prog Xg.w) A (.builtin "any.loop" ⟨[.ref a], []⟩) Rr s := by
  have isg : ∀ {σ' : L2.St} {H' : Hp} {s' : Shared}, Inv Xg [] σ' H' s' → s'.heap.IsGen a g := fun {σ' H' s'} I => hgo _ (I.pin (a, go) (by rw [hpn]; simp)).1
  intro N
  induction N with
  | zero =>
    rintro s hg hl ⟨gs, hgs, hgoes⟩
    refine codeAny_builtin F.entry_any_loop ?_
    rw [Around.under_plainId F.plain_any_loop _]
    show wpAny _ A.in1 (pyNext (.ref a) >>= _) _ _ s
    refine wpAny_bind (next_genG (A := A.in1) (F := fun _ _ s₁ => QEnd Xg σ0 true Q s₁) (Er := fun _ _ => False) hh hl hd hg hgs hgoes (fun v s₁ gs' hbare hv => ?_) (fun s₁ hp h' hk => ?_) fun e s₁ he => he.elim)
    · obtain ⟨b, σ', H', rfl, I, q⟩ := hv
      refine wpAny_bind (wpAny_holding (wpAny_truthy_bool (wpAny_bind (wpAny_letGo ?_))))
      cases b with
      | true =>
        rw [if_pos rfl] at q
        simp only [if_true]
        refine wpAny_bind (wpAny_rule (wpAny_pure (hend _ true ⟨σ', H', Inv.same I rfl rfl (allBare_setGen I.bare hbare), q⟩)))
      | false =>
        rw [if_neg (by decide)] at q
        exact (q _ rfl rfl I.bare).elim
    · obtain ⟨H', I, q⟩ := hp
      refine wpAny_bind (wpAny_rule (wpAny_pure (hend _ false ⟨σ0, H', ?_, q⟩)))
      exact Inv.same (Inv.kept (t' := s₁.toks) I hk) rfl rfl (allBare_setGen I.bare rfl)
  | succ N ih =>
    rintro s hg hl ⟨gs, hgs, hgoes⟩
    have hgl : g < s.gens.size := (Array.getElem?_eq_some_iff.mp hgs).1
    refine codeAny_builtin F.entry_any_loop ?_
    rw [Around.under_plainId F.plain_any_loop _]
    show wpAny _ A.in1 (pyNext (.ref a) >>= _) _ _ s
    refine wpAny_bind (wpAny_gsz (n := g + 1) hgl (next_genG (A := A.in1) (F := fun _ _ s₁ => QEnd Xg σ0 true Q s₁) (Er := fun _ _ => False) hh hl hd hg hgs hgoes (fun v s₁ gs' hbare hv => ?_) (fun s₁ hp h' hk => ?_) fun e s₁ he => he.elim))
    · intro hsz
      obtain ⟨b, σ', H', rfl, I, q⟩ := hv
      refine wpAny_bind (wpAny_holding (wpAny_truthy_bool (wpAny_bind (wpAny_letGo ?_))))
      have I2 : Inv Xg [] σ' H' (s₁.setGen g gs') := Inv.same I rfl rfl (allBare_setGen I.bare hbare)
      cases b with
      | true =>
        rw [if_pos rfl] at q
        simp only [if_true]
        refine wpAny_bind (wpAny_rule (wpAny_pure (hend _ true ⟨σ', H', I2, q⟩)))
      | false =>
        rw [if_neg (by decide)] at q
        simp only [Bool.false_eq_true, if_false]
        have hsz1 : g < s₁.gens.size := by
          have q : (s₁.setGen g gs').gens.size = s₁.gens.size := setGen_size _ _ _
          omega
        refine wpAny_pure ⟨plainId_quiet F.plain_any_loop _, ih (s₁.setGen g gs') (isg I2) I2.nolimit ⟨gs', setGen_at hsz1, ?_⟩⟩
        exact q _ rfl rfl (allBare_setGen (s := s₁.setGen g gs') I2.bare rfl)
    · intro _
      obtain ⟨H', I, q⟩ := hp
      refine wpAny_bind (wpAny_rule (wpAny_pure (hend _ false ⟨σ0, H', ?_, q⟩)))
      exact Inv.same (Inv.kept (t' := s₁.toks) I hk) rfl rfl (allBare_setGen I.bare rfl)
/-! ### the tables grow, what they tell is known -/
theorem among_snoc {pos pos' : Pos} {c cv : Value} (l : List Value) (h : TriplesOk l) (hn : codeAmong pos' (l ++ [rawInt pos.line, rawInt pos.col, c]) = some cv) : codeAmong pos' l = some cv ∨ cv = c := by
  fun_induction TriplesOk l with
  | case1 =>
    simp only [List.nil_append, rawInt, codeAmong] at hn
    split at hn
    · exact .inr (Option.some.inj hn).symm
    · cases hn
  | case2 a t b u x rest ih =>
    simp only [List.cons_append, codeAmong] at hn ⊢
    split at hn
    · rename_i hc; rw [if_pos hc]; exact .inl hn
    · rename_i hc; rw [if_neg hc]; exact ih h hn
  | case3 l h1 h2 => exact h.elim
/-- the code object cp.1 is known, with its table at cp.2; the table at P may have grown by it -/
def Grown (P : Addr) (cp : Addr × Addr) (H H' : Hp) : Prop := (H' = H ∧ H cp.1 = some (CodeT cp.1 cp.2) ∧ TabT H cp.2) ∨
  ∃ (ps : Array Value) (pos : Pos), H P = some (.tbl ps) ∧ TriplesOk ps.toList ∧ H cp.1 = none ∧ H cp.2 = none ∧ cp.1 ≠ cp.2 ∧
    H' = upd (upd (upd H P (.tbl (ps ++ #[rawInt pos.line, rawInt pos.col, .ref cp.1]))) cp.1 (CodeT cp.1 cp.2)) cp.2 (.tbl #[])
theorem Grown.evo {P : Addr} {cp : Addr × Addr} {H H' : Hp} (h : Grown P cp H H') : Evo [] H H' ∧ H' cp.1 = some (CodeT cp.1 cp.2) ∧ TabT H' cp.2 := by
  obtain ⟨c', P'⟩ := cp
  rcases h with ⟨rfl, h1, h2⟩ | ⟨ps, pos, hP, ht, n1, n2, ne, rfl⟩
  · exact ⟨Evo.refl, h1, h2⟩
  simp only at n1 n2 ne ⊢
  have at_ : ∀ b u, H b = some u → b ≠ P → upd (upd (upd H P (.tbl (ps ++ #[rawInt pos.line, rawInt pos.col, .ref c']))) c' (CodeT c' P')) P' (.tbl #[]) b = some u := fun b u e h => by
    rw [upd_ne (ne_of_none e n2), upd_ne (ne_of_none e n1), upd_ne h]; exact e
  have atP : upd (upd (upd H P (.tbl (ps ++ #[rawInt pos.line, rawInt pos.col, .ref c']))) c' (CodeT c' P')) P' (.tbl #[]) P = some (.tbl (ps ++ #[rawInt pos.line, rawInt pos.col, .ref c'])) := by
    rw [upd_ne (ne_of_none hP n2), upd_ne (ne_of_none hP n1), upd_same]
  have atc : upd (upd (upd H P (.tbl (ps ++ #[rawInt pos.line, rawInt pos.col, .ref c']))) c' (CodeT c' P')) P' (.tbl #[]) c' = some (CodeT c' P') := by
    rw [upd_ne ne, upd_same]
  have hex : ∀ a cc Q, H a = some (CodeT cc Q) → upd (upd (upd H P (.tbl (ps ++ #[rawInt pos.line, rawInt pos.col, .ref c']))) c' (CodeT c' P')) P' (.tbl #[]) a = some (CodeT cc Q) := fun a cc Q q =>
    at_ a _ q fun z => by rw [z, hP] at q; cases q
  refine ⟨⟨fun a o q _ t => at_ a o q fun z => ?_, hex, fun a qs q => ?_, fun R t => ?_⟩, atc, fun x => x = P', rfl, fun R hR => ?_⟩
  · rw [z, hP] at q
    exact t ps (Option.some.inj q).symm
  · by_cases e : a = P
    · rw [e, hP] at q; cases q
      exact ⟨_, by rw [e]; exact atP⟩
    · exact ⟨#[], by rw [at_ a _ q e]; simp⟩
  · obtain ⟨S, h1, h2⟩ := t
    refine ⟨fun x => S x ∨ x = P', .inl h1, fun Z hZ => ?_⟩
    rcases hZ with hZ | rfl
    · obtain ⟨qs, q1, q2, q3⟩ := h2 Z hZ
      have known : ∀ p cv, codeAmong p qs.toList = some cv → ∃ c2 P2, cv = .ref c2 ∧ upd (upd (upd H P (.tbl (ps ++ #[rawInt pos.line, rawInt pos.col, .ref c']))) c' (CodeT c' P')) P' (.tbl #[]) c2 = some (CodeT c2 P2) ∧ (S P2 ∨ P2 = P') := fun p cv e => by
        obtain ⟨c2, P2, r1, r2, r3⟩ := q3 p cv e
        exact ⟨c2, P2, r1, hex _ _ _ r2, .inl r3⟩
      by_cases e : Z = P
      · subst e
        rw [hP] at q1
        cases q1
        have hl : (ps ++ #[rawInt pos.line, rawInt pos.col, Value.ref c']).toList = ps.toList ++ [rawInt pos.line, rawInt pos.col, .ref c'] := by simp
        refine ⟨_, atP, by rw [hl]; exact TriplesOk_snoc _ _ _ _ ht, fun p cv e => ?_⟩
        rw [hl] at e
        rcases among_snoc _ ht e with e | e
        · exact known p cv e
        · exact ⟨c', P', e, atc, .inr rfl⟩
      · exact ⟨qs, at_ Z _ q1 e, q2, known⟩
    · exact ⟨#[], upd_same, trivial, fun p cv e => by simp [codeAmong] at e⟩
  · have hR : R = P' := hR
    rw [hR]
    exact ⟨#[], upd_same, trivial, fun p cv e => by simp [codeAmong] at e⟩
theorem inv_code {P c' P' : Addr} {ps more : Array Value} {h' : Heap} {t' : Nat} (I : Inv X pins σ H s) (hP : H P = some (.tbl ps)) (k : ∀ b o, b ≠ P → s.heap.get? b = some o → h'.get? b = some o)
    (hm : h'.get? P = some { cls := .none, data := .fields (ps ++ more) }) (hc : s.heap.objs.size ≤ c') (hp : s.heap.objs.size ≤ P') (ne : c' ≠ P') (ho : PySem.W.CodeHd h' c' P') (hm' : h'.get? P' = some { cls := .none, data := .fields #[] }) :
    Inv X pins σ (upd (upd (upd H P (.tbl (ps ++ more))) c' (CodeT c' P')) P' (.tbl #[])) { s with heap := h', toks := t' } := by
  have nC : H c' = none := I.hok.fresh hc
  have nQ : H P' = none := I.hok.fresh hp
  have at_ : ∀ b, b ≠ P → b ≠ c' → b ≠ P' → upd (upd (upd H P (.tbl (ps ++ more))) c' (CodeT c' P')) P' (.tbl #[]) b = H b := fun b h1 h2 h3 => by rw [upd_ne h3, upd_ne h2, upd_ne h1]
  have atP : upd (upd (upd H P (.tbl (ps ++ more))) c' (CodeT c' P')) P' (.tbl #[]) P = some (.tbl (ps ++ more)) := by rw [upd_ne (ne_of_none hP nQ), upd_ne (ne_of_none hP nC), upd_same]
  have nP : ∀ b u, H b = some u → (∀ q, u ≠ .tbl q) → b ≠ P := fun b u e q z => by
    rw [z, hP] at e
    exact q ps (Option.some.inj e).symm
  have nN : ∀ b, H b = none → b ≠ P := fun b e z => by
    rw [z, hP] at e
    cases e
  have far : ∀ b o x, s.heap.objs.size ≤ x → s.heap.get? b = some o → b ≠ x := fun b o x hx e z => by
    rw [z] at e
    exact Nat.lt_irrefl _ (Nat.lt_of_lt_of_le (Heap.lt_size e) hx)
  have stays : ∀ b u, H b = some u → b ≠ P → upd (upd (upd H P (.tbl (ps ++ more))) c' (CodeT c' P')) P' (.tbl #[]) b = some u := fun b u e h => by rw [at_ b h (ne_of_none e nC) (ne_of_none e nQ)]; exact e
  refine I.step (g' := s.gens) (d' := s.drawn) (ch := []) (fun b hb => absurd hb (by simp)) (fun b o _ _ _ e n => k b o (nN b n) e) (fun b o _ _ _ e n => ⟨o.slots, k b o (nN b n) e⟩)
    (fun b o _ e n => by rw [at_ b (nN b n) (far b o c' hc e) (far b o P' hp e)]; exact n) (fun b o _ e => ?_) (fun b xs e => stays b _ e (nP b _ e (fun q z => by cases z))) (fun b o u e => stays b _ e (nP b _ e (fun q z => by cases z))) (fun b qs e => ?_) (fun m hn => ?_) (fun b u e => ?_) I.bare
  · by_cases hb : b = P
    · rw [hb]
      exact ⟨_, hm⟩
    · exact ⟨o, k b o hb e⟩
  · by_cases hb : b = P
    · rw [hb, hP] at e
      cases e
      rw [hb, atP]
      exact ⟨more, rfl⟩
    · rw [stays b _ e hb]
      exact ⟨#[], by simp⟩
  · obtain ⟨ob, es, ep, ho, r⟩ := hn
    exact ⟨ob, es, ep, k _ ob (nN _ I.free) ho, r⟩
  · by_cases hq : b = P'
    · rw [hq, upd_same] at e
      cases e
      rw [hq]
      exact hm'
    by_cases hb : b = c'
    · rw [hb, upd_ne ne, upd_same] at e
      cases e
      rw [hb]
      obtain ⟨oc, e1, e2⟩ := (show ∃ oc, h'.get? c' = some oc ∧ True by obtain ⟨o, _, _, _, _, _, _, _, _, q, _⟩ := ho; exact ⟨o, q, trivial⟩)
      refine ⟨ho, ⟨oc, e1⟩, fun h1 h2 q st => ?_⟩
      obtain ⟨o, vs, file, tf, flags, tg, inF, text, tt, q1, q2⟩ := q
      exact ⟨o, vs, file, tf, flags, tg, inF, text, tt, st _ q1, q2⟩
    · by_cases hb2 : b = P
      · rw [hb2, atP] at e
        cases e
        rw [hb2]
        exact hm
      · rw [at_ b hb2 hb hq] at e
        refine (I.hok b u e).stay (fun d v hd q => k d v ?_ q) (fun d q => stays d _ q (nP d _ q (fun q z => by cases z))) fun d xs q => stays d _ q (nP d _ q (fun q z => by cases z))
        rcases hd with z | z
        · rw [z]
          exact hb2
        · exact nP d _ z (fun q z => by cases z)
/-- the code object c is known: from the beginning, or tracked -/
def Kn (base : Heap) (c P : Addr) (H : Hp) : Prop := PySem.W.CodeHd base c P ∨ H c = some (CodeT c P)
def tQ (stopAt : Bool) (base : Heap) (c P : Addr) (wi : TI) (g : Addr × Addr → TG) (tt : Addr × Addr → TT) (te : Addr × Addr → TE) (vs : List Nat) : TE := fun σ H Q => wi σ H fun J H1 => Kn base c P H1 ∧ TabT H1 P ∧ ∀ cp H2, Grown P cp H1 H2 → ∃ W : Nat → Nat → Hp → Prop, (∃ m, W 0 m H2) ∧ ∀ i m H, W i m H →
  (J.stop i H ∧ Q (.bl (!stopAt)) H) ∨ (J.go i H ∧ ∃ Nx : Hp → Prop, (∀ H', Nx H' → ∃ m', m' < m ∧ W (i + 1) m' H') ∧ ∀ x H', J.yld i H x H' → g cp x (L2.wipe σ vs) H' fun σ2 H3 => L2.wipe σ2 vs = L2.wipe σ vs ∧
    tt cp σ2 H3 fun b H4 => if b = true then te cp σ2 H4 fun y H5 => ∃ k, y = .bl k ∧ (if k = stopAt then Q (.bl stopAt) H5 else Nx H5) else Nx H4)
theorem run_gen {X : Cx} {pins : List (Addr × Obj)} {σ : L2.St} {H : Hp} {s : Shared} {stopAt : Bool} {P P0 c : Addr} {k : Nat} {wi : TI} {g : Addr × Addr → TG} {tt : Addr × Addr → TT} {te : Addr × Addr → TE} {own : List (Str × Nat)} {elt tg iter : Expr} {ifs : List Expr} {scope : Scope} {gpos : Pos} {Q : VK} {Q' : Value → Shared → Prop}
    (hc : X.calm = true) (hN : X.N.Nodup) (hr : Room (k + 3) X.A) (bm : X.base.BuiltinsAt X.mg P0) (hcode : X.env.code = .ref c) (ok : GenOk X.N X.env.scope scope own) (hi : PI X tg iter wi)
    (hg : ∀ (cp : Addr × Addr) (s : Shared) (H : Hp) (C : Addr) (cl : List (Str × Addr)) (fp : List Addr) (pn : List (Addr × Obj)), PG (gCx X (X.A.in1.in1.deeper (genEnv scope cl C (.ref cp.1) builtinsNs X.env)) s H scope C cl (.ref cp.1) fp pn) tg (g cp))
    (ht : ∀ (cp : Addr × Addr) (s : Shared) (H : Hp) (C : Addr) (cl : List (Str × Addr)) (fp : List Addr) (pn : List (Addr × Obj)), PTs (gCx X (X.A.in1.in1.deeper (genEnv scope cl C (.ref cp.1) builtinsNs X.env)) s H scope C cl (.ref cp.1) fp pn) ifs (tt cp))
    (he : ∀ (cp : Addr × Addr) (s : Shared) (H : Hp) (C : Addr) (cl : List (Str × Addr)) (fp : List Addr) (pn : List (Addr × Obj)), PE (gCx X (X.A.in1.in1.deeper (genEnv scope cl C (.ref cp.1) builtinsNs X.env)) s H scope C cl (.ref cp.1) fp pn) elt (te cp))
    (hs : ∀ v, genFold iter X.env v = pure v) (I : Inv X pins σ H s) (h : tQ stopAt X.base c P wi g tt te (own.map (·.2)) σ H Q)
    (hQ : ∀ (Xg : Cx) (a : Addr) (gi : Nat) (go : Obj) (N : Nat) (σ0 : L2.St) (s5 : Shared), Xg.prog = X.prog → Xg.w = X.w → Xg.pn = [(a, go)] → (∀ h : Heap, h.get? a = some go → h.IsGen a gi) → s5.heap.IsGen a gi → s5.heap.NoLimit →
      (∃ gs, s5.gens[gi]? = some gs ∧ gs.Goes (model Xg.prog Xg.w) X.A.in1.in1 (QR Xg σ0 stopAt Q) (QY Xg stopAt Q) N (.send .none) (s5.setGen gi .running)) →
      (∀ s' b, (∃ σ' H', Inv Xg [] σ' H' s' ∧ Q (.bl b) H') → EP X pins σ Q (.bool b) s') → Q' (.ref a) s5) :
    wpAny (model X.prog X.w) X.A (eval (.GeneratorExp elt [⟨tg, iter, ifs, 0⟩] scope gpos) X.env) Q' X.xe s := by
  have hfree : ∀ y ∈ scope.names, y.2 = .free → ∃ c, X.env.cells.lookup y.1 = some c := fun y hy e => by
    rcases ok.free y hy e with k | k
    · exact I.ok.has _ (.inl k)
    · exact I.ok.has _ (.inr k)
  refine gen_make ok.co (closure_ok hfree) ok.dot ok.kind hr.depth ?_ hs
  refine thn (hi.run pins s σ H _ I h) fun xv s1 hx => thn hx fun itv s2 h2 => ?_
  obtain ⟨it, fp, tn, J, H1, e, I2, T, st2, f2, kn, tP, q⟩ := h2
  subst e
  refine ⟨I2.nolimit, ?_⟩
  obtain ⟨ps, hP, htr⟩ := tP.g
  have hPs : s2.heap.get? P = some { cls := .none, data := .fields ps } := I2.hok P _ hP
  have cd : PySem.W.CodeHd s2.heap c P := by
    rcases kn with z | z
    · exact z.keeps fun b u e => I2.bk b u e
    · exact (I2.hok c _ z).1
  have cont : ∀ (cp : Addr × Addr) (h3 : Heap) (tk : Nat) (H3 : Hp), (∀ b o, b ≠ P → s2.heap.get? b = some o → h3.get? b = some o) → Inv X pins σ H3 { s2 with heap := h3, toks := tk } → Grown P cp H1 H3 → (∀ b o, s2.heap.get? b = some o → H1 b = none → H3 b = none) →
      wpAny (model X.prog X.w) X.A (builtinsFor X.env.globals X.env.builtins) (fun bi s₄ =>
        ∀ h', h'.Ns s₄.heap.objs.size (fun y => if y = ".0" then some (.ref it) else none) → Heap.SameBut s₄.heap.objs.size (frG s₄.heap scope) h' →
          Q' (.ref h'.objs.size) { s₄ with
            gens := s₄.gens.push (.fresh (.compStart (.GeneratorExp elt [⟨tg, iter, ifs, 0⟩] scope gpos) 0 (.ref it) .none (genEnv scope (cellsFrom (s₄.heap.objs.size + 1) scope.names (cloFrom X.env.cells scope.names [])) s₄.heap.objs.size (.ref cp.1) bi X.env))),
            toks := s₄.toks + 1 + 1 + 1,
            heap := h'.push { cls := .type "generator", data := .fields #[.int s₄.gens.size 0, .str "<genexpr>" (s₄.toks + 1), .str (X.env.qual ++ "<genexpr>") (s₄.toks + 1 + 1)] } }) X.xe { s2 with heap := h3, toks := tk } := by
    intro cp h3 tk H3 k3 I3 hgr nH3
    obtain ⟨bm, ob, e1, e2, e3, e4, e5, e6, e7, e8⟩ := bm
    have gl3 : h3.Ns mainGlobals X.mg := I3.mod.glob.keeps I3.bk
    refine wpAny_builtinsFor (m := X.mg) (by rw [I3.ok.glob]; exact gl3) e1 e2 (I3.bk _ _ e5) e6 e7 e8 ?_
    intro h' hn' hs'
    generalize hgo : ({ cls := .type "generator", data := .fields #[.int s2.gens.size 0, .str "<genexpr>" (tk + 1), .str (X.env.qual ++ "<genexpr>") (tk + 1 + 1)] } : Obj) = go
    have keep0 : ∀ b o, b ≠ h3.objs.size → (frG h3 scope).get? b = some o → h'.get? b = some o := fun b o n e => hs'.extBut b o n e
    have hsz : h3.objs.size < h'.objs.size := by
      rw [hs'.1]
      exact Heap.lt_size (pushCells_keeps _ _ _ _ (Heap.get?_push_size _ rfl))
    have keep' : ∀ b o, h3.get? b = some o → h'.get? b = some o := fun b o e => keep0 b o (Nat.ne_of_lt (Heap.lt_size e)) (frG_keeps b o e)
    have keep5 : ∀ b o, h3.get? b = some o → (h'.push go).get? b = some o := fun b o e => Heap.get?_push_of_some _ (keep' b o e)
    have cells5 : ∀ c, h3.objs.size + 1 ≤ c → (frG h3 scope).IsCell c none → (h'.push go).IsCell c none := fun c hc ⟨o, e, d⟩ => ⟨o, Heap.get?_push_of_some _ (keep0 c o (Nat.ne_of_gt hc) e), d⟩
    have hgoA : (h'.push go).get? h'.objs.size = some go := Heap.get?_push_size _ (by rw [← hgo]; rfl)
    have hgen : ∀ h : Heap, h.get? h'.objs.size = some go → h.IsGen h'.objs.size s2.gens.size := fun h e => ⟨go, _, _, e, by rw [← hgo], by rw [← hgo], by rw [← hgo]⟩
    obtain ⟨W, ⟨m0, w0⟩, turn⟩ := q cp _ hgr
    have nP : ∀ b ∈ fp, b ≠ P := fun b hb z => by have := (f2 b hb).1; rw [z, hP] at this; cases this
    have f3 : ∀ b ∈ fp, FpOk X pins H3 b ∧ b < h3.objs.size := fun b hb => by
      obtain ⟨o, e, _⟩ := T.obj _ _ st2 b hb
      exact ⟨⟨nH3 b o e (f2 b hb).1, (f2 b hb).2⟩, Heap.lt_size (k3 b o (nP b hb) e)⟩
    have st3 : tn 0 h3 := T.keep _ _ _ st2 fun b hb o e => k3 b o (nP b hb) e
    have st5 : tn 0 (h'.push go) := T.keep _ _ _ st3 fun b _ o e => keep5 b o e
    let env' := genEnv scope (clG X scope h3.objs.size) h3.objs.size (.ref cp.1) builtinsNs X.env
    let Xg := gCx X (X.A.in1.in1.deeper env') { s2 with heap := h3, toks := tk } H3 scope h3.objs.size (clG X scope h3.objs.size) (.ref cp.1) fp [(h'.objs.size, go)]
    have start : ∀ (gs : Array GenState) (tk' : Nat), AllBare gs → Inv Xg [] (L2.wipe σ (own.map (·.2))) H3 { s2 with heap := h'.push go, toks := tk', gens := gs } := fun gs tk' hb =>
      gen_start (s' := { s2 with heap := h'.push go, toks := tk', gens := gs }) I3 ok hN f3 (Around.frames_deeper (show X.A.in1.in1.frames = some X.stack from I3.ok.frames)) (fun z => I3.ok.hd z) keep5 (hn'.push _) cells5 rfl hb hgoA hsz (fun v z => by rw [← hgo] at z; cases z)
    have R : QRun J (own.map (·.2)) (L2.wipe σ (own.map (·.2))) W stopAt Q (g cp) (tt cp) (te cp) := ⟨turn⟩
    have bare5 : AllBare (s2.gens.push (.fresh (.compStart (.GeneratorExp elt [⟨tg, iter, ifs, 0⟩] scope gpos) 0 (.ref it) .none env'))) := AllBare.push I2.bare rfl
    refine hQ Xg h'.objs.size s2.gens.size go (m0 + 1) (L2.wipe σ (own.map (·.2))) _ rfl rfl rfl hgen (hgen _ hgoA) (I3.nolimit.keeps keep5) ⟨_, Array.getElem?_push_size .., rfl, ?_⟩ fun s' b ⟨σ', H', I', hq⟩ => ?_
    · -- the code begins
      generalize hs6 : ({ s2 with heap := h'.push go, toks := tk + 1 + 1 + 1, gens := s2.gens.push (.fresh (.compStart (.GeneratorExp elt [⟨tg, iter, ifs, 0⟩] scope gpos) 0 (.ref it) .none env')) } : Shared).setGen s2.gens.size .running = s6
      have I6 : Inv Xg [] (L2.wipe σ (own.map (·.2))) H3 s6 := by
        rw [← hs6]
        exact Inv.same (start _ (tk + 1 + 1 + 1) bare5) rfl rfl (allBare_setGen (s := { s2 with heap := h'.push go, toks := tk + 1 + 1 + 1, gens := s2.gens.push (.fresh (.compStart (.GeneratorExp elt [⟨tg, iter, ifs, 0⟩] scope gpos) 0 (.ref it) .none env')) }) bare5 rfl)
      have st6 : tn 0 s6.heap := by rw [← hs6]; exact st5
      have loop := seg_q (Xg := Xg) (A := X.A.in1.in1) (pos := gpos) (scope := scope) (iter := iter) rfl hc rfl rfl ok.co T R (hg cp _ _ _ _ _ _) (ht cp _ _ _ _ _ _) (he cp _ _ _ _ _ _) (fun b hb p hp z => by
        have hp : p ∈ [(h'.objs.size, go)] := hp
        rw [List.mem_singleton.mp hp] at z
        have := (f3 b hb).2
        rw [← z] at this
        exact absurd (Nat.lt_trans this hsz) (Nat.lt_irrefl _)) m0 (m0 + 1) s6 s6 (Nat.lt_succ_self _) ⟨0, _, I6, st6, fun b hb => (f3 b hb).1.1, w0⟩
      have hA2 : X.A.in1.in1.over (.compStart (.GeneratorExp elt [⟨tg, iter, ifs, 0⟩] scope gpos) 0 (.ref it) .none env') [] = Xg.A := rfl
      show Seg _ X.A.in1.in1 _ _ (m0 + 1) s6 _ ((compStart (.GeneratorExp elt [⟨tg, iter, ifs, 0⟩] scope gpos) 0 (.ref it) .none env').onRaise (leaving env')) [] s6
      unfold compStart
      rw [Sem.onRaise_eq_wrap]
      show Seg _ X.A.in1.in1 _ _ (m0 + 1) s6 _ ((ask >>= _).wrap _ _ _ _) [] s6
      refine seg_bind_wrap (wpAny_askSetting ?_)
      split
      · exact seg_again rfl loop
      · first
          | exact seg_bind_wrap (wpAny_rule (seg_bind_wrap (wpAny_standAt (seg_bind_wrap (T.self _ 0 s6 _ _ st6 (seg_again rfl loop))))))
          | (refine seg_bind_wrap (wpAny_rule ?_); show Seg _ X.A.in1.in1 _ _ (m0 + 1) s6 _ ((standAt iter.pos >>= _).wrap _ _ _ _) [] s6; exact seg_bind_wrap (wpAny_standAt (seg_bind_wrap (T.self _ 0 s6 _ _ st6 (seg_again rfl loop)))))
    · exact ⟨.bl b, H', I3.call' (ch := fp) I'.os I'.base I'.hok I'.bare fun b hb => ⟨(f3 b hb).1.2.2.2.1, (f3 b hb).1.2.1, (f3 b hb).1.2.2.2.2.1, (f3 b hb).1.2.2.2.2.2⟩, rfl, hq⟩
  cases hf : codeAmong gpos ps.toList with
  | none =>
    refine wpAny_genexprCodeX hcode (cd.code hPs htr) (cd.tab hPs) hf fun c' h' tk hx hge hlt hco' _ htab' hnew => ?_
    obtain ⟨P', hgeP, hcP, htP⟩ := hnew
    have ne : c' ≠ P' := by
      obtain ⟨_, _, _, _, _, _, _, _, _, _, _, _, _, _, _, _, _, _, _, _, z⟩ := hcP
      exact z
    have nC : H1 c' = none := I2.hok.fresh hge
    have nQ : H1 P' = none := I2.hok.fresh hgeP
    have hx' : ∀ b o, b ≠ P → s2.heap.get? b = some o → h'.get? b = some o := fun b o n e => hx b o n e
    refine cont (c', P') h' tk _ hx' (inv_code I2 hP hx' htab'.2 hge hgeP ne (PySem.W.CodeHd.of hcP htP) htP.2) (.inr ⟨ps, gpos, hP, htr, nC, nQ, ne, rfl⟩) fun b o e n => ?_
    have far : ∀ x, s2.heap.objs.size ≤ x → b ≠ x := fun x hx z => by
      rw [z] at e
      exact Nat.lt_irrefl _ (Nat.lt_of_lt_of_le (Heap.lt_size e) hx)
    rw [upd_ne (far P' hgeP), upd_ne (far c' hge), upd_ne (fun z => by rw [z, hP] at n; cases n)]
    exact n
  | some cv =>
    refine wpAny_genexprCode_hit hcode (cd.code hPs htr) hf ?_
    obtain ⟨c', P', rfl, k1, k2⟩ := tP.out hP hf
    exact cont (c', P') s2.heap s2.toks H1 (fun b o _ e => e) I2 (.inl ⟨rfl, k1, k2⟩) fun _ _ _ n => n
end
end DL
end
section
set_option Elab.async false
set_option linter.all false
set_option maxRecDepth 100000
set_option maxHeartbeats 1000000
/-! The data layer, part n: all and any over data. -/
namespace DL
open PySem PySem.Spec PyProof.Rows L2 PySem.SeqAt PySem.W GxR GenW
section
variable {X : Cx}
theorem pe_allQ {c P P0 : Addr} {k : Nat} {wi : TI} {g : Addr × Addr → TG} {tt : Addr × Addr → TT} {te : Addr × Addr → TE} {own : List (Str × Nat)} {elt tg iter : Expr} {ifs : List Expr} {scope : Scope} {p pos gpos : Pos}
    (hc : X.calm = true) (hN : X.N.Nodup) (hr : Room (k + 3) X.A) (hgl : Gl X "all") (hm : X.mg "all" = none) (hb : bootBuiltins "all" = some (.builtin "all")) (bm : X.base.BuiltinsAt X.mg P0) (hcode : X.env.code = .ref c) (ok : GenOk X.N X.env.scope scope own) (hi : PI X tg iter wi)
    (hg : ∀ (cp : Addr × Addr) (s : Shared) (H : Hp) (C : Addr) (cl : List (Str × Addr)) (fp : List Addr) (pn : List (Addr × Obj)), PG (gCx X (X.A.in1.in1.deeper (genEnv scope cl C (.ref cp.1) builtinsNs X.env)) s H scope C cl (.ref cp.1) fp pn) tg (g cp))
    (ht : ∀ (cp : Addr × Addr) (s : Shared) (H : Hp) (C : Addr) (cl : List (Str × Addr)) (fp : List Addr) (pn : List (Addr × Obj)), PTs (gCx X (X.A.in1.in1.deeper (genEnv scope cl C (.ref cp.1) builtinsNs X.env)) s H scope C cl (.ref cp.1) fp pn) ifs (tt cp))
    (he : ∀ (cp : Addr × Addr) (s : Shared) (H : Hp) (C : Addr) (cl : List (Str × Addr)) (fp : List Addr) (pn : List (Addr × Obj)), PE (gCx X (X.A.in1.in1.deeper (genEnv scope cl C (.ref cp.1) builtinsNs X.env)) s H scope C cl (.ref cp.1) fp pn) elt (te cp))
    (hs : ∀ v, genFold iter X.env v = pure v)
    (hst : starEach [.GeneratorExp elt [⟨tg, iter, ifs, 0⟩] scope gpos] X.env = (false, eval (.GeneratorExp elt [⟨tg, iter, ifs, 0⟩] scope gpos) X.env) :: starEach [] X.env) :
    PE X (.Call (.Name "all" p) [.GeneratorExp elt [⟨tg, iter, ifs, 0⟩] scope gpos] [] pos) (tQ false X.base c P wi g tt te (own.map (·.2))) := by
  refine ⟨fun pins s σ H Q I h => ?_⟩
  refine wpAny_Call_Name_kw (ld_blt I hgl hm hb ?_)
  refine PyProof.Rows.callWith_builtin1 ?_ hst (by rfl)
  rw [hst]
  show wpAny _ _ (spliced ((false, eval (.GeneratorExp elt [⟨tg, iter, ifs, 0⟩] scope gpos) X.env) :: backTo pos (starEach [] X.env))) _ _ s
  refine Calls.spliced_cons (run_gen hc hN hr bm hcode ok hi hg ht he hs I h fun Xg a gi go N σ0 s5 e1 e2 e3 hgo hg5 hl5 hgoes hend => ?_)
  refine Calls.spliced_nil ?_
  refine call_function_tree F.kind_all F.plain_all F.entry_all (F.args_all1 _) ?_
  unfold Builtin.«all»
  refine wpAny_bind (m := oneArg "all" _) (wpAny_pure ?_)
  refine wpAny_bind (wpAny_pyIter_gen hg5 ?_)
  refine wpAny_pure ⟨plainId_quiet F.plain_all_loop _, ?_⟩
  rw [← e1, ← e2]
  exact loop_all (Xg := Xg) (A := X.A) (σ0 := σ0) (Q := Q) hr.hd (by have := hr.dp; show X.A.depth < _; omega) e3 hgo (fun s' b q => hend s' b q) N s5 hg5 hl5 hgoes
theorem pe_anyQ {c P P0 : Addr} {k : Nat} {wi : TI} {g : Addr × Addr → TG} {tt : Addr × Addr → TT} {te : Addr × Addr → TE} {own : List (Str × Nat)} {elt tg iter : Expr} {ifs : List Expr} {scope : Scope} {p pos gpos : Pos}
    (hc : X.calm = true) (hN : X.N.Nodup) (hr : Room (k + 3) X.A) (hgl : Gl X "any") (hm : X.mg "any" = none) (bm : X.base.BuiltinsAt X.mg P0) (hcode : X.env.code = .ref c) (ok : GenOk X.N X.env.scope scope own) (hi : PI X tg iter wi)
    (hg : ∀ (cp : Addr × Addr) (s : Shared) (H : Hp) (C : Addr) (cl : List (Str × Addr)) (fp : List Addr) (pn : List (Addr × Obj)), PG (gCx X (X.A.in1.in1.deeper (genEnv scope cl C (.ref cp.1) builtinsNs X.env)) s H scope C cl (.ref cp.1) fp pn) tg (g cp))
    (ht : ∀ (cp : Addr × Addr) (s : Shared) (H : Hp) (C : Addr) (cl : List (Str × Addr)) (fp : List Addr) (pn : List (Addr × Obj)), PTs (gCx X (X.A.in1.in1.deeper (genEnv scope cl C (.ref cp.1) builtinsNs X.env)) s H scope C cl (.ref cp.1) fp pn) ifs (tt cp))
    (he : ∀ (cp : Addr × Addr) (s : Shared) (H : Hp) (C : Addr) (cl : List (Str × Addr)) (fp : List Addr) (pn : List (Addr × Obj)), PE (gCx X (X.A.in1.in1.deeper (genEnv scope cl C (.ref cp.1) builtinsNs X.env)) s H scope C cl (.ref cp.1) fp pn) elt (te cp))
    (hs : ∀ v, genFold iter X.env v = pure v)
    (hst : starEach [.GeneratorExp elt [⟨tg, iter, ifs, 0⟩] scope gpos] X.env = (false, eval (.GeneratorExp elt [⟨tg, iter, ifs, 0⟩] scope gpos) X.env) :: starEach [] X.env) :
    PE X (.Call (.Name "any" p) [.GeneratorExp elt [⟨tg, iter, ifs, 0⟩] scope gpos] [] pos) (tQ true X.base c P wi g tt te (own.map (·.2))) := by
  refine ⟨fun pins s σ H Q I h => ?_⟩
  refine wpAny_Call_Name_kw (ld_blt I hgl hm boot_any ?_)
  refine PyProof.Rows.callWith_builtin1 ?_ hst (by rfl)
  rw [hst]
  show wpAny _ _ (spliced ((false, eval (.GeneratorExp elt [⟨tg, iter, ifs, 0⟩] scope gpos) X.env) :: backTo pos (starEach [] X.env))) _ _ s
  refine Calls.spliced_cons (run_gen hc hN hr bm hcode ok hi hg ht he hs I h fun Xg a gi go N σ0 s5 e1 e2 e3 hgo hg5 hl5 hgoes hend => ?_)
  refine Calls.spliced_nil ?_
  refine call_function_tree F.kind_any F.plain_any F.entry_any (F.args_any1 _) ?_
  unfold Builtin.«any»
  refine wpAny_bind (m := oneArg "any" _) (wpAny_pure ?_)
  refine wpAny_bind (wpAny_pyIter_gen hg5 ?_)
  refine wpAny_pure ⟨plainId_quiet F.plain_any_loop _, ?_⟩
  rw [← e1, ← e2]
  exact loop_any (Xg := Xg) (A := X.A) (σ0 := σ0) (Q := Q) hr.hd (by have := hr.dp; show X.A.depth < _; omega) e3 hgo (fun s' b q => hend s' b q) N s5 hg5 hl5 hgoes
end
/-! ### over data -/
def quantN (stopAt : Bool) (iv : IVal) (g : GS) (ft : EvT) (fe : EvD) (env : List (Option SV)) : Nat → Nat → Sto → RT
  | 0, _, _ => .stuck
  | m + 1, i, st => match iv i st with
    | some (some d) => (match g d env with
      | some e1 => (match ft ⟨e1, st⟩ with
        | .ok (true, st1) => (match fe ⟨e1, st1⟩ with
          | .ok (.bool k, st2) => if k = stopAt then .ok (stopAt, st2) else quantN stopAt iv g ft fe env m (i + 1) st2
          | _ => .stuck)
        | .ok (false, st1) => quantN stopAt iv g ft fe env m (i + 1) st1
        | _ => .stuck)
      | none => .stuck)
    | some none => .ok (!stopAt, st)
    | none => .stuck
noncomputable def quantE (stopAt : Bool) (fi : EvI) (vs : List Nat) (g : GS) (ft : EvT) (fe : EvD) : EvD := fun s => (fi s).bind fun p => (lim fun m => quantN stopAt p.1 g ft fe (wipeL s.env vs) m 0 p.2).bind fun q => .ok (.bool q.1, q.2)
section
variable {X : Cx} {c : Cfg} {W : WX} {B as : List Addr} {σ : L2.St} {H H1 : Hp} {s : S}
/-- one code object more is known -/
def Cfg.add (c : Cfg) (cp : Addr × Addr) : Cfg := ⟨c.TT, cp :: c.CC, c.cls, c.hs⟩
theorem SR.add {K : PySem.W.Frag} {cp : Addr × Addr} (sr : SR K c B as H σ s) (h : H cp.1 = some (CodeT cp.1 cp.2) ∧ TabT H cp.2) : SR K (c.add cp) B as H σ s :=
  ⟨sr.len, sr.slot, sr.nd, sr.aslen, sr.objs, sr.out, sr.tabs.tab, fun p hp => by
    rcases List.mem_cons.mp hp with rfl | hp
    · exact h
    · exact sr.tabs.code p hp⟩
theorem SR.sub {K : PySem.W.Frag} {cp : Addr × Addr} (sr : SR K (c.add cp) B as H σ s) : SR K c B as H σ s :=
  ⟨sr.len, sr.slot, sr.nd, sr.aslen, sr.objs, sr.out, sr.tabs.tab, fun p hp => sr.tabs.code p (List.mem_cons_of_mem _ hp)⟩
/-- the code object cc is known, and its table at P -/
def KnC (base : Heap) (c : Cfg) (cc P : Addr) : Prop := (PySem.W.CodeHd base cc P ∧ P ∈ c.TT) ∨ (cc, P) ∈ c.CC
theorem KnC.at {K : PySem.W.Frag} {base : Heap} {cc P : Addr} (k : KnC base c cc P) (sr : SR K c B as H σ s) : Kn base cc P H ∧ TabT H P := by
  rcases k with ⟨h1, h2⟩ | h
  · exact ⟨.inl h1, sr.tabs.tab P h2⟩
  · exact ⟨.inr (sr.tabs.code _ h).1, (sr.tabs.code _ h).2⟩
theorem KnC.new {base : Heap} {cp : Addr × Addr} : KnC base (c.add cp) cp.1 cp.2 := .inr List.mem_cons_self
theorem quant_ref {stopAt : Bool} {cc P : Addr} {wi : TI} {fi : EvI} {vs is : List Nat} {g : GS} {ft : EvT} {fe : EvD} {q : Bool} (kn : KnC X.base c cc P) (his : ∀ i ∈ is, i ∈ vs)
    (ri : ∀ (B as : List Addr) (σ : L2.St) (H : Hp) (s : S) (R : It → Hp → Prop), SR X.K c B as H σ s → WantsG X c W (RepI X.K c) B as σ H s.env false R (fi s) → wi σ H R)
    {Q : VK} (sr : SR X.K c B as H σ s) (hw : WantsG X c W (RepE X.K false) B as σ H s.env false Q (quantE stopAt fi vs g ft fe s)) : tQ stopAt X.base cc P wi (fun cp => gDG X (c.add cp) is g) (fun cp => tDTs X (c.add cp) W0 ft) (fun cp => tDE X.K X (c.add cp) W0 false q fe) vs σ H Q := by
  show wi σ H _
  refine WantsG.bindL (s := s) hw sr ri fun J H1 iv st1 e1 ev1 sr1 wd hw1 => ?_
  obtain ⟨kn1, kn2⟩ := kn.at sr1
  refine ⟨kn1, kn2, fun cp H2 hgr => ?_⟩
  obtain ⟨evg, new⟩ := hgr.evo
  have sr2 := (sr1.evo evg).add new
  have hns : lim (fun m => quantN stopAt iv g ft fe (wipeL s.env vs) m 0 st1) ≠ .stuck := fun z => by simp only [z] at hw1; exact hw1
  obtain ⟨m, em⟩ := lim_some hns
  generalize hR : quantN stopAt iv g ft fe (wipeL s.env vs) m 0 st1 = R at em
  have hw' : WantsG X c W (RepE X.K false) B as σ H1 s.env false Q (R.bind fun q => .ok (.bool q.1, q.2)) := by
    have h := hw1
    simp only [em] at h
    exact h
  clear em hns hw1
  refine ⟨fun i m H => ∃ st, Evo as H1 H ∧ SR X.K (c.add cp) B as H σ ⟨s.env, st⟩ ∧ quantN stopAt iv g ft fe (wipeL s.env vs) m i st = R, ⟨m, st1, evg.wide, sr2, hR⟩, ?_⟩
  rintro i m H3 ⟨st, ev, sr3, eR⟩
  cases m with
  | zero => rw [← eR] at hw'; exact hw'.elim
  | succ m =>
    unfold quantN at eR
    split at eR
    · rename_i d ei
      obtain ⟨go, yl⟩ := wd.goes B i H3 σ ⟨s.env, st⟩ d (fun _ z => .inl z) ev sr3.sub ei
      split at eR
      · rename_i env1 eg
        refine .inr ⟨go, fun H' => ∃ st, Evo as H1 H' ∧ SR X.K (c.add cp) B as H' σ ⟨s.env, st⟩ ∧ quantN stopAt iv g ft fe (wipeL s.env vs) m (i + 1) st = R, fun H' q => ⟨m, Nat.lt_succ_self m, q⟩, fun x H4 y => ?_⟩
        obtain ⟨evn, rx⟩ := yl x H4 y
        have sr4 := sr3.evo evn
        have ev4 : Evo as H1 H4 := ev.trans' evn.wide
        refine ⟨B, as, ⟨wipeL s.env vs, st⟩, d, env1, SR.wipe sr4 vs, rx, eg, fun σ2 sr5 wn => ⟨by rw [wn vs his]; exact wipe_twice vs σ, ?_⟩⟩
        refine ⟨B, as, ⟨env1, st⟩, sr5, ?_⟩
        split at eR
        · rename_i st2 eft
          rw [eft]
          intro b H5 e5 sr6 hb
          have hb' : b = true := hb
          subst hb'
          rw [if_pos rfl]
          refine ⟨B, as, ⟨env1, st2⟩, sr6, ?_⟩
          split at eR
          · rename_i k st3 efe
            rw [efe]
            intro v H6 e6 sr7 rv
            have e56 : Evo as H4 H6 := Evo.trans' e5 (e6.mono wq_as)
            have ekv : v = .bl k := by simpa [RepE, RepX, Rep] using rv
            refine ⟨k, ekv, ?_⟩
            have srk : SR X.K (c.add cp) B as H6 σ ⟨s.env, st3⟩ := SR.slots (s := ⟨s.env, st⟩) (σ := σ) sr7 sr4 e56
            split at eR
            · rename_i hk
              rw [if_pos hk]
              rw [← eR] at hw'
              exact hw' (.bl stopAt) H6 (ev4.trans' e56) srk.sub (by simp [RepE, RepX, Rep])
            · rename_i hk
              rw [if_neg hk]
              exact ⟨st3, ev4.trans' e56, srk, eR⟩
          · rw [← eR] at hw'; exact hw'.elim
        · rename_i st2 eft
          rw [eft]
          intro b H5 e5 sr6 hb
          have hb' : b = false := hb
          subst hb'
          rw [if_neg Bool.false_ne_true]
          have e5' : Evo as H4 H5 := e5
          exact ⟨st2, ev4.trans' e5', SR.slots (s := ⟨s.env, st⟩) (σ := σ) sr6 sr4 e5', eR⟩
        · rw [← eR] at hw'; exact hw'.elim
      · rw [← eR] at hw'; exact hw'.elim
    · rename_i ei
      refine .inl ⟨wd.stops B i H3 σ ⟨s.env, st⟩ (fun _ z => .inl z) ev sr3.sub ei, ?_⟩
      rw [← eR] at hw'
      exact hw' (.bl (!stopAt)) H3 ev sr3.sub (by simp [RepE, RepX, Rep])
    · rw [← eR] at hw'; exact hw'.elim
variable {cc P P0 : Addr} {k : Nat} {fi : EvI} {is : List Nat} {g : GS} {ft : EvT} {fe : EvD} {q : Bool} {elt tg iter : Expr} {ifs : List Expr} {scope : Scope} {p pos gpos : Pos}
theorem de_all (own : List (Str × Nat)) (kn : KnC X.base c cc P) (hc : X.calm = true) (hN : X.N.Nodup) (hr : Room (k + 3) X.A) (hgl : Gl X "all") (hm : X.mg "all" = none) (hb : bootBuiltins "all" = some (.builtin "all")) (bm : X.base.BuiltinsAt X.mg P0) (hcode : X.env.code = .ref cc) (ok : GenOk X.N X.env.scope scope own) (hi : DI X c W tg iter fi)
    (hg : ∀ (cp : Addr × Addr) (s : Shared) (H : Hp) (C : Addr) (cl : List (Str × Addr)) (fp : List Addr) (pn : List (Addr × Obj)), DG (gCx X (X.A.in1.in1.deeper (genEnv scope cl C (.ref cp.1) builtinsNs X.env)) s H scope C cl (.ref cp.1) fp pn) (c.add cp) tg is g)
    (ht : ∀ (cp : Addr × Addr) (s : Shared) (H : Hp) (C : Addr) (cl : List (Str × Addr)) (fp : List Addr) (pn : List (Addr × Obj)), DTs (gCx X (X.A.in1.in1.deeper (genEnv scope cl C (.ref cp.1) builtinsNs X.env)) s H scope C cl (.ref cp.1) fp pn) (c.add cp) W0 ifs ft)
    (he : ∀ (cp : Addr × Addr) (s : Shared) (H : Hp) (C : Addr) (cl : List (Str × Addr)) (fp : List Addr) (pn : List (Addr × Obj)), DE (gCx X (X.A.in1.in1.deeper (genEnv scope cl C (.ref cp.1) builtinsNs X.env)) s H scope C cl (.ref cp.1) fp pn) (c.add cp) W0 elt false q fe)
    (his : ∀ i ∈ is, i ∈ own.map (·.2)) (hs : ∀ v, genFold iter X.env v = pure v)
    (hst : starEach [.GeneratorExp elt [⟨tg, iter, ifs, 0⟩] scope gpos] X.env = (false, eval (.GeneratorExp elt [⟨tg, iter, ifs, 0⟩] scope gpos) X.env) :: starEach [] X.env) :
    DE X c W (.Call (.Name "all" p) [.GeneratorExp elt [⟨tg, iter, ifs, 0⟩] scope gpos] [] pos) false false (quantE false fi (own.map (·.2)) g ft fe) := by
  obtain ⟨wi, pi, ri⟩ := hi
  exact ⟨_, pe_allQ (g := fun cp => gDG X (c.add cp) is g) (tt := fun cp => tDTs X (c.add cp) W0 ft) (te := fun cp => tDE X.K X (c.add cp) W0 false q fe) hc hN hr hgl hm hb bm hcode ok pi (fun cp s H C cl fp pn => (hg cp s H C cl fp pn).pg) (fun cp s H C cl fp pn => (ht cp s H C cl fp pn).pts) (fun cp s H C cl fp pn => (he cp s H C cl fp pn).pe) hs hst,
    fun B as σ H s Q sr hw => quant_ref kn his ri sr hw⟩
theorem de_any (own : List (Str × Nat)) (kn : KnC X.base c cc P) (hc : X.calm = true) (hN : X.N.Nodup) (hr : Room (k + 3) X.A) (hgl : Gl X "any") (hm : X.mg "any" = none) (bm : X.base.BuiltinsAt X.mg P0) (hcode : X.env.code = .ref cc) (ok : GenOk X.N X.env.scope scope own) (hi : DI X c W tg iter fi)
    (hg : ∀ (cp : Addr × Addr) (s : Shared) (H : Hp) (C : Addr) (cl : List (Str × Addr)) (fp : List Addr) (pn : List (Addr × Obj)), DG (gCx X (X.A.in1.in1.deeper (genEnv scope cl C (.ref cp.1) builtinsNs X.env)) s H scope C cl (.ref cp.1) fp pn) (c.add cp) tg is g)
    (ht : ∀ (cp : Addr × Addr) (s : Shared) (H : Hp) (C : Addr) (cl : List (Str × Addr)) (fp : List Addr) (pn : List (Addr × Obj)), DTs (gCx X (X.A.in1.in1.deeper (genEnv scope cl C (.ref cp.1) builtinsNs X.env)) s H scope C cl (.ref cp.1) fp pn) (c.add cp) W0 ifs ft)
    (he : ∀ (cp : Addr × Addr) (s : Shared) (H : Hp) (C : Addr) (cl : List (Str × Addr)) (fp : List Addr) (pn : List (Addr × Obj)), DE (gCx X (X.A.in1.in1.deeper (genEnv scope cl C (.ref cp.1) builtinsNs X.env)) s H scope C cl (.ref cp.1) fp pn) (c.add cp) W0 elt false q fe)
    (his : ∀ i ∈ is, i ∈ own.map (·.2)) (hs : ∀ v, genFold iter X.env v = pure v)
    (hst : starEach [.GeneratorExp elt [⟨tg, iter, ifs, 0⟩] scope gpos] X.env = (false, eval (.GeneratorExp elt [⟨tg, iter, ifs, 0⟩] scope gpos) X.env) :: starEach [] X.env) :
    DE X c W (.Call (.Name "any" p) [.GeneratorExp elt [⟨tg, iter, ifs, 0⟩] scope gpos] [] pos) false false (quantE true fi (own.map (·.2)) g ft fe) := by
  obtain ⟨wi, pi, ri⟩ := hi
  exact ⟨_, pe_anyQ (g := fun cp => gDG X (c.add cp) is g) (tt := fun cp => tDTs X (c.add cp) W0 ft) (te := fun cp => tDE X.K X (c.add cp) W0 false q fe) hc hN hr hgl hm bm hcode ok pi (fun cp s H C cl fp pn => (hg cp s H C cl fp pn).pg) (fun cp s H C cl fp pn => (ht cp s H C cl fp pn).pts) (fun cp s H C cl fp pn => (he cp s H C cl fp pn).pe) hs hst,
    fun B as σ H s Q sr hw => quant_ref kn his ri sr hw⟩
end
end DL
end
section
set_option Elab.async false
set_option linter.all false
set_option maxRecDepth 100000
set_option maxHeartbeats 1000000
/-! The data layer, part o: list(reversed(..)). -/
namespace DL
open PySem PySem.Spec PyProof.Rows L2 PySem.SeqAt PySem.W RT
section
variable {prog : Program} {w : World} {A : Around} {E : Value → Shared → Prop} {s : Shared}
theorem call_list_rev {it l : Addr} {items : Array Value} {Q : Value → Shared → Prop} (hh : A.handled = none) (hit : s.heap.IsRevIter it l ((items.size : Int) - 1)) (hl : s.heap.IsList l items) (hne : l ≠ it) (hn : items.size ≤ sizeLine)
    (hQ : ∀ (h' : Heap) (tk : Nat) (acc : Array Value) (c : Nat), (∀ b o, b ≠ it → s.heap.get? b = some o → h'.get? b = some o) → h'.get? s.heap.objs.size = some { cls := .type "list", dict := none, data := .seq acc c, slots := #[] } → ItemsOf (fun i v => items[items.size - 1 - i]? = some v) acc items.size →
      Q (.ref s.heap.objs.size) { s with heap := h', toks := tk }) :
    wpAny (model prog w) A (call (.type "list") [.ref it]) Q E s := by
  obtain ⟨oi, hoi, _⟩ := id hit
  obtain ⟨ol, hol, _⟩ := id hl
  have hSi : s.heap.objs.size ≠ it := Nat.ne_of_gt (Heap.lt_size hoi)
  have hSl : s.heap.objs.size ≠ l := Nat.ne_of_gt (Heap.lt_size hol)
  have hSf : s.heap.objs.size ∉ [it, l] := by simp only [List.mem_cons, List.not_mem_nil, or_false, not_or]; exact ⟨hSi, hSl⟩
  refine callType_codes (Q₁ := fun obj s₁ => obj = .ref s.heap.objs.size ∧ s₁ = { s with heap := s.heap.push { cls := .type "list", data := .seq #[] } }) F.called_list (F.typeCall_list_1 _) F.entry_list_init
    (code_list_new _ ⟨rfl, rfl⟩) fun obj s₁ h₁ => ?_
  obtain ⟨rfl, rfl⟩ := h₁
  have hS : (s.heap.push { cls := .type "list", data := .seq #[] }).get? s.heap.objs.size = some { cls := .type "list", data := .seq #[] } := Heap.get?_push_size _ rfl
  refine ⟨⟨_, hS, rfl⟩, F.args_list_init_2 _ _, ?_⟩
  show wpAny _ A.in1.in1 (do let old ← Builtin.List.listItems (.ref s.heap.objs.size); Builtin.List.listUpdate (.ref s.heap.objs.size) (fun _ => #[]); letGo old.toList.reverse; Builtin.List.listExtendWith (.ref s.heap.objs.size) (.ref it) .none) _ _ _
  refine wpAny_bind ?_
  unfold Builtin.List.listItems
  refine wpAny_bind (wpAny_seqItems hS rfl (wpAny_pure ?_))
  show wpAny _ A.in1.in1 (updateSeq s.heap.objs.size (fun _ => #[]) >>= fun _ => letGo (#[] : Array Value).toList.reverse >>= fun _ => Builtin.List.listExtendWith (.ref s.heap.objs.size) (.ref it) .none) _ _ _
  refine wpAny_bind (wpAny_updateSeq hS rfl ?_)
  have hS2 := Heap.get?_update_self (Obj.mapSeq (fun _ => (#[] : Array Value))) hS rfl
  refine wpAny_bind (wpAny_letGo ?_)
  have k1 : ∀ b o, s.heap.get? b = some o → (s.heap.push { cls := .type "list", data := .seq #[] }).get? b = some o := fun b o e => Heap.get?_push_of_some _ e
  have k2 : ∀ b o, s.heap.get? b = some o → ((s.heap.push { cls := .type "list", data := .seq #[] }).update s.heap.objs.size (Obj.mapSeq (fun _ => (#[] : Array Value)))).get? b = some o := fun b o e =>
    (Heap.get?_update_other _ _ (Ne.symm (Nat.ne_of_lt (Heap.lt_size e)))).trans (k1 b o e)
  generalize hh2 : (s.heap.push { cls := .type "list", data := .seq #[] }).update s.heap.objs.size (Obj.mapSeq (fun _ => (#[] : Array Value))) = h2 at hS2 k2 ⊢
  have hit1 : h2.IsRevIter it l ((items.size : Int) - 1) := hit.at fun o e => k2 _ _ e
  have hl1 : h2.IsList l items := let ⟨o, e, r⟩ := hl; ⟨o, k2 _ _ e, r⟩
  have hT : ({ s with heap := h2 } : Shared).TypeIs (.ref it) "list_reverseiterator" := Heap.IsRevIter.typeIs (s := { s with heap := h2 }) hit1
  have h1 : Builtin.List.listSameRef (.ref s.heap.objs.size) (.ref it) = false := by simp [Builtin.List.listSameRef, hSi]
  have W := (Walks.listRev (prog := prog) (w := w) (A := A.in1.in1) hh it l hne items).toS
  unfold Builtin.List.listExtendWith
  refine wpAny_bind (wpAny_typeOf hT ?_)
  rw [if_neg (by rw [h1]; decide)]
  refine wpAny_bind (wpAny_pyIter_revIter (s := { s with heap := h2 }) hit1 ?_)
  refine wpAny_bind (wpAny_holding ?_)
  unfold Builtin.List.listLengthHint
  refine wpAny_bind (wpAny_specialOf hT nolen_lri ?_)
  show wpAny _ A.in1.in1 (specialOf (Value.ref it) (Str.ofString "__length_hint__") >>= _) _ _ _
  refine wpAny_bind (wpAny_specialOf hT hint_lri ?_)
  generalize hid : ("list_reverseiterator.__length_hint__" : String) = id0
  wp_delta
  rw [show splitId id0 = some ("list_reverseiterator", "__length_hint__") from by subst hid; decide +kernel]
  subst hid
  refine wpAny_bind (wpAny_isInstance (b := true) hT (by rw [isSubtype_type]; kernel_rfl) ?_)
  refine wpAny_pure ?_
  rw [if_neg (by decide)]
  have e0 : ((items.size : Nat) : Int) - 1 - ((0 : Nat) : Int) = (items.size : Int) - 1 := by omega
  refine wpAny_pure ⟨plainId_quiet F.plain_extend_loop _, codeAny_extend_loopS W hn _ hSf _ items.size 0 { s with heap := h2 } _ _ rfl (Nat.zero_le _) ⟨Nat.zero_le _, by rw [e0]; exact hit1, hl1⟩ hS2 (ItemsOf.nil _) fun s' acc' c' hm hS' hacc => ?_⟩
  refine ⟨rfl, ?_⟩
  rw [Moved.eq_with hm]
  refine hQ s'.heap s'.toks acc' c' (fun b o hb e => hm.heap b o (fun hmem => ?_) (k2 b o e)) hS' hacc
  rcases List.mem_cons.mp hmem with e' | hmem
  · exact absurd (Heap.lt_size e) (by rw [e']; exact Nat.lt_irrefl _)
  · exact hb (List.mem_singleton.mp hmem)
end
def tLstRev (K : PySem.W.Frag) (te : TE) : TE := fun σ H Q => te σ H fun v H1 => ∃ (a : Addr) (xs : List V), v = .ref a ∧ SqL K H1 a xs ∧ ∀ q, H1 q = none → Q (.ref q) (upd H1 q (.lst xs.reverse))
section
variable {X : Cx}
theorem pe_lstRev {e : Expr} {te : TE} {p p2 pos pos2 : Pos} (hc : X.calm = true) (hg : Gl X "list") (hm : X.mg "list" = none) (hbl : bootBuiltins "list" = some (.type "list")) (hg2 : Gl X "reversed") (hm2 : X.mg "reversed" = none) (he : PE X e te)
    (hs : starEach [e] X.env = (false, eval e X.env) :: starEach [] X.env)
    (hs2 : starEach [.Call (.Name "reversed" p2) [e] [] pos2] X.env = (false, eval (.Call (.Name "reversed" p2) [e] [] pos2) X.env) :: starEach [] X.env) :
    PE X (.Call (.Name "list" p) [.Call (.Name "reversed" p2) [e] [] pos2] [] pos) (tLstRev X.K te) := by
  refine ⟨fun pins s σ H Q I h => ?_⟩
  refine Call_ (ld_blt I hg hm hbl (PyProof.Rows.callWith_type1 (args_cons (Call_ (ld_blt I hg2 hm2 PyProof.Rows.boot_reversed (PyProof.Rows.callWith_type1 (args_cons (thn (he.run pins s σ H _ I h) fun u s1 ⟨v, H1, I1, r1, q1⟩ => args_nil ?_) hs) hs rfl))) hs2) hs2 rfl))
  obtain ⟨a, xs, ev, hq, q⟩ := q1
  subst ev
  obtain rfl : u = Value.ref a := r1
  obtain ⟨its, rv, p', hz⟩ := I1.list hq
  refine call_reversed_list p'.isList (args_nil ?_)
  have k0 : ∀ b o, s1.heap.get? b = some o → (s1.heap.push (revObj a ((its.toArray.size : Int) - 1))).get? b = some o := fun b o e => Heap.get?_push_of_some _ e
  have I2 : Inv X pins σ H1 { s1 with heap := s1.heap.push (revObj a ((its.toArray.size : Int) - 1)) } := I1.kept (t' := s1.toks) k0
  obtain ⟨f0, f1, f2, f3, f4, f5⟩ := I1.fpOk (H' := H1) (b := s1.heap.objs.size) (Nat.le_refl _) (I1.hok.fresh (Nat.le_refl _))
  have hl := p'.isList
  obtain ⟨ol, hol, _⟩ := id hl
  have hne : a ≠ s1.heap.objs.size := Nat.ne_of_lt (Heap.lt_size hol)
  have hn : its.toArray.size ≤ sizeLine := by rw [List.size_toArray, ← rv.length]; exact hz
  refine call_list_rev (s := { s1 with heap := s1.heap.push (revObj a ((its.toArray.size : Int) - 1)) }) (I1.ok.hd hc) ⟨_, Heap.get?_push_size _ rfl, rfl, rfl⟩ (hl.push _) hne hn fun h' tk acc c hk hS hi => ?_
  have hS' : h'.get? (s1.heap.objs.size + 1) = some { cls := .type "list", dict := none, data := .seq acc c, slots := #[] } := by rw [← Heap.size_push]; exact hS
  have I3 : Inv X pins σ H1 { s1 with heap := h', toks := tk } := I2.turned (t' := tk) (fun b o hb e => hk b o hb e) f0 f1 f3 f4 f5
  have hfr : H1 (s1.heap.objs.size + 1) = none := I1.hok.fresh (Nat.le_succ _)
  have kk : ∀ b o, s1.heap.get? b = some o → h'.get? b = some o := fun b o e => hk b o (Nat.ne_of_lt (Heap.lt_size e)) (k0 b o e)
  have J := I1.drained (s' := { s1 with heap := h', toks := tk }) (out := xs.reverse) (Nat.le_succ _) (by rw [List.length_reverse]; exact hz) hS' (vals_rev rv hi) ExOk.nil rfl I1.bare (Un.kept kk) I3.hok hfr
  rw [show (s1.heap.push (revObj a ((its.toArray.size : Int) - 1))).objs.size = s1.heap.objs.size + 1 from Heap.size_push ..]
  exact ⟨.ref _, _, J, rfl, q _ hfr⟩
end
section
variable {X : Cx} {c : Cfg} {W : WX} {e : Expr} {p p2 pos pos2 : Pos}
/-- list(reversed(x)), x a list -/
def revC (f : EvR) : EvC := fun s => (f s).bind fun q => match q.1.lst, q.1.get q.2 with
  | true, some ds => .ok (ds.reverse, q.2)
  | _, _ => .stuck
theorem dc_rev {f : EvR} (hc : X.calm = true) (hg : Gl X "list") (hm : X.mg "list" = none) (hbl : bootBuiltins "list" = some (.type "list")) (hg2 : Gl X "reversed") (hm2 : X.mg "reversed" = none) (h : DR X c W e f)
    (hs : starEach [e] X.env = (false, eval e X.env) :: starEach [] X.env)
    (hs2 : starEach [.Call (.Name "reversed" p2) [e] [] pos2] X.env = (false, eval (.Call (.Name "reversed" p2) [e] [] pos2) X.env) :: starEach [] X.env) :
    DC X c W (.Call (.Name "list" p) [.Call (.Name "reversed" p2) [e] [] pos2] [] pos) (revC f) := by
  obtain ⟨t, pe, r⟩ := h
  refine ⟨_, pe_lstRev hc hg hm hbl hg2 hm2 pe hs hs2, fun B as σ H s Q sr hw => ?_⟩
  show t σ H _
  refine WantsC.bindG (s := s) hw sr r fun v H1 src st1 e1 ev1 sr1 ok hw1 => ?_
  simp only at hw1
  split at hw1
  · rename_i hl hgt
    rename_i ds
    obtain ⟨a, rfl, h⟩ := id ok
    obtain ⟨vs, q, rs⟩ := h B H1 σ _ ds (fun _ z => .inl z) Evo.refl sr1 hgt
    unfold SqX at q
    rw [if_pos hl] at q
    refine ⟨a, vs, rfl, q, fun D hD => ?_⟩
    refine hw1 D vs.reverse _ (Evo.new hD) hD (sr1.outN hD) upd_same ?_
    exact RepA.evo (Evo.new (W := []) hD) (fun _ z => by cases z) _ _ (RepA.avoid (fun x hx => by
      rcases List.mem_cons.mp hx with z | z
      · exact .inr (by rw [z]; exact hD)
      · exact .inl z) _ _ rs.reverse)
  · exact hw1.elim
end
end DL
end
section
set_option Elab.async false
set_option linter.all false
set_option maxRecDepth 100000
set_option maxHeartbeats 1000000
/-! The data layer, part p: op=, dicts, pairs stored in order. -/
namespace DL
open PySem PySem.Spec PyProof.Rows L2 PySem.SeqAt PySem.W
section
variable {X : Cx} {c : Cfg} {W : WX} {B as P L : List Addr} {σ : L2.St} {H H1 : Hp} {s : S} {e a b : Expr} {pos : Pos} {fa fb : EvD} {q qa qb : Bool}
/-! ### x op= e -/
def IpD (X : Cx) (op : Operator) (g : PyData → PyData → Option PyData) : Prop :=
  ∃ r, PIp X op r ∧ ∀ (H : Hp) (x y : V) (dx dy d : PyData) (av : List Addr) (Q : VK), (∀ p, H p = none → p ∉ av) → Rep X.K av H dx x → Rep X.K av H dy y → g dx dy = some d →
    (∀ z H', Evo [] H H' → Rep X.K av H' d z → Q z H') → r x y H Q
def iaddD : PyData → PyData → Option PyData
  | .int a, .int b => some (.int (a + b))
  | _, _ => none
def isubD : PyData → PyData → Option PyData
  | .int a, .int b => some (.int (a - b))
  | _, _ => none
theorem id_add : IpD X .Add iaddD := by
  refine ⟨_, ip_add, fun H x y dx dy d av Q hav r1 r2 e hQ => ?_⟩
  unfold iaddD at e
  split at e
  · cases e
    simp only [Rep] at r1 r2
    exact ⟨_, _, r1, r2, hQ _ H Evo.refl (by simp [Rep])⟩
  · cases e
theorem id_sub : IpD X .Sub isubD := by
  refine ⟨_, ip_sub, fun H x y dx dy d av Q hav r1 r2 e hQ => ?_⟩
  unfold isubD at e
  split at e
  · cases e
    simp only [Rep] at r1 r2
    exact ⟨_, _, r1, r2, hQ _ H Evo.refl (by simp [Rep])⟩
  · cases e
def augS (i : Nat) (g : PyData → PyData → Option PyData) (fe : EvD) : EvS := fun n s => match s.env[i]? with
  | some (some (.pure dx)) => (fe s).bx s.env fun p => (match g dx p.1 with
    | some d => .ok (.next, ⟨s.env.set i (some (.pure d)), p.2⟩)
    | none => .stuck)
  | _ => .stuck
theorem ds_aug {i : Nat} {x : Str} {op : Operator} {g : PyData → PyData → Option PyData} {pos' : Pos} (hN : X.N.Nodup) (hi : X.N[i]? = some x) (hx : Loc X.env.scope x) (h : DE X c W e false q fa) (ho : IpD X op g) (hf : X.fn x = true ∨ X.env.scope.names.lookup x = some .local) :
    DS X c W (.AugAssign (.Name x pos') op e pos) (augS i g fa) := by
  obtain ⟨t, p, r⟩ := h
  obtain ⟨u, p2, r2⟩ := ho
  refine ⟨_, ps_aug hN hi hx p p2 hf, fun B P L σ H s D srl hw => ?_⟩
  unfold augS at hw
  split at hw
  · rename_i dx es
    obtain ⟨v, q1, rv⟩ := srl.sr.slot i _ es
    refine ⟨v, q1, ?_⟩
    show t σ H _
    refine WantsS.bindG (s := s) hw srl r fun y H1 d st1 e1 ev1 sr1 r1 hw1 => ?_
    simp only at hw1
    split at hw1
    · rename_i d' eg
      have rv : Rep X.K (B ++ (P ++ L)) H dx v := rv
      refine r2 H1 v y dx d d' _ _ (fun p hp => sr1.sr.notnew hp) (Rep.evo ev1 (fun x hx => List.mem_append_right _ hx) _ _ rv) r1 eg fun z H2 ev2 rz => ?_
      exact hw1.fin ev2.wide ⟨(sr1.sr.evo ev2).setV (sv := .pure d') rz, sr1.off⟩
    · exact hw1.elim
  · exact hw.elim

/-! ### a, b = x, y stored in order -/
def asg2S (i j : Nat) (fa : EvA) : EvS := fun n s => (fa s).bx s.env fun p => match p.1 with
  | [a, b] => .ok (.next, ⟨(s.env.set i (some a)).set j (some b), p.2⟩)
  | _ => .stuck
theorem ds_asg2 {i j : Nat} {x y : Str} {es : List Expr} {fa : EvA} {px py pt : Pos} {kt k2 : Nat} {pt2 : Pos} (hc : X.calm = true) (hN : X.N.Nodup) (hi : X.N[i]? = some x) (hj : X.N[j]? = some y)
    (hx : Loc X.env.scope x) (hy : Loc X.env.scope y) (hfx : X.fn x = true ∨ X.env.scope.names.lookup x = some .local) (hfy : X.fn y = true ∨ X.env.scope.names.lookup y = some .local) (ha : DVA X c W es fa)
    (hn : (assignEach [.Name x px, .Name y py] X.env).length = 2) (hst : (assignEach [.Name x px, .Name y py] X.env).findIdx? (·.1) = none)
    (ho1 : (assignEach [.Name x px, .Name y py] X.env).map (·.2) = assign (.Name x px) X.env :: (assignEach [.Name y py] X.env).map (·.2)) (ho2 : (assignEach [.Name y py] X.env).map (·.2) = assign (.Name y py) X.env :: (assignEach [] X.env).map (·.2))
    (hs : swapsWithSole [.Tuple [.Name x px, .Name y py] kt pt] (.Tuple es k2 pt2) pos.line X.env = pure false) (hw : swappedStores [.Tuple [.Name x px, .Name y py] kt pt] (.Tuple es k2 pt2) X.env = pure none)
    (h1 : (assignEach [.Tuple [.Name x px, .Name y py] kt pt] X.env).map (·.2) = [assign (.Tuple [.Name x px, .Name y py] kt pt) X.env]) :
    DS X c W (.Assign [.Tuple [.Name x px, .Name y py] kt pt] (.Tuple es k2 pt2) pos) (asg2S i j fa) := by
  obtain ⟨t, p, r⟩ := ha
  refine ⟨_, ps_asg (pe_tup p) (pg_tup hc (pgs_cons (pg_name hN hi hx hfx) (pgs_cons (pg_name hN hj hy hfy) pgs_nil ho2) ho1) hn hst) hs hw h1, fun B P L σ H s D srl hw => ?_⟩
  show t σ H _
  refine WantsS.bindV (s := s) hw srl r fun vs N H1 d st1 e1 ev1 sr1 r1 hw1 => ?_
  simp only at hw1
  split at hw1
  · obtain ⟨v, q1, rfl, h1, w, q2, rfl, h2, z⟩ := r1
    have z' : q2 = [] := z
    subst z'
    refine ⟨by show 2 ≤ sizeLine; decide, fun p hp => ?_⟩
    have evn : Evo [] H1 (upd H1 p (.tup [v, w])) := Evo.new hp
    refine ⟨p, [v, w], rfl, .inl (.of upd_same), rfl, v, [w], rfl, w, [], rfl, rfl, ?_⟩
    have sr2 := sr1.sr.evo evn
    exact hw1.fin evn.wide ⟨(sr2.setV (h1.evo evn fun _ z => by cases z)).setV (h2.evo evn fun _ z => by cases z), sr1.off⟩
  · exact hw1.elim

/-! ### dicts whose keys are ints and texts -/
def keyOf : PyData → Option Key
  | .int i => some (.inl i)
  | .str x => some (.inr x)
  | _ => none
theorem keyOf_rep {K : PySem.W.Frag} {av : List Addr} {H : Hp} {d : PyData} {k : Key} {v : V} (h : keyOf d = some k) (r : Rep K av H d v) : v = kV k := by
  unfold keyOf at h
  split at h
  · cases h; simpa [Rep, kV] using r
  · cases h; simpa [Rep, kV] using r
  · cases h
def valD (kvs : List (Key × PyData)) (k : Key) : Option PyData := (kvs.find? fun kv => decide (kv.1 = k)).map (·.2)
def putD (kvs : List (Key × PyData)) (k : Key) (d : PyData) : List (Key × PyData) := if (kvs.any fun kv => decide (kv.1 = k)) = true then kvs.map fun kv => if kv.1 = k then (kv.1, d) else kv else kvs ++ [(k, d)]
theorem KRep.val {K : PySem.W.Frag} {av : List Addr} {H : Hp} {kvs : List (Key × PyData)} {kvv : List (Key × V)} (r : KRep K av H kvs kvv) (k : Key) : (valD kvs k = none ∧ valV kvv k = none) ∨ ∃ d v, valD kvs k = some d ∧ valV kvv k = some v ∧ Rep K av H d v := by
  induction r with
  | nil => exact .inl ⟨rfl, rfl⟩
  | @cons p q ps qs h t ih =>
    by_cases e : p.1 = k
    · refine .inr ⟨p.2, q.2, ?_, valV_pos (by rw [← h.1]; exact e), h.2⟩
      simp [valD, List.find?_cons, e]
    · rw [valV_neg (by rw [← h.1]; exact e)]
      have : valD (p :: ps) k = valD ps k := by simp [valD, List.find?_cons, e]
      rw [this]
      exact ih
theorem KRep.any {K : PySem.W.Frag} {av : List Addr} {H : Hp} {kvs : List (Key × PyData)} {kvv : List (Key × V)} (r : KRep K av H kvs kvv) (k : Key) : (kvs.any fun kv => decide (kv.1 = k)) = kvv.any fun kv => decide (kv.1 = k) := by
  induction r with
  | nil => rfl
  | @cons p q ps qs h t ih => rw [List.any_cons, List.any_cons, ih, h.1]
theorem KRep.put {K : PySem.W.Frag} {av : List Addr} {H : Hp} {kvs : List (Key × PyData)} {kvv : List (Key × V)} (r : KRep K av H kvs kvv) (k : Key) {d : PyData} {v : V} (rv : Rep K av H d v) : KRep K av H (putD kvs k d) (putK kvv k v) := by
  unfold putD putK
  rw [r.any k]
  split
  · rename_i hh
    clear hh
    induction r with
    | nil => exact .nil
    | @cons p q ps qs h t ih =>
      rw [List.map_cons, List.map_cons]
      refine .cons ?_ ih
      rw [h.1]
      split
      · exact ⟨rfl, rv⟩
      · exact ⟨h.1, h.2⟩
  · rename_i hh
    clear hh
    induction r with
    | nil => exact .cons ⟨rfl, rv⟩ .nil
    | @cons p q ps qs h t ih => exact .cons h ih
theorem KRep.len {K : PySem.W.Frag} {av : List Addr} {H : Hp} {kvs : List (Key × PyData)} {kvv : List (Key × V)} (r : KRep K av H kvs kvv) : kvv.length = kvs.length := (Paired.length r).symm
/-- d[k], d an own dict -/
def dgetE (i : Nat) (fk : EvD) : EvD := fun s => match objAt s.env i with
  | some j => (fk s).bind fun p => (match p.2[j]?, keyOf p.1 with
    | some (.dK kvs), some k => (match valD kvs k with
      | some d => .ok (d, p.2)
      | none => .stuck)
    | _, _ => .stuck)
  | none => .stuck
theorem de_dget {i : Nat} {x : Str} {p1 : Pos} (hu : X.A.units + 64 < cLine) (hN : X.N[i]? = some x) (hv : Vis X.env.scope x) (hd : (x == ("__debug__" : Str)) = false) (hcd : (x == ("__classdict__" : Str)) = false) (h : DE X c W e false q fa) (hs : NoSl e) : DE X c W (.Subscript (.Name x p1) e pos) false q (dgetE i fa) := by
  obtain ⟨t, p, r⟩ := h
  refine ⟨_, pe_dget (by omega) (pe_var hN hv hd hcd) p hs, fun B as σ H s Q sr hw => ?_⟩
  unfold dgetE at hw
  cases ej : objAt s.env i with
  | none => rw [ej] at hw; exact hw.elim
  | some j =>
    rw [ej] at hw
    obtain ⟨a, q1, q2⟩ := objAt_get sr ej
    refine ⟨_, q1, ?_⟩
    show t σ H _
    rw [← Bool.and_true q] at hw
    refine WantsG.bind (s := s) hw sr r fun y H1 d st1 e1 ev1 sr1 r1 hw1 => ?_
    simp only at hw1
    split at hw1
    · rename_i kvs k el ek
      split at hw1
      · rename_i d' ed
        obtain ⟨kvv, h1, h2⟩ := sr1.objs j _ a el q2
        rcases h2.val k with ⟨z, _⟩ | ⟨d2, v, z1, z2, z3⟩
        · rw [ed] at z; cases z
        · rw [ed] at z1
          cases z1
          have ey := keyOf_rep ek r1
          subst ey
          refine ⟨a, v, rfl, ?_, hw1.fin sr1 Evo.refl z3⟩
          rw [← z2]
          exact DGet.k h1
      · exact hw1.elim
    · exact hw1.elim
/-- d[k] = e -/
def dputS (i : Nat) (fk fe : EvD) : EvS := fun n s => (fe s).bx s.env fun p => match objAt s.env i with
  | some j => (fk ⟨s.env, p.2⟩).bx s.env fun q => (match q.2[j]?, keyOf q.1 with
    | some (.dK kvs), some k => if kvs.length < 16777216 then .ok (.next, ⟨s.env, q.2.set j (.dK (putD kvs k p.1))⟩) else .stuck
    | _, _ => .stuck)
  | none => .stuck
theorem ds_dput {i : Nat} {x : Str} {p1 p2 : Pos} {ke : Expr} {fk : EvD} (hu : X.A.units + 64 < cLine) (hN : X.N[i]? = some x) (hv : Vis X.env.scope x) (hd : (x == ("__debug__" : Str)) = false) (hcd : (x == ("__classdict__" : Str)) = false) (hk : DE X c W ke false qb fk) (h : DE X c W e false q fa)
    (hs : swapsWith e (some (.Subscript (.Name x p1) ke p2)) pos.line X.env = pure false) : DS X c W (.Assign [.Subscript (.Name x p1) ke p2] e pos) (dputS i fk fa) := by
  obtain ⟨t, p, r⟩ := h
  obtain ⟨tk, pk, rk⟩ := hk
  refine ⟨_, ps_dput (by omega) (pe_var hN hv hd hcd) pk p hs, fun B P L σ H s D srl hw => ?_⟩
  show t σ H _
  refine WantsS.bindG (s := s) hw srl r fun v H1 d st1 e1 ev1 sr1 r1 hw1 => ?_
  show tVar i σ H1 _
  simp only at hw1
  cases ej : objAt s.env i with
  | none => rw [ej] at hw1; exact hw1.elim
  | some j =>
    rw [ej] at hw1
    obtain ⟨a, q1, q2⟩ := objAt_get sr1.sr ej
    refine ⟨_, q1, ?_⟩
    show tk σ H1 _
    refine WantsS.bindG (s := ⟨s.env, st1⟩) hw1 sr1 rk fun y H2 d2 st2 e2 ev2 sr2 r2 hw2 => ?_
    simp only at hw2
    split at hw2
    · rename_i kvs k el ek
      split at hw2
      · rename_i hlt
        obtain ⟨kvv, h1, h2⟩ := sr2.sr.objs j _ a el q2
        have ey := keyOf_rep ek r2
        subst ey
        have rv : Rep X.K (B ++ (P ++ L)) H2 d v := Rep.evo ev2 (fun x hx => List.mem_append_right _ hx) _ _ r1
        have hm := List.mem_of_getElem? q2
        have evw : Evo [a] H2 (upd H2 a (.dK (putK kvv k v))) := Evo.at h1 ⟨(fun _ z => by cases z), (fun _ _ z => by cases z)⟩ (List.mem_singleton.mpr rfl)
        obtain ⟨w1, w2⟩ := sr2.sr.write (o := .dK (putD kvs k d)) (u := .dK (putK kvv k v)) q2 ⟨_, upd_same, KRep.evo evw (fun x hx => by rw [List.mem_singleton.mp hx]; exact List.mem_append_right _ hm) (h2.put k rv)⟩
        exact ⟨a, _, rfl, DPut.k h1 (by rw [sizeLine_eq, h2.len]; exact hlt), hw2.fin w1 ⟨w2, sr2.off⟩⟩
      · exact hw2.elim
    · exact hw2.elim
/-- {} -/
def dict0V : EvV := fun s => .ok (.obj s.st.length, s.st ++ [.dK []])
theorem dv_dict0 : DV X c W (.Dict [] [] pos) dict0V := ⟨_, pe_dnewK, fun B as σ H s Q sr hw p hp => WantsV.new hw sr hp (Evo.new hp) ⟨[], upd_same, .nil⟩⟩
/-- {k: v} -/
def dict1V (fk fv : EvD) : EvV := fun s => (fk s).bind fun p => (fv ⟨s.env, p.2⟩).bind fun q => match keyOf p.1 with
  | some k => .ok (.obj q.2.length, q.2 ++ [.dK [(k, q.1)]])
  | none => .stuck
/-- from outside it becomes an own object -/
theorem SR.ownO {K : PySem.W.Frag} {env : List (Option SV)} {st : Sto} {o : O} {D : Addr} (sr : SR K c (D :: B) as H σ ⟨env, st⟩) (hd : D ∉ as) (ho : ORep K c.hs ((D :: B) ++ as) H D o) : SR K c B (as ++ [D]) H σ ⟨env, st ++ [o]⟩ := by
  have hav : ∀ x ∈ B ++ (as ++ [D]), x ∈ (D :: B) ++ as ∨ H x = none := fun x hx => .inl (by
    rcases List.mem_append.mp hx with z | z
    · exact List.mem_append_left _ (List.mem_cons_of_mem _ z)
    · rcases List.mem_append.mp z with z | z
      · exact List.mem_append_right _ z
      · rw [List.mem_singleton.mp z]; exact List.mem_append_left _ List.mem_cons_self)
  have hal := sr.aslen
  simp only at hal
  refine ⟨sr.len, fun i sv q => ?_, ?_, by rw [List.length_append, List.length_append, hal]; rfl, fun i o' a h1 h2 => ?_, fun a ha => sr.out a (List.mem_cons_of_mem _ ha), sr.tabs⟩
  · obtain ⟨v, q1, q2⟩ := sr.slot i sv q
    refine ⟨v, q1, ?_⟩
    cases sv with
    | pure d => exact Rep.avoid hav d v q2
    | scr ds => obtain ⟨p, us, z1, z2, z3⟩ := q2; exact ⟨p, us, z1, z2.avoid hav, RepA.avoid hav _ us z3⟩
    | obj j =>
      obtain ⟨a, e, rfl⟩ := q2
      exact ⟨a, by rw [List.getElem?_append_left (List.getElem?_eq_some_iff.mp e).1]; exact e, rfl⟩
  · rw [List.nodup_append]
    refine ⟨sr.nd, by simp, fun x hx y hy z => hd ?_⟩
    rw [List.mem_singleton.mp hy] at z
    rw [← z]; exact hx
  · by_cases hi : i < as.length
    · rw [List.getElem?_append_left hi] at h2
      have hi' : i < st.length := by omega
      rw [List.getElem?_append_left hi'] at h1
      exact (sr.objs i o' a h1 h2).avoid hav
    · have e1 : i = as.length := by
        have := (List.getElem?_eq_some_iff.mp h2).1
        rw [List.length_append] at this
        simp at this
        omega
      subst e1
      rw [List.getElem?_append_right (Nat.le_refl _), Nat.sub_self] at h2
      simp only [List.getElem?_cons_zero, Option.some.injEq] at h2
      subst h2
      rw [hal, List.getElem?_append_right (Nat.le_refl _), Nat.sub_self] at h1
      simp only [List.getElem?_cons_zero, Option.some.injEq] at h1
      subst h1
      exact ho.avoid hav
/-- an evaluation amid which a new object p lies outside -/
theorem out_step {α β : Type} {R : List Addr → List Addr → Hp → α → β → Prop} {Q : VK} {p : Addr} {H0 : Hp} {f : S → Res (α × Sto)} {k : α × Sto → RV} {ta : L2.St → Hp → (β → Hp → Prop) → Prop} {Q1 : β → Hp → Prop} (hw : WantsV X c W (RepV X.K) B as σ H0 s.env Q ((f s).bind k)) (ev : Evo as H0 H) (sr : SR X.K c (p :: B) as H σ s)
    (ra : ∀ (B as : List Addr) (σ : L2.St) (H : Hp) (s : S) (Q : β → Hp → Prop), SR X.K c B as H σ s → WantsG X c W R B as σ H s.env q Q (f s) → ta σ H Q)
    (h : ∀ v H1 d st1, f s = .ok (d, st1) → Evo as H H1 → SR X.K c (p :: B) as H1 σ ⟨s.env, st1⟩ → R (p :: B) as H1 d v → WantsV X c W (RepV X.K) B as σ H0 s.env Q (k (d, st1)) → Q1 v H1) : ta σ H Q1 := by
  refine ra (p :: B) as σ H s Q1 sr ?_
  cases e : f s with
  | stuck => rw [e] at hw; exact hw
  | exc cl s' =>
    rw [e] at hw
    exact fun H' ev' sr' => hw [] H' (ev.trans' ev') (by simp) (by rw [List.append_nil]; exact sr'.less fun x hx => List.mem_cons_of_mem _ hx)
  | ok r =>
    obtain ⟨d, st1⟩ := r
    rw [e] at hw
    exact fun v H1 ev' sr1 rp => h v H1 d st1 e (ev'.mono wq_as) sr1 rp hw
theorem dv_dict1 (h15 : ([some a] : List (Option Expr)).length ≤ 15) (hk : DE X c W a false qa fa) (hv : DE X c W b false qb fb) : DV X c W (.Dict [some a] [b] pos) (dict1V fa fb) := by
  obtain ⟨ta, pa, ra⟩ := hk
  obtain ⟨tb, pb, rb⟩ := hv
  refine ⟨_, pe_disp (pps_cons pa pb pps_nil) rfl rfl (by simp) h15, fun B as σ H s Q sr hw => ?_⟩
  intro p hp
  have sr0 : SR X.K c (p :: B) as (upd H p (.dK [])) σ s := sr.outN hp
  have ev0 : Evo as H (upd H p (.dK [])) := Evo.new hp
  have hpas : p ∉ as := not_as sr hp
  show ta σ _ _
  refine out_step (s := s) hw ev0 sr0 ra fun x H1 da st1 e1 ev1 sr1 r1 hw1 => ?_
  show tb σ H1 _
  refine out_step (s := ⟨s.env, st1⟩) hw1 (ev0.trans' ev1) sr1 rb fun y H2 db st2 e2 ev2 sr2 r2 hw2 => ?_
  simp only at hw2
  split at hw2
  · rename_i k ek
    have ex := keyOf_rep ek r1
    subst ex
    have ep : H2 p = some (.dK []) := ev2.keep p _ (ev1.keep p _ upd_same hpas (fun _ z => by cases z)) hpas (fun _ z => by cases z)
    refine ⟨ep, [(k, y)], rfl, by simp, ?_⟩
    have evw : Evo [p] H2 (upd H2 p (.dK [(k, y)])) := Evo.at ep ⟨(fun _ z => by cases z), (fun _ _ z => by cases z)⟩ (List.mem_singleton.mpr rfl)
    have ev3 : Evo as H (upd H2 p (.dK [(k, y)])) := (ev0.trans' (ev1.trans' ev2)).trans evw fun x hx => by rw [List.mem_singleton.mp hx]; exact .inr hp
    have sr3 := sr2.updB (u := .dK [(k, y)]) List.mem_cons_self hpas ep ⟨(fun _ z => by cases z), (fun _ _ z => by cases z)⟩
    have hal := sr2.aslen
    simp only at hal
    have rv : Rep X.K ((p :: B) ++ as) (upd H2 p (.dK [(k, y)])) db y := Rep.evo evw (fun x hx => by rw [List.mem_singleton.mp hx]; exact List.mem_append_left _ List.mem_cons_self) _ _ r2
    refine hw2 (.ref p) [p] _ ev3 (fun x hx => by rw [List.mem_singleton.mp hx]; exact hp) ?_ ⟨p, ?_, rfl⟩
    · exact SR.ownO sr3 hpas ⟨[(k, y)], upd_same, .cons ⟨rfl, rv⟩ .nil⟩
    · rw [← hal, List.getElem?_append_right (Nat.le_refl _), Nat.sub_self]
      rfl
  · exact hw2.elim
end
end DL
end
section
set_option Elab.async false
set_option linter.all false
set_option maxRecDepth 100000
set_option maxHeartbeats 1000000
/-! The data layer, part q: short words for the printed walks. -/
namespace DL
open PySem PySem.Spec PyProof.Rows L2 PySem.SeqAt PySem.W GxR
theorem bb_len : bootBuiltins "len" = some (.builtin "len") := by first | exact PySem.boot_len | rfl | kernel_rfl
theorem bb_abs : bootBuiltins "abs" = some (.builtin "abs") := by first | rfl | kernel_rfl
theorem bb_sum : bootBuiltins "sum" = some (.builtin "sum") := by first | rfl | kernel_rfl
theorem bb_min : bootBuiltins "min" = some (.builtin "min") := by first | rfl | kernel_rfl
theorem bb_max : bootBuiltins "max" = some (.builtin "max") := by first | rfl | kernel_rfl
theorem bb_sorted : bootBuiltins "sorted" = some (.builtin "sorted") := by first | rfl | kernel_rfl
theorem bb_isinstance : bootBuiltins "isinstance" = some (.builtin "isinstance") := by first | rfl | kernel_rfl
theorem bb_all : bootBuiltins "all" = some (.builtin "all") := by first | rfl | kernel_rfl
theorem bb_int : bootBuiltins "int" = some (.type "int") := by first | rfl | kernel_rfl
theorem bb_bool : bootBuiltins "bool" = some (.type "bool") := by first | rfl | kernel_rfl
theorem bb_str : bootBuiltins "str" = some (.type "str") := by first | rfl | kernel_rfl
theorem bb_list : bootBuiltins "list" = some (.type "list") := by first | rfl | kernel_rfl
theorem bb_tuple : bootBuiltins "tuple" = some (.type "tuple") := by first | rfl | kernel_rfl
def genC (N : List Str) (sc scope : Scope) (own : List (Str × Nat)) : Bool :=
  decide (scope.kind = .function) && !scope.isCoroutine && decide (scope.names.lookup (".0" : Str) = some NameKind.local) && (scope.names.all fun y => decide (scope.names.lookup y.1 = some y.2)) && (own.all fun p => decide (N[p.2]? = some p.1)) &&
    (scope.names.all fun y => if y.2 = .free then (decide (sc.names.lookup y.1 = some .cell) || decide (sc.names.lookup y.1 = some .free)) else if y.2 = .local ∨ y.2 = .cell then (decide (y.1 ∈ own.map (·.1)) || decide (y.1 ∉ N)) else true)
theorem genOk_by {N : List Str} {sc scope : Scope} {own : List (Str × Nat)} (h : genC N sc scope own = true) : GenOk N sc scope own := by
  unfold genC at h
  simp only [Bool.and_eq_true, Bool.not_eq_true', decide_eq_true_eq, List.all_eq_true, decide_eq_false_iff_not] at h
  obtain ⟨⟨⟨⟨⟨h1, h2⟩, h4⟩, h5⟩, h6⟩, h7⟩ := h
  refine ⟨h1, h2, h4, fun y hy => h5 y hy, fun p hp => h6 p hp, fun y hy e => ?_, fun y hy e => ?_⟩
  · have q := h7 y hy
    rw [if_pos e] at q
    simpa using q
  · have q := h7 y hy
    rw [if_neg (by rcases e with e | e <;> rw [e] <;> decide), if_pos e] at q
    simpa using q
theorem room3 {k : Nat} {A : Around} (r : Room (k + 3) A) (env : Env) : Room k (A.in1.in1.deeper env) := Room.deeper (k := k) (Room.in1 (k := k + 1) (Room.in1 (k := k + 2) r)) env
/-! ### constants, defs with their code objects -/
structure Con (K : PySem.W.Frag) (mg : Str → Option Value) (x : Str) (d : PyData) : Prop where
  ex : ∃ (v : V) (u : Value), mg x = some u ∧ RelV v u ∧ ∀ av H, Rep K av H d v
theorem de_con {X : Cx} {c : Cfg} {W : WX} {x : Str} {d : PyData} {pos : Pos} (C : Con X.K X.mg x d) (hg : Gl X x) (hd : (x == ("__debug__" : Str)) = false) : DE X c W (.Name x pos) false true (constE d) := by
  obtain ⟨v, u, h1, h2, h3⟩ := C.ex
  exact de_glob hg h1 h2 h3 hd
structure FunT (K : PySem.W.Frag) (x : Str) (st : Stmt) (f : Addr) (fd : FuncData) (cc : Addr) : Prop where
  ex : ∃ (oc : Value) (od : Option Addr) (kV doc pm : Value) (an : Option Addr) (ct : Value) (osl : Array (Option Value)),
    fd = PySem.W.fnOf x x (defArgs st) (defBody st) (defScope st) .none kV doc pm an (.ref cc) ct ∧ K.lookup f = some ⟨oc, od, .func fd, osl⟩ ∧ PySem.W.codeIn K (.ref cc) x = true
  kp : PySem.W.keepIn K (.ref f) = true
/-- a def whose code object has a table -/
structure DefG (K : PySem.W.Frag) (mg : Str → Option Value) (base : Heap) (c : Cfg) (x : Str) (st : Stmt) (ps : List Str) : Prop where
  ex : ∃ (f : Addr) (fd : FuncData) (cc P : Addr), FunT K x st f fd cc ∧ mg x = some (.ref f) ∧ Binds K fd ps [] ∧ TabB base mg cc P ∧ P ∈ c.TT
theorem FunT.fn {K : PySem.W.Frag} {x : Str} {st : Stmt} {f : Addr} {fd : FuncData} {cc : Addr} (F : FunT K x st f fd cc) : L2.Fun K x x st f fd := by
  obtain ⟨oc, od, kV, doc, pm, an, ct, osl, h1, h2, h3⟩ := F.ex
  exact ⟨⟨oc, od, kV, doc, pm, an, _, ct, osl, h1, h2, h3⟩, F.kp⟩
section
variable {P : Program} {w : World} {K : PySem.W.Frag} {mg : Str → Option Value} {base : Heap} {c : Cfg} {k : Nat} {x : Str} {st : Stmt} {f : Addr} {fd : FuncData} {N ps : List Str} {body : EvS}
theorem cal_ofG (D : DefG K mg base c x st ps) (S : FnScope N ps (defScope st))
    (hb : ∀ (f cc P' : Addr) (A : Around) (outer : List Env) (s : Shared) (H : Hp) (E : XK), TabB base mg cc P' → P' ∈ c.TT → Room k (bCx P w K mg base N x st f (.ref cc) A outer s H E).A → DSs (bCx P w K mg base N x st f (.ref cc) A outer s H E) c (WB E) (defBody st) body) :
    Cal P w K mg base (k + 1) x (spD K c ps.length (runF N.length body)) := by
  obtain ⟨f, fd, cc, P', F, g, b, tb, hP⟩ := D.ex
  obtain ⟨oc, od, kV, doc, pm, an, ct, osl, rfl, lk, hcd⟩ := F.ex
  refine ⟨f, _, ps, fn_of lk hcd S (fun vs H Q E h => ?_) fun A outer s H vs Q E hr h => body_run (hb f cc P' A outer s H E tb hP hr) h, g, F.kp, b⟩
  obtain ⟨B, as, svs, objs, hl, sr, r, _⟩ := h
  rw [repSA_len r, hl]
end
section
variable {X : Cx} {c : Cfg} {W : WX} {a b : Expr} {x : Str} {p pos : Pos} {fa fb : EvD} {qa qb tr : Bool}
theorem e_len (hg : Gl X "len") (hm : X.mg "len" = none) (ha : DE X c W a tr qa fa) (hs : starEach [a] X.env = (false, eval a X.env) :: starEach [] X.env) : DE X c W (.Call (.Name "len" p) [a] [] pos) false qa (un1 lenD fa) := de_callB cd_len hg hm bb_len ha hs (by decide) rfl
theorem e_abs (hg : Gl X "abs") (hm : X.mg "abs" = none) (ha : DE X c W a tr qa fa) (hs : starEach [a] X.env = (false, eval a X.env) :: starEach [] X.env) : DE X c W (.Call (.Name "abs" p) [a] [] pos) false qa (un1 absD fa) := de_callB cd_abs hg hm bb_abs ha hs (by decide) rfl
theorem e_sum (hc : X.calm = true) (hg : Gl X "sum") (hm : X.mg "sum" = none) (ha : DE X c W a tr qa fa) (hs : starEach [a] X.env = (false, eval a X.env) :: starEach [] X.env) : DE X c W (.Call (.Name "sum" p) [a] [] pos) false qa (un1 sumD fa) := de_callB (cd_sum hc) hg hm bb_sum ha hs (by decide) rfl
theorem e_min (hc : X.calm = true) (hu : X.A.units + 64 < cLine) (hg : Gl X "min") (hm : X.mg "min" = none) (ha : DE X c W a tr qa fa) (hs : starEach [a] X.env = (false, eval a X.env) :: starEach [] X.env) : DE X c W (.Call (.Name "min" p) [a] [] pos) false qa (un1 minDD fa) := de_callB (cd_min hc hu) hg hm bb_min ha hs (by decide) rfl
theorem e_max (hc : X.calm = true) (hu : X.A.units + 64 < cLine) (hg : Gl X "max") (hm : X.mg "max" = none) (ha : DE X c W a tr qa fa) (hs : starEach [a] X.env = (false, eval a X.env) :: starEach [] X.env) : DE X c W (.Call (.Name "max" p) [a] [] pos) false qa (un1 maxDD fa) := de_callB (cd_max hc hu) hg hm bb_max ha hs (by decide) rfl
theorem e_sorted (hu : X.A.units + 64 < cLine) (hg : Gl X "sorted") (hm : X.mg "sorted" = none) (ha : DE X c W a tr qa fa) (hs : starEach [a] X.env = (false, eval a X.env) :: starEach [] X.env) : DE X c W (.Call (.Name "sorted" p) [a] [] pos) false qa (un1 sortedDD fa) := de_callB (cd_sorted hu) hg hm bb_sorted ha hs (by decide) rfl
theorem e_int (hg : Gl X "int") (hm : X.mg "int" = none) (ha : DE X c W a tr qa fa) (hs : starEach [a] X.env = (false, eval a X.env) :: starEach [] X.env) : DE X c W (.Call (.Name "int" p) [a] [] pos) false qa (un1 intD fa) := de_callTy cd_int hg hm bb_int ha hs (by decide) rfl
theorem e_tuple (hg : Gl X "tuple") (hm : X.mg "tuple" = none) (ha : DE X c W a tr qa fa) (hs : starEach [a] X.env = (false, eval a X.env) :: starEach [] X.env) : DE X c W (.Call (.Name "tuple" p) [a] [] pos) false qa (un1 tupleD fa) := de_callTy cd_tuple hg hm bb_tuple ha hs (by decide) rfl
theorem e_list (hg : Gl X "list") (hm : X.mg "list" = none) (ha : DE X c W a tr qa fa) (hs : starEach [a] X.env = (false, eval a X.env) :: starEach [] X.env) : DE X c W (.Call (.Name "list" p) [a] [] pos) false qa (un1 listD fa) := de_callTy cd_list hg hm bb_list ha hs (by decide) rfl
theorem v_list (hg : Gl X "list") (hm : X.mg "list" = none) (ha : DE X c W a tr qa fa) (hs : starEach [a] X.env = (false, eval a X.env) :: starEach [] X.env) : DV X c W (.Call (.Name "list" p) [a] [] pos) (un1V listL fa) := dv_callTy cn_list hg hm bb_list ha hs (by decide) rfl
theorem e_min2 (hc : X.calm = true) (hg : Gl X "min") (hm : X.mg "min" = none) (ha : DE X c W a false qa fa) (hb : DE X c W b false qb fb) (hs : starEach [a, b] X.env = (false, eval a X.env) :: starEach [b] X.env) (hs2 : starEach [b] X.env = (false, eval b X.env) :: starEach [] X.env) :
    DE X c W (.Call (.Name "min" p) [a, b] [] pos) false (qa && qb) (bin2 min2D fa fb) := de_callB2 (cd_min2 hc) hg hm bb_min ha hb hs hs2 (by decide) rfl
theorem e_max2 (hc : X.calm = true) (hg : Gl X "max") (hm : X.mg "max" = none) (ha : DE X c W a false qa fa) (hb : DE X c W b false qb fb) (hs : starEach [a, b] X.env = (false, eval a X.env) :: starEach [b] X.env) (hs2 : starEach [b] X.env = (false, eval b X.env) :: starEach [] X.env) :
    DE X c W (.Call (.Name "max" p) [a, b] [] pos) false (qa && qb) (bin2 max2D fa fb) := de_callB2 (cd_max2 hc) hg hm bb_max ha hb hs hs2 (by decide) rfl
theorem i_int {p2 : Pos} (hg : Gl X "isinstance") (hm : X.mg "isinstance" = none) (hgT : Gl X "int") (hmT : X.mg "int" = none) (ha : DE X c W a tr qa fa) (hs : starEach [a, .Name "int" p2] X.env = (false, eval a X.env) :: starEach [.Name "int" p2] X.env) : DE X c W (.Call (.Name "isinstance" p) [a, .Name "int" p2] [] pos) false qa (isiE .int fa) := de_isi (ty := .int) hg hm bb_isinstance hgT hmT bb_int ha hs (by decide) rfl (by decide) rfl
theorem i_bool {p2 : Pos} (hg : Gl X "isinstance") (hm : X.mg "isinstance" = none) (hgT : Gl X "bool") (hmT : X.mg "bool" = none) (ha : DE X c W a tr qa fa) (hs : starEach [a, .Name "bool" p2] X.env = (false, eval a X.env) :: starEach [.Name "bool" p2] X.env) : DE X c W (.Call (.Name "isinstance" p) [a, .Name "bool" p2] [] pos) false qa (isiE .bool fa) := de_isi (ty := .bool) hg hm bb_isinstance hgT hmT bb_bool ha hs (by decide) rfl (by decide) rfl
theorem i_str {p2 : Pos} (hg : Gl X "isinstance") (hm : X.mg "isinstance" = none) (hgT : Gl X "str") (hmT : X.mg "str" = none) (ha : DE X c W a tr qa fa) (hs : starEach [a, .Name "str" p2] X.env = (false, eval a X.env) :: starEach [.Name "str" p2] X.env) : DE X c W (.Call (.Name "isinstance" p) [a, .Name "str" p2] [] pos) false qa (isiE .str fa) := de_isi (ty := .str) hg hm bb_isinstance hgT hmT bb_str ha hs (by decide) rfl (by decide) rfl
theorem i_list {p2 : Pos} (hg : Gl X "isinstance") (hm : X.mg "isinstance" = none) (hgT : Gl X "list") (hmT : X.mg "list" = none) (ha : DE X c W a tr qa fa) (hs : starEach [a, .Name "list" p2] X.env = (false, eval a X.env) :: starEach [.Name "list" p2] X.env) : DE X c W (.Call (.Name "isinstance" p) [a, .Name "list" p2] [] pos) false qa (isiE .list fa) := de_isi (ty := .list) hg hm bb_isinstance hgT hmT bb_list ha hs (by decide) rfl (by decide) rfl
theorem i_tuple {p2 : Pos} (hg : Gl X "isinstance") (hm : X.mg "isinstance" = none) (hgT : Gl X "tuple") (hmT : X.mg "tuple" = none) (ha : DE X c W a tr qa fa) (hs : starEach [a, .Name "tuple" p2] X.env = (false, eval a X.env) :: starEach [.Name "tuple" p2] X.env) : DE X c W (.Call (.Name "isinstance" p) [a, .Name "tuple" p2] [] pos) false qa (isiE .tuple fa) := de_isi (ty := .tuple) hg hm bb_isinstance hgT hmT bb_tuple ha hs (by decide) rfl (by decide) rfl
end
end DL
end
section
set_option Elab.async false
set_option linter.all false
set_option maxRecDepth 100000
set_option maxHeartbeats 1000000
/-! The data layer, part r: names by one look, the start of a recursion. -/
namespace DL
open PySem PySem.Spec PyProof.Rows L2 PySem.SeqAt PySem.W GxR
def visB (sc : Scope) (x : Str) : Bool := match sc.names.lookup x with
  | some .local => true
  | some .cell => true
  | some .free => true
  | _ => false
theorem vis_by {sc : Scope} {x : Str} (h : visB sc x = true) : Vis sc x := by
  unfold visB at h
  split at h
  · exact .inl (by assumption)
  · exact .inr (.inl (by assumption))
  · exact .inr (.inr (by assumption))
  · cases h
def locB (sc : Scope) (x : Str) : Bool := match sc.names.lookup x with
  | some .local => true
  | some .cell => true
  | _ => false
theorem loc_by {sc : Scope} {x : Str} (h : locB sc x = true) : Loc sc x := by
  unfold locB at h
  split at h
  · exact .inl (by assumption)
  · exact .inr (by assumption)
  · cases h
def fnB (X : Cx) (x : Str) : Bool := X.fn x || (match X.env.scope.names.lookup x with
  | some .local => true
  | _ => false)
theorem hf_by {X : Cx} {x : Str} (h : fnB X x = true) : X.fn x = true ∨ X.env.scope.names.lookup x = some .local := by
  unfold fnB at h
  rcases Bool.or_eq_true_iff.mp h with h | h
  · exact .inl h
  · split at h
    · exact .inr (by assumption)
    · cases h
theorem pe_m1 {X : Cx} {k : Nat} {p1 p2 : Pos} : PE X (.UnaryOp .USub (.Constant (.int 1) k p1) p2) (tC (.int (-1))) := by
  have h := pe_un (X := X) (pos := p2) un_neg (pe_int (X := X) (i := 1) (j := k) (pos := p1))
  exact ⟨fun pins s σ H Q I q => h.1 pins s σ H Q I ⟨_, rfl, q⟩⟩
theorem no_tr {q : Bool} : false = true → q = true := fun h => by cases h
theorem yes_tr {b : Bool} : b = true → true = true := fun _ => rfl
section
variable {X : Cx} {c : Cfg} {W : WX} {a b tg : Expr} {p pos p1 p2 : Pos} {k : Nat} {fa fb : EvD} {qa qb : Bool}
theorem di_rangeM (hg : Gl X "range") (hm : X.mg "range" = none) (ha : DE X c W a false qa fa) (hb : DE X c W b false qb fb) (hs : starEach [a, b, .UnaryOp .USub (.Constant (.int 1) k p1) p2] X.env = (false, eval a X.env) :: starEach [b, .UnaryOp .USub (.Constant (.int 1) k p1) p2] X.env)
    (hs2 : starEach [b, .UnaryOp .USub (.Constant (.int 1) k p1) p2] X.env = (false, eval b X.env) :: starEach [.UnaryOp .USub (.Constant (.int 1) k p1) p2] X.env)
    (hs3 : starEach [.UnaryOp .USub (.Constant (.int 1) k p1) p2] X.env = (false, eval (.UnaryOp .USub (.Constant (.int 1) k p1) p2) X.env) :: starEach [] X.env) (hpl : (backTo pos (starEach [b, .UnaryOp .USub (.Constant (.int 1) k p1) p2] X.env)).any (·.1) = false) :
    DI X c W tg (.Call (.Name "range" p) [a, b, .UnaryOp .USub (.Constant (.int 1) k p1) p2] [] pos) (rangeDI fa fb) :=
  @di_rangeD X c W a b tg p pos fa fb qa qb pos pos pos none 0 _ pe_m1 hg hm ha hb hs hs2 hs3 hpl
end
/-- nothing is known -/
def stuckF : FSem := fun _ _ => .stuck
theorem runF_never (N : Nat) : runF N neverS = stuckF := rfl
section
variable {P : Program} {w : World} {K : PySem.W.Frag} {mg : Str → Option Value} {base : Heap} {c : Cfg} {x : Str} {st : Stmt} {N ps : List Str}
theorem cal_never (D : Def K mg x st ps) (S : FnScope N ps (defScope st)) : Cal P w K mg base 1 x (spD K c ps.length stuckF) :=
  cal_of (k := 0) (body := neverS) D S fun _ _ _ _ _ _ _ _ => dss_never
end
end DL
end
section
set_option Elab.async false
set_option linter.all false
set_option maxRecDepth 100000
set_option maxHeartbeats 1000000
/-! The data layer, part s: zip of two sequences of any kinds. -/
namespace DL
open PySem PySem.Spec PyProof.Rows L2 PySem.SeqAt PySem.W GxR
/-- a sequence's iterator: of a list (true) or of a tuple -/
def SIt (k : Bool) (h : Heap) (it l : Addr) (i : Nat) : Prop := match k with
  | true => h.IsListIter it l i
  | false => h.IsTupleIter it l i
def SAt (k : Bool) (h : Heap) (l : Addr) (xs : Array Value) : Prop := match k with
  | true => h.IsList l xs
  | false => h.IsTuple l xs
theorem SIt.but {k : Bool} {h h' : Heap} {a b l : Addr} {i : Nat} (x : SIt k h a l i) (hs : Heap.ExtBut b h h') (n : a ≠ b) : SIt k h' a l i := by
  cases k
  · exact Heap.IsTupleIter.extBut x hs n
  · exact Heap.IsListIter.extBut x hs n
theorem SIt.at {k : Bool} {h h' : Heap} {a l : Addr} {i : Nat} (x : SIt k h a l i) (e : ∀ o, h.get? a = some o → h'.get? a = some o) : SIt k h' a l i := by
  cases k
  · exact Heap.IsTupleIter.at x e
  · exact Heap.IsListIter.at x e
theorem SIt.obj {k : Bool} {h : Heap} {a l : Addr} {i : Nat} (x : SIt k h a l i) : ∃ o, h.get? a = some o ∧ ∃ vs, o.data = .fields vs := by
  cases k
  all_goals
    obtain ⟨o, e, _, d⟩ := x
    exact ⟨o, e, _, d⟩
theorem SAt.but {k : Bool} {h h' : Heap} {a b : Addr} {xs : Array Value} (x : SAt k h a xs) (hs : Heap.ExtBut b h h') (n : a ≠ b) : SAt k h' a xs := by
  cases k
  · exact Heap.IsTuple.extBut x hs n
  · exact Heap.IsList.extBut x hs n
theorem SAt.lt {k : Bool} {h : Heap} {a : Addr} {xs : Array Value} (x : SAt k h a xs) : a < h.objs.size := by
  cases k
  all_goals
    obtain ⟨o, e, _⟩ := x
    exact Heap.lt_size e
section
variable {prog : Program} {w : World} {A : Around} {E : Value → Shared → Prop} {s : Shared}
theorem sit_item {k : Bool} {it l : Addr} {i : Nat} {items : Array Value} {x : Value} {Q : Value → Shared → Prop} (hit : SIt k s.heap it l i) (hl : SAt k s.heap l items) (hx : items[i]? = some x)
    (hQ : ∀ h', SIt k h' it l (i + 1) → Heap.SameBut it s.heap h' → Q x { s with heap := h' }) : wpAny (model prog w) A (Builtin.SmallTypes.nextOf (.ref it)) Q E s := by
  cases k
  · exact RZ.nextOf_tuple_item hit hl hx hQ
  · exact wpAny_nextOf_list_item hit hl hx hQ
theorem sit_end {k : Bool} {it l : Addr} {i : Nat} {items : Array Value} {Q : Value → Shared → Prop} (hh : A.handled = none) (hit : SIt k s.heap it l i) (hl : SAt k s.heap l items) (hx : items[i]? = none)
    (hE : ∀ h' e, Heap.ExtBut it s.heap h' → (∃ o, h'.get? e = some o ∧ o.cls = .type "StopIteration") → E (.ref e) { s with heap := h' }) : wpAny (model prog w) A (Builtin.SmallTypes.nextOf (.ref it)) Q E s := by
  cases k
  · exact RZ.nextOf_tuple_end hh hit hl hx hE
  · exact wpAny_nextOf_list_end hh hit hl hx hE
/-- the head of zip's step: up to the two iterators -/
theorem zs_head {z TI TO i1 i2 : Addr} {k1 k2 : Bool} {n1 n2 : Nat} {l1 l2 : Addr} {xs ys : Array Value} {a b : Value} {Q : Value → Shared → Prop} {x : Value} (D : ZipApart z TI TO i1 i2 l1 l2)
    (hz : IsZip s.heap z TI TO .none) (hTI : IsPair s.heap TI (.ref i1) (.ref i2)) (hTO : IsPair s.heap TO a b) (h1 : SIt k1 s.heap i1 l1 n1) (h2 : SIt k2 s.heap i2 l2 n2) (hl1 : SAt k1 s.heap l1 xs) (hl2 : SAt k2 s.heap l2 ys) {y : Value} (hx : xs[n1]? = some x) (hy : ys[n2]? = some y)
    (hQ : ∀ h', IsZip h' z TI TO (rawInt s.heap.objs.size) → IsPair h' TO x y → SIt k1 h' i1 l1 (n1 + 1) → SIt k2 h' i2 l2 (n2 + 1) → IsPair h' s.heap.objs.size x y →
      (∀ c o, c ≠ z → c ≠ TO → c ≠ i1 → c ≠ i2 → s.heap.get? c = some o → h'.get? c = some o) → Q (.ref s.heap.objs.size) { s with heap := h' }) :
    wpAny (model prog w) A (Builtin.«zip.__next__» ⟨[.ref z], []⟩) (fun fin s' => ∃ v, fin = .done (.ret v) ∧ Q v s') E s := by
  show wpAny _ _ (field (.ref z) 2 >>= _) _ _ _
  refine wpAny_bind (wpAny_field hz rfl (x := .bool false) rfl ?_)
  show wpAny _ _ (field (.ref z) 3 >>= _) _ _ _
  refine wpAny_bind (wpAny_field hz rfl (x := .ref TI) rfl (wpAny_bind (wpAny_seqItems hTI rfl ?_)))
  show wpAny _ _ (Builtin.SmallTypes.ownedTupleIsFree (.ref z) >>= _) _ _ _
  refine wpAny_bind ?_
  unfold Builtin.SmallTypes.ownedTupleIsFree
  refine wpAny_bind (wpAny_field hz rfl (x := .none) rfl (wpAny_pure ?_))
  simp only [if_true]
  refine wpAny_bind (wpAny_rule (wpAny_bind (wpAny_field hz rfl (x := .ref TO) rfl (wpAny_bind (wpAny_setField_rec hz (by simp) fun g1 z1 b1 => ?_)))))
  replace z1 : IsZip g1 z TI TO .ellipsis := z1
  refine wpAny_bind ?_
  simp only [List.zipIdx_cons, List.zipIdx_nil, List.forIn_cons, List.forIn_nil]
  refine wpAny_bind (wpAny_bind (wpAny_onRaise ?_))
  show wpAny _ _ (Builtin.SmallTypes.nextOf (.ref i1) >>= _) _ _ _
  refine wpAny_bind (sit_item (h1.but b1.extBut D.i1z) (hl1.but b1.extBut D.l1z) hx fun g2 p2 b2 => wpAny_pure ?_)
  have t2 : IsPair g2 TO a b := b2.extBut _ _ D.TOi1 (b1.extBut _ _ D.TOz hTO)
  refine wpAny_bind (wpAny_seqItems t2 rfl (wpAny_bind (wpAny_updateSeq_pair t2 fun g3 t3 b3 => ?_)))
  replace t3 : IsPair g3 TO x b := t3
  refine wpAny_bind (wpAny_letGo (wpAny_pure (wpAny_bind (wpAny_bind (wpAny_onRaise ?_)))))
  show wpAny _ _ (Builtin.SmallTypes.nextOf (.ref i2) >>= _) _ _ _
  refine wpAny_bind (sit_item (((h2.but b1.extBut D.i2z).but b2.extBut D.i12.symm).but b3.extBut D.TOi2.symm) (((hl2.but b1.extBut D.l2z).but b2.extBut D.l2i1).but b3.extBut D.l2TO) hy fun g4 p4 b4 => wpAny_pure ?_)
  have t4 : IsPair g4 TO x b := b4.extBut _ _ D.TOi2 t3
  refine wpAny_bind (wpAny_seqItems t4 rfl (wpAny_bind (wpAny_updateSeq_pair t4 fun g5 t5 b5 => ?_)))
  replace t5 : IsPair g5 TO x y := t5
  refine wpAny_bind (wpAny_letGo (wpAny_pure (wpAny_pure (wpAny_bind (wpAny_seqItems t5 rfl (wpAny_bind (wpAny_newTuple ?_)))))))
  have hsz : g5.objs.size = s.heap.objs.size := by rw [b5.1, b4.1, b3.1, b2.1, b1.1]
  have z5 : IsZip g5 z TI TO .ellipsis := b5.extBut _ _ D.TOz.symm (b4.extBut _ _ D.i2z.symm (b3.extBut _ _ D.TOz.symm (b2.extBut _ _ D.i1z.symm z1)))
  have keep : ∀ c o, c ≠ z → c ≠ TO → c ≠ i1 → c ≠ i2 → s.heap.get? c = some o → g5.get? c = some o := fun c o c1 c2 c3 c4 e =>
    b5.extBut _ _ c2 (b4.extBut _ _ c4 (b3.extBut _ _ c2 (b2.extBut _ _ c3 (b1.extBut _ _ c1 e))))
  have p5 : SIt k1 g5 i1 l1 (n1 + 1) := ((p2.but b3.extBut D.TOi1.symm).but b4.extBut D.i12).but b5.extBut D.TOi1.symm
  have q5 : SIt k2 g5 i2 l2 (n2 + 1) := p4.but b5.extBut D.TOi2.symm
  have zlt : z < g5.objs.size := Heap.lt_size z5
  show wpAny _ _ (Builtin.SmallTypes.ownedTupleHandOut (.ref z) (.ref g5.objs.size) >>= _) _ _ _
  refine wpAny_bind ?_
  unfold Builtin.SmallTypes.ownedTupleHandOut
  have z6 : IsZip (g5.push { cls := .type "tuple", data := .seq #[x, y] }) z TI TO .ellipsis := Heap.get?_push_of_some _ z5
  refine wpAny_bind (wpAny_setField_rec z6 (by simp) fun g7 z7 b7 => ?_)
  replace z7 : IsZip g7 z TI TO (rawInt g5.objs.size) := z7
  refine wpAny_setField_rec z7 (by simp) fun g8 z8 b8 => wpAny_pure ⟨_, rfl, ?_⟩
  replace z8 : IsZip g8 z TI TO (rawInt g5.objs.size) := z8
  have up : ∀ c o, c ≠ z → g5.get? c = some o → g8.get? c = some o := fun c o c1 e => b8.extBut _ _ c1 (b7.extBut _ _ c1 (Heap.get?_push_of_some _ e))
  have t8 : IsPair g8 g5.objs.size x y := b8.extBut _ _ (Nat.ne_of_gt zlt) (b7.extBut _ _ (Nat.ne_of_gt zlt) (Heap.get?_push_size _ rfl))
  show Q (.ref g5.objs.size) _
  rw [hsz] at z8 t8
  rw [hsz]
  exact hQ g8 z8 (up _ _ D.TOz t5) (p5.at fun o e => up _ o D.i1z e) (q5.at fun o e => up _ o D.i2z e) t8 fun c o c1 c2 c3 c4 e => up c o c1 (keep c o c1 c2 c3 c4 e)
theorem zs_end {z TI TO i1 i2 : Addr} {k1 k2 : Bool} {n1 n2 : Nat} {l1 l2 : Addr} {xs ys : Array Value} {a b : Value} {Q : Fin → Shared → Prop} (hh : A.handled = none) (D : ZipApart z TI TO i1 i2 l1 l2)
    (hz : IsZip s.heap z TI TO .none) (hTI : IsPair s.heap TI (.ref i1) (.ref i2)) (hTO : IsPair s.heap TO a b) (h1 : SIt k1 s.heap i1 l1 n1) (h2 : SIt k2 s.heap i2 l2 n2) (hl1 : SAt k1 s.heap l1 xs) (hl2 : SAt k2 s.heap l2 ys) (hend : xs[n1]? = none ∨ ys[n2]? = none)
    (hE : ∀ h' e, (∀ c o, c ≠ z → c ≠ TO → c ≠ i1 → c ≠ i2 → s.heap.get? c = some o → h'.get? c = some o) → (∃ o, h'.get? e = some o ∧ o.cls = .type "StopIteration") → E (.ref e) { s with heap := h' }) :
    wpAny (model prog w) A (Builtin.«zip.__next__» ⟨[.ref z], []⟩) Q E s := by
  show wpAny _ _ (field (.ref z) 2 >>= _) _ _ _
  refine wpAny_bind (wpAny_field hz rfl (x := .bool false) rfl ?_)
  show wpAny _ _ (field (.ref z) 3 >>= _) _ _ _
  refine wpAny_bind (wpAny_field hz rfl (x := .ref TI) rfl (wpAny_bind (wpAny_seqItems hTI rfl ?_)))
  show wpAny _ _ (Builtin.SmallTypes.ownedTupleIsFree (.ref z) >>= _) _ _ _
  refine wpAny_bind ?_
  unfold Builtin.SmallTypes.ownedTupleIsFree
  refine wpAny_bind (wpAny_field hz rfl (x := .none) rfl (wpAny_pure ?_))
  simp only [if_true]
  refine wpAny_bind (wpAny_rule (wpAny_bind (wpAny_field hz rfl (x := .ref TO) rfl (wpAny_bind (wpAny_setField_rec hz (by simp) fun g1 z1 b1 => ?_)))))
  replace z1 : IsZip g1 z TI TO .ellipsis := z1
  refine wpAny_bind ?_
  simp only [List.zipIdx_cons, List.zipIdx_nil, List.forIn_cons, List.forIn_nil]
  refine wpAny_bind (wpAny_bind (wpAny_onRaise ?_))
  show wpAny _ _ (Builtin.SmallTypes.nextOf (.ref i1) >>= _) _ _ _
  have last : ∀ (g : Heap) (e : Addr), IsZip g z TI TO .ellipsis → (∃ o, g.get? e = some o ∧ o.cls = .type "StopIteration") → e ≠ z := fun g e hz he x => by
    obtain ⟨o, ho, hc⟩ := he
    subst x
    rw [hz] at ho
    cases ho
    simp at hc
  cases hx : xs[n1]? with
  | none =>
    refine wpAny_bind (sit_end hh (h1.but b1.extBut D.i1z) (hl1.but b1.extBut D.l1z) hx fun g2 e b2 he => ?_)
    have z2 : IsZip g2 z TI TO .ellipsis := b2 _ _ D.i1z.symm z1
    have ne := last g2 e z2 he
    obtain ⟨o, ho, hc⟩ := he
    exact wpAny_setField_rec z2 (by simp) fun g3 _ b3 => hE g3 e (fun c o c1 _ c3 _ x => b3.extBut _ _ c1 (b2 _ _ c3 (b1.extBut _ _ c1 x))) ⟨o, b3.extBut _ _ ne ho, hc⟩
  | some x =>
    have hy : ys[n2]? = none := by
      rcases hend with h | h
      · rw [hx] at h; cases h
      · exact h
    refine wpAny_bind (sit_item (h1.but b1.extBut D.i1z) (hl1.but b1.extBut D.l1z) hx fun g2 p2 b2 => wpAny_pure ?_)
    have t2 : IsPair g2 TO a b := b2.extBut _ _ D.TOi1 (b1.extBut _ _ D.TOz hTO)
    refine wpAny_bind (wpAny_seqItems t2 rfl (wpAny_bind (wpAny_updateSeq_pair t2 fun g3 t3 b3 => ?_)))
    refine wpAny_bind (wpAny_letGo (wpAny_pure (wpAny_bind (wpAny_bind (wpAny_onRaise ?_)))))
    show wpAny _ _ (Builtin.SmallTypes.nextOf (.ref i2) >>= _) _ _ _
    refine wpAny_bind (sit_end hh (((h2.but b1.extBut D.i2z).but b2.extBut D.i12.symm).but b3.extBut D.TOi2.symm) (((hl2.but b1.extBut D.l2z).but b2.extBut D.l2i1).but b3.extBut D.l2TO) hy fun g4 e b4 he => ?_)
    have z4 : IsZip g4 z TI TO .ellipsis := b4 _ _ D.i2z.symm (b3.extBut _ _ D.TOz.symm (b2.extBut _ _ D.i1z.symm z1))
    have ne := last g4 e z4 he
    obtain ⟨o, ho, hc⟩ := he
    exact wpAny_setField_rec z4 (by simp) fun g5 _ b5 => hE g5 e (fun c o c1 c2 c3 c4 x => b5.extBut _ _ c1 (b4 _ _ c4 (b3.extBut _ _ c2 (b2.extBut _ _ c3 (b1.extBut _ _ c1 x))))) ⟨o, b5.extBut _ _ ne ho, hc⟩
theorem zs_next {z TI TO i1 i2 : Addr} {k1 k2 : Bool} {n1 n2 : Nat} {l1 l2 : Addr} {xs ys : Array Value} {x y a b : Value} {Q : Option Value → Shared → Prop} (D : ZipApart z TI TO i1 i2 l1 l2)
    (hz : IsZip s.heap z TI TO .none) (hTI : IsPair s.heap TI (.ref i1) (.ref i2)) (hTO : IsPair s.heap TO a b) (h1 : SIt k1 s.heap i1 l1 n1) (h2 : SIt k2 s.heap i2 l2 n2) (hl1 : SAt k1 s.heap l1 xs) (hl2 : SAt k2 s.heap l2 ys) (hx : xs[n1]? = some x) (hy : ys[n2]? = some y)
    (hQ : ∀ h', IsZip h' z TI TO (rawInt s.heap.objs.size) → IsPair h' TO x y → SIt k1 h' i1 l1 (n1 + 1) → SIt k2 h' i2 l2 (n2 + 1) → IsPair h' s.heap.objs.size x y →
      (∀ c o, c ≠ z → c ≠ TO → c ≠ i1 → c ≠ i2 → s.heap.get? c = some o → h'.get? c = some o) → Q (some (.ref s.heap.objs.size)) { s with heap := h' }) :
    wpAny (model prog w) A (pyNext (.ref z)) Q E s := by
  have hT : s.TypeIs (.ref z) "zip" := ⟨_, hz, rfl⟩
  unfold pyNext
  exact wpAny_bind (wpAny_attempt (wpAny_callSpecial?_slot (name := Str.ofString "__next__") hT F.slot_zip_next
    (wpAny_call_entry F.slot_zip_next hT F.entry_zip_next (zs_head D hz hTI hTO h1 h2 hl1 hl2 hx hy fun h' a1 a2 a3 a4 a5 a6 => wpAny_pure (hQ h' a1 a2 a3 a4 a5 a6)) (F.args_zip_next_1 _))))
theorem zs_stop {z TI TO i1 i2 : Addr} {k1 k2 : Bool} {n1 n2 : Nat} {l1 l2 : Addr} {xs ys : Array Value} {a b : Value} {Q : Option Value → Shared → Prop} (hh : A.handled = none) (D : ZipApart z TI TO i1 i2 l1 l2)
    (hz : IsZip s.heap z TI TO .none) (hTI : IsPair s.heap TI (.ref i1) (.ref i2)) (hTO : IsPair s.heap TO a b) (h1 : SIt k1 s.heap i1 l1 n1) (h2 : SIt k2 s.heap i2 l2 n2) (hl1 : SAt k1 s.heap l1 xs) (hl2 : SAt k2 s.heap l2 ys) (hend : xs[n1]? = none ∨ ys[n2]? = none)
    (hQ : ∀ h', (∀ c o, c ≠ z → c ≠ TO → c ≠ i1 → c ≠ i2 → s.heap.get? c = some o → h'.get? c = some o) → Q none { s with heap := h' }) : wpAny (model prog w) A (pyNext (.ref z)) Q E s := by
  have hT : s.TypeIs (.ref z) "zip" := ⟨_, hz, rfl⟩
  unfold pyNext
  refine wpAny_bind (wpAny_attempt (wpAny_callSpecial?_slot (name := Str.ofString "__next__") hT F.slot_zip_next
    (wpAny_call_entry F.slot_zip_next hT F.entry_zip_next (zs_end hh D hz hTI hTO h1 h2 hl1 hl2 hend fun h' e hk he => ?_) (F.args_zip_next_1 _))))
  obtain ⟨o, ho, hc⟩ := he
  exact wpAny_bind (wpAny_isInstance (T := "StopIteration") (b := true) ⟨o, ho, hc⟩ isSubtype_stop (wpAny_pure (hQ _ hk)))
end
/-! ### the new object -/
def itObj (k : Bool) (l : Addr) : Obj := { cls := .type (if k = true then "list_iterator" else "tuple_iterator"), data := .fields #[.ref l, .int 0 0] }
abbrev zsH1 (k1 : Bool) (h : Heap) (l1 : Addr) : Heap := h.push (itObj k1 l1)
abbrev zsH2 (k1 k2 : Bool) (h : Heap) (l1 l2 : Addr) : Heap := (zsH1 k1 h l1).push (itObj k2 l2)
abbrev zsH3 (k1 k2 : Bool) (h : Heap) (l1 l2 : Addr) : Heap := (zsH2 k1 k2 h l1 l2).push { cls := .type "tuple", data := .seq #[.ref h.objs.size, .ref (zsH1 k1 h l1).objs.size] }
abbrev zsH4 (k1 k2 : Bool) (h : Heap) (l1 l2 : Addr) : Heap := (zsH3 k1 k2 h l1 l2).push { cls := .type "tuple", data := .seq #[.none, .none] }
abbrev zsH5 (k1 k2 : Bool) (h : Heap) (l1 l2 : Addr) : Heap := (zsH4 k1 k2 h l1 l2).push { cls := .type "zip", data := .fields #[.none, .bool false, .bool false, .ref (zsH2 k1 k2 h l1 l2).objs.size, .ref (zsH3 k1 k2 h l1 l2).objs.size] }
theorem meets_zs (k1 k2 : Bool) (l1 l2 : Addr) (xs ys : Array Value) :
    Meets (Builtin.«zip.__new__» ⟨[.type "zip", .ref l1, .ref l2], []⟩) (fun _ R s => SAt k1 s.heap l1 xs ∧ SAt k2 s.heap l2 ys ∧ R (.ok (.ret (.ref (zsH4 k1 k2 s.heap l1 l2).objs.size))) { s with heap := zsH5 k1 k2 s.heap l1 l2 }) :=
  .of_wp fun prog w A R s h => by
    obtain ⟨hp, g, d, tk, os⟩ := s; obtain ⟨hl1, hl2, h⟩ := h
    have hsub := sub_zip
    cases k1 <;> cases k2
    · have hL1 : Heap.IsTuple (Shared.heap ⟨hp, g, d, tk, os⟩) l1 xs := hl1
      have hL2 : Heap.IsTuple (Shared.heap ⟨hp.push { cls := .type "tuple_iterator", data := .fields #[.ref l1, .int 0 0] }, g, d, tk, os⟩) l2 ys := Heap.IsTuple.push hl2 _
      wp_walk using wpAny_pyIter_tuple hL1, wpAny_pyIter_tuple hL2
      exact ⟨_, rfl, h⟩
    · have hL1 : Heap.IsTuple (Shared.heap ⟨hp, g, d, tk, os⟩) l1 xs := hl1
      have hL2 : Heap.IsList (Shared.heap ⟨hp.push { cls := .type "tuple_iterator", data := .fields #[.ref l1, .int 0 0] }, g, d, tk, os⟩) l2 ys := Heap.IsList.push hl2 _
      wp_walk using wpAny_pyIter_tuple hL1, wpAny_pyIter_list hL2
      exact ⟨_, rfl, h⟩
    · have hL1 : Heap.IsList (Shared.heap ⟨hp, g, d, tk, os⟩) l1 xs := hl1
      have hL2 : Heap.IsTuple (Shared.heap ⟨hp.push { cls := .type "list_iterator", data := .fields #[.ref l1, .int 0 0] }, g, d, tk, os⟩) l2 ys := Heap.IsTuple.push hl2 _
      wp_walk using wpAny_pyIter_list hL1, wpAny_pyIter_tuple hL2
      exact ⟨_, rfl, h⟩
    · have hL1 : Heap.IsList (Shared.heap ⟨hp, g, d, tk, os⟩) l1 xs := hl1
      have hL2 : Heap.IsList (Shared.heap ⟨hp.push { cls := .type "list_iterator", data := .fields #[.ref l1, .int 0 0] }, g, d, tk, os⟩) l2 ys := Heap.IsList.push hl2 _
      wp_walk using wpAny_pyIter_list hL1, wpAny_pyIter_list hL2
      exact ⟨_, rfl, h⟩
section
variable {prog : Program} {w : World} {A : Around} {E : Value → Shared → Prop} {s : Shared}
theorem sit_new {k : Bool} {h : Heap} {a l : Addr} (e : h.get? a = some (itObj k l)) : SIt k h a l 0 := by
  cases k
  all_goals exact ⟨_, e, rfl, rfl⟩
theorem call_zs {k1 k2 : Bool} {l1 l2 : Addr} {xs ys : Array Value} {Q : Value → Shared → Prop} (hl1 : SAt k1 s.heap l1 xs) (hl2 : SAt k2 s.heap l2 ys)
    (h : ∀ h', IsZip h' (s.heap.objs.size + 4) (s.heap.objs.size + 2) (s.heap.objs.size + 3) .none → IsPair h' (s.heap.objs.size + 2) (.ref s.heap.objs.size) (.ref (s.heap.objs.size + 1)) → IsPair h' (s.heap.objs.size + 3) .none .none →
      SIt k1 h' s.heap.objs.size l1 0 → SIt k2 h' (s.heap.objs.size + 1) l2 0 → (∀ c o, s.heap.get? c = some o → h'.get? c = some o) → Q (.ref (s.heap.objs.size + 4)) { s with heap := h' }) :
    wpAny (model prog w) A (call (.type "zip") [.ref l1, .ref l2]) Q E s := by
  refine callType_new F.called_zip (by decide) (F.typeCall_zip_2 _ _) (F.newCall_zip_2 _ _) (fun obj => F.args_object_init_3 obj _ _) F.entry_zip_new (meets_zs k1 k2 l1 l2 xs ys) ⟨hl1, hl2, ?_⟩
  have z1 : (zsH1 k1 s.heap l1).objs.size = s.heap.objs.size + 1 := Heap.size_push ..
  have z2 : (zsH2 k1 k2 s.heap l1 l2).objs.size = s.heap.objs.size + 2 := by rw [Heap.size_push, z1]
  have z3 : (zsH3 k1 k2 s.heap l1 l2).objs.size = s.heap.objs.size + 3 := by rw [Heap.size_push, z2]
  have z4 : (zsH4 k1 k2 s.heap l1 l2).objs.size = s.heap.objs.size + 4 := by rw [Heap.size_push, z3]
  have fr : ∀ (k : Bool) (l : Addr), (itObj k l).isFreed = false := fun k l => by cases k <;> rfl
  have g5 : (zsH5 k1 k2 s.heap l1 l2).get? (zsH4 k1 k2 s.heap l1 l2).objs.size = some _ := Heap.get?_push_size _ rfl
  have g4 : (zsH5 k1 k2 s.heap l1 l2).get? (zsH3 k1 k2 s.heap l1 l2).objs.size = some _ := Heap.get?_push_of_some _ (Heap.get?_push_size _ rfl)
  have g3 : (zsH5 k1 k2 s.heap l1 l2).get? (zsH2 k1 k2 s.heap l1 l2).objs.size = some _ := Heap.get?_push_of_some _ (Heap.get?_push_of_some _ (Heap.get?_push_size _ rfl))
  have g2 : (zsH5 k1 k2 s.heap l1 l2).get? (zsH1 k1 s.heap l1).objs.size = some _ := Heap.get?_push_of_some _ (Heap.get?_push_of_some _ (Heap.get?_push_of_some _ (Heap.get?_push_size _ (fr k2 l2))))
  have g1 : (zsH5 k1 k2 s.heap l1 l2).get? s.heap.objs.size = some _ := Heap.get?_push_of_some _ (Heap.get?_push_of_some _ (Heap.get?_push_of_some _ (Heap.get?_push_of_some _ (Heap.get?_push_size _ (fr k1 l1)))))
  show _ ∧ _
  rw [z2, z3, z4] at g5
  rw [z1, z2] at g3
  rw [z3] at g4
  rw [z1] at g2
  rw [z4]
  exact ⟨⟨_, g5, rfl⟩, h _ g5 g3 g4 (sit_new g1) (sit_new g2) fun c o x =>
    Heap.get?_push_of_some _ (Heap.get?_push_of_some _ (Heap.get?_push_of_some _ (Heap.get?_push_of_some _ (Heap.get?_push_of_some _ x))))⟩
end
/-! ### the turns -/
def ItzS (K : PySem.W.Frag) (k1 k2 : Bool) (a b : Addr) : It :=
  ⟨fun i H => ∃ (xs ys : List V) (x y : V), SqX K k1 H a xs ∧ SqX K k2 H b ys ∧ xs[i]? = some x ∧ ys[i]? = some y,
    fun i H v H' => ∃ T x y, v = .ref T ∧ H T = none ∧ H' = upd H T (.tup [x, y]) ∧ (∀ xs, SqX K k1 H a xs → xs[i]? = some x) ∧ ∀ ys, SqX K k2 H b ys → ys[i]? = some y,
    fun i H => ∃ xs ys : List V, SqX K k1 H a xs ∧ SqX K k2 H b ys ∧ (xs.length ≤ i ∨ ys.length ≤ i)⟩
theorem sqx_at {X : Cx} {pins : List (Addr × Obj)} {σ : L2.St} {H : Hp} {s : Shared} (I : Inv X pins σ H s) {k : Bool} {a : Addr} {xs : List V} (h : SqX X.K k H a xs) : ∃ its, Vals xs its ∧ SAt k s.heap a its.toArray := by
  cases k
  · obtain ⟨its, rv, p, _⟩ := I.tuple (show SqT X.K H a xs from h)
    exact ⟨its, rv, p⟩
  · obtain ⟨its, rv, p, _⟩ := I.list (show SqL X.K H a xs from h)
    exact ⟨its, rv, p.isList⟩
theorem sqx_inj {X : Cx} {pins : List (Addr × Obj)} {σ : L2.St} {H : Hp} {s : Shared} (I : Inv X pins σ H s) {k : Bool} {a : Addr} {xs ys : List V} (h : SqX X.K k H a xs) (h' : SqX X.K k H a ys) : xs = ys := by
  cases k
  · exact I.tuple_inj (show SqT X.K H a xs from h) h'
  · exact I.list_inj (show SqL X.K H a xs from h) h'
theorem turn_zs {P : Program} {w : World} {K : PySem.W.Frag} {elts : List Expr} {kk : Nat} {tpos : Pos} {k1 k2 : Bool} {a b z TI TO i1 i2 : Addr} (D : ZipApart z TI TO i1 i2 a b) :
    Turn P w K (.Tuple elts kk tpos) (ItzS K k1 k2 a b) [z, TI, TO, i1, i2] z (fun i h => IsZip h z TI TO .none ∧ IsPair h TI (.ref i1) (.ref i2) ∧ (∃ x y, IsPair h TO x y) ∧ SIt k1 h i1 a i ∧ SIt k2 h i2 b i) where
  mem := by simp
  obj := fun i h st c hc => by
    obtain ⟨hz, hTI, ⟨x, y, hTO⟩, h1, h2⟩ := st
    obtain ⟨o1, e1, _, d1⟩ := h1.obj
    obtain ⟨o2, e2, _, d2⟩ := h2.obj
    have e' : c = z ∨ c = TI ∨ c = TO ∨ c = i1 ∨ c = i2 := by simpa using hc
    rcases e' with q | q | q | q | q
    · rw [q]; exact ⟨_, hz, fun v q => nomatch q⟩
    · rw [q]; exact ⟨_, hTI, fun v q => nomatch q⟩
    · rw [q]; exact ⟨_, hTO, fun v q => nomatch q⟩
    · rw [q]; exact ⟨o1, e1, fun v q => by rw [d1] at q; cases q⟩
    · rw [q]; exact ⟨o2, e2, fun v q => by rw [d2] at q; cases q⟩
  keep := fun i h h' st k => by
    obtain ⟨hz, hTI, ⟨x, y, hTO⟩, h1, h2⟩ := st
    exact ⟨k z (by simp) _ hz, k TI (by simp) _ hTI, ⟨x, y, k TO (by simp) _ hTO⟩, h1.at fun o q => k i1 (by simp) o q, h2.at fun o q => k i2 (by simp) o q⟩
  item := by
    intro X hP hw hK hc i pins s σ H E I hf st hg
    subst hP hw hK
    obtain ⟨hz, hTI, ⟨x0, y0, hTO⟩, h1, h2⟩ := st
    obtain ⟨xs, ys, x, y, hqx, hqy, hx, hy⟩ := hg
    obtain ⟨its, rv, p⟩ := sqx_at I hqx
    obtain ⟨its2, rv2, p2⟩ := sqx_at I hqy
    obtain ⟨u, hu, ru⟩ := rv.get hx
    obtain ⟨u2, hu2, ru2⟩ := rv2.get hy
    have zlt : z < s.heap.objs.size := Heap.lt_size hz
    refine zs_next D hz hTI hTO h1 h2 p p2 (x := u) (y := u2) (by simpa using hu) (by simpa using hu2) fun h' z' TO' h1' h2' hT hk => ?_
    refine ⟨_, rfl, wpAny_letOwnedTupleGo_zip (s := { s with heap := h' }) z' fun h'' z'' sb => ?_⟩
    have hT2 : h''.get? s.heap.objs.size = some { cls := .type "tuple", data := .seq #[u, u2] } := (sb.2 _ (Nat.ne_of_gt zlt)).trans hT
    have new : ObjOk X.prog X.w (upd H s.heap.objs.size (.tup [x, y])) h'' s.heap.objs.size (.tup [x, y]) :=
      ⟨by show 2 ≤ sizeLine; decide, [u, u2], .cons ru (.cons ru2 .nil), ⟨_, hT2, rfl, _, rfl⟩⟩
    have I1 : Inv X pins σ (upd H s.heap.objs.size (.tup [x, y])) { s with heap := h'' } :=
      I.turnedNew (t' := s.toks) (ch := [z, TI, TO, i1, i2]) (fun c o hb q => (sb.2 c (fun q' => hb (by simp [q']))).trans (hk c o (fun q' => hb (by simp [q'])) (fun q' => hb (by simp [q'])) (fun q' => hb (by simp [q'])) (fun q' => hb (by simp [q'])) q)) hf (Nat.le_refl _) new
    refine ⟨.ref s.heap.objs.size, _, I1, rfl, ⟨_, x, y, rfl, I.hok.fresh (Nat.le_refl _), rfl, fun l hl => by rw [sqx_inj I hl hqx]; exact hx, fun l hl => by rw [sqx_inj I hl hqy]; exact hy⟩, ⟨z'', ?_, ⟨u, u2, ?_⟩, ?_, ?_⟩, fun c hcm => ?_⟩
    · exact (sb.2 _ D.TIz).trans (hk _ _ D.TIz D.TITO D.TIi1 D.TIi2 hTI)
    · exact (sb.2 _ D.TOz).trans TO'
    · exact h1'.at fun o q => (sb.2 _ D.i1z).trans q
    · exact h2'.at fun o q => (sb.2 _ D.i2z).trans q
    · have hlt : c < s.heap.objs.size := by
        have e' : c = z ∨ c = TI ∨ c = TO ∨ c = i1 ∨ c = i2 := by simpa using hcm
        rcases e' with q | q | q | q | q
        · rw [q]; exact zlt
        · rw [q]; exact Heap.lt_size hTI
        · rw [q]; exact Heap.lt_size hTO
        · rw [q]; obtain ⟨_, e1, _⟩ := h1.obj; exact Heap.lt_size e1
        · rw [q]; obtain ⟨_, e2, _⟩ := h2.obj; exact Heap.lt_size e2
      rw [upd_ne (Nat.ne_of_lt hlt)]
      exact (hf c hcm).1
  done := by
    intro X hP hw hK hc i pins s σ H E I hf st hg
    subst hP hw hK
    obtain ⟨hz, hTI, ⟨x0, y0, hTO⟩, h1, h2⟩ := st
    obtain ⟨xs, ys, hqx, hqy, hend⟩ := hg
    obtain ⟨its, rv, p⟩ := sqx_at I hqx
    obtain ⟨its2, rv2, p2⟩ := sqx_at I hqy
    have l1 := rv.length
    have l2 := rv2.length
    have he : its.toArray[i]? = none ∨ its2.toArray[i]? = none := by
      rcases hend with q | q
      · exact .inl (by simp; omega)
      · exact .inr (by simp; omega)
    exact zs_stop (I.ok.hd hc) D hz hTI hTO h1 h2 p p2 he fun h' hk => ⟨rfl, I.turnedL (t' := s.toks) (ch := [z, TI, TO, i1, i2]) (fun c o hb q =>
      hk c o (fun q' => hb (by simp [q'])) (fun q' => hb (by simp [q'])) (fun q' => hb (by simp [q'])) (fun q' => hb (by simp [q'])) q) hf⟩
  self := fun A i s Q E st h => wpAny_pyIter_zip st.1 h
def iZs (K : PySem.W.Frag) (ta tb : TE) : TI := fun σ H R => ta σ H fun v H1 => tb σ H1 fun u H2 => ∃ (k1 k2 : Bool) (a b : Addr) (xs ys : List V), [v, u] = [.ref a, .ref b] ∧ SqX K k1 H2 a xs ∧ SqX K k2 H2 b ys ∧ R (ItzS K k1 k2 a b) H2
theorem pi_zs {X : Cx} {e e2 : Expr} {ta tb : TE} {p pos tpos : Pos} {elts : List Expr} {kk : Nat} (hg : Gl X "zip") (hm : X.mg "zip" = none) (ha : PE X e ta) (hb : PE X e2 tb)
    (hs : starEach [e, e2] X.env = (false, eval e X.env) :: starEach [e2] X.env) (hs2 : starEach [e2] X.env = (false, eval e2 X.env) :: starEach [] X.env) :
    PI X (.Tuple elts kk tpos) (.Call (.Name "zip" p) [e, e2] [] pos) (iZs X.K ta tb) := by
  have hpl : (backTo pos (starEach [e2] X.env)).any (·.1) = false := by rw [hs2]; rfl
  have hA : PA X [e, e2] (tCons ta (tCons tb tNil)) := pa_cons ha (pa_cons hb pa_nil hs2) hs
  refine ⟨fun pins s σ H R I h => ?_⟩
  have h' : tCons ta (tCons tb tNil) σ H fun vs H2 => ∃ (k1 k2 : Bool) (a b : Addr) (xs ys : List V), vs = [.ref a, .ref b] ∧ SqX X.K k1 H2 a xs ∧ SqX X.K k2 H2 b ys ∧ R (ItzS X.K k1 k2 a b) H2 := h
  refine Call_ (ld_blt I hg hm PyProof.Rows.boot_zip (PyProof.Rows.callWith_type1 (thn (hA.run pos pins s σ H _ I h') fun us s1 ⟨vs, H1, I1, r1, q1⟩ => ?_) hs hpl))
  obtain ⟨k1, k2, a, b, xs, ys, ex, hqx, hqy, q⟩ := q1
  subst ex
  cases r1 with
  | cons r rr =>
    cases rr with
    | cons r' rr =>
      cases rr
      cases r
      cases r'
      have fresh5 : ∀ c, c ∈ [s1.heap.objs.size + 4, s1.heap.objs.size + 2, s1.heap.objs.size + 3, s1.heap.objs.size, s1.heap.objs.size + 1] → FpOk X pins H1 c := fun c hcm => by
        have e' : c = s1.heap.objs.size + 4 ∨ c = s1.heap.objs.size + 2 ∨ c = s1.heap.objs.size + 3 ∨ c = s1.heap.objs.size ∨ c = s1.heap.objs.size + 1 := by simpa using hcm
        have hle : s1.heap.objs.size ≤ c := by
          rcases e' with z | z | z | z | z <;> rw [z] <;> first | exact Nat.le_add_right _ _ | exact Nat.le_refl _
        exact I1.fpOk hle (I1.hok.fresh hle)
      obtain ⟨its, rv, p1⟩ := sqx_at I1 hqx
      obtain ⟨its2, rv2, p2⟩ := sqx_at I1 hqy
      refine call_zs p1 p2 fun h' hz hTI hTO h1 h2 hk => wpAny_pyIter_zip hz ?_
      have I2 : Inv X pins σ H1 { s1 with heap := h' } := I1.kept (t' := s1.toks) hk
      exact ⟨s1.heap.objs.size + 4, [s1.heap.objs.size + 4, s1.heap.objs.size + 2, s1.heap.objs.size + 3, s1.heap.objs.size, s1.heap.objs.size + 1], _, _, H1, rfl, I2, turn_zs (PySem.W.ktu_apart s1.heap.objs.size a b p1.lt p2.lt), ⟨hz, hTI, ⟨_, _, hTO⟩, h1, h2⟩, fresh5, q⟩
/-! ### as a rule -/
def zipIV (s1 s2 : Src) : IVal := fun i st => match s1.get st, s2.get st with
  | some ds, some es => some (match ds[i]?, es[i]? with
    | some d, some e => some (.tuple [d, e])
    | _, _ => none)
  | _, _ => none
def zipI (fa fb : EvR) : EvI := fun s => (fa s).bind fun p => (fb ⟨s.env, p.2⟩).bind fun q => match p.1.get q.2, q.1.get q.2 with
  | some _, some _ => .ok (zipIV p.1 q.1, q.2)
  | _, _ => .stuck
section
variable {X : Cx} {c : Cfg} {W : WX} {B as : List Addr} {σ : L2.St} {H H1 H2 : Hp} {s : S} {e e2 : Expr} {elts : List Expr} {kk : Nat} {p pos tpos : Pos} {fa fb : EvR}
theorem SrcOk.later {K : PySem.W.Frag} {src : Src} {v : V} (h : SrcOk K c B as H1 src v) (ev : Evo as H1 H2) (sr : SR K c B as H2 σ s) : SrcOk K c B as H2 src v := by
  obtain ⟨a, rfl, h⟩ := h
  refine ⟨a, rfl, fun B' H σ s ds hB e sr' eg => h B' H σ s ds (fun x hx => ?_) (ev.trans' e) sr' eg⟩
  rcases hB x hx with z | z
  · exact .inl z
  · rcases ev.free z with q | q
    · obtain ⟨u, q2, _⟩ := sr.there q
      rw [z] at q2; cases q2
    · exact .inr q
theorem wd_zip {K : PySem.W.Frag} {s1 s2 : Src} {a b : Addr} (h1 : SrcOk K c B as H s1 (.ref a)) (h2 : SrcOk K c B as H s2 (.ref b)) : WD K c B as H (ItzS K s1.lst s2.lst a b) (zipIV s1 s2) := by
  obtain ⟨a', e1, h1⟩ := h1
  obtain ⟨b', e2, h2⟩ := h2
  cases e1
  cases e2
  refine ⟨fun B' i H' σ s d hB ev sr e => ?_, fun B' i H' σ s hB ev sr e => ?_⟩
  · unfold zipIV at e
    split at e
    · rename_i ds es g1 g2
      obtain ⟨xs, q1, r1⟩ := h1 B' H' σ s ds hB ev sr g1
      obtain ⟨ys, q2, r2⟩ := h2 B' H' σ s es hB ev sr g2
      simp only [Option.some.injEq] at e
      split at e
      · rename_i d1 d2 i1 i2
        simp only [Option.some.injEq] at e
        subst e
        obtain ⟨x, hx, rx⟩ := r1.get i1
        obtain ⟨y, hy, ry⟩ := r2.get i2
        refine ⟨⟨xs, ys, x, y, q1, q2, hx, hy⟩, fun v H2 yl => ?_⟩
        obtain ⟨T, x', y', rfl, hT, rfl, t1, t2⟩ := yl
        have z1 := t1 xs q1
        have z2 := t2 ys q2
        rw [hx] at z1
        rw [hy] at z2
        cases z1
        cases z2
        exact ⟨Evo.new hT, Rep.newTup (.cons rx (.cons ry .nil)) hT (sr.notnew hT)⟩
      · cases e
    · cases e
  · unfold zipIV at e
    split at e
    · rename_i ds es g1 g2
      obtain ⟨xs, q1, r1⟩ := h1 B' H' σ s ds hB ev sr g1
      obtain ⟨ys, q2, r2⟩ := h2 B' H' σ s es hB ev sr g2
      refine ⟨xs, ys, q1, q2, ?_⟩
      simp only [Option.some.injEq] at e
      split at e
      · cases e
      · rename_i hno
        cases i1 : ds[i]? with
        | none => exact .inl (by rw [r1.length]; exact List.getElem?_eq_none_iff.mp i1)
        | some d1 =>
          cases i2 : es[i]? with
          | none => exact .inr (by rw [r2.length]; exact List.getElem?_eq_none_iff.mp i2)
          | some d2 => exact absurd i2 (hno d1 d2 i1)
    · cases e
theorem di_zip (hg : Gl X "zip") (hm : X.mg "zip" = none) (ha : DR X c W e fa) (hb : DR X c W e2 fb)
    (hs : starEach [e, e2] X.env = (false, eval e X.env) :: starEach [e2] X.env) (hs2 : starEach [e2] X.env = (false, eval e2 X.env) :: starEach [] X.env) :
    DI X c W (.Tuple elts kk tpos) (.Call (.Name "zip" p) [e, e2] [] pos) (zipI fa fb) := by
  obtain ⟨ta, pa, ra⟩ := ha
  obtain ⟨tb, pb, rb⟩ := hb
  refine ⟨_, pi_zs hg hm pa pb hs hs2, fun B as σ H s R sr hw => ?_⟩
  show ta σ H _
  refine WantsG.bind (qa := false) (qb := false) (s := s) hw sr ra fun v H1 s1 st1 e1 ev1 sr1 ok1 hw1 => ?_
  refine WantsG.bind (qa := false) (qb := false) (s := ⟨s.env, st1⟩) hw1 sr1 rb fun u H2 s2 st2 e2 ev2 sr2 ok2 hw2 => ?_
  have k1 := SrcOk.later ok1 ev2 sr2
  simp only at hw2
  split at hw2
  · rename_i ds es g1 g2
    obtain ⟨a, rfl, h1⟩ := id k1
    obtain ⟨b, rfl, h2⟩ := id ok2
    obtain ⟨xs, q1, _⟩ := h1 B H2 σ _ ds (fun _ z => .inl z) Evo.refl sr2 g1
    obtain ⟨ys, q2, _⟩ := h2 B H2 σ _ es (fun _ z => .inl z) Evo.refl sr2 g2
    exact ⟨s1.lst, s2.lst, a, b, xs, ys, rfl, q1, q2, hw2.fin sr2 Evo.refl (wd_zip k1 ok2)⟩
  · exact hw2.elim
end
end DL
end
section
set_option Elab.async false
set_option linter.all false
set_option maxRecDepth 100000
set_option maxHeartbeats 1000000
/-! The data layer, part u: the law's end. -/
namespace DL
open PySem PySem.Spec PyProof.Rows L2 PySem.SeqAt PySem.W GxR
/-! ### constants of the text -/
mutual
def valB (K : PySem.W.Frag) : PyData → Value → Bool
  | .none, .none => true
  | .bool b, .bool c => b == c
  | .int i, .int j _ => decide (i = j)
  | .str x, .str y _ => decide (x = y)
  | .tuple ds, .ref a => match K.lookup a with
    | some ⟨.type c, _, .seq its _, _⟩ => decide (c = "tuple") && (decide (its.size ≤ sizeLine) && valsB K ds its.toList)
    | _ => false
  | _, _ => false
def valsB (K : PySem.W.Frag) : List PyData → List Value → Bool
  | [], [] => true
  | d :: ds, u :: us => valB K d u && valsB K ds us
  | _, _ => false
end
mutual
theorem valB_ok {K : PySem.W.Frag} : ∀ (d : PyData) (u : Value), valB K d u = true → ∃ v, RelV v u ∧ ∀ av H, Rep K av H d v
  | .none, u, h => by
    cases u <;> first | cases h | skip
    exact ⟨.non, rfl, fun av H => by simp [Rep]⟩
  | .bool b, u, h => by
    cases u <;> first | cases h | skip
    rename_i c
    have e : b = c := by simpa [valB] using h
    subst e
    exact ⟨.bl b, rfl, fun av H => by simp [Rep]⟩
  | .int i, u, h => by
    cases u <;> first | cases h | skip
    rename_i j t
    have e : i = j := by simpa [valB] using h
    subst e
    exact ⟨.int i, ⟨t, rfl⟩, fun av H => by simp [Rep]⟩
  | .str x, u, h => by
    cases u <;> first | cases h | skip
    rename_i y t
    have e : x = y := by simpa [valB] using h
    subst e
    exact ⟨.str x, ⟨t, rfl⟩, fun av H => by simp [Rep]⟩
  | .list ds, u, h => by cases u <;> cases h
  | .dict ds, u, h => by cases u <;> cases h
  | .tuple ds, u, h => by
    cases u <;> first | cases h | skip
    rename_i a
    unfold valB at h
    split at h
    · rename_i c od its n sl lk
      simp only [Bool.and_eq_true, decide_eq_true_eq] at h
      obtain ⟨rfl, h2, h3⟩ := h
      obtain ⟨vs, r1, r2⟩ := valsB_ok ds its.toList h3
      exact ⟨.ref a, rfl, fun av H => by
        simp only [Rep]
        exact ⟨a, vs, rfl, .inr ⟨_, its, n, lk, rfl, rfl, h2, r1⟩, r2 av H⟩⟩
    · cases h
theorem valsB_ok {K : PySem.W.Frag} : ∀ (ds : List PyData) (us : List Value), valsB K ds us = true → ∃ vs, Vals vs us ∧ ∀ av H, RepA K av H ds vs
  | [], us, h => by
    cases us <;> first | cases h | skip
    exact ⟨[], .nil, fun av H => .nil⟩
  | d :: ds, us, h => by
    cases us <;> first | cases h | skip
    rename_i u us
    unfold valsB at h
    obtain ⟨h1, h2⟩ := Bool.and_eq_true_iff.mp h
    obtain ⟨v, r1, r2⟩ := valB_ok d u h1
    obtain ⟨vs, r3, r4⟩ := valsB_ok ds us h2
    exact ⟨v :: vs, .cons r1 r3, fun av H => .cons (r2 av H) (r4 av H)⟩
end
def conB (K : PySem.W.Frag) (x : Str) (d : PyData) : Bool := match PySem.W.nsIn K mainGlobals x with
  | some (some u) => valB K d u
  | _ => false
theorem con_ok {K : PySem.W.Frag} {h : Heap} {mg : Str → Option Value} {x : Str} {d : PyData} (X : K.In h) (G : h.Ns mainGlobals mg) (e : conB K x d = true) : Con K mg x d := by
  unfold conB at e
  split at e
  · rename_i u q
    obtain ⟨v, r1, r2⟩ := valB_ok d u e
    exact ⟨v, u, PySem.W.mg_of X G q, r1, r2⟩
  · cases e
/-! ### the defs -/
section
variable {K : PySem.W.Frag} {mg : Str → Option Value} {base h : Heap} {c : Cfg} {x : Str} {st : Stmt} {ps : List Str} {f : Addr} {fd : FuncData}
theorem dfl0 {dV : Value} (h : DflV K dV []) : dV = .none := by
  rcases h with ⟨_, h⟩ | ⟨h, _⟩
  · exact h
  · exact absurd rfl h
theorem def_of (F : FunD K x x (defArgs st) (defBody st) (defScope st) [] [] f fd) (g : mg x = some (.ref f))
    (hb : ∀ (kV doc pm : Value) (an : Option Addr) (cdv ct : Value) (us : List Value), us.length = ps.length → bindArgs (PySem.W.fnOf x x (defArgs st) (defBody st) (defScope st) .none kV doc pm an cdv ct) ⟨us, []⟩ = pure (ps.zip us)) : Def K mg x st ps := by
  have b := FunD.bindsN F hb
  obtain ⟨oc, od, dV, kV, doc, pm, an, cdv, ct, osl, e, lk, hcd, hD, _⟩ := F.ex
  have := dfl0 hD
  subst this
  exact ⟨f, fd, ⟨⟨oc, od, kV, doc, pm, an, cdv, ct, osl, e, lk, hcd⟩, F.kp⟩, g, b⟩
theorem def_ofG {p : Str × Option Str} (F : FunD K x x (defArgs st) (defBody st) (defScope st) [] [] (He.fAd K p) fd) (g : mg x = some (.ref (He.fAd K p)))
    (hb : ∀ (kV doc pm : Value) (an : Option Addr) (cdv ct : Value) (us : List Value), us.length = ps.length → bindArgs (PySem.W.fnOf x x (defArgs st) (defBody st) (defScope st) .none kV doc pm an cdv ct) ⟨us, []⟩ = pure (ps.zip us))
    (tb : TabB base mg (He.cT K p).1 (He.cT K p).2) (hP : (He.cT K p).2 ∈ c.TT) : DefG K mg base c x st ps := by
  have b := FunD.bindsN F hb
  obtain ⟨oc, od, dV, kV, doc, pm, an, cdv, ct, osl, e, lk, hcd, hD, _⟩ := F.ex
  have := dfl0 hD
  subst this
  obtain ⟨cc, rfl⟩ := He.codeIn_ref hcd
  have e2 : (He.cT K p).1 = cc := He.codeOf_eq lk (by rw [e])
  rw [e2] at tb
  exact ⟨_, fd, cc, _, ⟨⟨oc, od, kV, doc, pm, an, ct, osl, e, lk, hcd⟩, F.kp⟩, g, b, tb, hP⟩
theorem fun_of (F : FunD K x x (defArgs st) (defBody st) (defScope st) [] [] f fd) : L2.Fun K x x st f fd := by
  obtain ⟨oc, od, dV, kV, doc, pm, an, cdv, ct, osl, e, lk, hcd, hD, _⟩ := F.ex
  have := dfl0 hD
  subst this
  exact ⟨⟨oc, od, kV, doc, pm, an, cdv, ct, osl, e, lk, hcd⟩, F.kp⟩
end
/-! ### the law -/
theorem law_sp {K : PySem.W.Frag} {c : Cfg} {F : FSem} {n : Nat} {ns : List Int} {H : Hp} {a : Addr} (hn : n = 1) (hF : F [.scr (ns.map .int)] [] = .ok (.bool true, [])) (ht : ∀ P ∈ c.TT, H P = some (.tbl #[])) (hc : c.CC = []) (hS : SqL K H a (ns.map V.int)) :
    spD K c n F [.ref a] H (fun v _ => v = .bl true) fun _ _ _ => False := by
  subst hn
  have tabs : TabsOk c H := ⟨fun P hP => ⟨fun x => x ∈ c.TT, hP, fun Q hQ => ⟨#[], ht Q hQ, trivial, fun pos cv e => by simp [codeAmong] at e⟩⟩, fun p hp => by rw [hc] at hp; cases hp⟩
  refine ⟨[], [], [.scr (ns.map .int)], [], rfl, ⟨rfl, fun i sv h => by simp at h, List.nodup_nil, rfl, fun i o a h => by simp at h, fun a h => by simp at h, tabs⟩, ⟨_, [], rfl, ⟨a, ns.map V.int, rfl, ?_, ints_rep ns⟩, rfl⟩, ?_⟩
  · rcases hS with h | h
    · exact .inl ⟨h, by simp⟩
    · exact .inr h
  · rw [hF]
    intro v H' _ _ r
    simpa [Rep] using r
end DL
end
section
set_option Elab.async false
set_option linter.all false
set_option maxRecDepth 100000
set_option maxHeartbeats 1000000
/-! The data layer, part v: how the readings compute: loops as recursions over lists, equations for simp. -/
namespace DL
open PySem PySem.Spec PyProof.Rows L2 PySem.W
/-! ### loops over what stays the same -/
def forL (g : GS) (body : EvS) (ws : List Nat) : List PyData → S → RS
  | [], s => .ok (.next, s)
  | d :: ds, s => match g d s.env with
    | some e1 => turnS ws s.st.length (forL g body ws ds) (body s.st.length ⟨e1, s.st⟩)
    | none => .stuck
def compL (g : GS) (ft : EvT) (fe : EvD) (env : List (Option SV)) : List PyData → Sto → RC
  | [], st => .ok ([], st)
  | d :: ds, st => match g d env with
    | some e1 => (match ft ⟨e1, st⟩ with
      | .ok (true, st1) => (match fe ⟨e1, st1⟩ with
        | .ok (y, st2) => (compL g ft fe env ds st2).bind fun q => .ok (y :: q.1, q.2)
        | _ => .stuck)
      | .ok (false, st1) => compL g ft fe env ds st1
      | _ => .stuck)
    | none => .stuck
def quantL (stopAt : Bool) (g : GS) (ft : EvT) (fe : EvD) (env : List (Option SV)) : List PyData → Sto → RT
  | [], st => .ok (!stopAt, st)
  | d :: ds, st => match g d env with
    | some e1 => (match ft ⟨e1, st⟩ with
      | .ok (true, st1) => (match fe ⟨e1, st1⟩ with
        | .ok (.bool k, st2) => if k = stopAt then .ok (stopAt, st2) else quantL stopAt g ft fe env ds st2
        | _ => .stuck)
      | .ok (false, st1) => quantL stopAt g ft fe env ds st1
      | _ => .stuck)
    | none => .stuck
/-- the items, one behind another, whatever the store is -/
def Items (iv : IVal) (ds : List PyData) : Prop := ∀ i st, iv i st = some (ds[i]?)
theorem turnS_congr {ws : List Nat} {n : Nat} {k k' : S → RS} {r : RS} (h : ∀ s, k s = k' s) : turnS ws n k r = turnS ws n k' r := by
  have : k = k' := funext h
  rw [this]
theorem turnS_up {ws : List Nat} {n : Nat} {k k' : S → RS} {r : RS} (h : ∀ s, k s ≠ .stuck → k s = k' s) (hn : turnS ws n k r ≠ .stuck) : turnS ws n k r = turnS ws n k' r := by
  cases r with
  | stuck => rfl
  | exc c s => rfl
  | ok p =>
    obtain ⟨fl, s2⟩ := p
    cases fl with
    | next => exact h _ hn
    | cont => exact h _ hn
    | brk => rfl
    | ret sv => rfl
theorem lim_by {α : Type} {f : Nat → Res α} {r : Res α} {m : Nat} (ha : ∀ m, f m ≠ .stuck → f m = r) (hb : f m = r) : lim f = r := by
  by_cases h : lim f = .stuck
  · unfold lim at h
    split at h
    · rename_i hx
      exact absurd h (Classical.choose_spec hx)
    · rename_i hx
      have : f m = .stuck := by
        cases e : f m with
        | stuck => rfl
        | ok a => exact absurd ⟨m, by rw [e]; simp⟩ hx
        | exc c s => exact absurd ⟨m, by rw [e]; simp⟩ hx
      unfold lim
      rw [dif_neg hx, ← hb, this]
  · obtain ⟨k, e⟩ := lim_some h
    rw [e]
    exact ha k (by rw [← e]; exact h)
theorem forN_up {iv : IVal} {g : GS} {body : EvS} {ws : List Nat} {ds : List PyData} (hi : Items iv ds) : ∀ (m i : Nat) (s : S), forN iv g body ws m i s ≠ .stuck → forN iv g body ws m i s = forL g body ws (ds.drop i) s
  | 0, i, s, h => absurd rfl h
  | m + 1, i, s, h => by
    unfold forN at h ⊢
    rw [hi] at h ⊢
    by_cases hl : i < ds.length
    · rw [List.getElem?_eq_getElem hl] at h ⊢
      rw [List.drop_eq_getElem_cons hl]
      simp only [forL] at h ⊢
      cases eg : g ds[i] s.env with
      | none => rfl
      | some e1 =>
        rw [eg] at h
        exact turnS_up (fun s => forN_up hi m (i + 1) s) h
    · rw [List.getElem?_eq_none (by omega), List.drop_eq_nil_of_le (by omega)]
      rfl
theorem forN_all {iv : IVal} {g : GS} {body : EvS} {ws : List Nat} {ds : List PyData} (hi : Items iv ds) : ∀ (m i : Nat) (s : S), i ≤ ds.length → ds.length < m + i → forN iv g body ws m i s = forL g body ws (ds.drop i) s
  | 0, i, s, h1, h2 => by omega
  | m + 1, i, s, h1, h2 => by
    unfold forN
    rw [hi]
    by_cases hl : i < ds.length
    · rw [List.getElem?_eq_getElem hl, List.drop_eq_getElem_cons hl]
      simp only [forL]
      cases eg : g ds[i] s.env with
      | none => rfl
      | some e1 => exact turnS_congr fun s => forN_all hi m (i + 1) s (by omega) (by omega)
    · rw [List.getElem?_eq_none (by omega), List.drop_eq_nil_of_le (by omega)]
      rfl
theorem for_items {iv : IVal} {g : GS} {body : EvS} {ws : List Nat} {ds : List PyData} (hi : Items iv ds) (s : S) : lim (fun m => forN iv g body ws m 0 s) = forL g body ws ds s :=
  lim_by (m := ds.length + 1) (fun m h => by have := forN_up hi m 0 s h; simpa using this) (by have := forN_all (g := g) (body := body) (ws := ws) hi (ds.length + 1) 0 s (by omega) (by omega); simpa using this)
theorem forS_items {fi : EvI} {iv : IVal} {st : Sto} {g : GS} {body : EvS} {ws : List Nat} {ds : List PyData} {n : Nat} {s : S} (e : fi s = .ok (iv, st)) (hi : Items iv ds) : forS fi g body ws n s = forL g body ws ds ⟨s.env, st⟩ := by
  unfold forS
  rw [e]
  exact for_items hi _
/-! ### comprehensions -/
def appC (acc : List PyData) : RC → RC
  | .ok (ys, st) => .ok (acc ++ ys, st)
  | .exc c s => .exc c s
  | .stuck => .stuck
theorem compN_up {iv : IVal} {g : GS} {ft : EvT} {fe : EvD} {env : List (Option SV)} {ds : List PyData} (hi : Items iv ds) : ∀ (m i : Nat) (st : Sto) (acc : List PyData), compN iv g ft fe env m i st acc ≠ .stuck → compN iv g ft fe env m i st acc = appC acc (compL g ft fe env (ds.drop i) st)
  | 0, i, st, acc, h => absurd rfl h
  | m + 1, i, st, acc, h => by
    unfold compN at h ⊢
    rw [hi] at h ⊢
    by_cases hl : i < ds.length
    · rw [List.getElem?_eq_getElem hl] at h ⊢
      rw [List.drop_eq_getElem_cons hl]
      simp only [compL] at h ⊢
      cases eg : g ds[i] env with
      | none => rw [eg] at h; exact absurd rfl h
      | some e1 =>
        rw [eg] at h
        simp only at h ⊢
        cases et : ft ⟨e1, st⟩ with
        | stuck => rw [et] at h; exact absurd rfl h
        | exc c s => rw [et] at h; exact absurd rfl h
        | ok p =>
          obtain ⟨b, st1⟩ := p
          rw [et] at h
          cases b with
          | false =>
            simp only at h ⊢
            exact compN_up hi m (i + 1) st1 acc h
          | true =>
            simp only at h ⊢
            cases ee : fe ⟨e1, st1⟩ with
            | stuck => rw [ee] at h; exact absurd rfl h
            | exc c s => rw [ee] at h; exact absurd rfl h
            | ok q =>
              obtain ⟨y, st2⟩ := q
              rw [ee] at h
              simp only at h ⊢
              split at h
              · rename_i ha
                rw [if_pos ha, compN_up hi m (i + 1) st2 (acc ++ [y]) h]
                cases compL g ft fe env (ds.drop (i + 1)) st2 with
                | ok r => obtain ⟨ys, st3⟩ := r; simp [appC]
                | exc c s => rfl
                | stuck => rfl
              · exact absurd rfl h
    · rw [List.getElem?_eq_none (by omega), List.drop_eq_nil_of_le (by omega)]
      simp [compL, appC]
theorem compN_all {iv : IVal} {g : GS} {ft : EvT} {fe : EvD} {env : List (Option SV)} {ds : List PyData} (hi : Items iv ds) : ∀ (m i : Nat) (st : Sto) (acc : List PyData), i ≤ ds.length → ds.length < m + i → acc.length + (ds.length - i) ≤ 16777216 →
    compN iv g ft fe env m i st acc = appC acc (compL g ft fe env (ds.drop i) st)
  | 0, i, st, acc, h1, h2, h3 => by omega
  | m + 1, i, st, acc, h1, h2, h3 => by
    unfold compN
    rw [hi]
    by_cases hl : i < ds.length
    · rw [List.getElem?_eq_getElem hl, List.drop_eq_getElem_cons hl]
      simp only [compL]
      cases eg : g ds[i] env with
      | none => rfl
      | some e1 =>
        simp only
        cases et : ft ⟨e1, st⟩ with
        | stuck => rfl
        | exc c s => rfl
        | ok p =>
          obtain ⟨b, st1⟩ := p
          cases b with
          | false => exact compN_all hi m (i + 1) st1 acc (by omega) (by omega) (by omega)
          | true =>
            simp only
            cases ee : fe ⟨e1, st1⟩ with
            | stuck => rfl
            | exc c s => rfl
            | ok q =>
              obtain ⟨y, st2⟩ := q
              simp only
              rw [if_pos (by omega), compN_all hi m (i + 1) st2 (acc ++ [y]) (by omega) (by omega) (by simp; omega)]
              cases compL g ft fe env (ds.drop (i + 1)) st2 with
              | ok r => obtain ⟨ys, st3⟩ := r; simp [appC]
              | exc c s => rfl
              | stuck => rfl
    · rw [List.getElem?_eq_none (by omega), List.drop_eq_nil_of_le (by omega)]
      simp [compL, appC]
theorem appC_nil (r : RC) : appC [] r = r := by cases r <;> rfl
theorem compC_items {fi : EvI} {iv : IVal} {st : Sto} {vs : List Nat} {g : GS} {ft : EvT} {fe : EvD} {ds : List PyData} {s : S} (e : fi s = .ok (iv, st)) (hi : Items iv ds) (hl : ds.length ≤ 16777216) : compC fi vs g ft fe s = compL g ft fe (wipeL s.env vs) ds st := by
  unfold compC
  rw [e]
  exact lim_by (m := ds.length + 1) (fun m h => by have := compN_up hi m 0 st [] h; rw [appC_nil] at this; simpa using this) (by have := compN_all (g := g) (ft := ft) (fe := fe) (env := wipeL s.env vs) hi (ds.length + 1) 0 st [] (by omega) (by omega) (by simpa using hl); rw [appC_nil] at this; simpa using this)
/-! ### all, any -/
theorem quantN_up {b : Bool} {iv : IVal} {g : GS} {ft : EvT} {fe : EvD} {env : List (Option SV)} {ds : List PyData} (hi : Items iv ds) : ∀ (m i : Nat) (st : Sto), quantN b iv g ft fe env m i st ≠ .stuck → quantN b iv g ft fe env m i st = quantL b g ft fe env (ds.drop i) st
  | 0, i, st, h => absurd rfl h
  | m + 1, i, st, h => by
    unfold quantN at h ⊢
    rw [hi] at h ⊢
    by_cases hl : i < ds.length
    · rw [List.getElem?_eq_getElem hl] at h ⊢
      rw [List.drop_eq_getElem_cons hl]
      simp only [quantL] at h ⊢
      cases eg : g ds[i] env with
      | none => rfl
      | some e1 =>
        rw [eg] at h
        simp only at h ⊢
        cases et : ft ⟨e1, st⟩ with
        | stuck => rfl
        | exc c s => rfl
        | ok p =>
          obtain ⟨k, st1⟩ := p
          rw [et] at h
          cases k with
          | false =>
            simp only at h ⊢
            exact quantN_up hi m (i + 1) st1 h
          | true =>
            simp only at h ⊢
            cases ee : fe ⟨e1, st1⟩ with
            | stuck => rfl
            | exc c s => rfl
            | ok q =>
              obtain ⟨y, st2⟩ := q
              rw [ee] at h
              cases y <;> try rfl
              rename_i y
              simp only at h ⊢
              split at h
              · rename_i hk; rw [if_pos hk, if_pos hk]
              · rename_i hk; rw [if_neg hk, if_neg hk]; exact quantN_up hi m (i + 1) st2 h
    · rw [List.getElem?_eq_none (by omega), List.drop_eq_nil_of_le (by omega)]
      rfl
theorem quantN_all {b : Bool} {iv : IVal} {g : GS} {ft : EvT} {fe : EvD} {env : List (Option SV)} {ds : List PyData} (hi : Items iv ds) : ∀ (m i : Nat) (st : Sto), i ≤ ds.length → ds.length < m + i → quantN b iv g ft fe env m i st = quantL b g ft fe env (ds.drop i) st
  | 0, i, st, h1, h2 => by omega
  | m + 1, i, st, h1, h2 => by
    unfold quantN
    rw [hi]
    by_cases hl : i < ds.length
    · rw [List.getElem?_eq_getElem hl, List.drop_eq_getElem_cons hl]
      simp only [quantL]
      cases eg : g ds[i] env with
      | none => rfl
      | some e1 =>
        simp only
        cases et : ft ⟨e1, st⟩ with
        | stuck => rfl
        | exc c s => rfl
        | ok p =>
          obtain ⟨k, st1⟩ := p
          cases k with
          | false => exact quantN_all hi m (i + 1) st1 (by omega) (by omega)
          | true =>
            simp only
            cases ee : fe ⟨e1, st1⟩ with
            | stuck => rfl
            | exc c s => rfl
            | ok q =>
              obtain ⟨y, st2⟩ := q
              cases y <;> try rfl
              rename_i y
              simp only
              split
              · rfl
              · exact quantN_all hi m (i + 1) st2 (by omega) (by omega)
    · rw [List.getElem?_eq_none (by omega), List.drop_eq_nil_of_le (by omega)]
      rfl
theorem quantE_items {b : Bool} {fi : EvI} {iv : IVal} {st : Sto} {vs : List Nat} {g : GS} {ft : EvT} {fe : EvD} {ds : List PyData} {s : S} (e : fi s = .ok (iv, st)) (hi : Items iv ds) : quantE b fi vs g ft fe s = (quantL b g ft fe (wipeL s.env vs) ds st).bind fun q => .ok (.bool q.1, q.2) := by
  unfold quantE
  rw [e]
  have : lim (fun m => quantN b iv g ft fe (wipeL s.env vs) m 0 st) = quantL b g ft fe (wipeL s.env vs) ds st :=
    lim_by (m := ds.length + 1) (fun m h => by have := quantN_up hi m 0 st h; simpa using this) (by have := quantN_all (b := b) (g := g) (ft := ft) (fe := fe) (env := wipeL s.env vs) hi (ds.length + 1) 0 st (by omega) (by omega); simpa using this)
  simp only [Res.bind_ok, this]
/-! ### what is walked -/
def intsFrom (lo : Int) : Nat → List PyData
  | 0 => []
  | n + 1 => .int lo :: intsFrom (lo + 1) n
theorem intsFrom_get : ∀ (n : Nat) (lo : Int) (i : Nat), (intsFrom lo n)[i]? = if i < n then some (.int (lo + i)) else none
  | 0, lo, i => by simp [intsFrom]
  | n + 1, lo, 0 => by simp [intsFrom]
  | n + 1, lo, i + 1 => by
    simp only [intsFrom, List.getElem?_cons_succ, intsFrom_get n (lo + 1) i]
    by_cases h : i < n
    · rw [if_pos h, if_pos (by omega)]; congr 2; push_cast; omega
    · rw [if_neg h, if_neg (by omega)]
theorem intsFrom_len : ∀ (n : Nat) (lo : Int), (intsFrom lo n).length = n
  | 0, _ => rfl
  | n + 1, lo => by simp [intsFrom, intsFrom_len n]
theorem items_range (lo : Int) (n : Nat) : Items (rangeIV lo n) (intsFrom lo n) := fun i st => by
  unfold rangeIV
  rw [intsFrom_get]
theorem items_seq (k : Bool) (ds : List PyData) : Items (seqIV ⟨k, fun _ => some ds⟩) ds := fun i st => rfl
def zipL : List PyData → List PyData → List PyData
  | d :: ds, e :: es => .tuple [d, e] :: zipL ds es
  | _, _ => []
theorem zipL_get : ∀ (ds es : List PyData) (i : Nat), (zipL ds es)[i]? = (match ds[i]?, es[i]? with
    | some d, some e => some (.tuple [d, e])
    | _, _ => none)
  | [], es, i => by cases es <;> simp [zipL]
  | d :: ds, [], i => by
    simp only [zipL, List.getElem?_nil]
    cases (d :: ds)[i]? <;> rfl
  | d :: ds, e :: es, 0 => by simp [zipL]
  | d :: ds, e :: es, i + 1 => by
    simp only [zipL, List.getElem?_cons_succ]
    exact zipL_get ds es i
theorem items_zip (k1 k2 : Bool) (ds es : List PyData) : Items (zipIV ⟨k1, fun _ => some ds⟩ ⟨k2, fun _ => some es⟩) (zipL ds es) := fun i st => by
  rw [zipL_get]
  rfl
def intsDown (hi : Int) : Nat → List PyData
  | 0 => []
  | n + 1 => .int hi :: intsDown (hi - 1) n
theorem intsDown_get : ∀ (n : Nat) (hi : Int) (i : Nat), (intsDown hi n)[i]? = if i < n then some (.int (hi + (i : Nat) * (-1))) else none
  | 0, hi, i => by simp [intsDown]
  | n + 1, hi, 0 => by simp [intsDown]
  | n + 1, hi, i + 1 => by
    simp only [intsDown, List.getElem?_cons_succ, intsDown_get n (hi - 1) i]
    by_cases h : i < n
    · rw [if_pos h, if_pos (by omega)]; congr 2; push_cast; omega
    · rw [if_neg h, if_neg (by omega)]
theorem items_rangeD (hi : Int) (n : Nat) : Items (rangeCIV hi (-1) n) (intsDown hi n) := fun i st => by
  unfold rangeCIV
  rw [intsDown_get]
/-! ### equations -/
section
variable {env : List (Option SV)} {st : Sto} {s : S} {d : PyData} {i : Nat}
@[simp] theorem ev_slot : slotE i ⟨env, st⟩ = match env[i]? with
  | some (some (.pure d)) => .ok (d, st)
  | _ => .stuck := rfl
@[simp] theorem ev_slotV : slotV i ⟨env, st⟩ = match env[i]? with
  | some (some sv) => .ok (sv, st)
  | _ => .stuck := rfl
@[simp] theorem ev_const : constE d s = .ok (d, s.st) := rfl
@[simp] theorem ev_bin {g : PyData → PyData → Option PyData} {fa fb : EvD} : bin2 g fa fb s = (fa s).bind fun p => (fb ⟨s.env, p.2⟩).bind fun q => ofOpt (g p.1 q.1) q.2 := rfl
@[simp] theorem ev_un {g : PyData → Option PyData} {fa : EvD} : un1 g fa s = (fa s).bind fun p => ofOpt (g p.1) p.2 := rfl
@[simp] theorem ev_isi {T : Ty} {fa : EvD} : isiE T fa s = (fa s).bind fun p => .ok (.bool (isiB T p.1), p.2) := rfl
@[simp] theorem ev_pureV {fa : EvD} : pureV fa s = (fa s).bind fun p => .ok (.pure p.1, p.2) := rfl
@[simp] theorem ev_and {fa fb : EvD} : andE fa fb s = (fa s).bind fun p => match p.1 with
  | .bool true => fb ⟨s.env, p.2⟩
  | .bool false => .ok (.bool false, p.2)
  | _ => .stuck := rfl
@[simp] theorem ev_or {fa fb : EvD} : orE fa fb s = (fa s).bind fun p => match p.1 with
  | .bool true => .ok (.bool true, p.2)
  | .bool false => fb ⟨s.env, p.2⟩
  | _ => .stuck := rfl
@[simp] theorem ev_not {fa : EvD} : notE fa s = (fa s).bind fun p => match p.1 with
  | .bool k => .ok (.bool (!k), p.2)
  | _ => .stuck := rfl
@[simp] theorem ev_neg {fa : EvD} : negE fa s = (fa s).bind fun p => match p.1 with
  | .int i => .ok (.int (-i), p.2)
  | _ => .stuck := rfl
@[simp] theorem ev_valT {fa : EvD} : valT fa s = (fa s).bind boolOf := rfl
@[simp] theorem ev_boolOf {k : Bool} : boolOf (.bool k, st) = .ok (k, st) := rfl
@[simp] theorem ev_cmpT {g : PyData → PyData → Option PyData} {fa fb : EvD} : cmpT g fa fb s = (bin2 g fa fb s).bind boolOf := rfl
@[simp] theorem ev_andT {f g : EvT} : andT f g s = (f s).bind fun p => if p.1 = true then g ⟨s.env, p.2⟩ else .ok (false, p.2) := rfl
@[simp] theorem ev_orT {f g : EvT} : orT f g s = (f s).bind fun p => if p.1 = true then .ok (true, p.2) else g ⟨s.env, p.2⟩ := rfl
@[simp] theorem ev_notT {f : EvT} : notT f s = (f s).bind fun p => .ok (!p.1, p.2) := rfl
@[simp] theorem ev_ite {t : EvT} {fa fb : EvD} : iteE t fa fb s = (t s).bind fun p => if p.1 = true then fa ⟨s.env, p.2⟩ else fb ⟨s.env, p.2⟩ := rfl
@[simp] theorem ev_nilA : nilA s = .ok ([], s.st) := rfl
@[simp] theorem ev_consA {fa : EvD} {f : EvA} : consA fa f s = (fa s).bind fun p => (f ⟨s.env, p.2⟩).bind fun q => .ok (.pure p.1 :: q.1, q.2) := rfl
@[simp] theorem ev_consV {fa : EvV} {f : EvA} : consV fa f s = (fa s).bind fun p => (f ⟨s.env, p.2⟩).bind fun q => .ok (p.1 :: q.1, q.2) := rfl
@[simp] theorem ev_consSlotA {f : EvA} : consSlotA i f ⟨env, st⟩ = match env[i]? with
  | some (some sv) => (f ⟨env, st⟩).bind fun q => .ok (sv :: q.1, q.2)
  | _ => .stuck := rfl
@[simp] theorem ev_yes : yesT s = .ok (true, s.st) := rfl
@[simp] theorem ev_chain {g g' : PyData → PyData → Option PyData} {fa fb fc : EvD} : chain2 g g' fa fb fc s = (fa s).bind fun p => (fb ⟨s.env, p.2⟩).bind fun q => match g p.1 q.1 with
  | some (.bool true) => (fc ⟨s.env, q.2⟩).bind fun r => ofOpt (g' q.1 r.1) r.2
  | some (.bool false) => .ok (.bool false, q.2)
  | _ => .stuck := rfl
@[simp] theorem ev_call {n : Nat} {F : FSem} {f : EvA} : callE n F f s = (f s).bind fun p => callS n F p.1 ⟨s.env, p.2⟩ := rfl
@[simp] theorem ev_ret {fa : EvV} {n : Nat} : retS fa n s = (fa s).bx s.env fun p => .ok (.ret p.1, ⟨s.env, p.2⟩) := rfl
@[simp] theorem ev_set {fa : EvV} {n : Nat} : setS i fa n s = (fa s).bx s.env fun p => .ok (.next, ⟨s.env.set i (some p.1), p.2⟩) := rfl
@[simp] theorem ev_if {t : EvT} {f g : EvS} {n : Nat} : ifS t f g n s = (t s).bx s.env fun p => if p.1 = true then f n ⟨s.env, p.2⟩ else g n ⟨s.env, p.2⟩ := rfl
@[simp] theorem ev_nilS {n : Nat} : nilS n s = .ok (.next, s) := rfl
@[simp] theorem ev_drop {fa : EvD} {n : Nat} : dropS fa n s = (fa s).bx s.env fun p => .ok (.next, ⟨s.env, p.2⟩) := rfl
theorem ev_seq {f g : EvS} {n : Nat} : seqS f g n s = match f n s with
  | .ok (.next, s1) => g n s1
  | .ok (fl, s1) => .ok (fl, s1)
  | .exc c s1 => .exc c s1
  | .stuck => .stuck := rfl
@[simp] theorem ev_lstOf {f : EvC} : lstOf f s = (f s).bind fun p => .ok (.list p.1, p.2) := rfl
@[simp] theorem ev_ownOf {f : EvC} : ownOf f s = (f s).bind fun p => .ok (newL p.2 p.1) := rfl
@[simp] theorem ev_tup {f : EvA} : tupE f s = (f s).bind fun p => match pureAll p.1 with
  | some ds => if ds.length ≤ 16777216 then .ok (.tuple ds, p.2) else .stuck
  | none => .stuck := rfl
@[simp] theorem ev_lst {f : EvA} : lstE f s = (f s).bind fun p => match pureAll p.1 with
  | some ds => if ds.length ≤ 16777216 then .ok (.list ds, p.2) else .stuck
  | none => .stuck := rfl
@[simp] theorem ev_par {j : Nat} {fa : EvA} {n : Nat} : parS i j fa n s = (fa s).bx s.env fun p => match p.1 with
  | [a, b] => .ok (.next, ⟨(s.env.set i (some a)).set j (some b), p.2⟩)
  | _ => .stuck := rfl
@[simp] theorem ev_asg2 {j : Nat} {fa : EvA} {n : Nat} : asg2S i j fa n s = (fa s).bx s.env fun p => match p.1 with
  | [a, b] => .ok (.next, ⟨(s.env.set i (some a)).set j (some b), p.2⟩)
  | _ => .stuck := rfl
@[simp] theorem pa_nil' : pureAll [] = some [] := rfl
@[simp] theorem pa_cons' {r : List SV} : pureAll (.pure d :: r) = (pureAll r).map (d :: ·) := rfl
theorem pa_pure : ∀ (ds : List PyData), pureAll (ds.map .pure) = some ds
  | [] => rfl
  | d :: ds => by rw [List.map_cons, pa_cons', pa_pure ds]; rfl
end
/-! ### the operators on known kinds -/
@[simp] theorem ltD_int (a b : Int) : ltD (.int a) (.int b) = some (.bool (decide (a < b))) := by
  simp [ltD, ordOk, alike, PyData.depth, dataLt_int]
@[simp] theorem gtD_int (a b : Int) : gtD (.int a) (.int b) = some (.bool (decide (b < a))) := by
  simp [gtD, ordOk, alike, PyData.depth, dataLt_int]
@[simp] theorem leD_int (a b : Int) : leD (.int a) (.int b) = some (.bool (decide (a ≤ b))) := by
  simp [leD, ordOk, alike, PyData.depth, dataLt_int, ← decide_not, Int.not_lt]
@[simp] theorem geD_int (a b : Int) : geD (.int a) (.int b) = some (.bool (decide (b ≤ a))) := by
  simp [geD, ordOk, alike, PyData.depth, dataLt_int, ← decide_not, Int.not_lt]
theorem min0 (a : Nat) : min 0 a = 0 := Nat.zero_min a
@[simp] theorem eqD_int (a b : Int) : eqD (.int a) (.int b) = some (.bool (decide (a = b))) := by
  simp [eqD, PyData.depth, PyData.eqv]
  first | done | rfl
@[simp] theorem neD_int (a b : Int) : neD (.int a) (.int b) = some (.bool (!decide (a = b))) := by
  simp [neD, PyData.depth, PyData.eqv]
  first | done | rfl
@[simp] theorem eqD_bool (a b : Bool) : eqD (.bool a) (.bool b) = some (.bool (a == b)) := by
  simp [eqD, PyData.depth, PyData.eqv]
@[simp] theorem neD_bool (a b : Bool) : neD (.bool a) (.bool b) = some (.bool (!(a == b))) := by
  simp [neD, PyData.depth, PyData.eqv]
@[simp] theorem eqD_list0 (ds : List PyData) : eqD (.list ds) (.list []) = some (.bool ds.isEmpty) := by
  cases ds <;> simp [eqD, PyData.depth, PyData.eqv, PyData.eqvAll, PyData.depthAll]
@[simp] theorem neD_list0 (ds : List PyData) : neD (.list ds) (.list []) = some (.bool (!ds.isEmpty)) := by
  cases ds <;> simp [neD, PyData.depth, PyData.eqv, PyData.eqvAll, PyData.depthAll]
@[simp] theorem addD_int (a b : Int) : addD (.int a) (.int b) = some (.int (a + b)) := rfl
@[simp] theorem subD_int (a b : Int) : subD (.int a) (.int b) = some (.int (a - b)) := rfl
theorem mulD_int {a b : Int} (h : -(2 ^ 64) < b ∧ b < 2 ^ 64) : mulD (.int a) (.int b) = some (.int (a * b)) := by
  exact if_pos (.inr h)
theorem mulD_int' {a b : Int} (h : -(2 ^ 64) < a ∧ a < 2 ^ 64) : mulD (.int a) (.int b) = some (.int (a * b)) := by
  exact if_pos (.inl h)
theorem modD_int {a b : Int} (h : 0 < b) : modD (.int a) (.int b) = some (.int (a % b)) := by
  exact if_pos h
theorem fdivD_int {a b : Int} (h : 0 < b) (h2 : b < 1073741824) : fdivD (.int a) (.int b) = some (.int (a / b)) := by
  exact if_pos ⟨h, h2⟩
@[simp] theorem intD_int (a : Int) : intD (.int a) = some (.int a) := rfl
@[simp] theorem intD_bool (a : Bool) : intD (.bool a) = some (.int (if a then 1 else 0)) := rfl
@[simp] theorem lenD_list (ds : List PyData) : lenD (.list ds) = some (.int ds.length) := rfl
@[simp] theorem lenD_tuple (ds : List PyData) : lenD (.tuple ds) = some (.int ds.length) := rfl
@[simp] theorem tupleD_list (ds : List PyData) : tupleD (.list ds) = some (.tuple ds) := rfl
@[simp] theorem absD_int (a : Int) : absD (.int a) = some (.int (if a < 0 then -a else a)) := rfl
theorem itemD_list {ds : List PyData} {i : Nat} : itemD (.list ds) (.int i) = ds[i]? := by
  unfold itemD
  simp only [atI, ixN]
  by_cases h : i < ds.length
  · simp [h]
  · simp [h]
theorem itemD_tuple {ds : List PyData} {i : Nat} : itemD (.tuple ds) (.int i) = ds[i]? := by
  unfold itemD
  simp only [atI, ixN]
  by_cases h : i < ds.length
  · simp [h]
  · simp [h]
/-! ### calls -/
theorem envOf_eq (N : Nat) (svs : List SV) : DL.envOf N svs = svs.map some ++ List.replicate (N - svs.length) none := rfl
theorem callS_pure {n : Nat} {F : FSem} {ds : List PyData} {s : S} {d : PyData} {st' : Sto} (h : ds.length = n) (hF : F (ds.map .pure) [] = .ok (d, st')) : callS n F (ds.map .pure) s = .ok (d, s.st) := by
  have hi : idsOf (ds.map SV.pure) = [] := by
    clear hF h
    induction ds with
    | nil => rfl
    | cons d ds ih => exact ih
  have hm : (ds.map SV.pure).map (renum []) = ds.map SV.pure := by
    rw [List.map_map]
    rfl
  unfold callS
  rw [hi, if_pos ⟨by simpa using h, List.nodup_nil⟩]
  simp only [gather, hm, hF]
  cases st' <;> rfl
theorem call1 {F : FSem} {a : PyData} {env : List (Option SV)} {st st' : Sto} {d : PyData} (hF : F [.pure a] [] = .ok (d, st')) : callS 1 F [.pure a] ⟨env, st⟩ = .ok (d, st) := callS_pure (ds := [a]) rfl hF
theorem call2 {F : FSem} {a b : PyData} {env : List (Option SV)} {st st' : Sto} {d : PyData} (hF : F [.pure a, .pure b] [] = .ok (d, st')) : callS 2 F [.pure a, .pure b] ⟨env, st⟩ = .ok (d, st) := callS_pure (ds := [a, b]) rfl hF
theorem call3 {F : FSem} {a b c : PyData} {env : List (Option SV)} {st st' : Sto} {d : PyData} (hF : F [.pure a, .pure b, .pure c] [] = .ok (d, st')) : callS 3 F [.pure a, .pure b, .pure c] ⟨env, st⟩ = .ok (d, st) := callS_pure (ds := [a, b, c]) rfl hF
/-- the first argument an own object -/
theorem callO2 {F : FSem} {j : Nat} {b : PyData} {o o' : O} {env : List (Option SV)} {st : Sto} {d : PyData} (hj : st[j]? = some o) (hF : F [.obj 0, .pure b] [o] = .ok (d, [o'])) : callS 2 F [.obj j, .pure b] ⟨env, st⟩ = .ok (d, st.set j o') := by
  unfold callS
  rw [if_pos ⟨rfl, by simp [idsOf]⟩]
  have hr : renum [j] (.obj j) = .obj 0 := by
    show SV.obj ([j].idxOf j) = _
    rw [List.idxOf_cons_self]
  have hg : gather st [j] = some [o] := by
    simp [gather, hj]
  simp only [idsOf, hg, List.map_cons, List.map_nil, hr]
  show (match F [.obj 0, .pure b] [o] with | .ok p => _ | .exc c s' => _ | .stuck => _) = _
  rw [hF]
  rfl
/-! ### loops by what stays true -/
theorem forL_inv {g : GS} {body : EvS} {ws : List Nat} (I : Nat → S → Prop) : ∀ (ds : List PyData) (i : Nat) (s : S), I i s →
    (∀ k d s, ds[k]? = some d → I (i + k) s → ∃ e1 s', g d s.env = some e1 ∧ (body s.st.length ⟨e1, s.st⟩ = .ok (.next, s') ∨ body s.st.length ⟨e1, s.st⟩ = .ok (.cont, s')) ∧ I (i + k + 1) (wipeS ws s.st.length s')) →
    ∃ s', forL g body ws ds s = .ok (.next, s') ∧ I (i + ds.length) s'
  | [], i, s, h0, _ => ⟨s, rfl, h0⟩
  | d :: ds, i, s, h0, h => by
    obtain ⟨e1, s1, q1, q2, q3⟩ := h 0 d s rfl h0
    obtain ⟨s', r1, r2⟩ := forL_inv I ds (i + 1) (wipeS ws s.st.length s1) q3 (fun k d s hk hI => by
      have hI' : I (i + (k + 1)) s := by rw [show i + (k + 1) = i + 1 + k from by omega]; exact hI
      have z := h (k + 1) d s (by simpa using hk) hI'
      rw [show i + (k + 1) + 1 = i + 1 + k + 1 from by omega] at z
      exact z)
    refine ⟨s', ?_, by rw [List.length_cons, show i + (ds.length + 1) = i + 1 + ds.length from by omega]; exact r2⟩
    unfold forL
    rw [q1]
    rcases q2 with q2 | q2
    all_goals
      simp only [q2]
      exact r1
/-! ### what holds behind a statement -/
/-- a structure, not a match: nothing that looks at a goal may run what is read -/
structure OkS (r : RS) (Q : Fl → S → Prop) : Prop where
  get : ∃ fl s, r = .ok (fl, s) ∧ Q fl s
theorem OkS.of {p : Fl × S} {Q : Fl → S → Prop} (h : Q p.1 p.2) : OkS (.ok p) Q := ⟨⟨p.1, p.2, rfl, h⟩⟩
@[simp] theorem okS_ok {p : Fl × S} {Q : Fl → S → Prop} : OkS (.ok p) Q ↔ Q p.1 p.2 := ⟨fun h => by
  obtain ⟨fl, s, e, q⟩ := h.get
  cases e
  exact q, .of⟩
theorem OkS.mono {r : RS} {Q Q' : Fl → S → Prop} (h : OkS r Q) (hq : ∀ fl s, Q fl s → Q' fl s) : OkS r Q' := by
  obtain ⟨fl, s, e, q⟩ := h.get
  exact ⟨⟨fl, s, e, hq _ _ q⟩⟩
/-- behind f: next goes on, all else ends -/
def thenS (g : EvS) (n : Nat) (Q : Fl → S → Prop) (fl : Fl) (s : S) : Prop := match fl with
  | .next => OkS (g n s) Q
  | fl => Q fl s
@[simp] theorem thenS_next {g : EvS} {n : Nat} {Q : Fl → S → Prop} {s : S} : thenS g n Q .next s = OkS (g n s) Q := rfl
@[simp] theorem thenS_ret {g : EvS} {n : Nat} {Q : Fl → S → Prop} {s : S} {sv : SV} : thenS g n Q (.ret sv) s = Q (.ret sv) s := rfl
@[simp] theorem thenS_brk {g : EvS} {n : Nat} {Q : Fl → S → Prop} {s : S} : thenS g n Q .brk s = Q .brk s := rfl
@[simp] theorem thenS_cont {g : EvS} {n : Nat} {Q : Fl → S → Prop} {s : S} : thenS g n Q .cont s = Q .cont s := rfl
theorem okS_seq {f g : EvS} {n : Nat} {s : S} {Q : Fl → S → Prop} (h : OkS (f n s) (thenS g n Q)) : OkS (seqS f g n s) Q := by
  obtain ⟨fl, s1, e, q⟩ := h.get
  rw [ev_seq, e]
  cases fl
  · exact q
  all_goals exact .of q
theorem okS_for {fi : EvI} {iv : IVal} {st : Sto} {g : GS} {body : EvS} {ws : List Nat} {n : Nat} {s : S} {ds : List PyData} {Q : Fl → S → Prop} (I : Nat → S → Prop) (e : fi s = .ok (iv, st)) (hi : Items iv ds) (h0 : I 0 ⟨s.env, st⟩)
    (step : ∀ k d s, ds[k]? = some d → I k s → ∃ e1, g d s.env = some e1 ∧ OkS (body s.st.length ⟨e1, s.st⟩) fun fl s' => match fl with
      | .next => I (k + 1) (wipeS ws s.st.length s')
      | .cont => I (k + 1) (wipeS ws s.st.length s')
      | .brk => Q .next s'
      | .ret sv => Q (.ret sv) s') (hq : ∀ s', I ds.length s' → Q .next s') : OkS (forS fi g body ws n s) Q := by
  rw [forS_items e hi]
  have key : ∀ (ds' : List PyData) (i : Nat) (s : S), I i s → (∀ k d, ds'[k]? = some d → ds[i + k]? = some d) → i + ds'.length = ds.length → OkS (forL g body ws ds' s) Q := by
    intro ds'
    induction ds' with
    | nil => intro i s hI _ hl; exact .of (p := (.next, s)) (hq s (by rw [← hl]; exact hI))
    | cons d r ih =>
      intro i s hI hd hl
      obtain ⟨e1, eg, ok⟩ := step i d s (hd 0 d rfl) hI
      obtain ⟨fl, s1, e, q⟩ := ok.get
      unfold forL
      rw [eg]
      simp only [e]
      have next : I (i + 1) (wipeS ws s.st.length s1) → OkS (forL g body ws r (wipeS ws s.st.length s1)) Q := fun hI => ih (i + 1) _ hI (fun k d hk => by
        have := hd (k + 1) d (by simpa using hk)
        rwa [show i + (k + 1) = i + 1 + k from by omega] at this) (by simp at hl; omega)
      cases fl with
      | next => exact next q
      | cont => exact next q
      | brk => exact .of (p := (.next, s1)) q
      | ret sv => exact .of (p := (.ret sv, s1)) q
  exact key ds 0 _ h0 (fun k d h => by simpa using h) (by simp)
theorem runF_ok {N : Nat} {body : EvS} {svs : List SV} {objs : Sto} {r : RE} (h : OkS (body objs.length ⟨DL.envOf N svs, objs⟩) fun fl s' => endF objs.length (.ok (fl, s')) = r) : DL.runF N body svs objs = r := by
  obtain ⟨fl, s', e, q⟩ := h.get
  unfold DL.runF
  rw [e]
  exact q
theorem runN_ok {N : Nat} {body : EvS} {svs : List SV} {objs : Sto} {P : RE → Prop} (h : OkS (body objs.length ⟨DL.envOf N svs, objs⟩) fun fl s' => P (endN objs.length (.ok (fl, s')))) : P (DL.runN N body svs objs) := by
  obtain ⟨fl, s', e, q⟩ := h.get
  unfold DL.runN
  rw [e]
  exact q
theorem runF_P {N : Nat} {body : EvS} {svs : List SV} {objs : Sto} {P : RE → Prop} (h : OkS (body objs.length ⟨DL.envOf N svs, objs⟩) fun fl s' => P (endF objs.length (.ok (fl, s')))) : P (DL.runF N body svs objs) := by
  obtain ⟨fl, s', e, q⟩ := h.get
  unfold DL.runF
  rw [e]
  exact q
@[simp] theorem keep_none {n : Nat} : keepSV n none = none := rfl
@[simp] theorem keep_pure {n : Nat} {d : PyData} : keepSV n (some (.pure d)) = some (.pure d) := rfl
@[simp] theorem keep_scr {n : Nat} {d : List PyData} : keepSV n (some (.scr d)) = some (.scr d) := rfl
@[simp] theorem keep_obj {n j : Nat} : keepSV n (some (.obj j)) = if j < n then some (.obj j) else none := rfl
theorem appE_ok {i j : Nat} {ds : List PyData} {x : PyData} {env : List (Option SV)} {st : Sto} {fe : EvD} (h1 : env[i]? = some (some (.obj j))) (h2 : st[j]? = some (.lst ds)) (hf : fe ⟨env, st⟩ = .ok (x, st)) (hl : ds.length < 16777216) :
    appE i fe ⟨env, st⟩ = .ok (.none, st.set j (.lst (ds ++ [x]))) := by
  simp [appE, objAt, h1, h2, hf, isLst, hl]
/-! ### comprehensions whose parts change nothing -/
theorem compL_eq {g : GS} {ft : EvT} {fe : EvD} {env : List (Option SV)} {st : Sto} (e1 : PyData → List (Option SV)) (p : PyData → Bool) (h : PyData → PyData) : ∀ ds : List PyData,
    (∀ d ∈ ds, g d env = some (e1 d) ∧ ft ⟨e1 d, st⟩ = .ok (p d, st) ∧ (p d = true → fe ⟨e1 d, st⟩ = .ok (h d, st))) → compL g ft fe env ds st = .ok ((ds.filter p).map h, st)
  | [], _ => rfl
  | d :: ds, H => by
    obtain ⟨h1, h2, h3⟩ := H d List.mem_cons_self
    have ih := compL_eq e1 p h ds fun x hx => H x (List.mem_cons_of_mem _ hx)
    unfold compL
    rw [h1]
    simp only [h2]
    cases hp : p d with
    | false => simp [ih, hp]
    | true => simp only [h3 hp]; simp [ih, hp]
theorem quantL_all {g : GS} {ft : EvT} {fe : EvD} {env : List (Option SV)} {st : Sto} (e1 : PyData → List (Option SV)) (p : PyData → Bool) : ∀ ds : List PyData,
    (∀ d ∈ ds, g d env = some (e1 d) ∧ ft ⟨e1 d, st⟩ = .ok (true, st) ∧ fe ⟨e1 d, st⟩ = .ok (.bool (p d), st)) → quantL false g ft fe env ds st = .ok (ds.all p, st)
  | [], _ => rfl
  | d :: ds, H => by
    obtain ⟨h1, h2, h3⟩ := H d List.mem_cons_self
    have ih := quantL_all e1 p ds fun x hx => H x (List.mem_cons_of_mem _ hx)
    unfold quantL
    rw [h1]
    simp only [h2, h3]
    cases hp : p d with
    | false => simp [hp]
    | true => simp [ih, hp]
theorem quantL_any {g : GS} {ft : EvT} {fe : EvD} {env : List (Option SV)} {st : Sto} (e1 : PyData → List (Option SV)) (p : PyData → Bool) : ∀ ds : List PyData,
    (∀ d ∈ ds, g d env = some (e1 d) ∧ ft ⟨e1 d, st⟩ = .ok (true, st) ∧ fe ⟨e1 d, st⟩ = .ok (.bool (p d), st)) → quantL true g ft fe env ds st = .ok (ds.any p, st)
  | [], _ => rfl
  | d :: ds, H => by
    obtain ⟨h1, h2, h3⟩ := H d List.mem_cons_self
    have ih := quantL_any e1 p ds fun x hx => H x (List.mem_cons_of_mem _ hx)
    unfold quantL
    rw [h1]
    simp only [h2, h3]
    cases hp : p d with
    | true => simp [hp]
    | false => simp [ih, hp]
theorem intsFrom_eq : ∀ (n : Nat) (lo : Int), intsFrom lo n = (List.range n).map fun i => PyData.int (lo + (i : Nat))
  | 0, _ => rfl
  | n + 1, lo => by
    rw [List.range_succ_eq_map, List.map_cons, List.map_map, intsFrom, intsFrom_eq n (lo + 1)]
    congr 1
    · simp
    · apply List.map_congr_left
      intro i _
      simp only [Function.comp]
      congr 1
      push_cast
      omega
theorem mem_ints {n : Nat} {lo : Int} {d : PyData} : d ∈ intsFrom lo n ↔ ∃ i : Nat, i < n ∧ d = .int (lo + i) := by
  rw [intsFrom_eq, List.mem_map]
  constructor
  · rintro ⟨i, h, rfl⟩; exact ⟨i, List.mem_range.mp h, rfl⟩
  · rintro ⟨i, h, rfl⟩; exact ⟨i, List.mem_range.mpr h, rfl⟩
theorem mem_ints0 {n : Nat} {d : PyData} : d ∈ intsFrom 0 n ↔ ∃ i : Nat, i < n ∧ d = .int i := by
  rw [mem_ints]
  simp
/-- a test -/
theorem okS_if {t : EvT} {f g : EvS} {n : Nat} {s : S} {b : Bool} {st : Sto} {Q : Fl → S → Prop} (ht : t s = .ok (b, st)) (h : OkS ((if b = true then f else g) n ⟨s.env, st⟩) Q) : OkS (ifS t f g n s) Q := by
  rw [ev_if, ht]
  simp only [Res.bx_ok]
  cases b <;> exact h
theorem okS_ret {fa : EvV} {n : Nat} {s : S} {sv : SV} {st : Sto} {Q : Fl → S → Prop} (h : fa s = .ok (sv, st)) (hq : Q (.ret sv) ⟨s.env, st⟩) : OkS (retS fa n s) Q := by
  rw [ev_ret, h]
  exact .of (p := (.ret sv, ⟨s.env, st⟩)) hq
theorem okS_set {i : Nat} {fa : EvV} {n : Nat} {s : S} {sv : SV} {st : Sto} {Q : Fl → S → Prop} (h : fa s = .ok (sv, st)) (hq : Q .next ⟨s.env.set i (some sv), st⟩) : OkS (setS i fa n s) Q := by
  rw [ev_set, h]
  exact .of (p := (.next, ⟨s.env.set i (some sv), st⟩)) hq
theorem okS_nil {n : Nat} {s : S} {Q : Fl → S → Prop} (h : Q .next s) : OkS (nilS n s) Q := .of (p := (.next, s)) h
theorem okS_ifT {t : EvT} {f g : EvS} {n : Nat} {s : S} {st : Sto} {Q : Fl → S → Prop} (ht : t s = .ok (true, st)) (h : OkS (f n ⟨s.env, st⟩) Q) : OkS (ifS t f g n s) Q := okS_if ht h
theorem okS_ifF {t : EvT} {f g : EvS} {n : Nat} {s : S} {st : Sto} {Q : Fl → S → Prop} (ht : t s = .ok (false, st)) (h : OkS (g n ⟨s.env, st⟩) Q) : OkS (ifS t f g n s) Q := okS_if ht h
/-- a test that ends or goes on -/
theorem okS_not {t : EvT} {f : EvS} {n : Nat} {s : S} {st : Sto} {g : EvS} {Q : Fl → S → Prop} (ht : t s = .ok (false, st)) (h : OkS (g n ⟨s.env, st⟩) Q) : OkS (seqS (ifS t f nilS) g n s) Q :=
  okS_seq (okS_ifF ht (okS_nil h))
/-! ### the walked things as rules -/
section
variable {fa fb : EvD} {s : S} {st st1 : Sto} {j : Int} {n : Nat}
theorem small_nat (h : n ≤ 1000000000) : small62 (n : Int) := by unfold small62; omega
theorem range1_ok (h : fa s = .ok (.int j, st)) (hj : small62 j) : range1I fa s = .ok (rangeIV 0 j.toNat, st) := by
  unfold range1I
  rw [h]
  exact if_pos hj
theorem range1_nat (h : fa s = .ok (.int (n : Int), st)) (hj : n ≤ 1000000000) : range1I fa s = .ok (rangeIV 0 n, st) := range1_ok h (small_nat hj)
theorem range2_ok {i : Int} (h : fa s = .ok (.int i, st1)) (h2 : fb ⟨s.env, st1⟩ = .ok (.int j, st)) (hi : small62 i) (hj : small62 j) : range2I fa fb s = .ok (rangeIV i (j - i).toNat, st) := by
  unfold range2I
  rw [h]
  simp only [Res.bind_ok, h2]
  exact if_pos ⟨hi, hj⟩
theorem rangeD_ok {i : Int} (h : fa s = .ok (.int i, st1)) (h2 : fb ⟨s.env, st1⟩ = .ok (.int j, st)) (hi : small62 i) (hj : small62 j) : rangeDI fa fb s = .ok (rangeCIV i (-1) (i - j).toNat, st) := by
  unfold rangeDI
  rw [h]
  simp only [Res.bind_ok, h2]
  exact if_pos ⟨hi, hj⟩
/-- a comprehension over 0 .. n - 1 whose parts change nothing -/
theorem comp_range {vs : List Nat} {g : GS} {ft : EvT} {fe : EvD} (e1 : PyData → List (Option SV)) (p : PyData → Bool) (h : PyData → PyData) (ef : fa s = .ok (.int (n : Int), st)) (hn : n ≤ 16777216)
    (H : ∀ i : Nat, i < n → g (.int i) (wipeL s.env vs) = some (e1 (.int i)) ∧ ft ⟨e1 (.int i), st⟩ = .ok (p (.int i), st) ∧ (p (.int i) = true → fe ⟨e1 (.int i), st⟩ = .ok (h (.int i), st))) :
    compC (range1I fa) vs g ft fe s = .ok ((((List.range n).map fun i => PyData.int (i : Nat)).filter p).map h, st) := by
  rw [compC_items (range1_nat ef (by omega)) (items_range _ _) (by rw [intsFrom_len]; exact hn), compL_eq e1 p h]
  · rw [intsFrom_eq]
    simp only [Int.zero_add]
  · intro d hd
    obtain ⟨i, hi, rfl⟩ := mem_ints0.mp hd
    exact H i hi
theorem seq_lst {ds : List PyData} (h : fa s = .ok (.list ds, st)) : seqI (froR fa) s = .ok (seqIV ⟨true, fun _ => some ds⟩, st) := by
  unfold seqI froR
  rw [h]
  rfl
theorem seq_tup {ds : List PyData} (h : fa s = .ok (.tuple ds, st)) : seqI (froR fa) s = .ok (seqIV ⟨false, fun _ => some ds⟩, st) := by
  unfold seqI froR
  rw [h]
  rfl
theorem comp_seq {k : Bool} {fi : EvI} {ds : List PyData} {vs : List Nat} {g : GS} {ft : EvT} {fe : EvD} (e1 : PyData → List (Option SV)) (p : PyData → Bool) (h : PyData → PyData) (ef : fi s = .ok (seqIV ⟨k, fun _ => some ds⟩, st)) (hn : ds.length ≤ 16777216)
    (H : ∀ d ∈ ds, g d (wipeL s.env vs) = some (e1 d) ∧ ft ⟨e1 d, st⟩ = .ok (p d, st) ∧ (p d = true → fe ⟨e1 d, st⟩ = .ok (h d, st))) : compC fi vs g ft fe s = .ok ((ds.filter p).map h, st) := by
  rw [compC_items ef (items_seq _ _) hn, compL_eq e1 p h ds H]
theorem all_range {vs : List Nat} {g : GS} {ft : EvT} {fe : EvD} (e1 : PyData → List (Option SV)) (p : PyData → Bool) (ef : fa s = .ok (.int (n : Int), st)) (hn : n ≤ 1000000000)
    (H : ∀ i : Nat, i < n → g (.int i) (wipeL s.env vs) = some (e1 (.int i)) ∧ ft ⟨e1 (.int i), st⟩ = .ok (true, st) ∧ fe ⟨e1 (.int i), st⟩ = .ok (.bool (p (.int i)), st)) :
    quantE false (range1I fa) vs g ft fe s = .ok (.bool (((List.range n).map fun i => PyData.int (i : Nat)).all p), st) := by
  rw [quantE_items (range1_nat ef hn) (items_range _ _), quantL_all e1 p]
  · rw [intsFrom_eq]
    simp only [Int.zero_add, Res.bind_ok]
  · intro d hd
    obtain ⟨i, hi, rfl⟩ := mem_ints0.mp hd
    exact H i hi
theorem all_seq {k : Bool} {fi : EvI} {ds : List PyData} {vs : List Nat} {g : GS} {ft : EvT} {fe : EvD} (e1 : PyData → List (Option SV)) (p : PyData → Bool) (ef : fi s = .ok (seqIV ⟨k, fun _ => some ds⟩, st))
    (H : ∀ d ∈ ds, g d (wipeL s.env vs) = some (e1 d) ∧ ft ⟨e1 d, st⟩ = .ok (true, st) ∧ fe ⟨e1 d, st⟩ = .ok (.bool (p d), st)) : quantE false fi vs g ft fe s = .ok (.bool (ds.all p), st) := by
  rw [quantE_items ef (items_seq _ _), quantL_all e1 p ds H]
  rfl
theorem any_seq {k : Bool} {fi : EvI} {ds : List PyData} {vs : List Nat} {g : GS} {ft : EvT} {fe : EvD} (e1 : PyData → List (Option SV)) (p : PyData → Bool) (ef : fi s = .ok (seqIV ⟨k, fun _ => some ds⟩, st))
    (H : ∀ d ∈ ds, g d (wipeL s.env vs) = some (e1 d) ∧ ft ⟨e1 d, st⟩ = .ok (true, st) ∧ fe ⟨e1 d, st⟩ = .ok (.bool (p d), st)) : quantE true fi vs g ft fe s = .ok (.bool (ds.any p), st) := by
  rw [quantE_items ef (items_seq _ _), quantL_any e1 p ds H]
  rfl
end
/-! ### step by step: nothing here asks the kernel to unfold a reading -/
section
variable {env : List (Option SV)} {st st1 st2 : Sto} {fa fb fc : EvD} {a b d : PyData} {g g' : PyData → PyData → Option PyData}
theorem o_bin (h1 : fa ⟨env, st⟩ = .ok (a, st1)) (h2 : fb ⟨env, st1⟩ = .ok (b, st2)) (h : g a b = some d) : bin2 g fa fb ⟨env, st⟩ = .ok (d, st2) := by
  unfold bin2
  rw [h1]
  simp only [Res.bind_ok, h2, h, ofOpt_some]
theorem o_un {g : PyData → Option PyData} (h1 : fa ⟨env, st⟩ = .ok (a, st1)) (h : g a = some d) : un1 g fa ⟨env, st⟩ = .ok (d, st1) := by
  unfold un1
  rw [h1]
  simp only [Res.bind_ok, h, ofOpt_some]
theorem o_andT {r : RE} (h1 : fa ⟨env, st⟩ = .ok (.bool true, st1)) (h2 : fb ⟨env, st1⟩ = r) : andE fa fb ⟨env, st⟩ = r := by
  unfold andE
  rw [h1]
  exact h2
theorem o_andF (h1 : fa ⟨env, st⟩ = .ok (.bool false, st1)) : andE fa fb ⟨env, st⟩ = .ok (.bool false, st1) := by
  unfold andE
  rw [h1]
  rfl
theorem o_orF {r : RE} (h1 : fa ⟨env, st⟩ = .ok (.bool false, st1)) (h2 : fb ⟨env, st1⟩ = r) : orE fa fb ⟨env, st⟩ = r := by
  unfold orE
  rw [h1]
  exact h2
theorem o_orT (h1 : fa ⟨env, st⟩ = .ok (.bool true, st1)) : orE fa fb ⟨env, st⟩ = .ok (.bool true, st1) := by
  unfold orE
  rw [h1]
  rfl
theorem o_not {k : Bool} (h1 : fa ⟨env, st⟩ = .ok (.bool k, st1)) : notE fa ⟨env, st⟩ = .ok (.bool (!k), st1) := by
  unfold notE
  rw [h1]
  rfl
theorem o_val {k : Bool} (h1 : fa ⟨env, st⟩ = .ok (.bool k, st1)) : valT fa ⟨env, st⟩ = .ok (k, st1) := by
  unfold valT
  rw [h1]
  rfl
theorem o_cmp {k : Bool} (h1 : fa ⟨env, st⟩ = .ok (a, st1)) (h2 : fb ⟨env, st1⟩ = .ok (b, st2)) (h : g a b = some (.bool k)) : cmpT g fa fb ⟨env, st⟩ = .ok (k, st2) := o_val (o_bin h1 h2 h)
theorem o_notT {t : EvT} {k : Bool} (h1 : t ⟨env, st⟩ = .ok (k, st1)) : notT t ⟨env, st⟩ = .ok (!k, st1) := by
  unfold notT
  rw [h1]
  rfl
theorem o_andTT {t t' : EvT} {r : RT} (h1 : t ⟨env, st⟩ = .ok (true, st1)) (h2 : t' ⟨env, st1⟩ = r) : andT t t' ⟨env, st⟩ = r := by
  unfold andT
  rw [h1]
  exact h2
theorem o_andTF {t t' : EvT} (h1 : t ⟨env, st⟩ = .ok (false, st1)) : andT t t' ⟨env, st⟩ = .ok (false, st1) := by
  unfold andT
  rw [h1]
  rfl
theorem o_orTF {t t' : EvT} {r : RT} (h1 : t ⟨env, st⟩ = .ok (false, st1)) (h2 : t' ⟨env, st1⟩ = r) : orT t t' ⟨env, st⟩ = r := by
  unfold orT
  rw [h1]
  exact h2
theorem o_orTT {t t' : EvT} (h1 : t ⟨env, st⟩ = .ok (true, st1)) : orT t t' ⟨env, st⟩ = .ok (true, st1) := by
  unfold orT
  rw [h1]
  rfl
theorem o_list {f : EvC} {ds : List PyData} (h : f ⟨env, st⟩ = .ok (ds, st1)) : lstOf f ⟨env, st⟩ = .ok (.list ds, st1) := by
  unfold lstOf
  rw [h]
  rfl
theorem o_own {f : EvC} {ds : List PyData} (h : f ⟨env, st⟩ = .ok (ds, st1)) : ownOf f ⟨env, st⟩ = .ok (.obj st1.length, st1 ++ [.lst ds]) := by
  unfold ownOf
  rw [h]
  rfl
theorem o_pure (h : fa ⟨env, st⟩ = .ok (a, st1)) : pureV fa ⟨env, st⟩ = .ok (.pure a, st1) := by
  unfold pureV
  rw [h]
  rfl
theorem o_nil : lstE nilA ⟨env, st⟩ = .ok (.list [], st) := by
  unfold lstE
  simp [pureAll]
theorem o_call {n : Nat} {F : FSem} {f : EvA} {svs : List SV} {r : RE} (h : f ⟨env, st⟩ = .ok (svs, st1)) (hc : callS n F svs ⟨env, st1⟩ = r) : callE n F f ⟨env, st⟩ = r := by
  unfold callE
  rw [h]
  exact hc
theorem o_iteT {t : EvT} {r : RE} (h1 : t ⟨env, st⟩ = .ok (true, st1)) (h2 : fa ⟨env, st1⟩ = r) : iteE t fa fb ⟨env, st⟩ = r := by
  unfold iteE
  rw [h1]
  exact h2
theorem o_iteF {t : EvT} {r : RE} (h1 : t ⟨env, st⟩ = .ok (false, st1)) (h2 : fb ⟨env, st1⟩ = r) : iteE t fa fb ⟨env, st⟩ = r := by
  unfold iteE
  rw [h1]
  exact h2
end
end DL
end
section
set_option Elab.async false
set_option linter.all false
set_option maxRecDepth 100000
set_option maxHeartbeats 1000000
/-! The data layer, part w: rules for the plain side, backwards: what a reading answers, one rule for each combinator. -/
namespace DL
open PySem PySem.Spec PyProof.Rows L2 PySem.W
section
variable {env env1 env2 : List (Option SV)} {st st1 st2 st3 : Sto} {fa fb fc : EvD} {a b c d x y : PyData} {g g' : PyData → PyData → Option PyData} {k l : Bool} {i j n : Nat}
/-! ### values -/
theorem e_slot (h : env[i]? = some (some (.pure d))) : slotE i ⟨env, st⟩ = .ok (d, st) := by
  unfold slotE; simp only [h]
theorem e_slotV {sv : SV} (h : env[i]? = some (some sv)) : slotV i ⟨env, st⟩ = .ok (sv, st) := by
  unfold slotV; simp only [h]
theorem e_cur {ds : List PyData} (h : env[i]? = some (some (.obj j))) (h2 : st[j]? = some (.lst ds)) : curE i ⟨env, st⟩ = .ok (.list ds, st) := by
  unfold curE; simp only [h, h2]
theorem e_curS {ds : List PyData} (h : env[i]? = some (some (.scr ds))) : curE i ⟨env, st⟩ = .ok (.list ds, st) := by
  unfold curE; simp only [h]
theorem e_const : constE d ⟨env, st⟩ = .ok (d, st) := rfl
theorem e_bin (h1 : fa ⟨env, st⟩ = .ok (a, st1)) (h2 : fb ⟨env, st1⟩ = .ok (b, st2)) (h : g a b = some d) : bin2 g fa fb ⟨env, st⟩ = .ok (d, st2) := o_bin h1 h2 h
theorem e_un {g : PyData → Option PyData} (h1 : fa ⟨env, st⟩ = .ok (a, st1)) (h : g a = some d) : un1 g fa ⟨env, st⟩ = .ok (d, st1) := o_un h1 h
theorem e_isi {T : Ty} (h1 : fa ⟨env, st⟩ = .ok (a, st1)) (h : isiB T a = k) : isiE T fa ⟨env, st⟩ = .ok (.bool k, st1) := by
  subst h; exact o_un h1 rfl
theorem e_chain (h1 : fa ⟨env, st⟩ = .ok (a, st1)) (h2 : fb ⟨env, st1⟩ = .ok (b, st2)) (h : g a b = some (.bool k)) (h3 : fc ⟨env, st2⟩ = .ok (c, st2)) (h4 : g' b c = some (.bool l)) : chain2 g g' fa fb fc ⟨env, st⟩ = .ok (.bool (k && l), st2) := by
  unfold chain2; rw [h1]; simp only [Res.bind_ok, h2, h]
  cases k
  · simp
  · simp [h3, h4]
theorem e_and (h1 : fa ⟨env, st⟩ = .ok (.bool k, st1)) (h2 : k = true → fb ⟨env, st1⟩ = .ok (.bool l, st1)) : andE fa fb ⟨env, st⟩ = .ok (.bool (k && l), st1) := by
  cases k
  · exact o_andF h1
  · exact o_andT h1 (h2 rfl)
theorem e_or (h1 : fa ⟨env, st⟩ = .ok (.bool k, st1)) (h2 : k = false → fb ⟨env, st1⟩ = .ok (.bool l, st1)) : orE fa fb ⟨env, st⟩ = .ok (.bool (k || l), st1) := by
  cases k
  · exact o_orF h1 (h2 rfl)
  · exact o_orT h1
theorem e_not (h1 : fa ⟨env, st⟩ = .ok (.bool k, st1)) : notE fa ⟨env, st⟩ = .ok (.bool (!k), st1) := o_not h1
theorem e_neg {z : Int} (h1 : fa ⟨env, st⟩ = .ok (.int z, st1)) : negE fa ⟨env, st⟩ = .ok (.int (-z), st1) := by
  unfold negE; rw [h1]; rfl
theorem e_ite {t : EvT} (h1 : t ⟨env, st⟩ = .ok (k, st1)) (h2 : k = true → fa ⟨env, st1⟩ = .ok (x, st1)) (h3 : k = false → fb ⟨env, st1⟩ = .ok (y, st1)) : iteE t fa fb ⟨env, st⟩ = .ok (cond k x y, st1) := by
  cases k
  · exact o_iteF h1 (h3 rfl)
  · exact o_iteT h1 (h2 rfl)
theorem e_slice {fl fh : S → Res (Option Int × Sto)} {lo hi : Option Int} (h1 : fa ⟨env, st⟩ = .ok (a, st1)) (h2 : fl ⟨env, st1⟩ = .ok (lo, st2)) (h3 : fh ⟨env, st2⟩ = .ok (hi, st3)) (h : sliceD a lo hi = some d) : sliceE fa fl fh ⟨env, st⟩ = .ok (d, st3) := by
  unfold sliceE; rw [h1]; simp only [Res.bind_ok, h2, h3, h, ofOpt_some]
theorem o_none' : noneO ⟨env, st⟩ = .ok (none, st) := rfl
theorem o_some' {z : Int} (h : fa ⟨env, st⟩ = .ok (.int z, st1)) : someO fa ⟨env, st⟩ = .ok (some z, st1) := by
  unfold someO; rw [h]; rfl
theorem e_call {n : Nat} {F : FSem} {f : EvA} {svs : List SV} (h : f ⟨env, st⟩ = .ok (svs, st1)) (hc : callS n F svs ⟨env, st1⟩ = .ok (d, st2)) : callE n F f ⟨env, st⟩ = .ok (d, st2) := o_call h hc
theorem e_callC {n : Nat} {F : FSem} {f : EvA} {svs : List SV} {ds : List PyData} (h : f ⟨env, st⟩ = .ok (svs, st1)) (hc : callS n F svs ⟨env, st1⟩ = .ok (.list ds, st2)) : callC n F f ⟨env, st⟩ = .ok (ds, st2) := by
  unfold callC; rw [h]; simp only [Res.bind_ok, hc]; rfl
theorem e_lst {f : EvC} {ds : List PyData} (h : f ⟨env, st⟩ = .ok (ds, st1)) : lstOf f ⟨env, st⟩ = .ok (.list ds, st1) := o_list h
theorem e_own {f : EvC} {ds : List PyData} (h : f ⟨env, st⟩ = .ok (ds, st1)) (hn : st1.length = n) (h2 : st1 ++ [.lst ds] = st2) : ownOf f ⟨env, st⟩ = .ok (.obj n, st2) := by
  subst hn h2; exact o_own h
theorem e_pure (h : fa ⟨env, st⟩ = .ok (a, st1)) : pureV fa ⟨env, st⟩ = .ok (.pure a, st1) := o_pure h
theorem e_app {ds ds0 : List PyData} (h1 : env[i]? = some (some (.obj j))) (h2 : st[j]? = some (.lst ds0)) (hf : fa ⟨env, st⟩ = .ok (x, st1)) (h3 : st1[j]? = some (.lst ds)) (hl : ds.length < 16777216) (h4 : st1.set j (.lst (ds ++ [x])) = st2) :
    appE i fa ⟨env, st⟩ = .ok (.none, st2) := by
  subst h4
  unfold appE objAt
  simp only [h1, h2, hf, isLst, Res.bind_ok, h3, if_true]
  rw [if_pos hl]
theorem e_pop {ds : List PyData} (h1 : env[i]? = some (some (.obj j))) (h2 : st[j]? = some (.lst ds)) (h3 : ds[ds.length - 1]? = some d) (h4 : st.set j (.lst ds.dropLast) = st2) : popE i ⟨env, st⟩ = .ok (d, st2) := by
  subst h4
  unfold popE objAt
  simp only [h1, h2, h3]
theorem e_dget {kvs : List (Key × PyData)} {ky : Key} (h1 : env[i]? = some (some (.obj j))) (hf : fa ⟨env, st⟩ = .ok (x, st1)) (h2 : st1[j]? = some (.dK kvs)) (h3 : keyOf x = some ky) (h4 : valD kvs ky = some d) : dgetE i fa ⟨env, st⟩ = .ok (d, st1) := by
  unfold dgetE objAt
  simp only [h1, hf, Res.bind_ok, h2, h3, h4]
/-! ### arguments -/
variable {f : EvA} {svs : List SV} {ds : List PyData} {sv : SV}
theorem a_nil : nilA ⟨env, st⟩ = .ok ([], st) := rfl
theorem a_cons (h1 : fa ⟨env, st⟩ = .ok (a, st1)) (h2 : f ⟨env, st1⟩ = .ok (svs, st2)) : consA fa f ⟨env, st⟩ = .ok (.pure a :: svs, st2) := by
  unfold consA; rw [h1]; simp only [Res.bind_ok, h2]
theorem a_consV {fv : EvV} (h1 : fv ⟨env, st⟩ = .ok (sv, st1)) (h2 : f ⟨env, st1⟩ = .ok (svs, st2)) : consV fv f ⟨env, st⟩ = .ok (sv :: svs, st2) := by
  unfold consV; rw [h1]; simp only [Res.bind_ok, h2]
theorem a_slot (h1 : env[i]? = some (some sv)) (h2 : f ⟨env, st⟩ = .ok (svs, st2)) : consSlotA i f ⟨env, st⟩ = .ok (sv :: svs, st2) := by
  unfold consSlotA; simp only [h1, h2, Res.bind_ok]
theorem a_starT (h1 : fa ⟨env, st⟩ = .ok (.tuple ds, st1)) (h2 : f ⟨env, st1⟩ = .ok (svs, st2)) : consStarA fa f ⟨env, st⟩ = .ok (ds.map .pure ++ svs, st2) := by
  unfold consStarA; rw [h1]; simp only [Res.bind_ok, h2]
theorem a_starL (h1 : fa ⟨env, st⟩ = .ok (.list ds, st1)) (h2 : f ⟨env, st1⟩ = .ok (svs, st2)) : consStarA fa f ⟨env, st⟩ = .ok (ds.map .pure ++ svs, st2) := by
  unfold consStarA; rw [h1]; simp only [Res.bind_ok, h2]
theorem p_nil : pureAll [] = some [] := rfl
theorem p_cons (h : pureAll svs = some ds) : pureAll (.pure d :: svs) = some (d :: ds) := by
  rw [pa_cons', h]; rfl
theorem p_star {es : List PyData} : ∀ {ds : List PyData} (h : pureAll svs = some es), pureAll (ds.map SV.pure ++ svs) = some (ds ++ es)
  | [], h => h
  | d :: ds, h => by rw [List.map_cons, List.cons_append, pa_cons', p_star h]; rfl
theorem p_all : pureAll (ds.map SV.pure) = some ds := pa_pure ds
theorem e_tup (h : f ⟨env, st⟩ = .ok (svs, st1)) (h2 : pureAll svs = some ds) (hl : ds.length ≤ 16777216) : tupE f ⟨env, st⟩ = .ok (.tuple ds, st1) := by
  unfold tupE; rw [h]; simp only [Res.bind_ok, h2]; rw [if_pos hl]
theorem e_lstE (h : f ⟨env, st⟩ = .ok (svs, st1)) (h2 : pureAll svs = some ds) (hl : ds.length ≤ 16777216) : lstE f ⟨env, st⟩ = .ok (.list ds, st1) := by
  unfold lstE; rw [h]; simp only [Res.bind_ok, h2]; rw [if_pos hl]
theorem e_lstV (h : f ⟨env, st⟩ = .ok (svs, st1)) (h2 : pureAll svs = some ds) (hl : ds.length ≤ 16777216) (hn : st1.length = n) (h3 : st1 ++ [.lst ds] = st2) : lstV f ⟨env, st⟩ = .ok (.obj n, st2) := by
  subst hn h3
  unfold lstV; rw [h]; simp only [Res.bind_ok, h2]; rw [if_pos hl]; rfl
theorem len_nil {α : Type} {m : Nat} : ([] : List α).length ≤ m := Nat.zero_le _
theorem len_cons {α : Type} {x : α} {r : List α} {m : Nat} (h : r.length ≤ m) : (x :: r).length ≤ m + 1 := Nat.succ_le_succ h
theorem e_binV {gl : PyData → PyData → Option (List PyData)} (h1 : fa ⟨env, st⟩ = .ok (a, st1)) (h2 : fb ⟨env, st1⟩ = .ok (b, st2)) (h : gl a b = some ds) (hn : st2.length = n) (h3 : st2 ++ [.lst ds] = st3) : binV gl fa fb ⟨env, st⟩ = .ok (.obj n, st3) := by
  subst hn h3
  unfold binV; rw [h1]; simp only [Res.bind_ok, h2, h, ofOptL]; rfl
theorem e_un1V {gl : PyData → Option (List PyData)} (h1 : fa ⟨env, st⟩ = .ok (a, st1)) (h : gl a = some ds) (hn : st1.length = n) (h3 : st1 ++ [.lst ds] = st3) : un1V gl fa ⟨env, st⟩ = .ok (.obj n, st3) := by
  subst hn h3
  unfold un1V; rw [h1]; simp only [Res.bind_ok, h, ofOptL]; rfl
theorem e_dict0 (hn : st.length = n) (h3 : st ++ [.dK []] = st3) : dict0V ⟨env, st⟩ = .ok (.obj n, st3) := by
  subst hn h3; rfl
theorem e_dict1 {ky : Key} (h1 : fa ⟨env, st⟩ = .ok (a, st1)) (h2 : fb ⟨env, st1⟩ = .ok (b, st2)) (h : keyOf a = some ky) (hn : st2.length = n) (h3 : st2 ++ [.dK [(ky, b)]] = st3) : dict1V fa fb ⟨env, st⟩ = .ok (.obj n, st3) := by
  subst hn h3
  unfold dict1V; rw [h1]; simp only [Res.bind_ok, h2, h]
/-! ### tests -/
variable {t t' : EvT}
theorem t_val (h1 : fa ⟨env, st⟩ = .ok (.bool k, st1)) : valT fa ⟨env, st⟩ = .ok (k, st1) := o_val h1
theorem t_cmp (h1 : fa ⟨env, st⟩ = .ok (a, st1)) (h2 : fb ⟨env, st1⟩ = .ok (b, st2)) (h : g a b = some (.bool k)) : cmpT g fa fb ⟨env, st⟩ = .ok (k, st2) := o_cmp h1 h2 h
theorem t_not (h1 : t ⟨env, st⟩ = .ok (k, st1)) : notT t ⟨env, st⟩ = .ok (!k, st1) := o_notT h1
theorem t_and (h1 : t ⟨env, st⟩ = .ok (k, st1)) (h2 : k = true → t' ⟨env, st1⟩ = .ok (l, st1)) : andT t t' ⟨env, st⟩ = .ok (k && l, st1) := by
  cases k
  · exact o_andTF h1
  · exact o_andTT h1 (h2 rfl)
theorem t_or (h1 : t ⟨env, st⟩ = .ok (k, st1)) (h2 : k = false → t' ⟨env, st1⟩ = .ok (l, st1)) : orT t t' ⟨env, st⟩ = .ok (k || l, st1) := by
  cases k
  · exact o_orTF h1 (h2 rfl)
  · exact o_orTT h1
theorem t_orT (h1 : t ⟨env, st⟩ = .ok (k, st1)) (hk : k = true) : orT t t' ⟨env, st⟩ = .ok (true, st1) := by
  subst hk; exact o_orTT h1
theorem t_andF (h1 : t ⟨env, st⟩ = .ok (k, st1)) (hk : k = false) : andT t t' ⟨env, st⟩ = .ok (false, st1) := by
  subst hk; exact o_andTF h1
theorem e_orT (h1 : fa ⟨env, st⟩ = .ok (.bool k, st1)) (hk : k = true) : orE fa fb ⟨env, st⟩ = .ok (.bool true, st1) := by
  subst hk; exact o_orT h1
theorem e_andF (h1 : fa ⟨env, st⟩ = .ok (.bool k, st1)) (hk : k = false) : andE fa fb ⟨env, st⟩ = .ok (.bool false, st1) := by
  subst hk; exact o_andF h1
theorem t_orF (h1 : t ⟨env, st⟩ = .ok (k, st1)) (hk : k = false) (h2 : t' ⟨env, st1⟩ = .ok (l, st2)) : orT t t' ⟨env, st⟩ = .ok (l, st2) := by
  subst hk; exact o_orTF h1 h2
theorem t_andT (h1 : t ⟨env, st⟩ = .ok (k, st1)) (hk : k = true) (h2 : t' ⟨env, st1⟩ = .ok (l, st2)) : andT t t' ⟨env, st⟩ = .ok (l, st2) := by
  subst hk; exact o_andTT h1 h2
theorem e_orF (h1 : fa ⟨env, st⟩ = .ok (.bool k, st1)) (hk : k = false) (h2 : fb ⟨env, st1⟩ = .ok (x, st2)) : orE fa fb ⟨env, st⟩ = .ok (x, st2) := by
  subst hk; exact o_orF h1 h2
theorem e_andT (h1 : fa ⟨env, st⟩ = .ok (.bool k, st1)) (hk : k = true) (h2 : fb ⟨env, st1⟩ = .ok (x, st2)) : andE fa fb ⟨env, st⟩ = .ok (x, st2) := by
  subst hk; exact o_andT h1 h2
theorem t_orX {r : RT} (h1 : t ⟨env, st⟩ = .ok (k, st1)) (h2 : (if k = true then .ok (true, st1) else t' ⟨env, st1⟩) = r) : orT t t' ⟨env, st⟩ = r := by
  subst h2
  cases k
  · exact o_orTF h1 rfl
  · exact o_orTT h1
theorem t_andX {r : RT} (h1 : t ⟨env, st⟩ = .ok (k, st1)) (h2 : (if k = false then .ok (false, st1) else t' ⟨env, st1⟩) = r) : andT t t' ⟨env, st⟩ = r := by
  subst h2
  cases k
  · exact o_andTF h1
  · exact o_andTT h1 rfl
theorem e_orX {r : RE} (h1 : fa ⟨env, st⟩ = .ok (.bool k, st1)) (h2 : (if k = true then .ok (.bool true, st1) else fb ⟨env, st1⟩) = r) : orE fa fb ⟨env, st⟩ = r := by
  subst h2
  cases k
  · exact o_orF h1 rfl
  · exact o_orT h1
theorem e_andX {r : RE} (h1 : fa ⟨env, st⟩ = .ok (.bool k, st1)) (h2 : (if k = false then .ok (.bool false, st1) else fb ⟨env, st1⟩) = r) : andE fa fb ⟨env, st⟩ = r := by
  subst h2
  cases k
  · exact o_andF h1
  · exact o_andT h1 rfl
theorem x_t {α : Type} {p : Prop} [Decidable p] {u v : Res α} (h : p) : (if p then u else v) = u := if_pos h
theorem x_orf {α : Type} {u v r : Res α} (hk : k = false) (h : v = r) : (if k = true then u else v) = r := by
  subst h hk; rfl
theorem x_andt {α : Type} {u v r : Res α} (hk : k = true) (h : v = r) : (if k = false then u else v) = r := by
  subst h hk; rfl
theorem x_org {x : RT} (h : k = false → x = .ok (l, st1)) : (if k = true then .ok (true, st1) else x) = .ok (k || l, st1) := by
  cases k
  · rw [if_neg Bool.false_ne_true, h rfl]; rfl
  · rfl
theorem x_andg {x : RT} (h : k = true → x = .ok (l, st1)) : (if k = false then .ok (false, st1) else x) = .ok (k && l, st1) := by
  cases k
  · rfl
  · rw [if_neg (by simp), h rfl]; rfl
theorem x_orge {x : RE} (h : k = false → x = .ok (.bool l, st1)) : (if k = true then .ok (.bool true, st1) else x) = .ok (.bool (k || l), st1) := by
  cases k
  · rw [if_neg Bool.false_ne_true, h rfl]; rfl
  · rfl
theorem x_andge {x : RE} (h : k = true → x = .ok (.bool l, st1)) : (if k = false then .ok (.bool false, st1) else x) = .ok (.bool (k && l), st1) := by
  cases k
  · rfl
  · rw [if_neg (by simp), h rfl]; rfl
theorem bq_t (b : Bool) : (b == true) = b := by cases b <;> rfl
theorem bq_f (b : Bool) : (b == false) = !b := by cases b <;> rfl
theorem n_0 {α : Type} : ([] : List α).length = 0 := rfl
theorem n_1 {α : Type} {a : α} : [a].length = 1 := rfl
theorem n_2 {α : Type} {a b : α} : [a, b].length = 2 := rfl
theorem n_3 {α : Type} {a b c : α} : [a, b, c].length = 3 := rfl
theorem n_4 {α : Type} {a b c d : α} : [a, b, c, d].length = 4 := rfl
theorem p_0 {α : Type} {l : List α} : [] ++ l = l := rfl
theorem p_1 {α : Type} {a : α} {l l' : List α} {r : List α} (h : l ++ l' = r) : (a :: l) ++ l' = a :: r := by rw [List.cons_append, h]
theorem t_yes : yesT ⟨env, st⟩ = .ok (true, st) := rfl
/-! ### targets, places -/
theorem set_0 {α : Type} {x y : α} {r : List α} : (x :: r).set 0 y = y :: r := rfl
theorem set_s {α : Type} {x y : α} {r r' : List α} {i : Nat} (h : r.set i y = r') : (x :: r).set (i + 1) y = x :: r' := by rw [List.set_cons_succ, h]
theorem g_name (h : env.set i (some (.pure d)) = env1) : nameG i d env = some env1 := by subst h; rfl
theorem g_tup {gs : GSs} (hl : ds.length = n) (h : gs ds env = some env1) : tupG n gs (.tuple ds) env = some env1 := by
  unfold tupG; simp only; rw [if_pos hl, h]
theorem g_cons {gt : GS} {gs : GSs} (h1 : gt d env = some env1) (h2 : gs ds env1 = some env2) : consG gt gs (d :: ds) env = some env2 := by
  unfold consG; simp only [h1, Option.bind_some, h2]
theorem g_nil : nilG [] env = some env := rfl
/-! ### what is walked -/
def Walks (fi : EvI) (s : S) (ds : List PyData) (st1 : Sto) : Prop := ∃ iv, fi s = .ok (iv, st1) ∧ Items iv ds
theorem w_range1 (h : fa ⟨env, st⟩ = .ok (.int (n : Int), st1)) (hn : n ≤ 1000000000) : Walks (range1I fa) ⟨env, st⟩ ((List.range n).map fun i => PyData.int (i : Nat)) st1 :=
  ⟨_, range1_nat h hn, by have := items_range 0 n; rw [intsFrom_eq] at this; simpa using this⟩
theorem w_range2 {p q : Nat} (h : fa ⟨env, st⟩ = .ok (.int (p : Int), st1)) (h2 : fb ⟨env, st1⟩ = .ok (.int (q : Int), st2)) (hp : p ≤ 1000000000) (hq : q ≤ 1000000000) : Walks (range2I fa fb) ⟨env, st⟩ ((List.range (q - p)).map fun i => PyData.int ((p + i : Nat) : Int)) st2 :=
  ⟨_, range2_ok h h2 (small_nat hp) (small_nat hq), by
    have := items_range (p : Int) ((q : Int) - p).toNat
    rw [intsFrom_eq] at this
    have e : ((q : Int) - p).toNat = q - p := by omega
    rw [e] at this ⊢
    simpa using this⟩
theorem intsDown_eq : ∀ (n : Nat) (hi : Int), intsDown hi n = (List.range n).map fun i => PyData.int (hi - (i : Nat))
  | 0, _ => rfl
  | n + 1, hi => by
    rw [List.range_succ_eq_map, List.map_cons, List.map_map, intsDown, intsDown_eq n (hi - 1)]
    congr 1
    · simp
    · apply List.map_congr_left
      intro i _
      simp only [Function.comp]
      congr 1
      push_cast
      omega
theorem w_rangeD {p q : Int} (h : fa ⟨env, st⟩ = .ok (.int p, st1)) (h2 : fb ⟨env, st1⟩ = .ok (.int q, st2)) (hp : small62 p) (hq : small62 q) : Walks (rangeDI fa fb) ⟨env, st⟩ ((List.range (p - q).toNat).map fun i => PyData.int (p - (i : Nat))) st2 :=
  ⟨_, rangeD_ok h h2 hp hq, by rw [← intsDown_eq]; exact items_rangeD _ _⟩
theorem w_seqT (h : fa ⟨env, st⟩ = .ok (.tuple ds, st1)) : Walks (seqI (froR fa)) ⟨env, st⟩ ds st1 := ⟨_, seq_tup h, items_seq _ _⟩
theorem w_seqL (h : fa ⟨env, st⟩ = .ok (.list ds, st1)) : Walks (seqI (froR fa)) ⟨env, st⟩ ds st1 := ⟨_, seq_lst h, items_seq _ _⟩
theorem w_scr (h : env[i]? = some (some (.scr ds))) : Walks (seqI (ownR i)) ⟨env, st⟩ ds st := by
  refine ⟨seqIV ⟨true, fun _ => some ds⟩, ?_, items_seq _ _⟩
  unfold seqI ownR; simp only [h, Res.bind_ok]
theorem zipL_map {α β : Type} (f : α → PyData) (h : β → PyData) : ∀ (xs : List α) (ys : List β), zipL (xs.map f) (ys.map h) = (xs.zip ys).map fun p => .tuple [f p.1, h p.2]
  | [], ys => by cases ys <;> rfl
  | x :: xs, [] => rfl
  | x :: xs, y :: ys => by
    rw [List.map_cons, List.map_cons, zipL, zipL_map f h xs ys]; rfl
theorem w_zip {r1 r2 : EvR} {k1 k2 : Bool} {es : List PyData} (h : r1 ⟨env, st⟩ = .ok (⟨k1, fun _ => some ds⟩, st1)) (h2 : r2 ⟨env, st1⟩ = .ok (⟨k2, fun _ => some es⟩, st2)) : Walks (zipI r1 r2) ⟨env, st⟩ (zipL ds es) st2 := by
  refine ⟨_, ?_, items_zip k1 k2 ds es⟩
  unfold zipI; rw [h]; simp only [Res.bind_ok, h2]
theorem r_froT (h : fa ⟨env, st⟩ = .ok (.tuple ds, st1)) : froR fa ⟨env, st⟩ = .ok (⟨false, fun _ => some ds⟩, st1) := by
  unfold froR; rw [h]; rfl
theorem r_froL (h : fa ⟨env, st⟩ = .ok (.list ds, st1)) : froR fa ⟨env, st⟩ = .ok (⟨true, fun _ => some ds⟩, st1) := by
  unfold froR; rw [h]; rfl
/-! ### comprehensions, quantifiers -/
theorem c_pure {α : Type} {fi : EvI} {vs : List Nat} {gt : GS} {ft : EvT} {fe : EvD} (xs : List α) (fx : α → PyData) (e1 : α → List (Option SV)) (p : α → Bool) (h : α → PyData) (hw : Walks fi ⟨env, st⟩ (xs.map fx) st1) (hn : xs.length ≤ 16777216)
    (H : ∀ x ∈ xs, gt (fx x) (wipeL env vs) = some (e1 x) ∧ ft ⟨e1 x, st1⟩ = .ok (p x, st1) ∧ (p x = true → fe ⟨e1 x, st1⟩ = .ok (h x, st1))) : compC fi vs gt ft fe ⟨env, st⟩ = .ok ((xs.filter p).map h, st1) := by
  obtain ⟨iv, q1, q2⟩ := hw
  rw [compC_items q1 q2 (by rw [List.length_map]; exact hn)]
  show compL gt ft fe (wipeL env vs) (xs.map fx) st1 = _
  clear q1 q2 hn
  induction xs with
  | nil => rfl
  | cons x xs ih =>
    obtain ⟨h1, h2, h3⟩ := H x List.mem_cons_self
    have ih := ih fun x hx => H x (List.mem_cons_of_mem _ hx)
    rw [List.map_cons]
    unfold compL
    rw [h1]
    simp only [h2]
    cases hp : p x with
    | false => simp [ih, hp]
    | true => simp only [h3 hp]; simp [ih, hp]
theorem c_all {α : Type} {fi : EvI} {vs : List Nat} {gt : GS} {ft : EvT} {fe : EvD} (xs : List α) (fx : α → PyData) (e1 : α → List (Option SV)) (h : α → PyData) (hw : Walks fi ⟨env, st⟩ (xs.map fx) st1) (hn : xs.length ≤ 16777216)
    (H : ∀ x ∈ xs, gt (fx x) (wipeL env vs) = some (e1 x) ∧ ft ⟨e1 x, st1⟩ = .ok (true, st1) ∧ fe ⟨e1 x, st1⟩ = .ok (h x, st1)) : compC fi vs gt ft fe ⟨env, st⟩ = .ok (xs.map h, st1) := by
  rw [c_pure xs fx e1 (fun _ => true) h hw hn fun x hx => ⟨(H x hx).1, (H x hx).2.1, fun _ => (H x hx).2.2⟩, List.filter_eq_self.mpr (fun _ _ => rfl)]
/-- a comprehension whose parts change the store -/
theorem c_inv {α : Type} {fi : EvI} {vs : List Nat} {gt : GS} {ft : EvT} {fe : EvD} (xs : List α) (fx : α → PyData) (I : Nat → List PyData → Sto → Prop) (hw : Walks fi ⟨env, st⟩ (xs.map fx) st1) (hn : xs.length ≤ 16777216) (h0 : I 0 [] st1)
    (H : ∀ (k : Nat) (hk : k < xs.length) (acc : List PyData) (st : Sto), I k acc st → ∃ e1, gt (fx xs[k]) (wipeL env vs) = some e1 ∧
      ((∃ st', ft ⟨e1, st⟩ = .ok (false, st') ∧ I (k + 1) acc st') ∨ ∃ st' y st2, ft ⟨e1, st⟩ = .ok (true, st') ∧ fe ⟨e1, st'⟩ = .ok (y, st2) ∧ I (k + 1) (acc ++ [y]) st2)) :
    ∃ ys st', compC fi vs gt ft fe ⟨env, st⟩ = .ok (ys, st') ∧ I xs.length ys st' := by
  obtain ⟨iv, q1, q2⟩ := hw
  rw [compC_items q1 q2 (by rw [List.length_map]; exact hn)]
  show ∃ ys st', compL gt ft fe (wipeL env vs) (xs.map fx) st1 = .ok (ys, st') ∧ I xs.length ys st'
  have key : ∀ (r : Nat) (k : Nat) (acc : List PyData) (st : Sto), k + r = xs.length → I k acc st → ∃ ys st', compL gt ft fe (wipeL env vs) ((xs.drop k).map fx) st = .ok (ys, st') ∧ I xs.length (acc ++ ys) st' := by
    intro r
    induction r with
    | zero =>
      intro k acc st hr hI
      rw [List.drop_eq_nil_of_le (by omega)]
      refine ⟨[], st, rfl, ?_⟩
      have : k = xs.length := by omega
      rw [List.append_nil, ← this]
      exact hI
    | succ r ih =>
      intro k acc st hr hI
      have hk : k < xs.length := by omega
      obtain ⟨e1, eg, h⟩ := H k hk acc st hI
      rw [List.drop_eq_getElem_cons hk, List.map_cons]
      unfold compL
      rw [eg]
      rcases h with ⟨st', h1, h2⟩ | ⟨st', y, st2, h1, h2, h3⟩
      · obtain ⟨ys, st3, r1, r2⟩ := ih (k + 1) acc st' (by omega) h2
        refine ⟨ys, st3, ?_, r2⟩
        simp only [h1]
        exact r1
      · obtain ⟨ys, st3, r1, r2⟩ := ih (k + 1) (acc ++ [y]) st2 (by omega) h3
        refine ⟨y :: ys, st3, ?_, by rw [List.append_assoc] at r2; exact r2⟩
        simp only [h1, h2, r1]
        rfl
  obtain ⟨ys, st', r1, r2⟩ := key xs.length 0 [] st1 (by omega) h0
  exact ⟨ys, st', by simpa using r1, by simpa using r2⟩
theorem q_all {α : Type} {fi : EvI} {vs : List Nat} {gt : GS} {ft : EvT} {fe : EvD} (xs : List α) (fx : α → PyData) (e1 : α → List (Option SV)) (p : α → Bool) (hw : Walks fi ⟨env, st⟩ (xs.map fx) st1)
    (H : ∀ x ∈ xs, gt (fx x) (wipeL env vs) = some (e1 x) ∧ ft ⟨e1 x, st1⟩ = .ok (true, st1) ∧ fe ⟨e1 x, st1⟩ = .ok (.bool (p x), st1)) : quantE false fi vs gt ft fe ⟨env, st⟩ = .ok (.bool (xs.all p), st1) := by
  obtain ⟨iv, q1, q2⟩ := hw
  rw [quantE_items q1 q2]
  show (quantL false gt ft fe (wipeL env vs) (xs.map fx) st1).bind _ = _
  have : quantL false gt ft fe (wipeL env vs) (xs.map fx) st1 = .ok (xs.all p, st1) := by
    clear q1 q2
    induction xs with
    | nil => rfl
    | cons x xs ih =>
      obtain ⟨h1, h2, h3⟩ := H x List.mem_cons_self
      have ih := ih fun x hx => H x (List.mem_cons_of_mem _ hx)
      rw [List.map_cons]
      unfold quantL
      rw [h1]
      simp only [h2, h3]
      cases hp : p x with
      | false => simp [hp]
      | true => simp [ih, hp]
  rw [this]; rfl
theorem q_any {α : Type} {fi : EvI} {vs : List Nat} {gt : GS} {ft : EvT} {fe : EvD} (xs : List α) (fx : α → PyData) (e1 : α → List (Option SV)) (p : α → Bool) (hw : Walks fi ⟨env, st⟩ (xs.map fx) st1)
    (H : ∀ x ∈ xs, gt (fx x) (wipeL env vs) = some (e1 x) ∧ ft ⟨e1 x, st1⟩ = .ok (true, st1) ∧ fe ⟨e1 x, st1⟩ = .ok (.bool (p x), st1)) : quantE true fi vs gt ft fe ⟨env, st⟩ = .ok (.bool (xs.any p), st1) := by
  obtain ⟨iv, q1, q2⟩ := hw
  rw [quantE_items q1 q2]
  show (quantL true gt ft fe (wipeL env vs) (xs.map fx) st1).bind _ = _
  have : quantL true gt ft fe (wipeL env vs) (xs.map fx) st1 = .ok (xs.any p, st1) := by
    clear q1 q2
    induction xs with
    | nil => rfl
    | cons x xs ih =>
      obtain ⟨h1, h2, h3⟩ := H x List.mem_cons_self
      have ih := ih fun x hx => H x (List.mem_cons_of_mem _ hx)
      rw [List.map_cons]
      unfold quantL
      rw [h1]
      simp only [h2, h3]
      cases hp : p x with
      | true => simp [hp]
      | false => simp [ih, hp]
  rw [this]; rfl
end
/-! ### statements -/
section
variable {env env1 env2 : List (Option SV)} {st st1 st2 st3 : Sto} {fa fb fc : EvD} {a b c d x y : PyData} {k l : Bool} {i j n m : Nat} {sv : SV} {f g : EvS} {Q : Fl → S → Prop} {fv : EvV}
theorem s_next (h : OkS (g n ⟨env, st⟩) Q) : thenS g n Q .next ⟨env, st⟩ := h
theorem s_ret' {s : S} (h : Q (.ret sv) s) : thenS g n Q (.ret sv) s := h
theorem s_brk' {s : S} (h : Q .brk s) : thenS g n Q .brk s := h
theorem s_cont' {s : S} (h : Q .cont s) : thenS g n Q .cont s := h
theorem s_set (h : fv ⟨env, st⟩ = .ok (sv, st1)) (he : env.set i (some sv) = env1) (hq : Q .next ⟨env1, st1⟩) : OkS (setS i fv n ⟨env, st⟩) Q := by
  subst he; exact okS_set h hq
theorem s_ret (h : fv ⟨env, st⟩ = .ok (sv, st1)) (hq : Q (.ret sv) ⟨env, st1⟩) : OkS (retS fv n ⟨env, st⟩) Q := okS_ret h hq
theorem s_nil {s : S} (h : Q .next s) : OkS (nilS n s) Q := .of (p := (.next, s)) h
theorem s_pass {s : S} (h : Q .next s) : OkS (passS n s) Q := .of (p := (.next, s)) h
theorem s_brk {s : S} (h : Q .brk s) : OkS (brkS n s) Q := .of (p := (.brk, s)) h
theorem s_cont {s : S} (h : Q .cont s) : OkS (contS n s) Q := .of (p := (.cont, s)) h
theorem s_retN {s : S} (h : Q (.ret (.pure .none)) s) : OkS (retNS n s) Q := .of (p := (.ret (.pure .none), s)) h
theorem s_drop (h : fa ⟨env, st⟩ = .ok (a, st1)) (hq : Q .next ⟨env, st1⟩) : OkS (dropS fa n ⟨env, st⟩) Q := by
  rw [ev_drop, h]; exact .of hq
theorem s_par {fx : EvA} {s1 s2 : SV} (h : fx ⟨env, st⟩ = .ok ([s1, s2], st1)) (he : env.set i (some s1) = env1) (he2 : env1.set j (some s2) = env2) (hq : Q .next ⟨env2, st1⟩) : OkS (parS i j fx n ⟨env, st⟩) Q := by
  subst he he2
  rw [ev_par, h]; exact .of hq
theorem s_asg2 {fx : EvA} {s1 s2 : SV} (h : fx ⟨env, st⟩ = .ok ([s1, s2], st1)) (he : env.set i (some s1) = env1) (he2 : env1.set j (some s2) = env2) (hq : Q .next ⟨env2, st1⟩) : OkS (asg2S i j fx n ⟨env, st⟩) Q := by
  subst he he2
  rw [ev_asg2, h]; exact .of hq
theorem s_par3 {fx : EvA} {s1 s2 s3 : SV} {env3 : List (Option SV)} (h : fx ⟨env, st⟩ = .ok ([s1, s2, s3], st1)) (he : env.set i (some s1) = env1) (he2 : env1.set j (some s2) = env2) (he3 : env2.set m (some s3) = env3) (hq : Q .next ⟨env3, st1⟩) : OkS (par3S i j m fx n ⟨env, st⟩) Q := by
  subst he he2 he3
  unfold par3S
  rw [h]; exact .of hq
theorem s_asg {gt : GS} (h : fa ⟨env, st⟩ = .ok (a, st1)) (he : gt a env = some env1) (hq : Q .next ⟨env1, st1⟩) : OkS (asgS fa gt n ⟨env, st⟩) Q := by
  unfold asgS; rw [h]; simp only [Res.bx_ok, he]; exact .of hq
theorem s_aug {gx : PyData → PyData → Option PyData} (h1 : env[i]? = some (some (.pure x))) (h : fa ⟨env, st⟩ = .ok (a, st1)) (hg : gx x a = some d) (he : env.set i (some (.pure d)) = env1) (hq : Q .next ⟨env1, st1⟩) : OkS (augS i gx fa n ⟨env, st⟩) Q := by
  subst he
  unfold augS; simp only [h1, h, Res.bx_ok, hg]; exact .of hq
theorem s_sto {z : Int} {ds : List PyData} (h : fb ⟨env, st⟩ = .ok (x, st1)) (h1 : env[i]? = some (some (.obj j))) (hi : fa ⟨env, st1⟩ = .ok (.int z, st2)) (h2 : st2[j]? = some (.lst ds)) (hx : ixN ds.length z = some m) (h3 : st2.set j (.lst (ds.set m x)) = st3) (hq : Q .next ⟨env, st3⟩) :
    OkS (stoS i fa fb n ⟨env, st⟩) Q := by
  subst h3
  unfold stoS objAt; rw [h]; simp only [Res.bx_ok, h1, hi, h2, hx]; exact .of hq
theorem s_dput {kvs : List (Key × PyData)} {ky : Key} (h : fb ⟨env, st⟩ = .ok (x, st1)) (h1 : env[i]? = some (some (.obj j))) (hi : fa ⟨env, st1⟩ = .ok (a, st2)) (h2 : st2[j]? = some (.dK kvs)) (hk : keyOf a = some ky) (hl : kvs.length < 16777216) (h3 : st2.set j (.dK (putD kvs ky x)) = st3) (hq : Q .next ⟨env, st3⟩) :
    OkS (dputS i fa fb n ⟨env, st⟩) Q := by
  subst h3
  unfold dputS objAt; rw [h]; simp only [Res.bx_ok, h1, hi, h2, hk]; rw [if_pos hl]; exact .of hq
theorem s_if {t : EvT} (ht : t ⟨env, st⟩ = .ok (k, st1)) (h1 : k = true → OkS (f n ⟨env, st1⟩) Q) (h2 : k = false → OkS (g n ⟨env, st1⟩) Q) : OkS (ifS t f g n ⟨env, st⟩) Q := by
  cases k
  · exact okS_ifF ht (h2 rfl)
  · exact okS_ifT ht (h1 rfl)
theorem s_ifT {t : EvT} (ht : t ⟨env, st⟩ = .ok (true, st1)) (h1 : OkS (f n ⟨env, st1⟩) Q) : OkS (ifS t f g n ⟨env, st⟩) Q := okS_ifT ht h1
theorem s_ifF {t : EvT} (ht : t ⟨env, st⟩ = .ok (false, st1)) (h1 : OkS (g n ⟨env, st1⟩) Q) : OkS (ifS t f g n ⟨env, st⟩) Q := okS_ifF ht h1
/-! ### loops -/
/-- over what is walked; the items may hang on the store, as the invariant says -/
theorem s_forG {fi : EvI} {iv : IVal} {gt : GS} {body : EvS} {ws : List Nat} {ds : List PyData} (I : Nat → S → Prop) (e : fi ⟨env, st⟩ = .ok (iv, st1)) (hi : ∀ k s, I k s → iv k s.st = some (ds[k]?)) (h0 : I 0 ⟨env, st1⟩)
    (step : ∀ k d s, ds[k]? = some d → I k s → ∃ e1, gt d s.env = some e1 ∧ OkS (body s.st.length ⟨e1, s.st⟩) fun fl s' => match fl with
      | .next => I (k + 1) (wipeS ws s.st.length s')
      | .cont => I (k + 1) (wipeS ws s.st.length s')
      | .brk => Q .next s'
      | .ret sv => Q (.ret sv) s') (hq : ∀ s', I ds.length s' → Q .next s') : OkS (forS fi gt body ws n ⟨env, st⟩) Q := by
  unfold forS
  rw [e]
  show OkS (lim fun m => forN iv gt body ws m 0 ⟨env, st1⟩) Q
  have key : ∀ (r : Nat) (i : Nat) (s : S), i + r = ds.length → I i s → ∃ m, OkS (forN iv gt body ws m i s) Q := by
    intro r
    induction r with
    | zero =>
      intro i s hr hI
      refine ⟨1, ?_⟩
      unfold forN
      rw [hi i s hI, List.getElem?_eq_none (by omega)]
      exact .of (p := (.next, s)) (hq s (by rw [← hr]; exact hI))
    | succ r ih =>
      intro i s hr hI
      have hl : i < ds.length := by omega
      obtain ⟨e1, eg, ok⟩ := step i _ s (List.getElem?_eq_getElem hl) hI
      obtain ⟨fl, s1, e, q⟩ := ok.get
      cases fl with
      | next =>
        obtain ⟨m, hm⟩ := ih (i + 1) _ (by omega) q
        refine ⟨m + 1, ?_⟩
        unfold forN
        rw [hi i s hI, List.getElem?_eq_getElem hl]
        simp only [eg, e]
        exact hm
      | cont =>
        obtain ⟨m, hm⟩ := ih (i + 1) _ (by omega) q
        refine ⟨m + 1, ?_⟩
        unfold forN
        rw [hi i s hI, List.getElem?_eq_getElem hl]
        simp only [eg, e]
        exact hm
      | brk =>
        refine ⟨1, ?_⟩
        unfold forN
        rw [hi i s hI, List.getElem?_eq_getElem hl]
        simp only [eg, e]
        exact .of (p := (.next, s1)) q
      | ret sv =>
        refine ⟨1, ?_⟩
        unfold forN
        rw [hi i s hI, List.getElem?_eq_getElem hl]
        simp only [eg, e]
        exact .of (p := (.ret sv, s1)) q
  obtain ⟨m, hm⟩ := key ds.length 0 _ (by omega) h0
  have up : ∀ (m : Nat) (i : Nat) (s : S), forN iv gt body ws m i s ≠ .stuck → ∀ m', m ≤ m' → forN iv gt body ws m' i s = forN iv gt body ws m i s := by
    intro m
    induction m with
    | zero => intro i s h; exact absurd rfl h
    | succ m ih =>
      intro i s h m' hm'
      obtain ⟨m'', rfl⟩ : ∃ m'', m' = m'' + 1 := ⟨m' - 1, by omega⟩
      unfold forN at h ⊢
      cases e1 : iv i s.st with
      | none => rfl
      | some o =>
        cases o with
        | none => rfl
        | some d =>
          simp only [e1] at h ⊢
          cases e2 : gt d s.env with
          | none => rfl
          | some en =>
            simp only [e2] at h ⊢
            exact (turnS_up (fun s' hs => (ih (i + 1) s' hs m'' (by omega)).symm) h).symm
  have hne : forN iv gt body ws m 0 ⟨env, st1⟩ ≠ .stuck := fun z => by
    rw [z] at hm
    obtain ⟨_, _, e, _⟩ := hm.get
    cases e
  have hlim : lim (fun m => forN iv gt body ws m 0 ⟨env, st1⟩) = forN iv gt body ws m 0 ⟨env, st1⟩ := by
    obtain ⟨m2, e2⟩ : ∃ m2, (lim fun m => forN iv gt body ws m 0 ⟨env, st1⟩) = forN iv gt body ws m2 0 ⟨env, st1⟩ ∧ forN iv gt body ws m2 0 ⟨env, st1⟩ ≠ .stuck := by
      have hx : ∃ m, forN iv gt body ws m 0 ⟨env, st1⟩ ≠ .stuck := ⟨m, hne⟩
      refine ⟨Classical.choose hx, ?_, Classical.choose_spec hx⟩
      unfold lim
      rw [dif_pos hx]
    rw [e2.1]
    rcases Nat.le_total m m2 with h | h
    · exact up m 0 _ hne m2 h
    · exact (up m2 0 _ e2.2 m h).symm
  rw [hlim]
  exact hm
/-- typed items -/
theorem s_for {α : Type} {fi : EvI} {gt : GS} {body : EvS} {ws : List Nat} (xs : List α) (fx : α → PyData) (I : Nat → S → Prop) (hw : Walks fi ⟨env, st⟩ (xs.map fx) st1) (h0 : I 0 ⟨env, st1⟩)
    (step : ∀ (k : Nat) (hk : k < xs.length) (s : S), I k s → ∃ e1, gt (fx xs[k]) s.env = some e1 ∧ OkS (body s.st.length ⟨e1, s.st⟩) fun fl s' => match fl with
      | .next => I (k + 1) (wipeS ws s.st.length s')
      | .cont => I (k + 1) (wipeS ws s.st.length s')
      | .brk => Q .next s'
      | .ret sv => Q (.ret sv) s') (hq : ∀ s', I xs.length s' → Q .next s') : OkS (forS fi gt body ws n ⟨env, st⟩) Q := by
  obtain ⟨iv, q1, q2⟩ := hw
  refine s_forG (ds := xs.map fx) I q1 (fun k s _ => q2 k s.st) h0 (fun k d s hd hI => ?_) fun s' hI => hq s' (by rw [List.length_map] at hI; exact hI)
  have hk : k < xs.length := by have := (List.getElem?_eq_some_iff.mp hd).1; rwa [List.length_map] at this
  rw [List.getElem?_map, List.getElem?_eq_getElem hk] at hd
  cases hd
  exact step k hk s hI
/-- a fold: no turn ends the loop -/
theorem s_fold {α τ : Type} {fi : EvI} {gt : GS} {body : EvS} {ws : List Nat} (xs : List α) (fx : α → PyData) (E : τ → S) (stp : τ → α → τ) (P : Nat → τ → Prop) (t0 : τ) (hw : Walks fi ⟨env, st⟩ (xs.map fx) st1) (h0 : (⟨env, st1⟩ : S) = E t0) (hp : P 0 t0)
    (step : ∀ (k : Nat) (hk : k < xs.length) (t : τ), P k t → ∃ e1, gt (fx xs[k]) (E t).env = some e1 ∧ OkS (body (E t).st.length ⟨e1, (E t).st⟩) fun fl s' => fl = .next ∧ wipeS ws (E t).st.length s' = E (stp t xs[k]) ∧ P (k + 1) (stp t xs[k]))
    (hq : P xs.length (xs.foldl stp t0) → Q .next (E (xs.foldl stp t0))) : OkS (forS fi gt body ws n ⟨env, st⟩) Q := by
  refine s_for xs fx (fun k s => s = E ((xs.take k).foldl stp t0) ∧ P k ((xs.take k).foldl stp t0)) hw ⟨by simpa using h0, by simpa using hp⟩ ?_ ?_
  · rintro k hk s ⟨rfl, hP⟩
    obtain ⟨e1, q1, q2⟩ := step k hk _ hP
    refine ⟨e1, q1, q2.mono ?_⟩
    rintro fl s' ⟨rfl, r1, r2⟩
    have : (xs.take (k + 1)).foldl stp t0 = stp ((xs.take k).foldl stp t0) xs[k] := by
      rw [List.take_add_one, List.getElem?_eq_getElem hk, List.foldl_append]; rfl
    rw [this]
    exact ⟨r1, r2⟩
  · rintro s ⟨rfl, hP⟩
    rw [List.take_length] at hP ⊢
    exact hq hP
/-- the first item that is bad ends the def; nothing else changes -/
theorem s_check {α : Type} {fi : EvI} {gt : GS} {body : EvS} {ws : List Nat} (xs : List α) (fx : α → PyData) (p : α → Bool) (sv : SV) (hw : Walks fi ⟨env, st⟩ (xs.map fx) st1)
    (step : ∀ x ∈ xs, ∃ e1, gt (fx x) env = some e1 ∧ OkS (body st1.length ⟨e1, st1⟩) fun fl s' => if p x = true then (fl = .next ∨ fl = .cont) ∧ wipeS ws st1.length s' = ⟨env, st1⟩ else fl = .ret sv ∧ s'.st = st1)
    (hq : xs.all p = true → Q .next ⟨env, st1⟩) (hr : xs.all p = false → ∀ env', Q (.ret sv) ⟨env', st1⟩) : OkS (forS fi gt body ws n ⟨env, st⟩) Q := by
  refine s_for xs fx (fun k s => s = ⟨env, st1⟩ ∧ (xs.take k).all p = true) hw ⟨rfl, by simp⟩ ?_ ?_
  · rintro k hk s ⟨rfl, hP⟩
    obtain ⟨e1, q1, q2⟩ := step xs[k] (List.getElem_mem hk)
    refine ⟨e1, q1, q2.mono ?_⟩
    intro fl s' hs
    cases hp : p xs[k] with
    | true =>
      rw [if_pos hp] at hs
      have hn : wipeS ws st1.length s' = ⟨env, st1⟩ ∧ (xs.take (k + 1)).all p = true := by
        refine ⟨hs.2, ?_⟩
        rw [List.take_add_one, List.getElem?_eq_getElem hk, List.all_append, hP]
        simp [hp]
      rcases hs.1 with rfl | rfl
      · exact hn
      · exact hn
    | false =>
      rw [if_neg (by rw [hp]; exact Bool.false_ne_true)] at hs
      obtain ⟨rfl, h2⟩ := hs
      have : xs.all p = false := by
        rw [List.all_eq_false]
        exact ⟨xs[k], List.getElem_mem hk, by rw [hp]; exact Bool.false_ne_true⟩
      have r := hr this s'.env
      rw [← h2] at r
      exact r
  · rintro s ⟨rfl, hP⟩
    rw [List.take_length] at hP
    exact hq hP
/-! ### whole defs -/
theorem f_run {N : Nat} {body : EvS} {svs : List SV} {objs : Sto} {r : RE} (h : OkS (body objs.length ⟨DL.envOf N svs, objs⟩) fun fl s' => endF objs.length (.ok (fl, s')) = r) : DL.runF N body svs objs = r := runF_ok h
end
end DL
end
section
set_option Elab.async false
set_option linter.all false
set_option maxRecDepth 100000
set_option maxHeartbeats 1000000
/-! The data layer, part x: typed data: equality, order, least, greatest, sorted. -/
namespace DL
open PySem PySem.Spec PyProof.Rows L2 PySem.W
/-- a kind of data, one Lean value for each datum; any two can be compared -/
structure Enc (α : Type) where
  f : α → PyData
  alk : ∀ a b, alike (f a) (f b) = true
  dep : Nat
  dle : ∀ a, (f a).depth ≤ dep
  eqv : ∀ a b, PyData.eqv (f a) (f b) = true ↔ a = b
  nn : ∀ a, f a ≠ .none
namespace Enc
variable {α β γ δ : Type}
def lt (e : Enc α) (a b : α) : Bool := dataLt (e.f a) (e.f b)
theorem inj (e : Enc α) {a b : α} (h : e.f a = e.f b) : a = b := by
  rw [← e.eqv, h]
  exact (e.eqv b b).mpr rfl
theorem toks (e : Enc α) {a b : α} (h : keyToks (e.f a) = keyToks (e.f b)) : a = b := by
  rw [← e.eqv]
  cases q : PyData.eqv (e.f a) (e.f b) with
  | true => rfl
  | false =>
    have z := (toks_eqv _ _ (e.alk a b)).2 q
    have z1 := z [] [.inl 0]
    have z2 := z [] []
    rw [h, lex_pre] at z1 z2
    rw [← z2] at z1
    exact absurd z1 (by simp [PyProof.Rows.lexLt])
theorem eqv_d [DecidableEq α] (e : Enc α) (a b : α) : PyData.eqv (e.f a) (e.f b) = decide (a = b) := by
  rw [Bool.eq_iff_iff, decide_eq_true_iff]; exact e.eqv a b
theorem irr (e : Enc α) (a : α) : e.lt a a = false := lex_irrefl _
theorem trans (e : Enc α) {a b c : α} (h1 : e.lt a b = true) (h2 : e.lt b c = true) : e.lt a c = true := lex_trans _ _ _ h1 h2
theorem neg (e : Enc α) {a b c : α} (h : e.lt a c = true) : e.lt a b = true ∨ e.lt b c = true := lex_negTrans _ _ _ h
theorem tri (e : Enc α) {a b : α} (h1 : e.lt a b = false) (h2 : e.lt b a = false) : a = b := e.toks (lex_total _ _ h1 h2)
theorem asymm (e : Enc α) {a b : α} (h : e.lt a b = true) : e.lt b a = false := by
  cases q : e.lt b a with
  | false => rfl
  | true => have := e.trans h q; rw [e.irr] at this; exact this.symm
theorem le_trans (e : Enc α) {a b c : α} (h1 : e.lt b a = false) (h2 : e.lt c b = false) : e.lt c a = false := by
  cases q : e.lt c a with
  | false => rfl
  | true => rcases e.neg (b := b) q with h | h
            · rw [h2] at h; exact h.symm
            · rw [h1] at h; exact h.symm
theorem depAll (e : Enc α) : ∀ xs : List α, PyData.depthAll (xs.map e.f) ≤ e.dep
  | [] => Nat.zero_le _
  | x :: xs => by
    rw [List.map_cons, PyData.depthAll]
    exact Nat.max_le.mpr ⟨e.dle x, depAll e xs⟩
theorem eqD_e [DecidableEq α] (e : Enc α) (h : e.dep ≤ 40) (a b : α) : eqD (e.f a) (e.f b) = some (.bool (decide (a = b))) := by
  unfold eqD
  rw [if_pos (Nat.le_trans (Nat.min_le_left _ _) (Nat.le_trans (e.dle a) h)), e.eqv_d]
theorem neD_e [DecidableEq α] (e : Enc α) (h : e.dep ≤ 40) (a b : α) : neD (e.f a) (e.f b) = some (.bool (!decide (a = b))) := by
  unfold neD
  rw [if_pos (Nat.le_trans (Nat.min_le_left _ _) (Nat.le_trans (e.dle a) h)), e.eqv_d]
theorem any_e [DecidableEq α] (e : Enc α) (a : α) (xs : List α) : ((xs.map e.f).any fun y => PyData.eqv y (e.f a)) = decide (a ∈ xs) := by
  rw [Bool.eq_iff_iff, decide_eq_true_iff, List.any_eq_true]
  constructor
  · rintro ⟨y, hy, q⟩
    obtain ⟨x, hx, rfl⟩ := List.mem_map.mp hy
    rw [(e.eqv x a).mp q] at hx
    exact hx
  · intro h
    exact ⟨_, List.mem_map.mpr ⟨a, h, rfl⟩, (e.eqv a a).mpr rfl⟩
theorem inL [DecidableEq α] (e : Enc α) (h : e.dep ≤ 40) (a : α) (xs : List α) : inD (e.f a) (.list (xs.map e.f)) = some (.bool (decide (a ∈ xs))) := by
  have : inD (e.f a) (.list (xs.map e.f)) = if min (PyData.depthAll (xs.map e.f)) (e.f a).depth ≤ 40 then some (.bool ((xs.map e.f).any fun y => PyData.eqv y (e.f a))) else none := by
    unfold inD; rfl
  rw [this, if_pos (Nat.le_trans (Nat.min_le_right _ _) (Nat.le_trans (e.dle a) h)), e.any_e]
theorem inT [DecidableEq α] (e : Enc α) (h : e.dep ≤ 40) (a : α) (xs : List α) : inD (e.f a) (.tuple (xs.map e.f)) = some (.bool (decide (a ∈ xs))) := by
  have : inD (e.f a) (.tuple (xs.map e.f)) = if min (PyData.depthAll (xs.map e.f)) (e.f a).depth ≤ 40 then some (.bool ((xs.map e.f).any fun y => PyData.eqv y (e.f a))) else none := by
    unfold inD
    cases e.f a <;> rfl
  rw [this, if_pos (Nat.le_trans (Nat.min_le_right _ _) (Nat.le_trans (e.dle a) h)), e.any_e]
theorem notInL [DecidableEq α] (e : Enc α) (h : e.dep ≤ 40) (a : α) (xs : List α) : notInD (e.f a) (.list (xs.map e.f)) = some (.bool (!decide (a ∈ xs))) := by
  unfold notInD; rw [e.inL h]
theorem notInT [DecidableEq α] (e : Enc α) (h : e.dep ≤ 40) (a : α) (xs : List α) : notInD (e.f a) (.tuple (xs.map e.f)) = some (.bool (!decide (a ∈ xs))) := by
  unfold notInD; rw [e.inT h]
theorem ordOk_e (e : Enc α) (h : e.dep ≤ 40) (a b : α) : ordOk (e.f a) (e.f b) := by
  refine ⟨e.alk a b, Nat.le_trans (e.dle a) h, ?_⟩
  have := e.nn a
  revert this
  cases e.f a <;> simp
theorem ltD_e (e : Enc α) (h : e.dep ≤ 40) (a b : α) : ltD (e.f a) (e.f b) = some (.bool (e.lt a b)) := by
  unfold ltD; rw [if_pos (e.ordOk_e h a b)]; rfl
theorem gtD_e (e : Enc α) (h : e.dep ≤ 40) (a b : α) : gtD (e.f a) (e.f b) = some (.bool (e.lt b a)) := by
  unfold gtD; rw [if_pos (e.ordOk_e h a b)]; rfl
theorem leD_e (e : Enc α) (h : e.dep ≤ 40) (a b : α) : leD (e.f a) (e.f b) = some (.bool (!e.lt b a)) := by
  unfold leD; rw [if_pos (e.ordOk_e h a b)]; rfl
theorem geD_e (e : Enc α) (h : e.dep ≤ 40) (a b : α) : geD (e.f a) (e.f b) = some (.bool (!e.lt a b)) := by
  unfold geD; rw [if_pos (e.ordOk_e h a b)]; rfl
theorem alikeAll_e (e : Enc α) (xs : List α) : AlikeAll (xs.map e.f) := by
  constructor
  · intro x hx y hy
    obtain ⟨a, _, rfl⟩ := List.mem_map.mp hx
    obtain ⟨b, _, rfl⟩ := List.mem_map.mp hy
    exact e.alk a b
  · intro x hx
    obtain ⟨a, _, rfl⟩ := List.mem_map.mp hx
    exact e.nn a
/-! least, greatest -/
def minE (e : Enc α) (x : α) (xs : List α) : α := xs.foldl (fun a y => if e.lt y a = true then y else a) x
def maxE (e : Enc α) (x : α) (xs : List α) : α := xs.foldl (fun a y => if e.lt a y = true then y else a) x
theorem minD_e (e : Enc α) : ∀ (x : α) (xs : List α), minD (e.f x) (xs.map e.f) = e.f (e.minE x xs)
  | x, [] => rfl
  | x, y :: ys => by
    have ih := minD_e e (if e.lt y x = true then y else x) ys
    unfold minD at ih ⊢
    rw [List.map_cons, List.foldl_cons]
    show (ys.map e.f).foldl _ (if e.lt y x = true then e.f y else e.f x) = _
    rw [← apply_ite e.f, ih]
    rfl
theorem maxD_e (e : Enc α) : ∀ (x : α) (xs : List α), maxD (e.f x) (xs.map e.f) = e.f (e.maxE x xs)
  | x, [] => rfl
  | x, y :: ys => by
    have ih := maxD_e e (if e.lt x y = true then y else x) ys
    unfold maxD at ih ⊢
    rw [List.map_cons, List.foldl_cons]
    show (ys.map e.f).foldl _ (if e.lt x y = true then e.f y else e.f x) = _
    rw [← apply_ite e.f, ih]
    rfl
theorem minE_spec (e : Enc α) : ∀ (x : α) (xs : List α), e.minE x xs ∈ x :: xs ∧ ∀ y ∈ x :: xs, e.lt y (e.minE x xs) = false
  | x, [] => ⟨List.mem_cons_self, fun y hy => by rw [List.mem_singleton.mp hy]; exact e.irr x⟩
  | x, y :: ys => by
    obtain ⟨h1, h2⟩ := minE_spec e (if e.lt y x = true then y else x) ys
    have he : e.minE x (y :: ys) = e.minE (if e.lt y x = true then y else x) ys := rfl
    rw [he]
    refine ⟨?_, ?_⟩
    · rcases List.mem_cons.mp h1 with h | h
      · rw [h]; split <;> simp
      · exact List.mem_cons_of_mem _ (List.mem_cons_of_mem _ h)
    · have h0 := h2 _ List.mem_cons_self
      intro z hz
      rcases List.mem_cons.mp hz with rfl | hz
      · cases q : e.lt y z with
        | true => rw [q] at h0; exact e.le_trans h0 (e.asymm q)
        | false => rw [q] at h0; exact h0
      · rcases List.mem_cons.mp hz with rfl | hz
        · cases q : e.lt z x with
          | true => rw [q] at h0; exact h0
          | false => rw [q] at h0; exact e.le_trans h0 q
        · exact h2 z (List.mem_cons_of_mem _ hz)
theorem maxE_spec (e : Enc α) : ∀ (x : α) (xs : List α), e.maxE x xs ∈ x :: xs ∧ ∀ y ∈ x :: xs, e.lt (e.maxE x xs) y = false
  | x, [] => ⟨List.mem_cons_self, fun y hy => by rw [List.mem_singleton.mp hy]; exact e.irr x⟩
  | x, y :: ys => by
    obtain ⟨h1, h2⟩ := maxE_spec e (if e.lt x y = true then y else x) ys
    have he : e.maxE x (y :: ys) = e.maxE (if e.lt x y = true then y else x) ys := rfl
    rw [he]
    refine ⟨?_, ?_⟩
    · rcases List.mem_cons.mp h1 with h | h
      · rw [h]; split <;> simp
      · exact List.mem_cons_of_mem _ (List.mem_cons_of_mem _ h)
    · have h0 := h2 _ List.mem_cons_self
      intro z hz
      rcases List.mem_cons.mp hz with rfl | hz
      · cases q : e.lt z y with
        | true => rw [q] at h0; exact e.le_trans (e.asymm q) h0
        | false => rw [q] at h0; exact h0
      · rcases List.mem_cons.mp hz with rfl | hz
        · cases q : e.lt x z with
          | true => rw [q] at h0; exact h0
          | false => rw [q] at h0; exact e.le_trans q h0
        · exact h2 z (List.mem_cons_of_mem _ hz)
/-- the least of some: it is one of them, and none is less -/
theorem minL (e : Enc α) (h : e.dep ≤ 40) {xs : List α} (hx : xs ≠ []) : ∃ m, minDD (.list (xs.map e.f)) = some (e.f m) ∧ m ∈ xs ∧ ∀ y ∈ xs, e.lt y m = false := by
  cases xs with
  | nil => exact absurd rfl hx
  | cons x xs =>
    obtain ⟨h1, h2⟩ := e.minE_spec x xs
    refine ⟨e.minE x xs, ?_, h1, h2⟩
    rw [List.map_cons]
    unfold minDD
    simp only
    rw [if_pos, e.minD_e]
    have := e.alikeAll_e (x :: xs)
    have h3 := e.depAll (x :: xs)
    rw [List.map_cons] at this h3
    exact ⟨this, Nat.le_trans h3 h⟩
theorem maxL (e : Enc α) (h : e.dep ≤ 40) {xs : List α} (hx : xs ≠ []) : ∃ m, maxDD (.list (xs.map e.f)) = some (e.f m) ∧ m ∈ xs ∧ ∀ y ∈ xs, e.lt m y = false := by
  cases xs with
  | nil => exact absurd rfl hx
  | cons x xs =>
    obtain ⟨h1, h2⟩ := e.maxE_spec x xs
    refine ⟨e.maxE x xs, ?_, h1, h2⟩
    rw [List.map_cons]
    unfold maxDD
    simp only
    rw [if_pos, e.maxD_e]
    have := e.alikeAll_e (x :: xs)
    have h3 := e.depAll (x :: xs)
    rw [List.map_cons] at this h3
    exact ⟨this, Nat.le_trans h3 h⟩
/-- two least ones are the same -/
theorem least_uniq (e : Enc α) {m m' : α} (h1 : e.lt m m' = false) (h2 : e.lt m' m = false) : m = m' := e.tri h1 h2
/-! sorted -/
def srt (e : Enc α) (xs : List α) : List α := xs.mergeSort fun a b => !e.lt b a
theorem srt_perm (e : Enc α) (xs : List α) : (e.srt xs).Perm xs := List.mergeSort_perm _ _
theorem srt_sorted (e : Enc α) (xs : List α) : (e.srt xs).Pairwise fun a b => e.lt b a = false := by
  have := List.pairwise_mergeSort (le := fun a b => !e.lt b a) (fun a b c h1 h2 => by simp only [Bool.not_eq_true'] at *; exact e.le_trans h1 h2) (fun a b => by
    cases q : e.lt b a with
    | false => simp
    | true => simp [e.asymm q]) xs
  exact this.imp fun h => by simpa using h
theorem sortD_e (e : Enc α) (xs : List α) : sortD (xs.map e.f) = (e.srt xs).map e.f := by
  unfold sortD srt
  rw [dataLe_eq]
  symm
  exact List.map_mergeSort (fun a _ b _ => rfl)
theorem sortedL (e : Enc α) (h : e.dep ≤ 40) {xs : List α} (hs : Sortable (xs.map e.f)) : sortedDD (.list (xs.map e.f)) = some (.list ((e.srt xs).map e.f)) := by
  unfold sortedDD
  simp only
  rw [if_pos, e.sortD_e]
  exact ⟨(e.alikeAll_e xs).1, hs, Nat.le_trans (e.depAll xs) h⟩
theorem sortedT (e : Enc α) (h : e.dep ≤ 40) {xs : List α} (hs : Sortable (xs.map e.f)) : sortedDD (.tuple (xs.map e.f)) = some (.list ((e.srt xs).map e.f)) := by
  unfold sortedDD
  simp only
  rw [if_pos, e.sortD_e]
  exact ⟨(e.alikeAll_e xs).1, hs, Nat.le_trans (e.depAll xs) h⟩
/-! kinds -/
def int : Enc Int := ⟨.int, fun _ _ => by simp [alike], 0, fun _ => by simp [PyData.depth], fun a b => by simp [PyData.eqv], fun _ => by simp⟩
def nat : Enc Nat := ⟨fun n => .int n, fun _ _ => by simp [alike], 0, fun _ => by simp [PyData.depth], fun a b => by simp [PyData.eqv]; omega, fun _ => by simp⟩
def str : Enc Str := ⟨.str, fun _ _ => by simp [alike], 0, fun _ => by simp [PyData.depth], fun a b => by simp [PyData.eqv], fun _ => by simp⟩
def bool : Enc Bool := ⟨.bool, fun _ _ => by simp [alike], 0, fun _ => by simp [PyData.depth], fun a b => by simp [PyData.eqv], fun _ => by simp⟩
theorem alikeAll_map (e : Enc α) : ∀ xs ys : List α, alikeAll (xs.map e.f) (ys.map e.f) = true
  | [], _ => by simp [alikeAll]
  | _ :: _, [] => by simp [alikeAll]
  | x :: xs, y :: ys => by simp [alikeAll, e.alk, alikeAll_map e xs ys]
theorem eqvAll_map (e : Enc α) : ∀ xs ys : List α, PyData.eqvAll (xs.map e.f) (ys.map e.f) = true ↔ xs = ys
  | [], [] => by simp [PyData.eqvAll]
  | _ :: _, [] => by simp [PyData.eqvAll]
  | [], _ :: _ => by simp [PyData.eqvAll]
  | x :: xs, y :: ys => by simp [PyData.eqvAll, e.eqv, eqvAll_map e xs ys]
/-- a tuple of things of one kind -/
def tupL (e : Enc α) : Enc (List α) := ⟨fun xs => .tuple (xs.map e.f), fun a b => by simp [alike, alikeAll_map], e.dep + 1, fun a => by have := e.depAll a; simp [PyData.depth]; omega, fun a b => by simp [PyData.eqv, eqvAll_map], fun _ => by simp⟩
def lstL (e : Enc α) : Enc (List α) := ⟨fun xs => .list (xs.map e.f), fun a b => by simp [alike, alikeAll_map], e.dep + 1, fun a => by have := e.depAll a; simp [PyData.depth]; omega, fun a b => by simp [PyData.eqv, eqvAll_map], fun _ => by simp⟩
def tup2 (e : Enc α) (e' : Enc β) : Enc (α × β) := ⟨fun p => .tuple [e.f p.1, e'.f p.2], fun a b => by simp [alike, alikeAll, e.alk, e'.alk], max e.dep e'.dep + 1, fun a => by have := e.dle a.1; have := e'.dle a.2; simp [PyData.depth, PyData.depthAll]; omega,
  fun a b => by simp [PyData.eqv, PyData.eqvAll, e.eqv, e'.eqv, Prod.ext_iff], fun _ => by simp⟩
def tup3 (e : Enc α) (e' : Enc β) (e2 : Enc γ) : Enc (α × β × γ) := ⟨fun p => .tuple [e.f p.1, e'.f p.2.1, e2.f p.2.2], fun a b => by simp [alike, alikeAll, e.alk, e'.alk, e2.alk], max e.dep (max e'.dep e2.dep) + 1, fun a => by have := e.dle a.1; have := e'.dle a.2.1; have := e2.dle a.2.2; simp [PyData.depth, PyData.depthAll]; omega,
  fun a b => by simp [PyData.eqv, PyData.eqvAll, e.eqv, e'.eqv, e2.eqv, Prod.ext_iff], fun _ => by simp⟩
/-! their orders -/
theorem lt_int (a b : Int) : int.lt a b = decide (a < b) := dataLt_int a b
theorem lt_nat (a b : Nat) : nat.lt a b = decide (a < b) := by
  show dataLt (.int a) (.int b) = _
  rw [dataLt_int]
  by_cases h : a < b
  · rw [decide_eq_true h, decide_eq_true (by omega)]
  · rw [decide_eq_false h, decide_eq_false (by omega)]
theorem lt_str (a b : Str) : str.lt a b = decide (a.cps.toList < b.cps.toList) := dataLt_str a b
theorem lt_tup2 [DecidableEq α] (e : Enc α) (e' : Enc β) (p q : α × β) : (tup2 e e').lt p q = (e.lt p.1 q.1 || (decide (p.1 = q.1) && e'.lt p.2 q.2)) := by
  show dataLt (.tuple [e.f p.1, e'.f p.2]) (.tuple [e.f q.1, e'.f q.2]) = _
  classical
  rw [dataLt_pair (e.alk _ _) (e'.alk _ _), e.eqv_d]
  by_cases h : p.1 = q.1
  · rw [decide_eq_true h, if_pos rfl, h, e.irr]
    simp only [Bool.false_or, Bool.true_and]
    rw [e'.eqv_d]
    by_cases h2 : p.2 = q.2
    · rw [decide_eq_true h2, if_pos rfl, h2, e'.irr]
    · rw [decide_eq_false h2]; rfl
  · rw [decide_eq_false h]
    simp [lt]
theorem lt_tupL_nil (e : Enc α) (ys : List α) : (tupL e).lt [] ys = !ys.isEmpty := by
  show dataLt (.tuple ([].map e.f)) (.tuple (ys.map e.f)) = _
  rw [dataLt_tuple]
  cases ys with
  | nil => exact lex_irrefl _
  | cons y ys =>
    rw [List.map_cons, List.map_nil, toks_all_cons]
    simp only [keyToksAll]
    rw [lex_diff (O := itemOrd) (by simp)]
    rfl
theorem lt_tupL_nil' (e : Enc α) (xs : List α) : (tupL e).lt xs [] = false := by
  cases xs with
  | nil => exact (tupL e).irr _
  | cons x xs =>
    refine (tupL e).asymm ?_
    rw [lt_tupL_nil]; rfl
theorem lt_tupL_cons [DecidableEq α] (e : Enc α) (x y : α) (xs ys : List α) : (tupL e).lt (x :: xs) (y :: ys) = (e.lt x y || (decide (x = y) && (tupL e).lt xs ys)) := by
  show dataLt (.tuple ((x :: xs).map e.f)) (.tuple ((y :: ys).map e.f)) = (e.lt x y || (decide (x = y) && dataLt (.tuple (xs.map e.f)) (.tuple (ys.map e.f))))
  rw [dataLt_tuple, dataLt_tuple, List.map_cons, List.map_cons, dataLt_cons (e.alk _ _), e.eqv_d]
  by_cases h : x = y
  · subst h
    rw [decide_eq_true rfl, if_pos rfl, e.irr]
    simp
  · rw [decide_eq_false h]
    simp [lt]
end Enc
/-! operators on natural numbers -/
section
variable (a b : Nat)
theorem ltD_nat : ltD (.int a) (.int b) = some (.bool (decide (a < b))) := by rw [ltD_int]; congr 2; simp
theorem leD_nat : leD (.int a) (.int b) = some (.bool (decide (a ≤ b))) := by rw [leD_int]; congr 2; simp
theorem gtD_nat : gtD (.int a) (.int b) = some (.bool (decide (b < a))) := by rw [gtD_int]; congr 2; simp
theorem geD_nat : geD (.int a) (.int b) = some (.bool (decide (b ≤ a))) := by rw [geD_int]; congr 2; simp
theorem eqD_nat : eqD (.int a) (.int b) = some (.bool (decide (a = b))) := by rw [eqD_int]; congr 3; simp; omega
theorem neD_nat : neD (.int a) (.int b) = some (.bool (!decide (a = b))) := by rw [neD_int]; congr 4; simp; omega
theorem addD_nat : addD (.int a) (.int b) = some (.int ((a + b : Nat) : Int)) := by simp
theorem addD_nat1 : addD (.int a) (.int 1) = some (.int ((a + 1 : Nat) : Int)) := by simp
theorem iaddD_nat : iaddD (.int a) (.int b) = some (.int ((a + b : Nat) : Int)) := by simp [iaddD]
theorem iaddD_nat1 : iaddD (.int a) (.int 1) = some (.int ((a + 1 : Nat) : Int)) := by simp [iaddD]
theorem iaddD_int (a b : Int) : iaddD (.int a) (.int b) = some (.int (a + b)) := rfl
theorem subD_nat1 (h : 1 ≤ a) : subD (.int a) (.int 1) = some (.int ((a - 1 : Nat) : Int)) := by simp; omega
theorem eqD_nat0 : eqD (.int a) (.int 0) = some (.bool (decide (a = 0))) := by rw [eqD_int]; congr 3; simp
theorem gtD_nat0 : gtD (.int a) (.int 0) = some (.bool (decide (0 < a))) := by rw [gtD_int]; congr 2; simp
theorem mulD_nat (h : a < 2 ^ 64 ∨ b < 2 ^ 64) : mulD (.int a) (.int b) = some (.int ((a * b : Nat) : Int)) := by
  rcases h with h | h
  · rw [mulD_int' (by omega)]; simp
  · rw [mulD_int (by omega)]; simp
end
/-! items -/
theorem item_tm {α : Type} (f : α → PyData) (xs : List α) (i : Nat) (h : i < xs.length) : itemD (.tuple (xs.map f)) (.int i) = some (f xs[i]) := by
  rw [itemD_tuple, List.getElem?_map, List.getElem?_eq_getElem h]; rfl
theorem item_lm {α : Type} (f : α → PyData) (xs : List α) (i : Nat) (h : i < xs.length) : itemD (.list (xs.map f)) (.int i) = some (f xs[i]) := by
  rw [itemD_list, List.getElem?_map, List.getElem?_eq_getElem h]; rfl
theorem item_llast {ds : List PyData} {d : PyData} (h : ds.getLast? = some d) : itemD (.list ds) (.int (-1)) = some d := by
  have hl : ds ≠ [] := fun z => by rw [z] at h; cases h
  have hl' : 0 < ds.length := List.length_pos_iff.mpr hl
  unfold itemD atI ixN
  simp only
  rw [List.getLast?_eq_getElem?] at h
  by_cases h1 : (0 : Int) ≤ -1
  · exact absurd h1 (by decide)
  · have e : ((-1 : Int) + ds.length).toNat = ds.length - 1 := by omega
    rw [if_neg (by decide), if_pos (by omega), e]
    exact h
/-! kinds -/
section
variable {b : Bool} {i : Int} {x : Str} {ds : List PyData}
theorem y_bool_none : isiB .bool .none = false := rfl
theorem y_bool_bool : isiB .bool (.bool b) = true := rfl
theorem y_bool_int : isiB .bool (.int i) = false := rfl
theorem y_bool_str : isiB .bool (.str x) = false := rfl
theorem y_bool_list : isiB .bool (.list ds) = false := rfl
theorem y_bool_tuple : isiB .bool (.tuple ds) = false := rfl
theorem y_int_none : isiB .int .none = false := rfl
theorem y_int_bool : isiB .int (.bool b) = true := rfl
theorem y_int_int : isiB .int (.int i) = true := rfl
theorem y_int_str : isiB .int (.str x) = false := rfl
theorem y_int_list : isiB .int (.list ds) = false := rfl
theorem y_int_tuple : isiB .int (.tuple ds) = false := rfl
theorem y_str_none : isiB .str .none = false := rfl
theorem y_str_bool : isiB .str (.bool b) = false := rfl
theorem y_str_int : isiB .str (.int i) = false := rfl
theorem y_str_str : isiB .str (.str x) = true := rfl
theorem y_str_list : isiB .str (.list ds) = false := rfl
theorem y_str_tuple : isiB .str (.tuple ds) = false := rfl
theorem y_list_none : isiB .list .none = false := rfl
theorem y_list_bool : isiB .list (.bool b) = false := rfl
theorem y_list_int : isiB .list (.int i) = false := rfl
theorem y_list_str : isiB .list (.str x) = false := rfl
theorem y_list_list : isiB .list (.list ds) = true := rfl
theorem y_list_tuple : isiB .list (.tuple ds) = false := rfl
theorem y_tuple_none : isiB .tuple .none = false := rfl
theorem y_tuple_bool : isiB .tuple (.bool b) = false := rfl
theorem y_tuple_int : isiB .tuple (.int i) = false := rfl
theorem y_tuple_str : isiB .tuple (.str x) = false := rfl
theorem y_tuple_list : isiB .tuple (.list ds) = false := rfl
theorem y_tuple_tuple : isiB .tuple (.tuple ds) = true := rfl
end
/-! sums, kinds of rows -/
theorem ints_map {α : Type} (g : α → Int) : ∀ xs : List α, intsOf (xs.map fun x => PyData.int (g x)) = some (xs.map g)
  | [] => rfl
  | x :: xs => by rw [List.map_cons, intsOf, ints_map g xs]; rfl
theorem sum_int {α : Type} (g : α → Int) (xs : List α) : sumD (.list (xs.map fun x => PyData.int (g x))) = some (.int (xs.map g).sum) := by
  unfold sumD; simp only; rw [ints_map]; rfl
theorem sum_cast {α : Type} (g : α → Nat) : ∀ xs : List α, (xs.map fun x => ((g x : Nat) : Int)).sum = (((xs.map g).sum : Nat) : Int)
  | [] => rfl
  | x :: xs => by simp [sum_cast g xs]
theorem sum_nat {α : Type} (g : α → Nat) (xs : List α) : sumD (.list (xs.map fun x => PyData.int ((g x : Nat) : Int))) = some (.int (((xs.map g).sum : Nat) : Int)) := by
  rw [sum_int (fun x => ((g x : Nat) : Int)), sum_cast]
theorem tupleD_tuple (ds : List PyData) : tupleD (.tuple ds) = some (.tuple ds) := rfl
theorem listD_tuple (ds : List PyData) : listD (.tuple ds) = some (.list ds) := rfl
theorem listD_list (ds : List PyData) : listD (.list ds) = some (.list ds) := rfl
theorem mulD_nat' (a b : Nat) (h : a < 2 ^ 64) : mulD (.int a) (.int b) = some (.int ((a * b : Nat) : Int)) := mulD_nat a b (.inl h)
/-! slices -/
theorem cut_from {α : Type} (xs : List α) (k : Nat) : cutD xs (some (k : Int)) none = xs.drop k := by
  unfold cutD
  rw [HT.sIx_nat, HT.sIx_none]
  by_cases h : k ≤ xs.length
  · rw [Nat.min_eq_left h, List.take_of_length_le (by rw [List.length_drop]; omega)]
  · rw [Nat.min_eq_right (by omega), List.drop_length, List.drop_eq_nil_of_le (by omega), List.take_nil]
theorem cut_to {α : Type} (xs : List α) (k : Nat) : cutD xs none (some (k : Int)) = xs.take k := by
  unfold cutD
  rw [HT.sIx_nat, HT.sIx_none, List.drop_zero, Nat.sub_zero]
  by_cases h : k ≤ xs.length
  · rw [Nat.min_eq_left h]
  · rw [Nat.min_eq_right (by omega), List.take_length, List.take_of_length_le (by omega)]
theorem slice_from_t {α : Type} (f : α → PyData) (xs : List α) (k : Nat) : sliceD (.tuple (xs.map f)) (some (k : Int)) none = some (.tuple ((xs.drop k).map f)) := by
  unfold sliceD; simp only; rw [cut_from, List.map_drop]
theorem slice_to_t {α : Type} (f : α → PyData) (xs : List α) (k : Nat) : sliceD (.tuple (xs.map f)) none (some (k : Int)) = some (.tuple ((xs.take k).map f)) := by
  unfold sliceD; simp only; rw [cut_to, List.map_take]
theorem slice_from_l {α : Type} (f : α → PyData) (xs : List α) (k : Nat) : sliceD (.list (xs.map f)) (some (k : Int)) none = some (.list ((xs.drop k).map f)) := by
  unfold sliceD; simp only; rw [cut_from, List.map_drop]
theorem slice_to_l {α : Type} (f : α → PyData) (xs : List α) (k : Nat) : sliceD (.list (xs.map f)) none (some (k : Int)) = some (.list ((xs.take k).map f)) := by
  unfold sliceD; simp only; rw [cut_to, List.map_take]
theorem isD_bool (k l : Bool) : isD (.bool k) (.bool l) = some (.bool (k == l)) := rfl
theorem isNotD_bool (k l : Bool) : isNotD (.bool k) (.bool l) = some (.bool (!(k == l))) := rfl
theorem isD_none (a : PyData) : isD a .none = some (.bool (isNoneD a)) := by unfold isD; cases a <;> rfl
theorem isNotD_none (a : PyData) : isNotD a .none = some (.bool (!isNoneD a)) := by unfold isNotD; cases a <;> rfl
end DL
end
section
set_option Elab.async false
set_option linter.all false
set_option maxRecDepth 100000
set_option maxHeartbeats 1000000
/-! The data layer, part y: list comprehensions with two clauses. -/
namespace DL
open PySem PySem.Spec PyProof.Rows L2 PySem.SeqAt PySem.W
/-- the inner loop: the list in the making is the own object n, the last -/
def inN (iv : IVal) (g : GS) (ft : EvT) (fe : EvD) (env : List (Option SV)) (n : Nat) : Nat → Nat → Sto → Res Sto
  | 0, _, _ => .stuck
  | m + 1, i, st => match iv i st with
    | some (some d) => (match g d env with
      | some e1 => (match ft ⟨e1, st⟩ with
        | .ok (true, st1) => (match fe ⟨e1, st1⟩ with
          | .ok (y, st2) => (match st2[n]? with
            | some (.lst ds) => if ds.length < 16777216 then inN iv g ft fe env n m (i + 1) (st2.set n (.lst (ds ++ [y]))) else .stuck
            | _ => .stuck)
          | _ => .stuck)
        | .ok (false, st1) => inN iv g ft fe env n m (i + 1) st1
        | _ => .stuck)
      | none => .stuck)
    | some none => .ok st
    | none => .stuck
def comp2N (iv : IVal) (g : GS) (ft : EvT) (fi1 : EvI) (vs1 : List Nat) (g1 : GS) (ft1 : EvT) (fe : EvD) (env : List (Option SV)) : Nat → Nat → Sto → List PyData → RC
  | 0, _, _, _ => .stuck
  | m + 1, i, st, acc => match iv i st with
    | some (some d) => (match g d env with
      | some e1 => (match ft ⟨e1, st⟩ with
        | .ok (true, st1) => (match fi1 ⟨e1, st1 ++ [.lst acc]⟩ with
          | .ok (iv1, st2) => (match inN iv1 g1 ft1 fe (wipeL e1 vs1) st.length m 0 st2 with
            | .ok st3 => (match st3[st.length]? with
              | some (.lst acc') => comp2N iv g ft fi1 vs1 g1 ft1 fe env m (i + 1) (st3.take st.length) acc'
              | _ => .stuck)
            | _ => .stuck)
          | _ => .stuck)
        | .ok (false, st1) => comp2N iv g ft fi1 vs1 g1 ft1 fe env m (i + 1) st1 acc
        | _ => .stuck)
      | none => .stuck)
    | some none => .ok (acc, st)
    | none => .stuck
/-- one fuel for both -/
noncomputable def comp2C (fi : EvI) (vs : List Nat) (g : GS) (ft : EvT) (fi1 : EvI) (vs1 : List Nat) (g1 : GS) (ft1 : EvT) (fe : EvD) : EvC := fun s => (fi s).bind fun p => lim fun m => comp2N p.1 g ft fi1 vs1 g1 ft1 fe (wipeL s.env vs) m 0 p.2 []
section
variable {K : PySem.W.Frag} {c : Cfg} {B as : List Addr} {σ σ' : L2.St} {H H' : Hp} {s : S} {env env' : List (Option SV)} {st' : Sto} {D : Addr} {o : O}
/-- the list in the making lies outside again -/
theorem SR.backD (sr' : SR K c B (as ++ [D]) H' σ' ⟨env', st' ++ [o]⟩) (sr : SR K c (D :: B) as H σ s) (ev : Evo (as ++ [D]) H H') : SR K c (D :: B) as H' σ ⟨s.env, st'⟩ := by
  have hav : ∀ x ∈ (D :: B) ++ as, x ∈ B ++ (as ++ [D]) ∨ H' x = none := fun x hx => .inl (by
    rcases List.mem_append.mp hx with z | z
    · rcases List.mem_cons.mp z with z | z
      · rw [z]; exact List.mem_append_right _ (List.mem_append_right _ (List.mem_singleton.mpr rfl))
      · exact List.mem_append_left _ z
    · exact List.mem_append_right _ (List.mem_append_left _ z))
  have hev : ∀ x ∈ as ++ [D], x ∈ (D :: B) ++ as := fun x hx => by
    rcases List.mem_append.mp hx with z | z
    · exact List.mem_append_right _ z
    · rw [List.mem_singleton.mp z]; exact List.mem_append_left _ List.mem_cons_self
  have hal := sr'.aslen
  simp only [List.length_append, List.length_cons, List.length_nil] at hal
  refine ⟨sr.len, fun i sv q => ?_, (List.nodup_append.mp sr'.nd).1, by simp only; omega, fun i o' a h1 h2 => ?_, fun a ha => ?_, sr'.tabs⟩
  · obtain ⟨v, q1, q2⟩ := sr.slot i sv q
    exact ⟨v, q1, q2.evo ev hev⟩
  · have hi := (List.getElem?_eq_some_iff.mp h2).1
    have h1' : (st' ++ [o])[i]? = some o' := by
      rw [List.getElem?_append_left (by omega)]; exact h1
    have h2' : (as ++ [D])[i]? = some a := by
      rw [List.getElem?_append_left hi]; exact h2
    exact (sr'.objs i o' a h1' h2').avoid hav
  · rcases List.mem_cons.mp ha with z | z
    · obtain ⟨u, q, _⟩ := sr'.there (a := D) (List.mem_append_right _ (List.mem_singleton.mpr rfl))
      rw [z, q]; exact fun z => by cases z
    · exact sr'.out a z
end
section
variable {X : Cx} {c : Cfg} {W : WX} {B as : List Addr} {σ : L2.St} {H : Hp} {s : S} {tg iter elt tg1 iter1 : Expr} {ifs ifs1 : List Expr} {scope : Scope} {pos : Pos} {g g1 : GS} {ft ft1 : EvT} {fe : EvD} {fi fi1 : EvI} {q : Bool} {is is1 : List Nat}
def iDI (X : Cx) (c : Cfg) (W : WX) (fi : EvI) : TI := fun σ H R => ∃ (B as : List Addr) (s : S), SR X.K c B as H σ s ∧ WantsG X c W (RepI X.K c) B as σ H s.env false R (fi s)
theorem DI.pi (h : DI X c W tg iter fi) : PI X tg iter (iDI X c W fi) := by
  obtain ⟨wi, p, r⟩ := h
  refine ⟨fun pins s σ H R I h => ?_⟩
  obtain ⟨B, as, s', sr, hw⟩ := h
  exact p.run pins s σ H R I (r B as σ H s' R sr hw)
/-- what the reading of a comprehension with two clauses asks -/
theorem lc2_ref {wi : TI} {vs vs1 : List Nat} (his : ∀ i ∈ is, i ∈ vs) (his1 : ∀ i ∈ is1, i ∈ vs1)
    (ri : ∀ (B as : List Addr) (σ : L2.St) (H : Hp) (s : S) (R : It → Hp → Prop), SR X.K c B as H σ s → WantsG X c W (RepI X.K c) B as σ H s.env false R (fi s) → wi σ H R)
    {Q : VK} (sr : SR X.K c B as H σ s) (hw : WantsC X c W B as σ H s.env Q (comp2C fi vs g ft fi1 vs1 g1 ft1 fe s)) :
    tLc2 wi (gDG X c is g) (tDTs X c W0 ft) (iDI X c W0 fi1) (gDG X c is1 g1) (tDTs X c W0 ft1) (tDE X.K X c W0 false q fe) vs vs1 σ H Q := by
  show wi σ H _
  refine WantsC.bindG (s := s) hw sr ri fun J H1 iv st1 e1 ev1 sr1 wd hw1 => ?_
  intro D hD
  have hns : lim (fun m => comp2N iv g ft fi1 vs1 g1 ft1 fe (wipeL s.env vs) m 0 st1 []) ≠ .stuck := fun z => by simp only [z] at hw1; exact hw1
  obtain ⟨m, em⟩ := lim_some hns
  have hw' : WantsC X c W B as σ H1 s.env Q (comp2N iv g ft fi1 vs1 g1 ft1 fe (wipeL s.env vs) m 0 st1 []) := by rw [← em]; exact hw1
  clear em hns hw1
  generalize hR : comp2N iv g ft fi1 vs1 g1 ft1 fe (wipeL s.env vs) m 0 st1 [] = R at hw'
  have hDas : D ∉ as := not_as sr1 hD
  refine ⟨fun i m H => ∃ st acc us, Evo as H1 H ∧ SR X.K c (D :: B) as H σ ⟨s.env, st⟩ ∧ H D = some (.lst us) ∧ RepA X.K ((D :: B) ++ as) H acc us ∧ comp2N iv g ft fi1 vs1 g1 ft1 fe (wipeL s.env vs) m i st acc = R,
    ⟨m, st1, [], [], Evo.new hD, sr1.outN hD, upd_same, .nil, hR⟩, ?_⟩
  rintro i m H2 ⟨st, acc, us, ev, sr2, eD, rs, eR⟩
  have hB : ∀ x ∈ D :: B, x ∈ B ∨ H1 x = none := fun x hx => by
    rcases List.mem_cons.mp hx with z | z
    · exact .inr (by rw [z]; exact hD)
    · exact .inl z
  cases m with
  | zero => rw [← eR] at hw'; exact hw'.elim
  | succ m =>
    unfold comp2N at eR
    split at eR
    · rename_i d ei
      obtain ⟨go, yl⟩ := wd.goes (D :: B) i H2 σ ⟨s.env, st⟩ d hB ev sr2 ei
      split at eR
      · rename_i env1 eg
        refine .inr ⟨go, fun H' => ∃ st acc us, Evo as H1 H' ∧ SR X.K c (D :: B) as H' σ ⟨s.env, st⟩ ∧ H' D = some (.lst us) ∧ RepA X.K ((D :: B) ++ as) H' acc us ∧ comp2N iv g ft fi1 vs1 g1 ft1 fe (wipeL s.env vs) m (i + 1) st acc = R, fun H' q => ⟨m, Nat.lt_succ_self m, q⟩, fun x H3 y => ?_⟩
        obtain ⟨evn, rx⟩ := yl x H3 y
        have sr3 := sr2.evo evn
        have srw := SR.wipe sr3 vs
        refine ⟨D :: B, as, ⟨wipeL s.env vs, st⟩, d, env1, srw, rx, eg, fun σ2 sr4 wn => ⟨?_, ?_⟩⟩
        · rw [wn vs his]
          exact wipe_twice vs σ
        · refine ⟨D :: B, as, ⟨env1, st⟩, sr4, ?_⟩
          have eD3 : H3 D = some (.lst us) := evn.keep D _ eD (by simp) (fun _ z => by cases z)
          have rs3 := RepA.evo evn (fun _ z => by cases z) _ _ rs
          have kD : ∀ {H' : Hp}, Evo as H3 H' → H' D = some (.lst us) ∧ RepA X.K ((D :: B) ++ as) H' acc us := fun e' =>
            ⟨e'.keep D _ eD3 hDas (fun _ z => by cases z), RepA.evo e' (fun x hx => List.mem_append_right _ hx) _ _ rs3⟩
          have ev3 : Evo as H1 H3 := ev.trans' evn.wide
          split at eR
          · rename_i st2 eft
            rw [eft]
            intro b H4 e4 sr5 hb
            have hb' : b = true := hb
            subst hb'
            rw [if_pos rfl]
            have e4' : Evo as H3 H4 := e4
            obtain ⟨k1, k2⟩ := kD e4'
            have sr6 := SR.own sr5 hDas k1 k2
            refine ⟨B, as ++ [D], ⟨env1, st2 ++ [.lst acc]⟩, sr6, ?_⟩
            have hstl : st.length = as.length := sr2.aslen.symm
            have hDn : (as ++ [D])[st.length]? = some D := by rw [hstl, List.getElem?_append_right (Nat.le_refl _), Nat.sub_self]; rfl
            split at eR
            · rename_i iv1 st3 efi
              rw [efi]
              intro J1 H5 e5 sr7 wd1
              have e5' : Evo (as ++ [D]) H4 H5 := e5
              generalize hR1 : inN iv1 g1 ft1 fe (wipeL env1 vs1) st.length m 0 st3 = R1 at eR
              have hDto : ∀ x ∈ as ++ [D], x ∈ as ∨ H1 x = none := fun x hx => by
                rcases List.mem_append.mp hx with z | z
                · exact .inl z
                · exact .inr (by rw [List.mem_singleton.mp z]; exact hD)
              have ev45 : Evo (as ++ [D]) H3 H5 := (e4'.mono fun x hx => List.mem_append_left _ hx).trans' e5'
              refine ⟨fun j k H => ∃ stx, Evo (as ++ [D]) H5 H ∧ SR X.K c B (as ++ [D]) H σ2 ⟨env1, stx⟩ ∧ inN iv1 g1 ft1 fe (wipeL env1 vs1) st.length k j stx = R1,
                ⟨m, st3, Evo.refl, sr7, hR1⟩, ?_⟩
              rintro j k H6 ⟨stx, ev6, sr8, eR1⟩
              cases k with
              | zero => rw [← eR1] at eR; rw [← eR] at hw'; exact hw'.elim
              | succ k =>
                unfold inN at eR1
                split at eR1
                · rename_i d1 ej
                  obtain ⟨go1, yl1⟩ := wd1.goes B j H6 σ2 ⟨env1, stx⟩ d1 (fun x hx => .inl hx) ev6 sr8 ej
                  split at eR1
                  · rename_i env2 eg1
                    refine .inr ⟨go1, fun H' => ∃ stx, Evo (as ++ [D]) H5 H' ∧ SR X.K c B (as ++ [D]) H' σ2 ⟨env1, stx⟩ ∧ inN iv1 g1 ft1 fe (wipeL env1 vs1) st.length k (j + 1) stx = R1, fun H' q => ⟨k, Nat.lt_succ_self k, q⟩, fun x H7 y => ?_⟩
                    obtain ⟨evn1, rx1⟩ := yl1 x H7 y
                    have sr9 := sr8.evo evn1
                    have srw1 := SR.wipe sr9 vs1
                    have ev7 : Evo (as ++ [D]) H5 H7 := ev6.trans' evn1.wide
                    refine ⟨B, as ++ [D], ⟨wipeL env1 vs1, stx⟩, d1, env2, srw1, rx1, eg1, fun σ3 sr10 wn1 => ⟨?_, ?_⟩⟩
                    · rw [wn1 vs1 his1]
                      exact wipe_twice vs1 σ2
                    · refine ⟨B, as ++ [D], ⟨env2, stx⟩, sr10, ?_⟩
                      split at eR1
                      · rename_i st4 eft1
                        rw [eft1]
                        intro b H8 e8 sr11 hb
                        have hb' : b = true := hb
                        subst hb'
                        rw [if_pos rfl]
                        have e8' : Evo (as ++ [D]) H7 H8 := e8
                        refine ⟨B, as ++ [D], ⟨env2, st4⟩, sr11, ?_⟩
                        split at eR1
                        · rename_i y2 st5 efe
                          rw [efe]
                          intro v H9 e9 sr12 rv
                          have e9' : Evo (as ++ [D]) H8 H9 := e9.mono wq_as
                          split at eR1
                          · rename_i ds eds
                            split at eR1
                            · rename_i hlt
                              obtain ⟨us9, w1, w2⟩ := sr12.objs st.length _ D eds hDn
                              obtain ⟨w3, w4⟩ := sr12.writeL hDn (w2.append (.cons rv .nil))
                              refine ⟨us9, w1, by rw [sizeLine_eq, w2.length]; exact hlt, _, (ev7.trans' (e8'.trans' e9')).trans' w3, ?_, eR1⟩
                              exact SR.slots (s := ⟨env1, stx⟩) (σ := σ2) w4 sr9 ((e8'.trans' e9').trans' w3)
                            · rw [← eR1] at eR; rw [← eR] at hw'; exact hw'.elim
                          · rw [← eR1] at eR; rw [← eR] at hw'; exact hw'.elim
                        · rw [← eR1] at eR; rw [← eR] at hw'; exact hw'.elim
                      · rename_i st4 eft1
                        rw [eft1]
                        intro b H8 e8 sr11 hb
                        have hb' : b = false := hb
                        subst hb'
                        rw [if_neg Bool.false_ne_true]
                        have e8' : Evo (as ++ [D]) H7 H8 := e8
                        exact ⟨st4, ev7.trans' e8', SR.slots (s := ⟨env1, stx⟩) (σ := σ2) sr11 sr9 e8', eR1⟩
                      · rw [← eR1] at eR; rw [← eR] at hw'; exact hw'.elim
                  · rw [← eR1] at eR; rw [← eR] at hw'; exact hw'.elim
                · rename_i ej
                  refine .inl ⟨wd1.stops B j H6 σ2 ⟨env1, stx⟩ (fun x hx => .inl hx) ev6 sr8 ej, ?_⟩
                  rw [← eR1] at eR
                  simp only at eR
                  split at eR
                  · rename_i acc' eacc
                    obtain ⟨us6, w1, w2⟩ := sr8.objs st.length _ D eacc hDn
                    have hl8 := sr8.aslen
                    simp only [List.length_append, List.length_cons, List.length_nil] at hl8
                    have hsplit : stx = stx.take st.length ++ [.lst acc'] := by
                      have h1 : st.length < stx.length := (List.getElem?_eq_some_iff.mp eacc).1
                      have h2 : stx[st.length] = .lst acc' := (List.getElem?_eq_some_iff.mp eacc).2
                      have h3 : stx.drop st.length = [.lst acc'] := by
                        rw [List.drop_eq_getElem_cons h1, h2, List.drop_eq_nil_of_le (by omega)]
                      rw [← h3, List.take_append_drop]
                    rw [hsplit] at sr8
                    have sr13 := SR.backD sr8 sr3 (ev45.trans' ev6)
                    have hav : ∀ x ∈ (D :: B) ++ as, x ∈ B ++ (as ++ [D]) ∨ H6 x = none := fun x hx => .inl (by
                      rcases List.mem_append.mp hx with z | z
                      · rcases List.mem_cons.mp z with z | z
                        · rw [z]; exact List.mem_append_right _ (List.mem_append_right _ (List.mem_singleton.mpr rfl))
                        · exact List.mem_append_left _ z
                      · exact List.mem_append_right _ (List.mem_append_left _ z))
                    exact ⟨stx.take st.length, acc', us6, ev3.trans (ev45.trans' ev6) hDto, sr13, w1, RepA.avoid hav _ _ w2, eR⟩
                  · rw [← eR] at hw'; exact hw'.elim
                · rw [← eR1] at eR; rw [← eR] at hw'; exact hw'.elim
            · rw [← eR] at hw'; exact hw'.elim
          · rename_i st2 eft
            rw [eft]
            intro b H4 e4 sr5 hb
            have hb' : b = false := hb
            subst hb'
            rw [if_neg Bool.false_ne_true]
            have e4' : Evo as H3 H4 := e4
            obtain ⟨k1, k2⟩ := kD e4'
            exact ⟨st2, acc, us, ev3.trans' e4', SR.slots (s := ⟨s.env, st⟩) (σ := σ) sr5 sr3 e4', k1, k2, eR⟩
          · rw [← eR] at hw'; exact hw'.elim
      · rw [← eR] at hw'; exact hw'.elim
    · rename_i ei
      refine .inl ⟨wd.stops (D :: B) i H2 σ ⟨s.env, st⟩ hB ev sr2 ei, ?_⟩
      rw [← eR] at hw'
      exact hw' D us H2 ev hD sr2 eD rs
    · rw [← eR] at hw'; exact hw'.elim
/-- [e for x in a .. for y in b ..] -/
theorem dc_lc2 (own : List (Str × Nat)) (vs1 : List Nat) (hc : X.calm = true) (hN : X.N.Nodup) (hi : DI X c W tg iter fi) (ok : BlkOk X.N X.env.scope scope own) (hv : ∀ i ∈ vs1, i ∈ own.map (·.2))
    (hg : ∀ (s : Shared) (H : Hp) (C : Addr) (cl : List (Str × Addr)) (fp : List Addr), DG (X.blk s H scope (compEnvC scope cl C X.env) fp) c tg is g)
    (ht : ∀ (s : Shared) (H : Hp) (C : Addr) (cl : List (Str × Addr)) (fp : List Addr), DTs (X.blk s H scope (compEnvC scope cl C X.env) fp) c W0 ifs ft)
    (hi1 : ∀ (s : Shared) (H : Hp) (C : Addr) (cl : List (Str × Addr)) (fp : List Addr), DI (X.blk s H scope (compEnvC scope cl C X.env) fp) c W0 tg1 iter1 fi1)
    (hg1 : ∀ (s : Shared) (H : Hp) (C : Addr) (cl : List (Str × Addr)) (fp : List Addr), DG (X.blk s H scope (compEnvC scope cl C X.env) fp) c tg1 is1 g1)
    (ht1 : ∀ (s : Shared) (H : Hp) (C : Addr) (cl : List (Str × Addr)) (fp : List Addr), DTs (X.blk s H scope (compEnvC scope cl C X.env) fp) c W0 ifs1 ft1)
    (he : ∀ (s : Shared) (H : Hp) (C : Addr) (cl : List (Str × Addr)) (fp : List Addr), DE (X.blk s H scope (compEnvC scope cl C X.env) fp) c W0 elt false q fe)
    (his : ∀ i ∈ is, i ∈ own.map (·.2)) (his1 : ∀ i ∈ is1, i ∈ vs1) (hs : ∀ x, foldedSetIterable iter X.env x = pure x) (hs1 : ∀ env x, foldedSetIterable iter1 env x = pure x) :
    DC X c W (.ListComp elt [⟨tg, iter, ifs, 0⟩, ⟨tg1, iter1, ifs1, 0⟩] scope pos) (comp2C fi (own.map (·.2)) g ft fi1 vs1 g1 ft1 fe) := by
  obtain ⟨wi, pi, ri⟩ := hi
  exact ⟨_, pe_lc2 (g := gDG X c is g) (tt := tDTs X c W0 ft) (wi1 := iDI X c W0 fi1) (g1 := gDG X c is1 g1) (tt1 := tDTs X c W0 ft1) (te := tDE X.K X c W0 false q fe) hc hN pi ok hv (fun s H C cl fp => (hg s H C cl fp).pg) (fun s H C cl fp => (ht s H C cl fp).pts) (fun s H C cl fp => (hi1 s H C cl fp).pi) (fun s H C cl fp => (hg1 s H C cl fp).pg) (fun s H C cl fp => (ht1 s H C cl fp).pts) (fun s H C cl fp => (he s H C cl fp).pe) hs hs1,
    fun B as σ H s Q sr hw => lc2_ref his his1 ri sr hw⟩
theorem ds_setLc2 {i : Nat} {y : Str} {py spos : Pos} {fa : EvV} (own : List (Str × Nat)) (vs1 : List Nat) (hc : X.calm = true) (hN : X.N.Nodup) (hy : X.N[i]? = some y) (hyl : X.env.scope.names.lookup y = some .local)
    (hsw : swapsWith (.ListComp elt [⟨tg, iter, ifs, 0⟩, ⟨tg1, iter1, ifs1, 0⟩] scope pos) (some (.Name y py)) spos.line X.env = pure true) (hi : DI X c W tg iter fi) (ok : BlkOk X.N X.env.scope scope own) (hv : ∀ i ∈ vs1, i ∈ own.map (·.2))
    (hg : ∀ (s : Shared) (H : Hp) (C : Addr) (cl : List (Str × Addr)) (fp : List Addr), DG (X.blk s H scope (compEnvC scope cl C X.env) fp) c tg is g)
    (ht : ∀ (s : Shared) (H : Hp) (C : Addr) (cl : List (Str × Addr)) (fp : List Addr), DTs (X.blk s H scope (compEnvC scope cl C X.env) fp) c W0 ifs ft)
    (hi1 : ∀ (s : Shared) (H : Hp) (C : Addr) (cl : List (Str × Addr)) (fp : List Addr), DI (X.blk s H scope (compEnvC scope cl C X.env) fp) c W0 tg1 iter1 fi1)
    (hg1 : ∀ (s : Shared) (H : Hp) (C : Addr) (cl : List (Str × Addr)) (fp : List Addr), DG (X.blk s H scope (compEnvC scope cl C X.env) fp) c tg1 is1 g1)
    (ht1 : ∀ (s : Shared) (H : Hp) (C : Addr) (cl : List (Str × Addr)) (fp : List Addr), DTs (X.blk s H scope (compEnvC scope cl C X.env) fp) c W0 ifs1 ft1)
    (he : ∀ (s : Shared) (H : Hp) (C : Addr) (cl : List (Str × Addr)) (fp : List Addr), DE (X.blk s H scope (compEnvC scope cl C X.env) fp) c W0 elt false q fe)
    (his : ∀ i ∈ is, i ∈ own.map (·.2)) (his1 : ∀ i ∈ is1, i ∈ vs1) (hs : ∀ x, foldedSetIterable iter X.env x = pure x) (hs1 : ∀ env x, foldedSetIterable iter1 env x = pure x)
    (hfa : ∀ (B as : List Addr) (σ : L2.St) (H : Hp) (s : S) (Q : VK), SR X.K c B as H σ s → WantsV X c W (RepV X.K) B as σ H s.env Q (fa s) → WantsC X c W B as σ H s.env Q (comp2C fi (own.map (·.2)) g ft fi1 vs1 g1 ft1 fe s)) :
    DS X c W (.Assign [.Name y py] (.ListComp elt [⟨tg, iter, ifs, 0⟩, ⟨tg1, iter1, ifs1, 0⟩] scope pos) spos) (setS i fa) := by
  obtain ⟨wi, pi, ri⟩ := hi
  exact ds_setBy (ps_setLc2 (g := gDG X c is g) (tt := tDTs X c W0 ft) (wi1 := iDI X c W0 fi1) (g1 := gDG X c is1 g1) (tt1 := tDTs X c W0 ft1) (te := tDE X.K X c W0 false q fe) hc hN hy hyl hsw pi ok hv (fun s H C cl fp => (hg s H C cl fp).pg) (fun s H C cl fp => (ht s H C cl fp).pts) (fun s H C cl fp => (hi1 s H C cl fp).pi) (fun s H C cl fp => (hg1 s H C cl fp).pg) (fun s H C cl fp => (ht1 s H C cl fp).pts) (fun s H C cl fp => (he s H C cl fp).pe) hs hs1)
    fun B as σ H s Q sr hw => lc2_ref his his1 ri sr (hfa B as σ H s Q sr hw)
end
end DL
end
section
set_option Elab.async false
set_option linter.all false
set_option maxRecDepth 100000
set_option maxHeartbeats 1000000
/-! The data layer, part z: own dicts whose keys are tuples, nested: made, read, asked, stored. -/
namespace DL
open PySem PySem.Spec PyProof.Rows L2 PySem.SeqAt PySem.W
noncomputable local instance pdE : DecidableEq PyData := DK.pdEq
/-! ### as lists of pairs -/
def mFind (kvs : List (PyData × PyData)) (k : PyData) : Option PyData := (kvs.find? fun kv => PyData.eqv kv.1 k).map (·.2)
def mPut (kvs : List (PyData × PyData)) (k d : PyData) : List (PyData × PyData) := if (mFind kvs k).isSome = true then kvs.map (fun kv => if PyData.eqv kv.1 k = true then (kv.1, d) else kv) else kvs ++ [(k, d)]
/-- a key: a tuple of what can be a key -/
def mKey : PyData → Bool
  | .tuple xs => DK.kOkAll xs && decide (PyData.depthAll xs ≤ 6)
  | _ => false
theorem mKey_ok {d : PyData} (h : mKey d = true) : DK.kOk d = true ∧ d.depth ≤ 7 ∧ ∃ xs, d = .tuple xs := by
  cases d with
  | tuple xs =>
    simp only [mKey, Bool.and_eq_true, decide_eq_true_eq] at h
    refine ⟨h.1, ?_, xs, rfl⟩
    rw [PyData.depth]
    omega
  | _ => cases h
section
variable {K : PySem.W.Frag} {av : List Addr} {H : Hp} {k : PyData}
theorem MRep.len {kvs : List (PyData × PyData)} {xs : List (PyData × Addr × V)} (m : MRep K av H kvs xs) : kvs.length = xs.length := Paired.length m
/-- what is found -/
theorem find_there (hk : DK.kOk k = true) : ∀ {kvs : List (PyData × PyData)} {xs : List (PyData × Addr × V)} {ys : List (PyData × Addr × Value)} {d : PyData}, MRep K av H kvs xs →
    Paired (fun (p : PyData × Addr × V) (q : PyData × Addr × Value) => p.1 = q.1 ∧ p.2.1 = q.2.1 ∧ RelV p.2.2 q.2.2) xs ys → mFind kvs k = some d → ∃ p v, atKey ys (DK.norm k) = some p ∧ RelV v p.2 ∧ Rep K av H d v
  | _, _, _, d, .nil, .nil, e => by simp [mFind] at e
  | _, _, _, d, .cons (a := kv) (b := x) r rs, .cons (b := y) q qs, e => by
    obtain ⟨r1, r2, r3, r4, r5⟩ := r
    obtain ⟨q1, q2, q3⟩ := q
    have hn : PyData.eqv kv.1 k = decide (y.1 = DK.norm k) := by
      rw [Bool.eq_iff_iff, decide_eq_true_iff, DK.norm_eqv _ _ r2 hk, r1, q1]
    unfold mFind at e
    rw [List.find?_cons] at e
    unfold atKey
    rw [List.find?_cons]
    rw [hn] at e
    by_cases h : y.1 = DK.norm k
    · rw [decide_eq_true h] at e ⊢
      simp only [Option.map_some, Option.some.injEq] at e
      exact ⟨_, x.2.2, rfl, q3, by rw [← e]; exact r5⟩
    · rw [decide_eq_false h] at e ⊢
      exact find_there hk rs qs e
theorem find_not (hk : DK.kOk k = true) : ∀ {kvs : List (PyData × PyData)} {xs : List (PyData × Addr × V)} {ys : List (PyData × Addr × Value)}, MRep K av H kvs xs →
    Paired (fun (p : PyData × Addr × V) (q : PyData × Addr × Value) => p.1 = q.1 ∧ p.2.1 = q.2.1 ∧ RelV p.2.2 q.2.2) xs ys → mFind kvs k = none → atKey ys (DK.norm k) = none
  | _, _, _, .nil, .nil, e => rfl
  | _, _, _, .cons (a := kv) (b := x) r rs, .cons (b := y) q qs, e => by
    obtain ⟨r1, r2, r3, r4, r5⟩ := r
    obtain ⟨q1, q2, q3⟩ := q
    have hn : PyData.eqv kv.1 k = decide (y.1 = DK.norm k) := by
      rw [Bool.eq_iff_iff, decide_eq_true_iff, DK.norm_eqv _ _ r2 hk, r1, q1]
    unfold mFind at e
    rw [List.find?_cons] at e
    unfold atKey
    rw [List.find?_cons]
    rw [hn] at e
    by_cases h : y.1 = DK.norm k
    · rw [decide_eq_true h] at e
      cases e
    · rw [decide_eq_false h] at e ⊢
      exact find_not hk rs qs e
theorem find_isSome (hk : DK.kOk k = true) {kvs : List (PyData × PyData)} {xs : List (PyData × Addr × V)} {ys : List (PyData × Addr × Value)} (m : MRep K av H kvs xs)
    (q : Paired (fun (p : PyData × Addr × V) (q : PyData × Addr × Value) => p.1 = q.1 ∧ p.2.1 = q.2.1 ∧ RelV p.2.2 q.2.2) xs ys) : (atKey ys (DK.norm k)).isSome = (mFind kvs k).isSome := by
  cases e : mFind kvs k with
  | none => rw [find_not hk m q e]; rfl
  | some d => obtain ⟨p, v, h, _⟩ := find_there hk m q e; rw [h]; rfl
/-- entries, stored -/
noncomputable def xPut (xs : List (PyData × Addr × V)) (k : PyData) (a : Addr) (v : V) (there : Bool) : List (PyData × Addr × V) := if there = true then xs.map (fun x => if x.1 = k then (x.1, x.2.1, v) else x) else xs ++ [(k, a, v)]
theorem paired_map {α β γ δ : Type} {F : α → β → Prop} {G : γ → δ → Prop} {f : α → γ} {g : β → δ} (h : ∀ a b, F a b → G (f a) (g b)) : ∀ {l : List α} {m : List β}, Paired F l m → Paired G (l.map f) (m.map g)
  | _, _, .nil => .nil
  | _, _, .cons r t => .cons (h _ _ r) (paired_map h t)
theorem paired_snoc {α β : Type} {F : α → β → Prop} {a : α} {b : β} (h : F a b) : ∀ {l : List α} {m : List β}, Paired F l m → Paired F (l ++ [a]) (m ++ [b])
  | _, _, .nil => .cons h .nil
  | _, _, .cons r t => .cons r (paired_snoc h t)
theorem put_x {xs : List (PyData × Addr × V)} {ys : List (PyData × Addr × Value)} {a : Addr} {v : V} {u : Value} (rv : RelV v u)
    (q : Paired (fun (p : PyData × Addr × V) (q : PyData × Addr × Value) => p.1 = q.1 ∧ p.2.1 = q.2.1 ∧ RelV p.2.2 q.2.2) xs ys) {kk : PyData} {t : Bool} (ht : (atKey ys kk).isSome = t) :
    Paired (fun (p : PyData × Addr × V) (q : PyData × Addr × Value) => p.1 = q.1 ∧ p.2.1 = q.2.1 ∧ RelV p.2.2 q.2.2) (xPut xs kk a v t) (storedH ys kk a u) := by
  subst ht
  unfold xPut storedH
  by_cases h : (atKey ys kk).isSome = true
  · rw [if_pos h, if_pos h]
    refine paired_map (fun p q r => ?_) q
    obtain ⟨r1, r2, r3⟩ := r
    unfold putAt
    by_cases e : p.1 = kk
    · rw [if_pos e, if_pos (r1 ▸ e)]
      exact ⟨r1, r2, rv⟩
    · rw [if_neg e, if_neg (fun z => e (r1.trans z))]
      exact ⟨r1, r2, r3⟩
  · rw [if_neg h, if_neg h]
    exact paired_snoc ⟨rfl, rfl, rv⟩ q
theorem put_m (hk : DK.kOk k = true) (hdep : k.depth ≤ 7) {a : Addr} {d : PyData} {v : V} (rk : Rep K av H k (.ref a)) (rv : Rep K av H d v) {kvs : List (PyData × PyData)} {xs : List (PyData × Addr × V)} (m : MRep K av H kvs xs) : MRep K av H (mPut kvs k d) (xPut xs (DK.norm k) a v (mFind kvs k).isSome) := by
  unfold mPut xPut
  by_cases h : (mFind kvs k).isSome = true
  · rw [if_pos h, if_pos h]
    refine paired_map (fun p q r => ?_) m
    obtain ⟨r1, r2, r3, r4, r5⟩ := r
    have hn := DK.norm_eqv p.1 k r2 hk
    by_cases e : PyData.eqv p.1 k = true
    · rw [if_pos e, if_pos (r1 ▸ hn.mp e)]
      exact ⟨r1, r2, r3, r4, rv⟩
    · rw [if_neg e, if_neg (fun z => e (hn.mpr (r1.trans z)))]
      exact ⟨r1, r2, r3, r4, r5⟩
  · rw [if_neg h, if_neg h]
    exact paired_snoc ⟨rfl, hk, hdep, rk, rv⟩ m
theorem mPut_len (kvs : List (PyData × PyData)) (k d : PyData) : (mPut kvs k d).length ≤ kvs.length + 1 := by
  unfold mPut
  split
  · rw [List.length_map]; omega
  · rw [List.length_append]; simp
theorem keys_x {xs : List (PyData × Addr × V)} {ys : List (PyData × Addr × Value)} (q : Paired (fun (p : PyData × Addr × V) (q : PyData × Addr × Value) => p.1 = q.1 ∧ p.2.1 = q.2.1 ∧ RelV p.2.2 q.2.2) xs ys) : xs.map (·.1) = ys.map (·.1) := by
  induction q with
  | nil => rfl
  | cons r t ih => rw [List.map_cons, List.map_cons, r.1, ih]
end
/-! ### the dict is no code object -/
theorem mutDict (hs : PyData → Int) (a : Addr) (xs : List (PyData × Addr × V)) (hn : (xs.map (·.1)).Nodup) (ha : (a == sysModules) = false) : Mut (DictT hs a xs) := by
  refine ⟨(fun _ z => by cases z), fun c P z => ?_⟩
  have hval : ∀ v : V, ∃ u, RelV v u := fun v => by
    cases v with
    | non => exact ⟨_, rfl⟩
    | bl b => exact ⟨_, rfl⟩
    | int i => exact ⟨_, (default : Tok), rfl⟩
    | str x => exact ⟨_, (default : Tok), rfl⟩
    | byt b => exact ⟨_, (default : Tok), rfl⟩
    | flt b => exact ⟨_, (default : Tok), rfl⟩
    | ref a => exact ⟨_, rfl⟩
    | ty n => exact ⟨_, rfl⟩
  have hys : ∀ l : List (PyData × Addr × V), ∃ ys : List (PyData × Addr × Value), Paired (fun (p : PyData × Addr × V) (q : PyData × Addr × Value) => p.1 = q.1 ∧ p.2.1 = q.2.1 ∧ RelV p.2.2 q.2.2) l ys := by
    intro l
    induction l with
    | nil => exact ⟨[], .nil⟩
    | cons x l ih =>
      obtain ⟨ys, h⟩ := ih
      obtain ⟨u, hu⟩ := hval x.2.2
      exact ⟨(x.1, x.2.1, u) :: ys, .cons ⟨rfl, rfl, hu⟩ h⟩
  obtain ⟨ys, hy⟩ := hys xs
  have hφ : (DictAt hs a xs) = fun h => PySem.W.CodeHd h c P := by
    have := z
    unfold DictT CodeT at this
    exact HO.ext.inj this
  let ob : Obj := { cls := .type "dict", data := .dict (ys.map (fun x => (⟨hs x.1, .ref x.2.1, x.2.2⟩ : DictEntry))).toArray 0 }
  let h0 : Heap := { objs := (Array.replicate a ({ cls := .none } : Obj)).push ob }
  have hget : h0.get? a = some ob := by
    show (match ((Array.replicate a ({ cls := .none } : Obj)).push ob)[a]? with
      | some ⟨_, _, .freed, _⟩ => none
      | o => o) = some ob
    rw [Array.getElem?_push]
    simp [ob]
  have h1 : DictAt hs a xs h0 := ⟨ha, hn, ys, hy, ob, _, 0, hget, ⟨rfl, rfl, rfl⟩, rfl, by simp⟩
  rw [hφ] at h1
  obtain ⟨o, vs, file, tf, flags, tg, inF, text, tt, e1, e2, _⟩ := h1
  have : o.cls = .none ∨ o = ob := by
    have e1' : (match ((Array.replicate a ({ cls := .none } : Obj)).push ob)[c]? with
      | some ⟨_, _, .freed, _⟩ => none
      | o => o) = some o := e1
    rw [Array.getElem?_push] at e1'
    by_cases hc : c = (Array.replicate a ({ cls := .none } : Obj)).size
    · rw [if_pos hc] at e1'
      exact .inr (by simpa [ob] using e1'.symm)
    · rw [if_neg hc, Array.getElem?_replicate] at e1'
      by_cases hca : c < a
      · rw [if_pos hca] at e1'
        simp at e1'
        exact .inl (by rw [← e1'])
      · rw [if_neg hca] at e1'
        cases e1'
  rcases this with h | h
  · rw [h] at e2; cases e2
  · rw [h] at e2
    simp [ob] at e2
end DL
end
section
set_option Elab.async false
set_option linter.all false
set_option maxRecDepth 100000
set_option maxHeartbeats 1000000
/-! The data layer, part ma: own dicts whose keys are tuples: the walks. -/
namespace DL
open PySem PySem.Spec PyProof.Rows L2 PySem.SeqAt PySem.W
noncomputable local instance pdE2 : DecidableEq PyData := DK.pdEq
theorem dictT_ok {P : Program} {w : World} {H : Hp} {h : Heap} {hs : PyData → Int} {a : Addr} {xs : List (PyData × Addr × V)} (p : DictAt hs a xs h) : ObjOk P w H h a (DictT hs a xs) := by
  refine ⟨p, ?_, ?_⟩
  · obtain ⟨_, _, _, _, o, _, _, e, _⟩ := p
    exact ⟨o, e⟩
  · rintro h1 h2 ⟨p1, p2, ys, p3, o, es, ep, p4, p5⟩ k
    exact ⟨p1, p2, ys, p3, o, es, ep, k o p4, p5⟩
section
variable {X : Cx} {pins : List (Addr × Obj)} {σ : L2.St} {H : Hp} {s : Shared} {av : List Addr}
theorem isK_of (I : Inv X pins σ H s) {k : PyData} {b : Addr} (hk : DK.kOk k = true) (hd : k.depth ≤ 7) (r : Rep X.K av H k (.ref b)) : DK.IsK s.heap (DK.norm k) b := by
  obtain ⟨as, hr⟩ := Rep.reads I k (.ref b) (.ref b) r rfl
  exact ⟨k, as, hr, hk, hd, rfl⟩
theorem dictH (I : Inv X pins σ H s) {d : Addr} {kvs : List (PyData × PyData)} {xs : List (PyData × Addr × V)} (e : H d = some (DictT (DK.hashD X.w) d xs)) (m : MRep X.K av H kvs xs) :
    (d == sysModules) = false ∧ (xs.map (·.1)).Nodup ∧ ∃ ys : List (PyData × Addr × Value), Paired (fun (p : PyData × Addr × V) (q : PyData × Addr × Value) => p.1 = q.1 ∧ p.2.1 = q.2.1 ∧ RelV p.2.2 q.2.2) xs ys ∧
      s.heap.DictOfH (DK.dataKind (prog := X.prog) (w := X.w)) d ys := by
  obtain ⟨⟨p1, p2, ys, p3, o, es, ep, p4, p5, p6, p7⟩, xt, stb⟩ := I.hok d _ e
  clear xt stb
  refine ⟨p1, p2, ys, p3, o, es, ep, p4, p5, p6, p7, ?_, by rw [← keys_x p3]; exact p2⟩
  clear p4 p5 p6 p7 p2 e
  intro y hy
  induction m generalizing ys with
  | nil => cases p3; cases hy
  | cons r t ih =>
    cases p3 with
    | cons q1 q2 =>
      rcases List.mem_cons.mp hy with z | z
      · subst z
        obtain ⟨r1, r2, r3, r4, r5⟩ := r
        rw [← q1.1, ← q1.2.1, ← r1]
        exact isK_of I r2 r3 r4
      · exact ih _ q2 z
theorem mKey_ref {K : PySem.W.Frag} {k : PyData} {y : V} (hk : mKey k = true) (r : Rep K av H k y) : ∃ b, y = .ref b := by
  obtain ⟨_, _, xs, rfl⟩ := mKey_ok hk
  simp only [Rep] at r
  obtain ⟨a, vs, e, _⟩ := r
  exact ⟨a, e⟩
theorem room_in1 {A : Around} (hu : A.units + 64 < cLine) : (DK.dataKind (prog := X.prog) (w := X.w)).room A.in1 := by
  show A.in1.units + 48 < cLine
  have : A.in1.units ≤ A.units + 1 := by show A.units + 1 ≤ _; omega
  omega
/-- d[y] -/
theorem m_getItem {A : Around} {E : Value → Shared → Prop} {Q : Value → Shared → Prop} {a : Addr} {kvs : List (PyData × PyData)} {xs : List (PyData × Addr × V)} {k d : PyData} {y : V} {u : Value} (hu : A.units + 64 < cLine) (I : Inv X pins σ H s)
    (e : H a = some (DictT (DK.hashD X.w) a xs)) (m : MRep X.K av H kvs xs) (hk : mKey k = true) (rk : Rep X.K av H k y) (ry : RelV y u) (ed : mFind kvs k = some d) (h : ∀ v w' s', Inv X pins σ H s' → RelV v w' → Rep X.K av H d v → Q w' s') :
    wpAny (model X.prog X.w) A (getItem (.ref a) u) Q E s := by
  obtain ⟨b, rfl⟩ := mKey_ref hk rk
  cases (show u = Value.ref b from ry)
  obtain ⟨p1, p2, ys, p3, dd⟩ := dictH I e m
  obtain ⟨k1, k2, _⟩ := mKey_ok hk
  obtain ⟨p, v, hp, rv, rd⟩ := find_there k1 m p3 ed
  exact wpAny_getItem_heap (room_in1 hu) (isK_of I k1 k2 rk) dd hp (h v _ _ (I.tok _) rv rd)
theorem m_in {A : Around} {E : Value → Shared → Prop} {Q : Value → Shared → Prop} {a : Addr} {kvs : List (PyData × PyData)} {xs : List (PyData × Addr × V)} {k : PyData} {y : V} {u : Value} (hu : A.units + 64 < cLine) (I : Inv X pins σ H s)
    (e : H a = some (DictT (DK.hashD X.w) a xs)) (m : MRep X.K av H kvs xs) (hk : mKey k = true) (rk : Rep X.K av H k y) (ry : RelV y u) (h : ∀ s', Inv X pins σ H s' → Q (.bool (mFind kvs k).isSome) s') :
    wpAny (model X.prog X.w) A (compareOp .In u (.ref a)) Q E s := by
  obtain ⟨b, rfl⟩ := mKey_ref hk rk
  cases (show u = Value.ref b from ry)
  obtain ⟨p1, p2, ys, p3, dd⟩ := dictH I e m
  obtain ⟨k1, k2, _⟩ := mKey_ok hk
  refine wpAny_in_heap (room_in1 hu) (isK_of I k1 k2 rk) p1 dd ?_
  rw [find_isSome k1 m p3]
  exact h _ (I.tok _)
theorem m_notIn {A : Around} {E : Value → Shared → Prop} {Q : Value → Shared → Prop} {a : Addr} {kvs : List (PyData × PyData)} {xs : List (PyData × Addr × V)} {k : PyData} {y : V} {u : Value} (hu : A.units + 64 < cLine) (I : Inv X pins σ H s)
    (e : H a = some (DictT (DK.hashD X.w) a xs)) (m : MRep X.K av H kvs xs) (hk : mKey k = true) (rk : Rep X.K av H k y) (ry : RelV y u) (h : ∀ s', Inv X pins σ H s' → Q (.bool (!(mFind kvs k).isSome)) s') :
    wpAny (model X.prog X.w) A (compareOp .NotIn u (.ref a)) Q E s := by
  obtain ⟨b, rfl⟩ := mKey_ref hk rk
  cases (show u = Value.ref b from ry)
  obtain ⟨p1, p2, ys, p3, dd⟩ := dictH I e m
  obtain ⟨k1, k2, _⟩ := mKey_ok hk
  refine wpAny_notIn_heap (room_in1 hu) (isK_of I k1 k2 rk) p1 dd ?_
  rw [find_isSome k1 m p3]
  exact h _ (I.tok _)
theorem nodup_x {xs : List (PyData × Addr × V)} {ys : List (PyData × Addr × Value)} (q : Paired (fun (p : PyData × Addr × V) (q : PyData × Addr × Value) => p.1 = q.1 ∧ p.2.1 = q.2.1 ∧ RelV p.2.2 q.2.2) xs ys) (h : (ys.map (·.1)).Nodup) : (xs.map (·.1)).Nodup := by
  rw [keys_x q]; exact h
/-- d[y] = v -/
theorem m_setItem {A : Around} {E : Value → Shared → Prop} {Q : Unit → Shared → Prop} {a : Addr} {kvs : List (PyData × PyData)} {xs : List (PyData × Addr × V)} {k : PyData} {y v : V} {u r : Value} (hu : A.units + 64 < cLine) (I : Inv X pins σ H s)
    (e : H a = some (DictT (DK.hashD X.w) a xs)) (m : MRep X.K av H kvs xs) (hk : mKey k = true) (rk : Rep X.K av H k y) (ry : RelV y u) (rv : RelV v r) (hl : kvs.length ≤ sizeLine)
    (h : ∀ b s', y = .ref b → ((xPut xs (DK.norm k) b v (mFind kvs k).isSome).map (·.1)).Nodup → (a == sysModules) = false → Inv X pins σ (upd H a (DictT (DK.hashD X.w) a (xPut xs (DK.norm k) b v (mFind kvs k).isSome))) s' → Q () s') :
    wpAny (model X.prog X.w) A (setItem (.ref a) u r) Q E s := by
  obtain ⟨b, rfl⟩ := mKey_ref hk rk
  cases (show u = Value.ref b from ry)
  obtain ⟨p1, p2, ys, p3, dd⟩ := dictH I e m
  obtain ⟨k1, k2, _⟩ := mKey_ok hk
  have hz : ys.length ≤ sizeLine := by rw [← Paired.length p3, ← MRep.len m]; exact hl
  refine wpAny_setItem_heap (hsz := hz) (room_in1 hu) (isK_of I k1 k2 rk) dd fun h' dd' hs => ?_
  have pp := put_x (kk := DK.norm k) (a := b) rv p3 (find_isSome k1 m p3)
  obtain ⟨o, es, ep, q1, q2, q3, q4, q5, q6⟩ := dd'
  have nd := nodup_x pp q6
  refine h b _ rfl nd p1 (d_write I (by rw [e]; exact True.intro) hs ⟨o, q1⟩ (dictT_ok ⟨p1, nd, _, pp, o, es, ep, q1, q2, q3, q4⟩))
end
/-- {} -/
def tMNew (hs : PyData → Int) : TE := fun _ H Q => ∀ p, H p = none → (p == sysModules) = false → Q (.ref p) (upd H p (DictT hs p []))
theorem pe_mnew {X : Cx} {pos : Pos} : PE X (.Dict [] [] pos) (tMNew (DK.hashD X.w)) := ⟨fun pins s σ H Q I h =>
  have hb : (s.heap.objs.size == sysModules) = false := beq_eq_false_iff_ne.mpr (Ne.symm (Nat.ne_of_lt I.big))
  wpAny_Dict_empty ⟨.ref s.heap.objs.size, _, I.laid (a := s.heap.objs.size) (o := DictT (DK.hashD X.w) s.heap.objs.size []) (t' := s.toks) (fun _ _ q => Heap.get?_push_of_some _ q) (Nat.le_refl _)
    (dictT_ok ⟨hb, List.nodup_nil, [], .nil, _, #[], 0, Heap.get?_push_size _ rfl, ⟨rfl, rfl, rfl⟩, rfl, rfl⟩), rfl, h _ (I.hok.fresh (Nat.le_refl _)) hb⟩⟩
def tMGet (X : Cx) (td ty : TE) : TE := fun σ H Q => td σ H fun x H1 => ty σ H1 fun y H2 => ∃ a xs kvs k d av, x = .ref a ∧ H2 a = some (DictT (DK.hashD X.w) a xs) ∧ MRep X.K av H2 kvs xs ∧ mKey k = true ∧ Rep X.K av H2 k y ∧ mFind kvs k = some d ∧
  ∀ v, Rep X.K av H2 d v → Q v H2
def tMIn (X : Cx) (neg : Bool) (ty td : TE) : TE := fun σ H Q => ty σ H fun y H1 => td σ H1 fun x H2 => ∃ a xs kvs k av, x = .ref a ∧ H2 a = some (DictT (DK.hashD X.w) a xs) ∧ MRep X.K av H2 kvs xs ∧ mKey k = true ∧ Rep X.K av H2 k y ∧
  Q (.bl (neg ^^ (mFind kvs k).isSome)) H2
def sMPut (X : Cx) (td ty tv : TE) : TS := fun D σ H => tv σ H fun v H1 => td σ H1 fun x H2 => ty σ H2 fun y H3 => ∃ a xs kvs k av, x = .ref a ∧ H3 a = some (DictT (DK.hashD X.w) a xs) ∧ MRep X.K av H3 kvs xs ∧ mKey k = true ∧ Rep X.K av H3 k y ∧
  kvs.length ≤ sizeLine ∧ ∀ b, y = .ref b → ((xPut xs (DK.norm k) b v (mFind kvs k).isSome).map (·.1)).Nodup → (a == sysModules) = false → D.nx σ (upd H3 a (DictT (DK.hashD X.w) a (xPut xs (DK.norm k) b v (mFind kvs k).isSome)))
section
variable {X : Cx} {o i e value : Expr} {pos pos' tpos : Pos} {td ty tv : TE}
theorem pe_mget (hu : X.A.units + 64 < cLine) (ho : PE X o td) (hi : PE X i ty) (hs : NoSl i) : PE X (.Subscript o i pos) (tMGet X td ty) := by
  refine ⟨fun pins s σ H Q I h => ?_⟩
  refine subD_of PySem.F.slot_dict_getitem.lookup hs (thn (ho.run pins s σ H _ I h) fun u s1 ⟨x, H1, I1, rx, q1⟩ => thn (hi.run pins s1 σ H1 _ I1 q1) fun iv s2 ⟨y, H2, I2, ry, a, xs, kvs, k, d, av, ex, e, m, hk, rk, ed, q2⟩ => ?_)
  subst ex
  obtain rfl : u = Value.ref a := rx
  refine ⟨?_, m_getItem hu I2 e m hk rk ry ed fun v w' s3 I3 rw' rd => ⟨v, H2, I3, rw', q2 v rd⟩⟩
  obtain ⟨_, _, ys, _, dd⟩ := dictH I2 e m
  exact dd.typeIs
theorem pc_min (hu : X.A.units + 64 < cLine) (hi : PE X i ty) (ho : PE X o td) : PC X .In i o (tMIn X false ty td) := by
  refine ⟨fun pins s σ H Q I h => ?_⟩
  refine thn (hi.run pins s σ H _ I h) fun iv s1 ⟨y, H1, I1, ry, q1⟩ => thn (ho.run pins s1 σ H1 _ I1 q1) fun u s2 ⟨x, H2, I2, rx, a, xs, kvs, k, av, ex, e, m, hk, rk, q2⟩ => ?_
  subst ex
  obtain rfl : u = Value.ref a := rx
  rw [Bool.false_xor] at q2
  exact m_in hu I2 e m hk rk ry fun s3 I3 => ⟨.bl (mFind kvs k).isSome, H2, I3, rfl, q2⟩
theorem pc_mnotin (hu : X.A.units + 64 < cLine) (hi : PE X i ty) (ho : PE X o td) : PC X .NotIn i o (tMIn X true ty td) := by
  refine ⟨fun pins s σ H Q I h => ?_⟩
  refine thn (hi.run pins s σ H _ I h) fun iv s1 ⟨y, H1, I1, ry, q1⟩ => thn (ho.run pins s1 σ H1 _ I1 q1) fun u s2 ⟨x, H2, I2, rx, a, xs, kvs, k, av, ex, e, m, hk, rk, q2⟩ => ?_
  subst ex
  obtain rfl : u = Value.ref a := rx
  rw [Bool.true_xor] at q2
  exact m_notIn hu I2 e m hk rk ry fun s3 I3 => ⟨.bl (!(mFind kvs k).isSome), H2, I3, rfl, q2⟩
theorem ps_mput (hu : X.A.units + 64 < cLine) (ho : PE X o td) (hi : PE X i ty) (hv : PE X value tv) (hs : swapsWith value (some (.Subscript o i pos')) pos.line X.env = pure false) :
    PS X (.Assign [.Subscript o i pos'] value pos) (sMPut X td ty tv) := by
  refine ⟨fun pins s σ H D I h => ?_⟩
  refine wpAny_Assign_Subscript (thn (hv.run pins s σ H _ I h) fun r s1 ⟨v, H1, I1, rv, q1⟩ => thn (ho.run pins s1 σ H1 _ I1 q1) fun u s2 ⟨x, H2, I2, rx, q2⟩ => thn (hi.run pins s2 σ H2 _ I2 q2) fun iv s3 ⟨y, H3, I3, ry, a, xs, kvs, k, av, ex, e, m, hk, rk, hl, q3⟩ => ?_) hs
  subst ex
  obtain rfl : u = Value.ref a := rx
  exact m_setItem hu I3 e m hk rk ry rv hl fun b s4 eb nd ha I4 => ⟨σ, _, I4, q3 b eb nd ha⟩
end
/-! ### in the data layer -/
section
variable {X : Cx} {c : Cfg} {W : WX} {B as P L : List Addr} {σ : L2.St} {H H1 : Hp} {s : S} {e a b : Expr} {pos : Pos} {fa fb : EvD} {q qa qb : Bool}
/-- {}, its keys to be tuples -/
def dict0M : EvV := fun s => .ok (.obj s.st.length, s.st ++ [.dM []])
theorem dv_dict0M (hcs : c.hs = DK.hashD X.w) : DV X c W (.Dict [] [] pos) dict0M := ⟨_, pe_mnew, fun B as σ H s Q sr hw p hp hb => WantsV.new hw sr hp (Evo.new hp) ⟨[], by rw [hcs]; exact upd_same, mutDict _ _ _ List.nodup_nil hb, Nat.zero_le _, .nil⟩⟩
/-- d[k] -/
def mgetE (i : Nat) (fk : EvD) : EvD := fun s => match objAt s.env i with
  | some j => (fk s).bind fun p => (match p.2[j]? with
    | some (.dM kvs) => (match mKey p.1, mFind kvs p.1 with
      | true, some d => .ok (d, p.2)
      | _, _ => .stuck)
    | _ => .stuck)
  | none => .stuck
theorem de_mget {i : Nat} {x : Str} {p1 : Pos} (hu : X.A.units + 64 < cLine) (hcs : c.hs = DK.hashD X.w) (hN : X.N[i]? = some x) (hv : Vis X.env.scope x) (hd : (x == ("__debug__" : Str)) = false) (hcd : (x == ("__classdict__" : Str)) = false) (h : DE X c W e false q fa) (hs : NoSl e) : DE X c W (.Subscript (.Name x p1) e pos) false q (mgetE i fa) := by
  obtain ⟨t, p, r⟩ := h
  refine ⟨_, pe_mget hu (pe_var hN hv hd hcd) p hs, fun B as σ H s Q sr hw => ?_⟩
  unfold mgetE at hw
  cases ej : objAt s.env i with
  | none => rw [ej] at hw; exact hw.elim
  | some j =>
    rw [ej] at hw
    obtain ⟨a, q1, q2⟩ := objAt_get sr ej
    refine ⟨_, q1, ?_⟩
    show t σ H _
    rw [← Bool.and_true q] at hw
    refine WantsG.bind (s := s) hw sr r fun y H1 d st1 e1 ev1 sr1 r1 hw1 => ?_
    simp only at hw1
    split at hw1
    · rename_i kvs el
      split at hw1
      · rename_i d' hk ed
        obtain ⟨xs, h1, h2, h3, h4⟩ := sr1.objs j _ a el q2
        rw [hcs] at h1
        exact ⟨a, xs, kvs, d, d', _, rfl, h1, h4, hk, r1, ed, fun v rv => hw1.fin sr1 Evo.refl rv⟩
      · exact hw1.elim
    · exact hw1.elim
/-- k in d, k not in d -/
def minE (neg : Bool) (i : Nat) (fk : EvD) : EvD := fun s => match objAt s.env i with
  | some j => (fk s).bind fun p => (match p.2[j]? with
    | some (.dM kvs) => (match mKey p.1 with
      | true => .ok (.bool (neg ^^ (mFind kvs p.1).isSome), p.2)
      | _ => .stuck)
    | _ => .stuck)
  | none => .stuck
theorem min_run {i : Nat} {neg : Bool} {t : TE} (hcs : c.hs = DK.hashD X.w) (r : ∀ (B as : List Addr) (σ : L2.St) (H : Hp) (s : S) (Q : VK), SR X.K c B as H σ s → WantsG X c W (RepE X.K false) B as σ H s.env q Q (fa s) → t σ H Q) (sr : SR X.K c B as H σ s) {Q : VK}
    (hw : WantsG X c W (RepE X.K false) B as σ H s.env q Q (minE neg i fa s)) : tMIn X neg t (tVar i) σ H Q := by
  unfold minE at hw
  cases ej : objAt s.env i with
  | none => rw [ej] at hw; exact hw.elim
  | some j =>
    rw [ej] at hw
    obtain ⟨a, q1, q2⟩ := objAt_get sr ej
    show t σ H _
    rw [← Bool.and_true q] at hw
    refine WantsG.bind (s := s) hw sr r fun y H1 d st1 e1 ev1 sr1 r1 hw1 => ?_
    refine ⟨_, q1, ?_⟩
    simp only at hw1
    split at hw1
    · rename_i kvs el
      split at hw1
      · rename_i hk
        obtain ⟨xs, h1, h2, h3, h4⟩ := sr1.objs j _ a el q2
        rw [hcs] at h1
        exact ⟨a, xs, kvs, d, _, rfl, h1, h4, hk, r1, hw1.fin sr1 Evo.refl (show Rep X.K (B ++ as) H1 (.bool (neg ^^ (mFind kvs d).isSome)) _ by simp only [Rep])⟩
      · exact hw1.elim
    · exact hw1.elim
theorem de_min {i : Nat} {x : Str} {p1 : Pos} (hu : X.A.units + 64 < cLine) (hcs : c.hs = DK.hashD X.w) (hN : X.N[i]? = some x) (hv : Vis X.env.scope x) (hd : (x == ("__debug__" : Str)) = false) (hcd : (x == ("__classdict__" : Str)) = false) (h : DE X c W e false q fa) :
    DE X c W (.Compare e [.In] [.Name x p1] pos) false q (minE false i fa) := by
  obtain ⟨t, p, r⟩ := h
  exact ⟨_, pe_cmp (pc_min hu p (pe_var hN hv hd hcd)), fun B as σ H s Q sr hw => min_run hcs r sr hw⟩
theorem de_mnotin {i : Nat} {x : Str} {p1 : Pos} (hu : X.A.units + 64 < cLine) (hcs : c.hs = DK.hashD X.w) (hN : X.N[i]? = some x) (hv : Vis X.env.scope x) (hd : (x == ("__debug__" : Str)) = false) (hcd : (x == ("__classdict__" : Str)) = false) (h : DE X c W e false q fa) :
    DE X c W (.Compare e [.NotIn] [.Name x p1] pos) false q (minE true i fa) := by
  obtain ⟨t, p, r⟩ := h
  exact ⟨_, pe_cmp (pc_mnotin hu p (pe_var hN hv hd hcd)), fun B as σ H s Q sr hw => min_run hcs r sr hw⟩
def minT (neg : Bool) (i : Nat) (fk : EvD) : EvT := fun s => match objAt s.env i with
  | some j => (fk s).bind fun p => (match p.2[j]? with
    | some (.dM kvs) => (match mKey p.1 with
      | true => .ok (neg ^^ (mFind kvs p.1).isSome, p.2)
      | _ => .stuck)
    | _ => .stuck)
  | none => .stuck
theorem minT_run {i : Nat} {neg : Bool} {t : TE} (hcs : c.hs = DK.hashD X.w) (r : ∀ (B as : List Addr) (σ : L2.St) (H : Hp) (s : S) (Q : VK), SR X.K c B as H σ s → WantsG X c W (RepE X.K false) B as σ H s.env q Q (fa s) → t σ H Q) (sr : SR X.K c B as H σ s) {Q : Bool → Hp → Prop}
    (hw : WantsG X c W RepB B as σ H s.env false Q (minT neg i fa s)) : tB (tMIn X neg t (tVar i)) σ H Q := by
  unfold minT at hw
  cases ej : objAt s.env i with
  | none => rw [ej] at hw; exact hw.elim
  | some j =>
    rw [ej] at hw
    obtain ⟨a, q1, q2⟩ := objAt_get sr ej
    show t σ H _
    refine WantsG.bindL (s := s) hw sr r fun y H1 d st1 e1 ev1 sr1 r1 hw1 => ?_
    refine ⟨_, q1, ?_⟩
    simp only at hw1
    split at hw1
    · rename_i kvs el
      split at hw1
      · rename_i hk
        obtain ⟨xs, h1, h2, h3, h4⟩ := sr1.objs j _ a el q2
        rw [hcs] at h1
        exact ⟨a, xs, kvs, d, _, rfl, h1, h4, hk, r1, _, rfl, hw1.fin sr1 Evo.refl rfl⟩
      · exact hw1.elim
    · exact hw1.elim
theorem dt_min {i : Nat} {x : Str} {p1 : Pos} (hu : X.A.units + 64 < cLine) (hcs : c.hs = DK.hashD X.w) (hN : X.N[i]? = some x) (hv : Vis X.env.scope x) (hd : (x == ("__debug__" : Str)) = false) (hcd : (x == ("__classdict__" : Str)) = false) (h : DE X c W e false q fa) :
    DT X c W (.Compare e [.In] [.Name x p1] pos) (minT false i fa) := by
  obtain ⟨t, p, r⟩ := h
  exact ⟨_, pt_cmp (pc_min hu p (pe_var hN hv hd hcd)), fun B as σ H s Q sr hw => minT_run hcs r sr hw⟩
theorem dt_mnotin {i : Nat} {x : Str} {p1 : Pos} (hu : X.A.units + 64 < cLine) (hcs : c.hs = DK.hashD X.w) (hN : X.N[i]? = some x) (hv : Vis X.env.scope x) (hd : (x == ("__debug__" : Str)) = false) (hcd : (x == ("__classdict__" : Str)) = false) (h : DE X c W e false q fa) :
    DT X c W (.Compare e [.NotIn] [.Name x p1] pos) (minT true i fa) := by
  obtain ⟨t, p, r⟩ := h
  exact ⟨_, pt_cmp (pc_mnotin hu p (pe_var hN hv hd hcd)), fun B as σ H s Q sr hw => minT_run hcs r sr hw⟩
/-- d[k] = e -/
def mputS (i : Nat) (fk fe : EvD) : EvS := fun n s => (fe s).bx s.env fun p => match objAt s.env i with
  | some j => (fk ⟨s.env, p.2⟩).bx s.env fun q => (match q.2[j]? with
    | some (.dM kvs) => (match mKey q.1, decide (kvs.length < 16777216) with
      | true, true => .ok (.next, ⟨s.env, q.2.set j (.dM (mPut kvs q.1 p.1))⟩)
      | _, _ => .stuck)
    | _ => .stuck)
  | none => .stuck
theorem ds_mput {i : Nat} {x : Str} {p1 p2 : Pos} {ke : Expr} {fk : EvD} (hu : X.A.units + 64 < cLine) (hcs : c.hs = DK.hashD X.w) (hN : X.N[i]? = some x) (hv : Vis X.env.scope x) (hd : (x == ("__debug__" : Str)) = false) (hcd : (x == ("__classdict__" : Str)) = false) (hk : DE X c W ke false qb fk) (h : DE X c W e false q fa)
    (hs : swapsWith e (some (.Subscript (.Name x p1) ke p2)) pos.line X.env = pure false) : DS X c W (.Assign [.Subscript (.Name x p1) ke p2] e pos) (mputS i fk fa) := by
  obtain ⟨t, p, r⟩ := h
  obtain ⟨tk, pk, rk⟩ := hk
  refine ⟨_, ps_mput hu (pe_var hN hv hd hcd) pk p hs, fun B P L σ H s D srl hw => ?_⟩
  show t σ H _
  refine WantsS.bindG (s := s) hw srl r fun v H1 d st1 e1 ev1 sr1 r1 hw1 => ?_
  show tVar i σ H1 _
  simp only at hw1
  cases ej : objAt s.env i with
  | none => rw [ej] at hw1; exact hw1.elim
  | some j =>
    rw [ej] at hw1
    obtain ⟨a, q1, q2⟩ := objAt_get sr1.sr ej
    refine ⟨_, q1, ?_⟩
    show tk σ H1 _
    refine WantsS.bindG (s := ⟨s.env, st1⟩) hw1 sr1 rk fun y H2 d2 st2 e2 ev2 sr2 r2 hw2 => ?_
    simp only at hw2
    split at hw2
    · rename_i kvs el
      split at hw2
      · rename_i hk hlt
        rw [decide_eq_true_eq] at hlt
        obtain ⟨xs, h1, h2, h3, h4⟩ := sr2.sr.objs j _ a el q2
        rw [hcs] at h1 h2
        have rv : Rep X.K (B ++ (P ++ L)) H2 d v := Rep.evo ev2 (fun x hx => List.mem_append_right _ hx) _ _ r1
        have hm := List.mem_of_getElem? q2
        refine ⟨a, xs, kvs, d2, _, rfl, h1, h4, hk, r2, h3, fun b eb nd ha => ?_⟩
        subst eb
        have evw : Evo [a] H2 (upd H2 a (DictT (DK.hashD X.w) a (xPut xs (DK.norm d2) b v (mFind kvs d2).isSome))) := Evo.at h1 h2 (List.mem_singleton.mpr rfl)
        obtain ⟨k1, k2, _⟩ := mKey_ok hk
        have hlen : (mPut kvs d2 d).length ≤ sizeLine := by have := mPut_len kvs d2 d; rw [sizeLine_eq]; omega
        obtain ⟨w1, w2⟩ := sr2.sr.write (o := .dM (mPut kvs d2 d)) (u := DictT (DK.hashD X.w) a (xPut xs (DK.norm d2) b v (mFind kvs d2).isSome)) q2
          ⟨_, by rw [hcs]; exact upd_same, by rw [hcs]; exact mutDict _ _ _ nd ha, hlen, MRep.evo evw (fun x hx => by rw [List.mem_singleton.mp hx]; exact List.mem_append_right _ hm) (put_m k1 k2 r2 rv h4)⟩
        exact hw2.fin w1 ⟨w2, sr2.off⟩
      · exact hw2.elim
    · exact hw2.elim
end
end DL
end
section
set_option Elab.async false
set_option linter.all false
set_option maxRecDepth 100000
set_option maxHeartbeats 1000000
/-! The data layer, part mb: reversed slices, ranges as lists and tuples, an own list unpacked, remove, calls that get a new own object. -/
namespace HT
open PySem PySem.Spec PyProof.Rows
section
variable {prog : Program} {w : World} {A : Around} {E : Value → Shared → Prop} {s : Shared}
theorem adjust_rev (n : Nat) : Builtin.Slice.sliceAdjust none none (-1) (n : Int) = ((n : Int) - 1, -1) := by
  have h1 : (-1 : Int) < 0 := by omega
  unfold Builtin.Slice.sliceAdjust
  simp only [h1, if_true]
theorem places_rev (n : Nat) : Builtin.Slice.slicePlaces ((n : Int) - 1) (-1) (-1) = n := by
  unfold Builtin.Slice.slicePlaces
  have h1 : ¬ ((-1 : Int) > 0) := by omega
  simp only [h1, if_false]
  by_cases h : (n : Int) - 1 > -1
  · rw [if_pos h]
    have e : ((n : Int) - 1 - -1 - 1) / - -1 + 1 = (n : Int) := by
      rw [show (- -1 : Int) = 1 by decide, Int.ediv_one]
      omega
    rw [e]
    exact Int.toNat_natCast n
  · rw [if_neg h]
    omega
theorem pick_rev (xs : Array Value) : ((List.range xs.size).filterMap fun (m : Nat) => xs[(((xs.size : Int) - 1) + (m : Int) * (-1)).toNat]?).toArray = xs.toList.reverse.toArray := by
  have e : ((List.range xs.size).filterMap fun (m : Nat) => xs[(((xs.size : Int) - 1) + (m : Int) * (-1)).toNat]?) = ((List.range xs.size).map fun k => xs.size - 1 - k).filterMap (xs[·]?) := by
    rw [List.filterMap_map]
    have : ∀ l : List Nat, (∀ m ∈ l, m < xs.size) → (l.filterMap fun (m : Nat) => xs[(((xs.size : Int) - 1) + (m : Int) * (-1)).toNat]?) = l.filterMap ((fun x => xs[x]?) ∘ fun k => xs.size - 1 - k) := by
      intro l
      induction l with
      | nil => intro _; rfl
      | cons m l ih =>
        intro hl
        have hm := hl m List.mem_cons_self
        have q : (((xs.size : Int) - 1) + (m : Int) * (-1)).toNat = xs.size - 1 - m := by omega
        rw [List.filterMap_cons, List.filterMap_cons, ih fun x hx => hl x (List.mem_cons_of_mem _ hx), q]
        rfl
    exact this _ fun m hm => List.mem_range.mp hm
  rw [e, PySem.W.krv_range, List.filterMap_reverse, PySem.W.krv_all]
theorem getItem_tuple_rev {t sl : Addr} {items : Array Value} {vs : Value} {Q : Value → Shared → Prop} (ht : IsTup s.heap t items) (hs : s.heap.IsSliceOf sl .none .none vs) (ps : IsPart vs (some (-1)))
    (h : Q (.ref s.heap.objs.size) { s with heap := s.heap.push { cls := .type "tuple", data := .seq items.toList.reverse.toArray } }) (hsz : items.size ≤ sizeLine) : wpAny (model prog w) A (getItem (.ref t) (.ref sl)) Q E s := by
  have htake : sizeOk (.seq items.toList.reverse.toArray) := by
    show items.toList.reverse.toArray.size ≤ sizeLine
    rw [List.size_toArray, List.length_reverse, Array.length_toList]
    exact hsz
  obtain ⟨os, hos, hcs, hds⟩ := id hs
  have hTs : s.TypeIs (.ref sl) "slice" := ⟨os, hos, hcs⟩
  unfold getItem
  try with_reducible refine wpAny_holding ?_
  first | refine wpAny_bind (wpAny_pure ?_) | skip
  refine wpAny_bind (wpAny_sequenceKey ht.typeIs (by decide) ?_)
  refine wpAny_bind (wpAny_callSpecial?_slot (name := Str.ofString "__getitem__") ht.typeIs PyProof.Rows.slot_tuple_getitem
    (wpAny_call_entry PyProof.Rows.slot_tuple_getitem ht.typeIs entry_tuple_getitem ?_ (args_tuple_getitem _ _)))
  show wpAny _ _ (Builtin.Tuple.tupleItemsOf (.ref t) >>= _) _ _ s
  refine wpAny_bind (tupleItemsOf_ ht ?_)
  refine wpAny_bind (wpAny_typeOf hTs ?_)
  rw [if_pos (by decide)]
  refine wpAny_bind ?_
  · unfold Builtin.Slice.sliceApplied Builtin.Slice.sliceFields
    refine wpAny_bind (wpAny_bind (wpAny_field hos hds (x := .none) rfl (wpAny_bind (wpAny_field hos hds (x := .none) rfl (wpAny_bind (wpAny_field hos hds (x := vs) rfl (wpAny_pure ?_)))))))
    refine wpAny_bind (slicePart_ ps ?_)
    show wpAny _ _ (if ((-1 : Int) == 0) = true then _ else _) _ _ s
    rw [if_neg (by decide)]
    refine wpAny_bind (slicePart_none (wpAny_bind (slicePart_none (wpAny_bind (wpAny_pure ?_)))))
    show wpAny _ _ (match Builtin.Slice.sliceAdjust none none (-1) (items.size : Int) with | (lo, hi) => pure (lo, (-1 : Int), Builtin.Slice.slicePlaces lo hi (-1))) _ _ s
    rw [adjust_rev]
    show wpAny _ _ (pure (((items.size : Int) - 1), (-1 : Int), Builtin.Slice.slicePlaces ((items.size : Int) - 1) (-1) (-1))) _ _ s
    rw [places_rev]
    refine wpAny_pure ?_
    have hno : ¬ ((((items.size : Int) - 1) == 0 && (-1 : Int) == 1 && items.size == items.size) = true) := by
      intro q
      rw [Bool.and_eq_true, Bool.and_eq_true] at q
      exact absurd q.1.2 (by decide)
    show wpAny _ _ (if ((((items.size : Int) - 1) == 0 && (-1 : Int) == 1 && items.size == items.size) = true) then _ else _) _ _ s
    rw [if_neg hno, pick_rev]
    first
      | exact wpAny_bind (m := Builtin.Tuple.tupleExact _) (wpAny_newObj_type (wpAny_pure ⟨_, rfl, wpAny_pure h⟩) htake)
      | exact wpAny_bind (m := Builtin.Tuple.tupleExact _) (wpAny_newObj_type (wpAny_bind (wpAny_pure (wpAny_pure ⟨_, rfl, wpAny_pure h⟩))) htake)
      | exact wpAny_bind (wpAny_bind (m := Builtin.Tuple.tupleExact _) (wpAny_newObj_type (wpAny_pure (wpAny_pure ⟨_, rfl, wpAny_pure h⟩)) htake))
      | exact wpAny_bind (wpAny_bind (m := Builtin.Tuple.tupleExact _) (wpAny_newObj_type (wpAny_pure ⟨_, rfl, wpAny_pure h⟩) htake))
end
end HT
namespace DL
open PySem PySem.Spec PyProof.Rows L2 PySem.SeqAt PySem.W
/-! ### e[::-1] -/
def tRevA (K : PySem.W.Frag) (te : TE) : TE := fun σ H Q => te σ H fun x H1 => (∃ a xs, x = .ref a ∧ SqL K H1 a xs ∧ ∀ p, H1 p = none → Q (.ref p) (upd H1 p (.lst xs.reverse))) ∨ (∃ a xs, x = .ref a ∧ SqT K H1 a xs ∧ ∀ p, H1 p = none → Q (.ref p) (upd H1 p (.tup xs.reverse)))
theorem pe_revA {X : Cx} {e : Expr} {te : TE} {k : Nat} {p1 p2 p3 pos : Pos} (he : PE X e te) : PE X (.Subscript e (.Slice none none (some (.UnaryOp .USub (.Constant (.int 1) k p1) p2)) p3) pos) (tRevA X.K te) := by
  refine ⟨fun pins s σ H Q I h => ?_⟩
  refine Subscript_ (thn (he.run pins s σ H _ I h) fun v s1 ⟨x, H1, I1, r1, q1⟩ => ?_)
  have hst : PO X (some (.UnaryOp .USub (.Constant (.int 1) k p1) p2)) (tPart (tUn (rU fun i => .int (-i)) (tC (.int 1)))) := po_some (pe_un un_neg pe_int)
  refine wpAny_Slice (thn (po_none.run pins s1 σ H1 (fun o H2 => o = none ∧ H2 = H1) I1 ⟨rfl, rfl⟩) fun vl s2 ⟨l, H2, I2, pl, el, e2⟩ => ?_)
  subst el e2
  refine thn (po_none.run pins s2 σ H2 (fun o H3 => o = none ∧ H3 = H2) I2 ⟨rfl, rfl⟩) fun vu s3 ⟨u, H3, I3, pu, eu, e3⟩ => ?_
  subst eu e3
  refine thn (hst.run pins s3 σ H3 (fun o H4 => o = some (-1) ∧ H4 = H3) I3 ⟨1, rfl, -1, rfl, rfl, rfl⟩) fun vs s4 ⟨o, H4, I4, ps, eo, e4⟩ => ?_
  subst eo e4
  cases pl
  cases pu
  have I5 : Inv X pins σ H4 { s4 with heap := s4.heap.push { cls := .type "slice", data := .fields #[.none, .none, vs] } } := I4.kept (t' := s4.toks) fun b ob q => Heap.get?_push_of_some _ q
  rcases q1 with ⟨a, xs, ex, hx, q⟩ | ⟨a, xs, ex, hx, q⟩
  · subst ex
    cases r1
    obtain ⟨its, r, ht, hz⟩ := I5.list hx
    have hlen := r.length
    show wpAny (model X.prog X.w) X.A (subscriptTail e (.Slice none none (some (.UnaryOp .USub (.Constant (.int 1) k p1) p2)) p3) (.ref a) (.ref s4.heap.objs.size)) (EP X pins σ Q) X.xe { s4 with heap := s4.heap.push { cls := .type "slice", data := .fields #[.none, .none, vs] } }
    refine tail_any (ops := [.ref a, .ref s4.heap.objs.size]) ht.isList.typeIs (PySem.slot_list_getitem.lookup) ?_ (by with_unfolding_all rfl)
    refine wpAny_getItem_list_slice ht.isList (Heap.IsSliceOf.new _ .none .none vs) .none .none ps (by decide) ?_ (by rw [List.size_toArray]; omega)
    rw [PySem.W.krv_pick]
    refine ⟨.ref _, _, I5.laid (t' := s4.toks) (o := .lst xs.reverse) (fun b ob q => Heap.get?_push_of_some _ q) (Nat.le_refl _) ?_, rfl, q _ (I5.hok.fresh (Nat.le_refl _))⟩
    exact ⟨by rw [List.length_reverse]; exact hz, _, 0, r.reverse, Heap.get?_push_size _ rfl⟩
  · subst ex
    cases r1
    obtain ⟨its, r, ht, hz⟩ := I5.tuple hx
    have hlen := r.length
    show wpAny (model X.prog X.w) X.A (subscriptTail e (.Slice none none (some (.UnaryOp .USub (.Constant (.int 1) k p1) p2)) p3) (.ref a) (.ref s4.heap.objs.size)) (EP X pins σ Q) X.xe { s4 with heap := s4.heap.push { cls := .type "slice", data := .fields #[.none, .none, vs] } }
    refine tail_any (ops := [.ref a, .ref s4.heap.objs.size]) ht.typeIs (PyProof.Rows.slot_tuple_getitem.lookup) ?_ (by with_unfolding_all rfl)
    refine HT.getItem_tuple_rev ht (Heap.IsSliceOf.new _ .none .none vs) ps ?_ (by rw [List.size_toArray]; omega)
    refine ⟨.ref _, _, I5.laid (t' := s4.toks) (o := .tup xs.reverse) (fun b ob q => Heap.get?_push_of_some _ q) (Nat.le_refl _) ?_, rfl, q _ (I5.hok.fresh (Nat.le_refl _))⟩
    exact ⟨by rw [List.length_reverse]; exact hz, _, r.reverse, IsTup.new _ _⟩
def revD : PyData → Option PyData
  | .list ds => some (.list ds.reverse)
  | .tuple ds => some (.tuple ds.reverse)
  | _ => none
section
variable {X : Cx} {c : Cfg} {W : WX} {B as P L : List Addr} {σ : L2.St} {H H1 : Hp} {s : S} {e a b : Expr} {es : List Expr} {pos p : Pos} {fa fb : EvD} {fe : EvA} {F : FSem} {q qa qb tr : Bool} {j k n : Nat}
theorem de_rev {k : Nat} {p1 p2 p3 : Pos} (h : DE X c W a tr qa fa) : DE X c W (.Subscript a (.Slice none none (some (.UnaryOp .USub (.Constant (.int 1) k p1) p2)) p3) pos) false qa (un1 revD fa) := by
  obtain ⟨ta, pa, ra⟩ := h
  refine ⟨_, pe_revA pa, fun B as σ H s Q sr hw => ?_⟩
  show ta σ H _
  rw [← Bool.and_true qa] at hw
  refine WantsG.bind (s := s) hw sr ra fun x H1 da st1 e1 ev1 sr1 r1 hw1 => ?_
  obtain ⟨d, ed0, hw2⟩ := hw1.opt
  have ed : revD da = some d := ed0
  have rt := RepX.t r1
  unfold revD at ed
  split at ed
  · cases ed
    obtain ⟨p, vs, rfl, l, rs⟩ := rt.list
    exact .inl ⟨p, vs, rfl, l, fun q hq => hw2.fin sr1 (Evo.new hq) (Rep.newLst rs.reverse hq (sr1.notnew hq))⟩
  · cases ed
    obtain ⟨p, vs, rfl, l, rs⟩ := rt.tuple
    exact .inr ⟨p, vs, rfl, l.sq, fun q hq => hw2.fin sr1 (Evo.new hq) (Rep.newTup rs.reverse hq (sr1.notnew hq))⟩
  · cases ed
/-! ### list(range(..)), tuple(range(..)) -/
def rgD (a b : Int) : List PyData := (List.range (b - a).toNat).map fun i => .int (a + (i : Nat))
theorem rgD_rep {K : PySem.W.Frag} {av : List Addr} {H : Hp} (a b : Int) : RepA K av H (rgD a b) (rgV a b) := by
  unfold rgD rgV
  induction (List.range (b - a).toNat) with
  | nil => exact .nil
  | cons i l ih => exact .cons (by simp only [Rep]) ih
def smallI (n : Int) : Bool := decide (0 ≤ n) && decide (n ≤ 16777216)
def rg1E (mk : List PyData → PyData) (fa : EvD) : EvD := fun s => (fa s).bind fun p => match p.1 with
  | .int n => (match smallI n with
    | true => .ok (mk (rgD 0 n), p.2)
    | false => .stuck)
  | _ => .stuck
theorem rgOk {n : Int} (h : smallI n = true) : RgOk 0 n := by
  unfold smallI at h
  rw [Bool.and_eq_true, decide_eq_true_eq, decide_eq_true_eq] at h
  exact RgOk.of_le (Int.le_refl _) h.2 (by omega) h.1
theorem rg1_run {ta : TE} {mk : List PyData → PyData} {mo : List V → HO} (hmk : ∀ (K : PySem.W.Frag) (av : List Addr) (H : Hp) (ds : List PyData) (vs : List V) (p : Addr), RepA K av H ds vs → H p = none → p ∉ av → Rep K av (upd H p (mo vs)) (mk ds) (.ref p))
    (ra : ∀ (B as : List Addr) (σ : L2.St) (H : Hp) (s : S) (Q : VK), SR X.K c B as H σ s → WantsG X c W (RepE X.K false) B as σ H s.env qa Q (fa s) → ta σ H Q) (sr : SR X.K c B as H σ s) {Q : VK} (hw : WantsG X c W (RepE X.K false) B as σ H s.env qa Q (rg1E mk fa s)) :
    tRg1 ta σ H fun a b H1 => RgOk a b ∧ ∀ q, H1 q = none → Q (.ref q) (upd H1 q (mo (rgV a b))) := by
  show ta σ H _
  rw [← Bool.and_true qa] at hw
  refine WantsG.bind (s := s) hw sr ra fun x H1 da st1 e1 ev1 sr1 r1 hw1 => ?_
  simp only at hw1
  split at hw1
  · rename_i n
    split at hw1
    · rename_i hs
      refine ⟨n, RepT.int (RepX.t r1), rgOk hs, fun q hq => ?_⟩
      exact hw1.fin sr1 (Evo.new hq) (hmk _ _ _ _ _ _ (rgD_rep 0 n) hq (sr1.notnew hq))
    · exact hw1.elim
  · exact hw1.elim
theorem de_listRg1 {p2 p3 : Pos} (hc : X.calm = true) (hg : Gl X "list") (hm : X.mg "list" = none) (hg2 : Gl X "range") (hm2 : X.mg "range" = none) (h : DE X c W a false qa fa) (na : starEach [a] X.env = (false, eval a X.env) :: starEach [] X.env)
    (na2 : starEach [(.Call (.Name "range" p2) [a] [] p3 : Expr)] X.env = (false, eval (.Call (.Name "range" p2) [a] [] p3) X.env) :: starEach [] X.env) : DE X c W (.Call (.Name "list" p) [.Call (.Name "range" p2) [a] [] p3] [] pos) false qa (rg1E .list fa) := by
  obtain ⟨ta, pa, ra⟩ := h
  exact ⟨_, pe_listRg hc hg hm (prg_1 hg2 hm2 pa na) na2, fun B as σ H s Q sr hw => rg1_run (mo := .lst) (fun K av H ds vs p r h1 h2 => Rep.newLst r h1 h2) ra sr hw⟩
theorem de_tupRg1 {p2 p3 : Pos} (hc : X.calm = true) (hg : Gl X "tuple") (hm : X.mg "tuple" = none) (hg2 : Gl X "range") (hm2 : X.mg "range" = none) (h : DE X c W a false qa fa) (na : starEach [a] X.env = (false, eval a X.env) :: starEach [] X.env)
    (na2 : starEach [(.Call (.Name "range" p2) [a] [] p3 : Expr)] X.env = (false, eval (.Call (.Name "range" p2) [a] [] p3) X.env) :: starEach [] X.env) : DE X c W (.Call (.Name "tuple" p) [.Call (.Name "range" p2) [a] [] p3] [] pos) false qa (rg1E .tuple fa) := by
  obtain ⟨ta, pa, ra⟩ := h
  exact ⟨_, pe_tupRg hc hg hm (prg_1 hg2 hm2 pa na) na2, fun B as σ H s Q sr hw => rg1_run (mo := .tup) (fun K av H ds vs p r h1 h2 => Rep.newTup r h1 h2) ra sr hw⟩
/-! ### (a, b, ..) = a list (an own one, too) -/
def unlS (n : Nat) (fa : EvD) (g : GSs) : EvS := fun _ s => (fa s).bx s.env fun p => match p.1 with
  | .list ds => (match decide (ds.length = n), g ds s.env with
    | true, some e1 => .ok (.next, ⟨e1, p.2⟩)
    | _, _ => .stuck)
  | _ => .stuck
theorem ds_unl {is : List Nat} {g : GSs} {kt : Nat} {pt : Pos} (hc : X.calm = true) (h : DE X c W e tr qa fa) (hg : DGs X c es is g) (hn : (assignEach es X.env).length = n) (hst : (assignEach es X.env).findIdx? (·.1) = none)
    (hs : swapsWithSole [.Tuple es kt pt] e pos.line X.env = pure false) (hw : swappedStores [.Tuple es kt pt] e X.env = pure none) (h1 : (assignEach [.Tuple es kt pt] X.env).map (·.2) = [assign (.Tuple es kt pt) X.env]) :
    DS X c W (.Assign [.Tuple es kt pt] e pos) (unlS n fa g) := by
  obtain ⟨t, p, r⟩ := h
  obtain ⟨u, p2, r2⟩ := hg
  refine ⟨_, ps_asg p (pg_unl hc p2 hn hst) hs hw h1, fun B P L σ H s D srl hw => ?_⟩
  show t σ H _
  refine WantsS.bindG (s := s) hw srl r fun v H1 d st1 e1 ev1 sr1 r1 hw1 => ?_
  simp only at hw1
  split at hw1
  · rename_i ds
    split at hw1
    · rename_i env1 hl eg
      rw [decide_eq_true_eq] at hl
      obtain ⟨a, vs, rfl, l, rs⟩ := RepT.list (RepX.t r1)
      exact ⟨a, vs, rfl, l, by rw [rs.length]; exact hl, r2 B (P ++ L) σ H1 ⟨s.env, st1⟩ ds vs env1 _ sr1.sr rs eg fun σ' sr' _ => hw1.now ⟨sr', sr1.off⟩⟩
    · exact hw1.elim
  · exact hw1.elim
/-! ### x.remove(e), ints -/
theorem ints_rep_of {K : PySem.W.Frag} {av : List Addr} {H : Hp} : ∀ {ns : List Int} {vs : List V}, RepA K av H (ns.map .int) vs → vs = ns.map V.int
  | [], vs, h => by simpa [RepA] using h
  | n :: r, vs, h => by
    rw [List.map_cons] at h
    simp only [RepA, Rep] at h
    obtain ⟨v, q, rfl, rfl, h2⟩ := h
    rw [List.map_cons, ints_rep_of h2]
def remE (i : Nat) (fe : EvD) : EvD := fun s => match objAt s.env i with
  | some j => if isLst s.st[j]? = true then (fe s).bind fun p => (match p.2[j]?, p.1 with
    | some (.lst ds), .int k => (match intsOf ds with
      | some ns => (match decide (k ∈ ns) with
        | true => .ok (.none, p.2.set j (.lst ((ns.erase k).map .int)))
        | false => .stuck)
      | none => .stuck)
    | _, _ => .stuck) else .stuck
  | none => .stuck
theorem de_rem {i : Nat} {x : Str} {p1 apos cpos : Pos} {fe : EvD} (hN : X.N[i]? = some x) (hv : Vis X.env.scope x) (hd : (x == ("__debug__" : Str)) = false) (hcd : (x == ("__classdict__" : Str)) = false) (he : DE X c W e false q fe)
    (hbase : attributeBase (.Name x p1) "remove" X.env (eval (.Name x p1) X.env) = eval (.Name x p1) X.env)
    (hfew : ((backTo cpos (starEach [e] X.env)).all (fun x => !x.1) && (backToKw cpos (keywordEach [] X.env)).all (fun x => x.1.isSome)
      && decide ([e].length + ([] : List Keyword).length + (if ([] : List Keyword).isEmpty then 0 else 1) < 30)) = true)
    (hline : (apos.endLine == cpos.line) = true) (hs : starEach [e] X.env = (false, eval e X.env) :: starEach [] X.env) : DE X c W (.Call (.Attribute (.Name x p1) "remove" apos) [e] [] cpos) false false (remE i fe) := by
  obtain ⟨te, pe, re⟩ := he
  refine ⟨_, pe_bm PySem.F.plainAttrs_list PySem.F.slot_list_remove PySem.F.type_list_remove mt_remove (pe_var hN hv hd hcd) (pa_cons pe pa_nil hs) hbase hfew hline hs rfl, fun B as σ H s Q sr hw => ?_⟩
  unfold remE at hw
  cases ej : objAt s.env i with
  | none => rw [ej] at hw; exact hw.elim
  | some j =>
    rw [ej] at hw
    simp only at hw
    split at hw
    · rename_i hl
      obtain ⟨a, q1, q2⟩ := objAt_get sr ej
      refine ⟨_, q1, .inl ⟨rfl, sr.isList q2 hl⟩, ?_⟩
      show te σ H _
      refine WantsG.bindL (s := s) hw sr re fun y H1 d1 st1 e1 ev1 sr1 r1 hw1 => ?_
      simp only at hw1
      split at hw1
      · rename_i ds k el
        split at hw1
        · rename_i ns en
          split at hw1
          · rename_i hk
            rw [decide_eq_true_eq] at hk
            obtain ⟨vs, h1, h2⟩ := sr1.objs j _ a el q2
            have eds := intsOf_eq en
            subst eds
            have ev := ints_rep_of h2
            subst ev
            obtain ⟨m, z1, z2, z3, z4⟩ := first_at hk
            obtain ⟨w1, w2⟩ := sr1.writeL (ds := (ns.erase k).map .int) (vs := (ns.erase k).map V.int) q2 (ints_rep _)
            refine ⟨a, ns, k, m, rfl, ?_, h1, z2, z3, ?_⟩
            · have : y = .int k := RepT.int (RepX.t r1)
              rw [this]
            · rw [z4]
              exact hw1 _ _ w1 w2 (by simp [RepE, RepX, Rep])
          · exact hw1.elim
        · exact hw1.elim
      · exact hw1.elim
    · exact hw.elim
/-! ### f(..), new own objects among the arguments -/
def callVE (n : Nat) (F : FSem) (f : EvA) : EvD := fun s => match f s with
  | .ok p => (match callS n F p.1 ⟨s.env, p.2⟩ with
    | .ok q => .ok (q.1, q.2.take s.st.length)
    | _ => .stuck)
  | _ => .stuck
theorem de_fnV {x : Str} (C : Cal X.prog X.w X.K X.mg X.base j x (spD X.K c n F)) (hr : Room k X.A) (hk : j ≤ k) (hg : Gl X x) (tk : Takes X W) (ha : DVA X c W (e :: es) fe) (hdb : (x == ("__debug__" : Str)) = false) (he : starEach (e :: es) X.env = (false, eval e X.env) :: starEach es X.env)
    (hpl : (backTo pos (starEach es X.env)).any (·.1) = false) : DE X c W (.Call (.Name x p) (e :: es) [] pos) false false (callVE n F fe) := by
  obtain ⟨f, fd, ps, G, hm, kp, b⟩ := C.ex
  obtain ⟨ta, pa, ra⟩ := ha
  refine ⟨_, pe_callSD (dvs := []) (E := fun σ cls d H => W cls d σ H) (G.mono hk) hr hg hm kp b .nil (fun σ => passAt tk σ) pa hdb he hpl, fun B as σ H s Q sr hw => ?_⟩
  show ta σ H fun vs H1 => spD X.K c n F (vs ++ []) H1 Q _
  simp only [List.append_nil]
  unfold callVE at hw
  refine ra B as σ H s _ sr ?_
  cases ep : fe s with
  | stuck => rw [ep] at hw; exact hw.elim
  | exc cl s' => rw [ep] at hw; exact hw.elim
  | ok p =>
    rw [ep] at hw
    simp only at hw
    intro vs N H1 ev1 hn1 sr1 r1
    cases eq : callS n F p.1 ⟨s.env, p.2⟩ with
    | stuck => rw [eq] at hw; exact hw.elim
    | exc cl s' => rw [eq] at hw; exact hw.elim
    | ok q =>
      rw [eq] at hw
      refine callS_ref sr1 r1 ?_
      rw [eq]
      intro v H2 ev2 sr2 rv
      have evA : Evo as H H2 := ev1.trans ev2 fun x hx => (List.mem_append.mp hx).imp id (hn1 x)
      have part := SR.part sr2
      have hal := sr.aslen
      rw [hal] at part
      have hw' : WantsG X c W (RepE X.K false) B as σ H s.env false Q (.ok (q.1, q.2.take s.st.length)) := hw
      refine hw' v H2 evA ⟨sr.len, fun i sv qs => ?_, part.nd, part.aslen, part.objs, part.out, part.tabs⟩ ?_
      · obtain ⟨u, u1, u2⟩ := sr.slot i sv qs
        exact ⟨u, u1, u2.evo evA fun x hx => List.mem_append_right _ hx⟩
      · exact Rep.avoid (fun x hx => .inl (by rw [← List.append_assoc]; exact List.mem_append_left _ hx)) _ _ rv
end
end DL
end
section
set_option Elab.async false
set_option linter.all false
set_option maxRecDepth 100000
set_option maxHeartbeats 1000000
/-! The data layer, part mw: the plain side of parts z, ma, mb. -/
namespace DL
open PySem PySem.Spec PyProof.Rows L2 PySem.W
section
variable {env env1 env2 : List (Option SV)} {st st1 st2 st3 : Sto} {fa fb fc : EvD} {a b c d x y : PyData} {k l : Bool} {i j n m : Nat} {sv : SV} {f g : EvS} {Q : Fl → S → Prop} {fv : EvV} {ds : List PyData} {fx : EvA} {svs : List SV} {F : FSem} {kvs : List (PyData × PyData)} {o o' : O} {d0 d1 d2 d3 : PyData}
theorem callO1 {st' : Sto} (hj : st[j]? = some o) (hF : F [.obj 0] [o] = .ok (d, [o'])) : callS 1 F [.obj j] ⟨env, st⟩ = .ok (d, st.set j o') := by
  have hn : [SV.obj j].length = 1 ∧ (idsOf [SV.obj j]).Nodup := ⟨rfl, List.nodup_cons.mpr ⟨by simp [idsOf], List.nodup_nil⟩⟩
  unfold callS
  rw [if_pos hn]
  simp [idsOf, gather, hj, renum, hF, scatter]
theorem callO5 (hj : st[j]? = some o) (hF : F [.pure d0, .pure d1, .pure d2, .pure d3, .obj 0] [o] = .ok (d, [o'])) : callS 5 F [.pure d0, .pure d1, .pure d2, .pure d3, .obj j] ⟨env, st⟩ = .ok (d, st.set j o') := by
  have hn : [SV.pure d0, .pure d1, .pure d2, .pure d3, .obj j].length = 5 ∧ (idsOf [SV.pure d0, .pure d1, .pure d2, .pure d3, .obj j]).Nodup := ⟨rfl, List.nodup_cons.mpr ⟨by simp [idsOf], List.nodup_nil⟩⟩
  unfold callS
  rw [if_pos hn]
  simp [idsOf, gather, hj, renum, hF, scatter]
theorem rgD_nat (n : Nat) : rgD 0 (n : Int) = (List.range n).map fun i => PyData.int (i : Nat) := by
  unfold rgD
  rw [Int.sub_zero, Int.toNat_natCast]
  simp
theorem e_rg1 {mk : List PyData → PyData} (h : fa ⟨env, st⟩ = .ok (.int (n : Int), st1)) (hn : n ≤ 16777216) : rg1E mk fa ⟨env, st⟩ = .ok (mk ((List.range n).map fun i => PyData.int (i : Nat)), st1) := by
  unfold rg1E
  rw [h, Res.bind_ok]
  have : smallI (n : Int) = true := by
    unfold smallI
    rw [Bool.and_eq_true, decide_eq_true_eq, decide_eq_true_eq]
    omega
  simp only [this]
  rw [rgD_nat]
theorem s_unl {gs : GSs} (h : fa ⟨env, st⟩ = .ok (.list ds, st1)) (hl : ds.length = n) (he : gs ds env = some env1) (hq : Q .next ⟨env1, st1⟩) : OkS (unlS n fa gs m ⟨env, st⟩) Q := by
  unfold unlS
  rw [h]
  simp only [Res.bx, decide_eq_true hl, he]
  exact .of (p := (.next, ⟨env1, st1⟩)) hq
theorem e_rem {ns : List Int} {z : Int} (h1 : env[i]? = some (some (.obj j))) (h0 : isLst st[j]? = true) (hf : fa ⟨env, st⟩ = .ok (.int z, st1)) (h2 : st1[j]? = some (.lst (ns.map .int))) (hz : z ∈ ns) (h3 : st1.set j (.lst ((ns.erase z).map .int)) = st2) : remE i fa ⟨env, st⟩ = .ok (.none, st2) := by
  have hi : intsOf (ns.map PyData.int) = some ns := by
    have := ints_map (fun x : Int => x) ns
    simpa using this
  unfold remE objAt
  simp only [h1, h0, hf, Res.bind_ok, h2, hi, decide_eq_true hz, h3, if_true]
theorem e_callVE (h : fx ⟨env, st⟩ = .ok (svs, st1)) (hc : callS n F svs ⟨env, st1⟩ = .ok (d, st2)) (ht : st2.take st.length = st3) : callVE n F fx ⟨env, st⟩ = .ok (d, st3) := by
  unfold callVE
  simp only [h, hc, ht]
theorem e_dict0M (hn : st.length = n) (h3 : st ++ [.dM []] = st3) : dict0M ⟨env, st⟩ = .ok (.obj n, st3) := by
  subst hn h3; rfl
theorem e_mget (h1 : env[i]? = some (some (.obj j))) (hf : fa ⟨env, st⟩ = .ok (x, st1)) (h2 : st1[j]? = some (.dM kvs)) (hk : mKey x = true) (h3 : mFind kvs x = some d) : mgetE i fa ⟨env, st⟩ = .ok (d, st1) := by
  unfold mgetE objAt
  simp only [h1, hf, Res.bind_ok, h2, hk, h3]
theorem t_min {neg : Bool} (h1 : env[i]? = some (some (.obj j))) (hf : fa ⟨env, st⟩ = .ok (x, st1)) (h2 : st1[j]? = some (.dM kvs)) (hk : mKey x = true) : minT neg i fa ⟨env, st⟩ = .ok (neg ^^ (mFind kvs x).isSome, st1) := by
  unfold minT objAt
  simp only [h1, hf, Res.bind_ok, h2, hk]
theorem s_mput (h : fb ⟨env, st⟩ = .ok (x, st1)) (h1 : env[i]? = some (some (.obj j))) (hi : fa ⟨env, st1⟩ = .ok (y, st2)) (h2 : st2[j]? = some (.dM kvs)) (hk : mKey y = true) (hl : kvs.length < 16777216) (h3 : st2.set j (.dM (mPut kvs y x)) = st3) (hq : Q .next ⟨env, st3⟩) : OkS (mputS i fa fb n ⟨env, st⟩) Q := by
  unfold mputS objAt
  rw [h]
  simp only [Res.bx, h1, hi, h2, hk, decide_eq_true hl, h3]
  exact .of (p := (.next, ⟨env, st3⟩)) hq
end
theorem revD_tuple (ds : List PyData) : revD (.tuple ds) = some (.tuple ds.reverse) := rfl
theorem revD_list (ds : List PyData) : revD (.list ds) = some (.list ds.reverse) := rfl
/-! ### keys of one kind -/
theorem kOkAll_map {α : Type} (f : α → PyData) (h : ∀ a, DK.kOk (f a) = true) : ∀ xs : List α, DK.kOkAll (xs.map f) = true
  | [] => rfl
  | x :: xs => by rw [List.map_cons, DK.kOkAll, h, kOkAll_map f h xs, Bool.and_self]
theorem mPut_find {kvs : List (PyData × PyData)} {k d : PyData} (hk : PyData.eqv k k = true) : mFind (mPut kvs k d) k = some d := by
  unfold mPut
  split
  · rename_i h
    unfold mFind at h ⊢
    induction kvs with
    | nil => simp at h
    | cons x r ih =>
      rw [List.map_cons, List.find?_cons]
      by_cases e : PyData.eqv x.1 k = true
      · rw [if_pos e]
        simp only [e, Option.map_some]
      · rw [if_neg e]
        have ef : PyData.eqv x.1 k = false := by simpa using e
        simp only [ef]
        refine ih ?_
        rw [List.find?_cons, ef] at h
        exact h
  · rename_i h
    have hn : mFind kvs k = none := by simpa using h
    unfold mFind at hn ⊢
    have hn' : kvs.find? (fun kv => PyData.eqv kv.1 k) = none := by simpa using hn
    rw [List.find?_append, hn']
    simp [hk]
theorem mPut_mem {kvs : List (PyData × PyData)} {k d : PyData} {p : PyData × PyData} (h : p ∈ mPut kvs k d) : (∃ q ∈ kvs, q.1 = p.1 ∧ PyData.eqv q.1 k = true ∧ p.2 = d) ∨ p ∈ kvs ∨ p = (k, d) := by
  unfold mPut at h
  split at h
  · obtain ⟨q, hq, rfl⟩ := List.mem_map.mp h
    by_cases e : PyData.eqv q.1 k = true
    · rw [if_pos e]; exact .inl ⟨q, hq, rfl, e, rfl⟩
    · rw [if_neg e]; exact .inr (.inl hq)
  · rcases List.mem_append.mp h with z | z
    · exact .inr (.inl z)
    · exact .inr (.inr (List.mem_singleton.mp z))
theorem mFind_mem {kvs : List (PyData × PyData)} {k d : PyData} (h : mFind kvs k = some d) : ∃ q ∈ kvs, PyData.eqv q.1 k = true ∧ q.2 = d := by
  unfold mFind at h
  obtain ⟨q, h1, h2⟩ := Option.map_eq_some_iff.mp h
  exact ⟨q, List.mem_of_find?_eq_some h1, (List.find?_some (p := fun kv : PyData × PyData => kv.1.eqv k) h1), h2⟩
end DL
end
section
set_option Elab.async false
set_option linter.all false
set_option maxRecDepth 100000
set_option maxHeartbeats 4000000
/-! printed by gen.py: what the defs of the text do, and that they do it. -/
namespace K53
open PySem PySem.Spec PyProof.Rows L2 DL
def top (i : Nat) : Stmt := PySem.Challenge.pw_plantkept_k53_whole_least_travels_of_lif.main.body.getD i (.Pass ⟨0, 0, 0, 0⟩)
abbrev k_MOST_CALLS : PyData := (.int 5)
abbrev k_MOST_FLOOR : PyData := (.int 20)
abbrev k_MOST_ROOM : PyData := (.int 3)
/-- what stands at the head of the text -/
structure Facts (w : World) (K : PySem.W.Frag) (mg : Str → Option Value) (base : Heap) (c : Cfg) : Prop where
  hsh : c.hs = DK.hashD w
  b_abs : mg "abs" = none
  b_all : mg "all" = none
  b_bool : mg "bool" = none
  b_int : mg "int" = none
  b_isinstance : mg "isinstance" = none
  b_len : mg "len" = none
  b_list : mg "list" = none
  b_max : mg "max" = none
  b_min : mg "min" = none
  b_range : mg "range" = none
  b_sorted : mg "sorted" = none
  b_str : mg "str" = none
  b_tuple : mg "tuple" = none
  c_MOST_CALLS : Con K mg "MOST_CALLS" k_MOST_CALLS
  c_MOST_FLOOR : Con K mg "MOST_FLOOR" k_MOST_FLOOR
  c_MOST_ROOM : Con K mg "MOST_ROOM" k_MOST_ROOM
  d_is_number : Def K mg "is_number" (top 1) ["value", "least", "most"]
  d_is_call : DefG K mg base c "is_call" (top 6) ["value"]
  d_is_lift : DefG K mg base c "is_lift" (top 7) ["value"]
  d_is_deed : Def K mg "is_deed" (top 8) ["lift", "value"]
  d_is_run : DefG K mg base c "is_run" (top 9) ["lift", "value"]
  d_floor_of : Def K mg "floor_of" (top 10) ["lift", "deed"]
  d_travel : Def K mg "travel" (top 11) ["lift", "run"]
  d_least_behind : Def K mg "least_behind" (top 12) ["lift", "floor", "waiting", "within", "known"]
  d_least_run : Def K mg "least_run" (top 13) ["lift"]
  d_least_travel : Def K mg "least_travel" (top 14) ["lift"]
  d__law_open : Def K mg "_law_open" (top 16) ["script"]
  d__law_mixed : Def K mg "_law_mixed" (top 17) ["cell", "turn"]
  d__law_draw : Def K mg "_law_draw" (top 18) ["draws", "size"]
  d__law_int : Def K mg "_law_int" (top 19) ["value"]
  d__law_same : Def K mg "_law_same" (top 20) ["told", "due"]
  d__law_lift : Def K mg "_law_lift" (top 21) ["draws"]
  d__law_runs : Def K mg "_law_runs" (top 22) ["lift", "waiting", "within"]
  d__law_travel : Def K mg "_law_travel" (top 23) ["lift", "run"]
  d__law_is_run : Def K mg "_law_is_run" (top 24) ["lift", "value"]
  d__law_lifts : Def K mg "_law_lifts" (top 25) ["lift"]
  d_law : Def K mg "law" (top 26) ["script"]
theorem Facts.add {w : World} {K : PySem.W.Frag} {mg : Str → Option Value} {base : Heap} {c : Cfg} {cp : Addr × Addr} (G : Facts w K mg base c) : Facts w K mg base (c.add cp) :=
  ⟨G.hsh, G.b_abs, G.b_all, G.b_bool, G.b_int, G.b_isinstance, G.b_len, G.b_list, G.b_max, G.b_min, G.b_range, G.b_sorted, G.b_str, G.b_tuple, G.c_MOST_CALLS, G.c_MOST_FLOOR, G.c_MOST_ROOM, G.d_is_number, ⟨G.d_is_call.ex⟩, ⟨G.d_is_lift.ex⟩, G.d_is_deed, ⟨G.d_is_run.ex⟩, G.d_floor_of, G.d_travel, G.d_least_behind, G.d_least_run, G.d_least_travel, G.d__law_open, G.d__law_mixed, G.d__law_draw, G.d__law_int, G.d__law_same, G.d__law_lift, G.d__law_runs, G.d__law_travel, G.d__law_is_run, G.d__law_lifts, G.d_law⟩
section
variable {P : Program} {w : World} {K : PySem.W.Frag} {mg : Str → Option Value} {base : Heap} {c : Cfg}
abbrev s_is_number : Stmt := top 1
abbrev n_is_number : List Str := ["value", "least", "most"]
abbrev ps_is_number : List Str := ["value", "least", "most"]
theorem sc_is_number : FnScope n_is_number ps_is_number (defScope s_is_number) := ⟨rfl, rfl, rfl, by decide +kernel, rfl, by decide +kernel, by decide +kernel⟩
noncomputable def b_is_number : EvS :=
  (retS (pureV (andE (isiE .int (slotE 0)) (andE (notE (isiE .bool (slotE 0))) (chain2 leD leD (slotE 1) (slotE 0) (slotE 2))))))
noncomputable def F_is_number : FSem := runF n_is_number.length b_is_number
theorem w_is_number (G : Facts w K mg base c) : Cal P w K mg base 1 "is_number" (spD K c ps_is_number.length F_is_number) :=
  cal_of (k := 0) (body := b_is_number) G.d_is_number sc_is_number fun f cdv A outer s H E hr => (dss_one (ds_ret (dv_de (de_and (i_int rfl G.b_isinstance rfl G.b_int (de_var (i := 0) rfl (vis_by rfl) rfl rfl) rfl) (de_and (de_not (i_bool rfl G.b_isinstance rfl G.b_bool (de_var (i := 0) rfl (vis_by rfl) rfl rfl) rfl)) (de_one (de_chain (od_le (Room.units hr)) (od_le (Room.units hr)) rfl (de_var (i := 1) rfl (vis_by rfl) rfl rfl) (de_var (i := 0) rfl (vis_by rfl) rfl rfl) (de_var (i := 2) rfl (vis_by rfl) rfl rfl))))))))
abbrev s_is_call : Stmt := top 6
abbrev n_is_call : List Str := ["value", "one"]
abbrev ps_is_call : List Str := ["value"]
theorem sc_is_call : FnScope n_is_call ps_is_call (defScope s_is_call) := ⟨rfl, rfl, rfl, by decide +kernel, rfl, by decide +kernel, by decide +kernel⟩
noncomputable def b_is_call : EvS :=
  (seqS (ifS (orT (notT (valT (isiE .tuple (slotE 0)))) (orT (cmpT neD (un1 lenD (slotE 0)) (constE (.int 2))) (notT (valT (quantE false (seqI (froR (slotE 0))) [1] (nameG 1) yesT (callE 3 F_is_number (consSlotA 1 (consA (constE (.int 0)) (consA (constE k_MOST_FLOOR) nilA))))))))) (retS (pureV (constE (.bool false)))) nilS) 
    (retS (pureV (bin2 neD (bin2 itemD (slotE 0) (constE (.int 0))) (bin2 itemD (slotE 0) (constE (.int 1)))))))
noncomputable def F_is_call : FSem := runF n_is_call.length b_is_call
theorem w_is_call (G : Facts w K mg base c) : Cal P w K mg base 5 "is_call" (spD K c ps_is_call.length F_is_call) :=
  cal_ofG (k := 4) (body := b_is_call) G.d_is_call sc_is_call fun f cc P' A outer s H E tb hP hr => (dss_cons (ds_if (DW.dt (dw_or (dt_not (dt_val (i_tuple rfl G.b_isinstance rfl G.b_tuple (de_var (i := 0) rfl (vis_by rfl) rfl rfl) rfl) (fun _ => rfl))) (dw_or (dt_cmp (od_ne (Room.units hr)) rfl (e_len rfl G.b_len (de_var (i := 0) rfl (vis_by rfl) rfl rfl) rfl) de_int no_tr) (dw_or1 (dt_not (dt_val (de_all [("one", 1)] (.inl ⟨tb.code, hP⟩) rfl sc_is_call.nd (k := 1) hr rfl G.b_all bb_all tb.bm rfl (genOk_by (by kernel_rfl)) (di_seq (dr_fro (de_var (i := 0) rfl (vis_by rfl) rfl rfl))) (fun _ _ _ _ _ _ _ => (dg_name (i := 1) sc_is_call.nd rfl (loc_by rfl) (hf_by rfl))) (fun _ _ _ _ _ _ _ => dts_nil) (fun _ _ _ _ _ _ _ => (de_fn (w_is_number (Facts.add G)) (room3 (k := 1) hr _) (by decide) rfl takesW0 (da_slot (i := 1) rfl (vis_by rfl) rfl rfl (da_cons de_int (da_cons (de_con G.c_MOST_FLOOR rfl rfl) da_nil rfl) rfl) rfl) rfl rfl rfl)) (by decide) (fun _ => rfl) rfl) (fun _ => rfl))))))) (dss_one (ds_ret (dv_de de_bool))) dss_nil) (dss_one (ds_ret (dv_de (de_cmp (od_ne (Room.units hr)) rfl (de_item (de_var (i := 0) rfl (vis_by rfl) rfl rfl) de_int no_tr (fun _ _ => rfl)) (de_item (de_var (i := 0) rfl (vis_by rfl) rfl rfl) de_int no_tr (fun _ _ => rfl)) no_tr)))))
abbrev s_is_lift : Stmt := top 7
abbrev n_is_lift : List Str := ["value", "call"]
abbrev ps_is_lift : List Str := ["value"]
theorem sc_is_lift : FnScope n_is_lift ps_is_lift (defScope s_is_lift) := ⟨rfl, rfl, rfl, by decide +kernel, rfl, by decide +kernel, by decide +kernel⟩
noncomputable def b_is_lift : EvS :=
  (seqS (ifS (orT (notT (valT (isiE .tuple (slotE 0)))) (orT (cmpT neD (un1 lenD (slotE 0)) (constE (.int 3))) (notT (valT (callE 3 F_is_number (consA (bin2 itemD (slotE 0) (constE (.int 0))) (consA (constE (.int 0)) (consA (constE k_MOST_FLOOR) nilA)))))))) (retS (pureV (constE (.bool false)))) nilS) 
    (seqS (ifS (orT (notT (valT (callE 3 F_is_number (consA (bin2 itemD (slotE 0) (constE (.int 1))) (consA (constE (.int 1)) (consA (constE k_MOST_ROOM) nilA)))))) (orT (notT (valT (isiE .tuple (bin2 itemD (slotE 0) (constE (.int 2)))))) (cmpT gtD (un1 lenD (bin2 itemD (slotE 0) (constE (.int 2)))) (constE k_MOST_CALLS)))) (retS (pureV (constE (.bool false)))) nilS) 
    (retS (pureV (quantE false (seqI (froR (bin2 itemD (slotE 0) (constE (.int 2))))) [1] (nameG 1) yesT (callE 1 F_is_call (consSlotA 1 nilA)))))))
noncomputable def F_is_lift : FSem := runF n_is_lift.length b_is_lift
theorem w_is_lift (G : Facts w K mg base c) : Cal P w K mg base 9 "is_lift" (spD K c ps_is_lift.length F_is_lift) :=
  cal_ofG (k := 8) (body := b_is_lift) G.d_is_lift sc_is_lift fun f cc P' A outer s H E tb hP hr => (dss_cons (ds_if (DW.dt (dw_or (dt_not (dt_val (i_tuple rfl G.b_isinstance rfl G.b_tuple (de_var (i := 0) rfl (vis_by rfl) rfl rfl) rfl) (fun _ => rfl))) (dw_or (dt_cmp (od_ne (Room.units hr)) rfl (e_len rfl G.b_len (de_var (i := 0) rfl (vis_by rfl) rfl rfl) rfl) de_int no_tr) (dw_or1 (dt_not (dt_val (de_fn (w_is_number G) hr (by decide) rfl takesB (da_cons (de_item (de_var (i := 0) rfl (vis_by rfl) rfl rfl) de_int no_tr (fun _ _ => rfl)) (da_cons de_int (da_cons (de_con G.c_MOST_FLOOR rfl rfl) da_nil rfl) rfl) rfl) rfl rfl rfl) (fun _ => rfl))))))) (dss_one (ds_ret (dv_de de_bool))) dss_nil) (dss_cons (ds_if (DW.dt (dw_or (dt_not (dt_val (de_fn (w_is_number G) hr (by decide) rfl takesB (da_cons (de_item (de_var (i := 0) rfl (vis_by rfl) rfl rfl) de_int no_tr (fun _ _ => rfl)) (da_cons de_int (da_cons (de_con G.c_MOST_ROOM rfl rfl) da_nil rfl) rfl) rfl) rfl rfl rfl) (fun _ => rfl))) (dw_or (dt_not (dt_val (i_tuple rfl G.b_isinstance rfl G.b_tuple (de_item (de_var (i := 0) rfl (vis_by rfl) rfl rfl) de_int no_tr (fun _ _ => rfl)) rfl) (fun _ => rfl))) (dw_or1 (dt_cmp (od_gt (Room.units hr)) rfl (e_len rfl G.b_len (de_item (de_var (i := 0) rfl (vis_by rfl) rfl rfl) de_int no_tr (fun _ _ => rfl)) rfl) (de_con G.c_MOST_CALLS rfl rfl) no_tr))))) (dss_one (ds_ret (dv_de de_bool))) dss_nil) (dss_one (ds_ret (dv_de (de_all [("call", 1)] (.inl ⟨tb.code, hP⟩) rfl sc_is_lift.nd (k := 5) hr rfl G.b_all bb_all tb.bm rfl (genOk_by (by kernel_rfl)) (di_seq (dr_fro (de_item (de_var (i := 0) rfl (vis_by rfl) rfl rfl) de_int no_tr (fun _ _ => rfl)))) (fun _ _ _ _ _ _ _ => (dg_name (i := 1) sc_is_lift.nd rfl (loc_by rfl) (hf_by rfl))) (fun _ _ _ _ _ _ _ => dts_nil) (fun _ _ _ _ _ _ _ => (de_fn (w_is_call (Facts.add G)) (room3 (k := 5) hr _) (by decide) rfl takesW0 (da_slot (i := 1) rfl (vis_by rfl) rfl rfl da_nil rfl) rfl rfl rfl)) (by decide) (fun _ => rfl) rfl))))))
abbrev s_is_deed : Stmt := top 8
abbrev n_is_deed : List Str := ["lift", "value"]
abbrev ps_is_deed : List Str := ["lift", "value"]
theorem sc_is_deed : FnScope n_is_deed ps_is_deed (defScope s_is_deed) := ⟨rfl, rfl, rfl, by decide +kernel, rfl, by decide +kernel, by decide +kernel⟩
noncomputable def b_is_deed : EvS :=
  (seqS (ifS (orT (notT (valT (isiE .tuple (slotE 1)))) (orT (cmpT neD (un1 lenD (slotE 1)) (constE (.int 2))) (notT (valT (isiE .str (bin2 itemD (slotE 1) (constE (.int 0)))))))) (retS (pureV (constE (.bool false)))) nilS) 
    (retS (pureV (andE (bin2 inD (bin2 itemD (slotE 1) (constE (.int 0))) (tupE (consA (constE (.str "in")) (consA (constE (.str "out")) nilA)))) (callE 3 F_is_number (consA (bin2 itemD (slotE 1) (constE (.int 1))) (consA (constE (.int 0)) (consA (bin2 subD (un1 lenD (bin2 itemD (slotE 0) (constE (.int 2)))) (constE (.int 1))) nilA))))))))
noncomputable def F_is_deed : FSem := runF n_is_deed.length b_is_deed
theorem w_is_deed (G : Facts w K mg base c) : Cal P w K mg base 2 "is_deed" (spD K c ps_is_deed.length F_is_deed) :=
  cal_of (k := 1) (body := b_is_deed) G.d_is_deed sc_is_deed fun f cdv A outer s H E hr => (dss_cons (ds_if (DW.dt (dw_or (dt_not (dt_val (i_tuple rfl G.b_isinstance rfl G.b_tuple (de_var (i := 1) rfl (vis_by rfl) rfl rfl) rfl) (fun _ => rfl))) (dw_or (dt_cmp (od_ne (Room.units hr)) rfl (e_len rfl G.b_len (de_var (i := 1) rfl (vis_by rfl) rfl rfl) rfl) de_int no_tr) (dw_or1 (dt_not (dt_val (i_str rfl G.b_isinstance rfl G.b_str (de_item (de_var (i := 1) rfl (vis_by rfl) rfl rfl) de_int no_tr (fun _ _ => rfl)) rfl) (fun _ => rfl))))))) (dss_one (ds_ret (dv_de de_bool))) dss_nil) (dss_one (ds_ret (dv_de (de_and (de_cmp (od_in (Room.units hr)) rfl (de_item (de_var (i := 1) rfl (vis_by rfl) rfl rfl) de_int no_tr (fun _ _ => rfl)) (de_tup (da_cons de_str (da_cons de_str da_nil rfl) rfl)) no_tr) (de_one (de_fn (w_is_number G) hr (by decide) rfl takesB (da_cons (de_item (de_var (i := 1) rfl (vis_by rfl) rfl rfl) de_int no_tr (fun _ _ => rfl)) (da_cons de_int (da_cons (de_bin od_sub (e_len rfl G.b_len (de_item (de_var (i := 0) rfl (vis_by rfl) rfl rfl) de_int no_tr (fun _ _ => rfl)) rfl) de_int) da_nil rfl) rfl) rfl) rfl rfl rfl)))))))
abbrev s_is_run : Stmt := top 9
abbrev n_is_run : List Str := ["lift", "value", "within", "done", "word", "call", "deed"]
abbrev ps_is_run : List Str := ["lift", "value"]
theorem sc_is_run : FnScope n_is_run ps_is_run (defScope s_is_run) := ⟨rfl, rfl, rfl, by decide +kernel, rfl, by decide +kernel, by decide +kernel⟩
noncomputable def b_is_run : EvS :=
  (seqS (ifS (orT (notT (valT (isiE .tuple (slotE 1)))) (orT (cmpT neD (un1 lenD (slotE 1)) (bin2 mulD (constE (.int 2)) (un1 lenD (bin2 itemD (slotE 0) (constE (.int 2)))))) (notT (valT (quantE false (seqI (froR (slotE 1))) [6] (nameG 6) yesT (callE 2 F_is_deed (consSlotA 0 (consSlotA 6 nilA)))))))) (retS (pureV (constE (.bool false)))) nilS) 
    (seqS (setS 2 (lstV nilA)) 
    (seqS (setS 3 (lstV nilA)) 
    (seqS (forS (seqI (froR (slotE 1))) (tupG 2 (consG (nameG 4) (consG (nameG 5) nilG))) (ifS (cmpT eqD (slotE 4) (constE (.str "in"))) (seqS (ifS (orT (cmpT inD (slotE 5) (curE 2)) (orT (cmpT inD (slotE 5) (curE 3)) (cmpT eqD (un1 lenD (curE 2)) (bin2 itemD (slotE 0) (constE (.int 1)))))) (retS (pureV (constE (.bool false)))) nilS) 
    (dropS (appE 2 (slotE 5)))) (seqS (ifS (cmpT notInD (slotE 5) (curE 2)) (retS (pureV (constE (.bool false)))) nilS) 
    (seqS (dropS (remE 2 (slotE 5))) 
    (dropS (appE 3 (slotE 5)))))) [4, 5]) 
    (retS (pureV (bin2 eqD (un1 lenD (curE 3)) (un1 lenD (bin2 itemD (slotE 0) (constE (.int 2)))))))))))
noncomputable def F_is_run : FSem := runF n_is_run.length b_is_run
theorem w_is_run (G : Facts w K mg base c) : Cal P w K mg base 6 "is_run" (spD K c ps_is_run.length F_is_run) :=
  cal_ofG (k := 5) (body := b_is_run) G.d_is_run sc_is_run fun f cc P' A outer s H E tb hP hr => (dss_cons (ds_if (DW.dt (dw_or (dt_not (dt_val (i_tuple rfl G.b_isinstance rfl G.b_tuple (de_var (i := 1) rfl (vis_by rfl) rfl rfl) rfl) (fun _ => rfl))) (dw_or (dt_cmp (od_ne (Room.units hr)) rfl (e_len rfl G.b_len (de_var (i := 1) rfl (vis_by rfl) rfl rfl) rfl) (de_bin od_mul de_int (e_len rfl G.b_len (de_item (de_var (i := 0) rfl (vis_by rfl) rfl rfl) de_int no_tr (fun _ _ => rfl)) rfl)) no_tr) (dw_or1 (dt_not (dt_val (de_all [("deed", 6)] (.inl ⟨tb.code, hP⟩) rfl sc_is_run.nd (k := 2) hr rfl G.b_all bb_all tb.bm rfl (genOk_by (by kernel_rfl)) (di_seq (dr_fro (de_var (i := 1) rfl (vis_by rfl) rfl rfl))) (fun _ _ _ _ _ _ _ => (dg_name (i := 6) sc_is_run.nd rfl (loc_by rfl) (hf_by rfl))) (fun _ _ _ _ _ _ _ => dts_nil) (fun _ _ _ _ _ _ _ => (de_fn (w_is_deed (Facts.add G)) (room3 (k := 2) hr _) (by decide) rfl takesW0 (da_slot (i := 0) rfl (vis_by rfl) rfl rfl (da_slot (i := 6) rfl (vis_by rfl) rfl rfl da_nil rfl) rfl) rfl rfl rfl)) (by decide) (fun _ => rfl) rfl) (fun _ => rfl))))))) (dss_one (ds_ret (dv_de de_bool))) dss_nil) (dss_cons (ds_set (i := 2) sc_is_run.nd rfl (loc_by rfl) (dv_lst da_nil) rfl (.inl rfl)) (dss_cons (ds_set (i := 3) sc_is_run.nd rfl (loc_by rfl) (dv_lst da_nil) rfl (.inl rfl)) (dss_cons (ds_for [4, 5] passesB rfl (di_seq (dr_fro (de_var (i := 1) rfl (vis_by rfl) rfl rfl))) (dg_tup rfl (dgs_cons (dg_name (i := 4) sc_is_run.nd rfl (loc_by rfl) (.inl rfl)) (dgs_cons (dg_name (i := 5) sc_is_run.nd rfl (loc_by rfl) (.inl rfl)) dgs_nil rfl) rfl) rfl rfl) (dss_one (ds_if (dt_cmp (od_eq (Room.units hr)) rfl (de_var (i := 4) rfl (vis_by rfl) rfl rfl) de_str no_tr) (dss_cons (ds_if (DW.dt (dw_or (dt_cmp (od_in (Room.units hr)) rfl (de_var (i := 5) rfl (vis_by rfl) rfl rfl) (de_cur (i := 2) rfl (vis_by rfl) rfl rfl) no_tr) (dw_or (dt_cmp (od_in (Room.units hr)) rfl (de_var (i := 5) rfl (vis_by rfl) rfl rfl) (de_cur (i := 3) rfl (vis_by rfl) rfl rfl) no_tr) (dw_or1 (dt_cmp (od_eq (Room.units hr)) rfl (e_len rfl G.b_len (de_cur (i := 2) rfl (vis_by rfl) rfl rfl) rfl) (de_item (de_var (i := 0) rfl (vis_by rfl) rfl rfl) de_int no_tr (fun _ _ => rfl)) no_tr))))) (dss_one (ds_ret (dv_de de_bool))) dss_nil) (dss_one (ds_expr (de_app (i := 2) rfl (vis_by rfl) rfl rfl (de_var (i := 5) rfl (vis_by rfl) rfl rfl) rfl rfl rfl rfl) rfl))) (dss_cons (ds_if (dt_cmp (od_notIn (Room.units hr)) rfl (de_var (i := 5) rfl (vis_by rfl) rfl rfl) (de_cur (i := 2) rfl (vis_by rfl) rfl rfl) no_tr) (dss_one (ds_ret (dv_de de_bool))) dss_nil) (dss_cons (ds_expr (de_rem (i := 2) rfl (vis_by rfl) rfl rfl (de_var (i := 5) rfl (vis_by rfl) rfl rfl) rfl rfl rfl rfl) rfl) (dss_one (ds_expr (de_app (i := 3) rfl (vis_by rfl) rfl rfl (de_var (i := 5) rfl (vis_by rfl) rfl rfl) rfl rfl rfl rfl) rfl)))))) (fun _ => rfl)) (dss_one (ds_ret (dv_de (de_cmp (od_eq (Room.units hr)) rfl (e_len rfl G.b_len (de_cur (i := 3) rfl (vis_by rfl) rfl rfl) rfl) (e_len rfl G.b_len (de_item (de_var (i := 0) rfl (vis_by rfl) rfl rfl) de_int no_tr (fun _ _ => rfl)) rfl) no_tr))))))))
abbrev s_floor_of : Stmt := top 10
abbrev n_floor_of : List Str := ["lift", "deed", "start", "goal"]
abbrev ps_floor_of : List Str := ["lift", "deed"]
theorem sc_floor_of : FnScope n_floor_of ps_floor_of (defScope s_floor_of) := ⟨rfl, rfl, rfl, by decide +kernel, rfl, by decide +kernel, by decide +kernel⟩
noncomputable def b_floor_of : EvS :=
  (seqS (asgS (bin2 itemD (bin2 itemD (slotE 0) (constE (.int 2))) (bin2 itemD (slotE 1) (constE (.int 1)))) (tupG 2 (consG (nameG 2) (consG (nameG 3) nilG)))) 
    (retS (pureV (iteE (cmpT eqD (bin2 itemD (slotE 1) (constE (.int 0))) (constE (.str "in"))) (slotE 2) (slotE 3)))))
noncomputable def F_floor_of : FSem := runF n_floor_of.length b_floor_of
theorem w_floor_of (G : Facts w K mg base c) : Cal P w K mg base 1 "floor_of" (spD K c ps_floor_of.length F_floor_of) :=
  cal_of (k := 0) (body := b_floor_of) G.d_floor_of sc_floor_of fun f cdv A outer s H E hr => (dss_cons (ds_asg (de_item (de_item (de_var (i := 0) rfl (vis_by rfl) rfl rfl) de_int no_tr (fun _ _ => rfl)) (de_item (de_var (i := 1) rfl (vis_by rfl) rfl rfl) de_int no_tr (fun _ _ => rfl)) no_tr (fun _ _ => rfl)) (dg_tup rfl (dgs_cons (dg_name (i := 2) sc_floor_of.nd rfl (loc_by rfl) (.inl rfl)) (dgs_cons (dg_name (i := 3) sc_floor_of.nd rfl (loc_by rfl) (.inl rfl)) dgs_nil rfl) rfl) rfl rfl) rfl rfl rfl) (dss_one (ds_ret (dv_de (de_ite (dt_cmp (od_eq (Room.units hr)) rfl (de_item (de_var (i := 1) rfl (vis_by rfl) rfl rfl) de_int no_tr (fun _ _ => rfl)) de_str no_tr) (de_var (i := 2) rfl (vis_by rfl) rfl rfl) (de_var (i := 3) rfl (vis_by rfl) rfl rfl))))))
abbrev s_travel : Stmt := top 11
abbrev n_travel : List Str := ["lift", "run", "floor", "told", "deed"]
abbrev ps_travel : List Str := ["lift", "run"]
theorem sc_travel : FnScope n_travel ps_travel (defScope s_travel) := ⟨rfl, rfl, rfl, by decide +kernel, rfl, by decide +kernel, by decide +kernel⟩
noncomputable def b_travel : EvS :=
  (seqS (setS 2 (pureV (bin2 itemD (slotE 0) (constE (.int 0))))) 
    (seqS (setS 3 (pureV (constE (.int 0)))) 
    (seqS (forS (seqI (froR (slotE 1))) (nameG 4) (seqS (setS 3 (pureV (bin2 addD (slotE 3) (un1 absD (bin2 subD (callE 2 F_floor_of (consSlotA 0 (consSlotA 4 nilA))) (slotE 2)))))) 
    (setS 2 (pureV (callE 2 F_floor_of (consSlotA 0 (consSlotA 4 nilA)))))) [4]) 
    (retS (slotV 3)))))
noncomputable def F_travel : FSem := runF n_travel.length b_travel
theorem w_travel (G : Facts w K mg base c) : Cal P w K mg base 2 "travel" (spD K c ps_travel.length F_travel) :=
  cal_of (k := 1) (body := b_travel) G.d_travel sc_travel fun f cdv A outer s H E hr => (dss_cons (ds_set (i := 2) sc_travel.nd rfl (loc_by rfl) (dv_de (de_item (de_var (i := 0) rfl (vis_by rfl) rfl rfl) de_int no_tr (fun _ _ => rfl))) rfl (.inl rfl)) (dss_cons (ds_set (i := 3) sc_travel.nd rfl (loc_by rfl) (dv_de de_int) rfl (.inl rfl)) (dss_cons (ds_for [4] passesB rfl (di_seq (dr_fro (de_var (i := 1) rfl (vis_by rfl) rfl rfl))) (dg_name (i := 4) sc_travel.nd rfl (loc_by rfl) (.inl rfl)) (dss_cons (ds_set (i := 3) sc_travel.nd rfl (loc_by rfl) (dv_de (de_bin od_add (de_var (i := 3) rfl (vis_by rfl) rfl rfl) (e_abs rfl G.b_abs (de_bin od_sub (de_fn (w_floor_of G) hr (by decide) rfl takesB (da_slot (i := 0) rfl (vis_by rfl) rfl rfl (da_slot (i := 4) rfl (vis_by rfl) rfl rfl da_nil rfl) rfl) rfl rfl rfl) (de_var (i := 2) rfl (vis_by rfl) rfl rfl)) rfl))) rfl (.inl rfl)) (dss_one (ds_set (i := 2) sc_travel.nd rfl (loc_by rfl) (dv_de (de_fn (w_floor_of G) hr (by decide) rfl takesB (da_slot (i := 0) rfl (vis_by rfl) rfl rfl (da_slot (i := 4) rfl (vis_by rfl) rfl rfl da_nil rfl) rfl) rfl rfl rfl)) rfl (.inl rfl)))) (fun _ => rfl)) (dss_one (ds_ret (dv_slot (i := 3) rfl (vis_by rfl) rfl rfl))))))
abbrev s_least_behind : Stmt := top 12
abbrev n_least_behind : List Str := ["lift", "floor", "waiting", "within", "known", "state", "found", "deeds", "deed", "later", "left", "held", "cost", "row", "call"]
abbrev ps_least_behind : List Str := ["lift", "floor", "waiting", "within", "known"]
theorem sc_least_behind : FnScope n_least_behind ps_least_behind (defScope s_least_behind) := ⟨rfl, rfl, rfl, by decide +kernel, rfl, by decide +kernel, by decide +kernel⟩
noncomputable def b_least_behind (Fr : FSem) : EvS :=
  (seqS (ifS (andT (cmpT eqD (slotE 2) (tupE nilA)) (cmpT eqD (slotE 3) (tupE nilA))) (retS (pureV (tupE (consA (constE (.int 0)) (consA (tupE nilA) nilA))))) nilS) 
    (seqS (setS 5 (pureV (tupE (consA (slotE 1) (consA (slotE 2) (consA (slotE 3) nilA)))))) 
    (seqS (ifS (minT true 4 (slotE 5)) (seqS (setS 6 (lstV nilA)) 
    (seqS (setS 7 (pureV (lstOf (compC (seqI (froR (slotE 3))) [14] (nameG 14) yesT (tupE (consA (constE (.str "out")) (consA (slotE 14) nilA))))))) 
    (seqS (ifS (cmpT ltD (un1 lenD (slotE 3)) (bin2 itemD (slotE 0) (constE (.int 1)))) (setS 7 (pureV (bin2 addD (lstOf (compC (seqI (froR (slotE 2))) [14] (nameG 14) yesT (tupE (consA (constE (.str "in")) (consA (slotE 14) nilA))))) (slotE 7)))) nilS) 
    (seqS (forS (seqI (froR (slotE 7))) (nameG 8) (seqS (setS 9 (pureV (callE 2 F_floor_of (consSlotA 0 (consSlotA 8 nilA))))) 
    (seqS (setS 10 (pureV (un1 tupleD (lstOf (compC (seqI (froR (slotE 2))) [14] (nameG 14) (cmpT neD (slotE 8) (tupE (consA (constE (.str "in")) (consA (slotE 14) nilA)))) (slotE 14)))))) 
    (seqS (setS 11 (pureV (un1 tupleD (lstOf (compC (seqI (froR (slotE 3))) [14] (nameG 14) (cmpT neD (slotE 8) (tupE (consA (constE (.str "out")) (consA (slotE 14) nilA)))) (slotE 14)))))) 
    (seqS (ifS (cmpT eqD (bin2 itemD (slotE 8) (constE (.int 0))) (constE (.str "in"))) (setS 11 (pureV (un1 tupleD (un1 sortedDD (bin2 addD (slotE 11) (tupE (consA (bin2 itemD (slotE 8) (constE (.int 1))) nilA))))))) nilS) 
    (seqS (asgS (callE 5 Fr (consSlotA 0 (consSlotA 9 (consSlotA 10 (consSlotA 11 (consSlotA 4 nilA)))))) (tupG 2 (consG (nameG 12) (consG (nameG 13) nilG)))) 
    (dropS (appE 6 (tupE (consA (bin2 addD (slotE 12) (un1 absD (bin2 subD (slotE 9) (slotE 1)))) (consA (bin2 addD (tupE (consA (slotE 8) nilA)) (slotE 13)) nilA)))))))))) [8, 9, 10, 11, 12, 13]) 
    (mputS 4 (slotE 5) (un1 minDD (curE 6))))))) nilS) 
    (retS (pureV (mgetE 4 (slotE 5)))))))
noncomputable def F_least_behind : Nat → FSem
  | 0 => stuckF
  | d + 1 => runF n_least_behind.length (b_least_behind (F_least_behind d))
theorem w_least_behind (G : Facts w K mg base c) : ∀ d : Nat, Cal P w K mg base (d + 1) "least_behind" (spD K c ps_least_behind.length (F_least_behind d))
  | 0 => (cal_never G.d_least_behind sc_least_behind).mono (by omega)
  | d + 1 => by
    have ih := w_least_behind G d
    exact cal_of (k := d + 1) (body := b_least_behind (F_least_behind d)) G.d_least_behind sc_least_behind fun f cdv A outer s H E hr => (dss_cons (ds_if (DW.dt (dw_and (dt_cmp (od_eq (Room.units hr)) rfl (de_var (i := 2) rfl (vis_by rfl) rfl rfl) (de_tup da_nil) no_tr) (dw_and1 (dt_cmp (od_eq (Room.units hr)) rfl (de_var (i := 3) rfl (vis_by rfl) rfl rfl) (de_tup da_nil) no_tr)))) (dss_one (ds_ret (dv_de (de_tup (da_cons de_int (da_cons (de_tup da_nil) da_nil rfl) rfl))))) dss_nil) (dss_cons (ds_set (i := 5) sc_least_behind.nd rfl (loc_by rfl) (dv_de (de_tup (da_cons (de_var (i := 1) rfl (vis_by rfl) rfl rfl) (da_cons (de_var (i := 2) rfl (vis_by rfl) rfl rfl) (da_cons (de_var (i := 3) rfl (vis_by rfl) rfl rfl) da_nil rfl) rfl) rfl))) rfl (.inl rfl)) (dss_cons (ds_if (dt_mnotin (i := 4) (Room.units hr) G.hsh rfl (vis_by rfl) rfl rfl (de_var (i := 5) rfl (vis_by rfl) rfl rfl)) (dss_cons (ds_set (i := 6) sc_least_behind.nd rfl (loc_by rfl) (dv_lst da_nil) rfl (.inl rfl)) (dss_cons (ds_setLc (i := 7) [("call", 14)] rfl sc_least_behind.nd rfl rfl (sw_true rfl rfl rfl rfl) (di_seq (dr_fro (de_var (i := 3) rfl (vis_by rfl) rfl rfl))) (blkOk_by (by kernel_rfl)) (fun _ _ _ _ _ => (dg_name (i := 14) sc_least_behind.nd rfl (loc_by rfl) (hf_by rfl))) (fun _ _ _ _ _ => dts_nil) (fun _ _ _ _ _ => (de_tup (da_cons de_str (da_cons (de_var (i := 14) rfl (vis_by rfl) rfl rfl) da_nil rfl) rfl))) (by decide) (fun _ => rfl) (fun B as σ H s Q sr hw => wants_pure sr hw)) (dss_cons (ds_if (dt_cmp (od_lt (Room.units hr)) rfl (e_len rfl G.b_len (de_var (i := 3) rfl (vis_by rfl) rfl rfl) rfl) (de_item (de_var (i := 0) rfl (vis_by rfl) rfl rfl) de_int no_tr (fun _ _ => rfl)) no_tr) (dss_one (ds_set (i := 7) sc_least_behind.nd rfl (loc_by rfl) (dv_de (de_bin od_add (de_c (dc_lc [("call", 14)] rfl sc_least_behind.nd (di_seq (dr_fro (de_var (i := 2) rfl (vis_by rfl) rfl rfl))) (blkOk_by (by kernel_rfl)) (fun _ _ _ _ _ => (dg_name (i := 14) sc_least_behind.nd rfl (loc_by rfl) (hf_by rfl))) (fun _ _ _ _ _ => dts_nil) (fun _ _ _ _ _ => (de_tup (da_cons de_str (da_cons (de_var (i := 14) rfl (vis_by rfl) rfl rfl) da_nil rfl) rfl))) (by decide) (fun _ => rfl))) (de_var (i := 7) rfl (vis_by rfl) rfl rfl))) rfl (.inl rfl))) dss_nil) (dss_cons (ds_for [8, 9, 10, 11, 12, 13] passesB rfl (di_seq (dr_fro (de_var (i := 7) rfl (vis_by rfl) rfl rfl))) (dg_name (i := 8) sc_least_behind.nd rfl (loc_by rfl) (.inl rfl)) (dss_cons (ds_set (i := 9) sc_least_behind.nd rfl (loc_by rfl) (dv_de (de_fn (w_floor_of G) hr (by omega) rfl takesB (da_slot (i := 0) rfl (vis_by rfl) rfl rfl (da_slot (i := 8) rfl (vis_by rfl) rfl rfl da_nil rfl) rfl) rfl rfl rfl)) rfl (.inl rfl)) (dss_cons (ds_set (i := 10) sc_least_behind.nd rfl (loc_by rfl) (dv_de (e_tuple rfl G.b_tuple (de_c (dc_lc [("call", 14)] rfl sc_least_behind.nd (di_seq (dr_fro (de_var (i := 2) rfl (vis_by rfl) rfl rfl))) (blkOk_by (by kernel_rfl)) (fun _ _ _ _ _ => (dg_name (i := 14) sc_least_behind.nd rfl (loc_by rfl) (hf_by rfl))) (fun _ _ _ _ _ => (dts_one (dt_cmp (od_ne (Room.units hr)) rfl (de_var (i := 8) rfl (vis_by rfl) rfl rfl) (de_tup (da_cons de_str (da_cons (de_var (i := 14) rfl (vis_by rfl) rfl rfl) da_nil rfl) rfl)) no_tr))) (fun _ _ _ _ _ => (de_var (i := 14) rfl (vis_by rfl) rfl rfl)) (by decide) (fun _ => rfl))) rfl)) rfl (.inl rfl)) (dss_cons (ds_set (i := 11) sc_least_behind.nd rfl (loc_by rfl) (dv_de (e_tuple rfl G.b_tuple (de_c (dc_lc [("call", 14)] rfl sc_least_behind.nd (di_seq (dr_fro (de_var (i := 3) rfl (vis_by rfl) rfl rfl))) (blkOk_by (by kernel_rfl)) (fun _ _ _ _ _ => (dg_name (i := 14) sc_least_behind.nd rfl (loc_by rfl) (hf_by rfl))) (fun _ _ _ _ _ => (dts_one (dt_cmp (od_ne (Room.units hr)) rfl (de_var (i := 8) rfl (vis_by rfl) rfl rfl) (de_tup (da_cons de_str (da_cons (de_var (i := 14) rfl (vis_by rfl) rfl rfl) da_nil rfl) rfl)) no_tr))) (fun _ _ _ _ _ => (de_var (i := 14) rfl (vis_by rfl) rfl rfl)) (by decide) (fun _ => rfl))) rfl)) rfl (.inl rfl)) (dss_cons (ds_if (dt_cmp (od_eq (Room.units hr)) rfl (de_item (de_var (i := 8) rfl (vis_by rfl) rfl rfl) de_int no_tr (fun _ _ => rfl)) de_str no_tr) (dss_one (ds_set (i := 11) sc_least_behind.nd rfl (loc_by rfl) (dv_de (e_tuple rfl G.b_tuple (e_sorted (Room.units hr) rfl G.b_sorted (de_bin od_add (de_var (i := 11) rfl (vis_by rfl) rfl rfl) (de_tup (da_cons (de_item (de_var (i := 8) rfl (vis_by rfl) rfl rfl) de_int no_tr (fun _ _ => rfl)) da_nil rfl))) rfl) rfl)) rfl (.inl rfl))) dss_nil) (dss_cons (ds_asg (de_fn ih hr (by omega) rfl takesB (da_slot (i := 0) rfl (vis_by rfl) rfl rfl (da_slot (i := 9) rfl (vis_by rfl) rfl rfl (da_slot (i := 10) rfl (vis_by rfl) rfl rfl (da_slot (i := 11) rfl (vis_by rfl) rfl rfl (da_slot (i := 4) rfl (vis_by rfl) rfl rfl da_nil rfl) rfl) rfl) rfl) rfl) rfl rfl rfl) (dg_tup rfl (dgs_cons (dg_name (i := 12) sc_least_behind.nd rfl (loc_by rfl) (.inl rfl)) (dgs_cons (dg_name (i := 13) sc_least_behind.nd rfl (loc_by rfl) (.inl rfl)) dgs_nil rfl) rfl) rfl rfl) rfl rfl rfl) (dss_one (ds_expr (de_app (i := 6) rfl (vis_by rfl) rfl rfl (de_tup (da_cons (de_bin od_add (de_var (i := 12) rfl (vis_by rfl) rfl rfl) (e_abs rfl G.b_abs (de_bin od_sub (de_var (i := 9) rfl (vis_by rfl) rfl rfl) (de_var (i := 1) rfl (vis_by rfl) rfl rfl)) rfl)) (da_cons (de_bin od_add (de_tup (da_cons (de_var (i := 8) rfl (vis_by rfl) rfl rfl) da_nil rfl)) (de_var (i := 13) rfl (vis_by rfl) rfl rfl)) da_nil rfl) rfl)) rfl rfl rfl rfl) rfl))))))) (fun _ => rfl)) (dss_one (ds_mput (i := 4) (Room.units hr) G.hsh rfl (vis_by rfl) rfl rfl (de_var (i := 5) rfl (vis_by rfl) rfl rfl) (e_min rfl (Room.units hr) rfl G.b_min (de_cur (i := 6) rfl (vis_by rfl) rfl rfl) rfl) rfl)))))) dss_nil) (dss_one (ds_ret (dv_de (de_mget (i := 4) (Room.units hr) G.hsh rfl (vis_by rfl) rfl rfl (de_var (i := 5) rfl (vis_by rfl) rfl rfl) (fun _ _ => rfl))))))))
abbrev s_least_run : Stmt := top 13
abbrev n_least_run : List Str := ["lift"]
abbrev ps_least_run : List Str := ["lift"]
theorem sc_least_run : FnScope n_least_run ps_least_run (defScope s_least_run) := ⟨rfl, rfl, rfl, by decide +kernel, rfl, by decide +kernel, by decide +kernel⟩
noncomputable def b_least_run : EvS :=
  (retS (pureV (bin2 itemD (callVE 5 (F_least_behind 9) (consV (slotV 0) (consV (pureV (bin2 itemD (slotE 0) (constE (.int 0)))) (consV (pureV (rg1E .tuple (un1 lenD (bin2 itemD (slotE 0) (constE (.int 2)))))) (consV (pureV (tupE nilA)) (consV dict0M nilA)))))) (constE (.int 1)))))
noncomputable def F_least_run : FSem := runF n_least_run.length b_least_run
theorem w_least_run (G : Facts w K mg base c) : Cal P w K mg base 11 "least_run" (spD K c ps_least_run.length F_least_run) :=
  cal_of (k := 10) (body := b_least_run) G.d_least_run sc_least_run fun f cdv A outer s H E hr => (dss_one (ds_ret (dv_de (de_item (de_fnV (w_least_behind G 9) hr (by decide) rfl takesB (dva_cons (dv_slot (i := 0) rfl (vis_by rfl) rfl rfl) (dva_cons (dv_de (de_item (de_var (i := 0) rfl (vis_by rfl) rfl rfl) de_int no_tr (fun _ _ => rfl))) (dva_cons (dv_de (de_tupRg1 rfl rfl G.b_tuple rfl G.b_range (e_len rfl G.b_len (de_item (de_var (i := 0) rfl (vis_by rfl) rfl rfl) de_int no_tr (fun _ _ => rfl)) rfl) rfl rfl)) (dva_cons (dv_de (de_tup da_nil)) (dva_cons (dv_dict0M G.hsh) dva_nil rfl) rfl) rfl) rfl) rfl) rfl rfl rfl) de_int no_tr (fun _ _ => rfl)))))
abbrev s_least_travel : Stmt := top 14
abbrev n_least_travel : List Str := ["lift"]
abbrev ps_least_travel : List Str := ["lift"]
theorem sc_least_travel : FnScope n_least_travel ps_least_travel (defScope s_least_travel) := ⟨rfl, rfl, rfl, by decide +kernel, rfl, by decide +kernel, by decide +kernel⟩
noncomputable def b_least_travel : EvS :=
  (retS (pureV (callE 2 F_travel (consSlotA 0 (consA (callE 1 F_least_run (consSlotA 0 nilA)) nilA)))))
noncomputable def F_least_travel : FSem := runF n_least_travel.length b_least_travel
theorem w_least_travel (G : Facts w K mg base c) : Cal P w K mg base 12 "least_travel" (spD K c ps_least_travel.length F_least_travel) :=
  cal_of (k := 11) (body := b_least_travel) G.d_least_travel sc_least_travel fun f cdv A outer s H E hr => (dss_one (ds_ret (dv_de (de_fn (w_travel G) hr (by decide) rfl takesB (da_slot (i := 0) rfl (vis_by rfl) rfl rfl (da_cons (de_fn (w_least_run G) hr (by decide) rfl takesB (da_slot (i := 0) rfl (vis_by rfl) rfl rfl da_nil rfl) rfl rfl rfl) da_nil rfl) rfl) rfl rfl rfl))))
abbrev s__law_open : Stmt := top 16
abbrev n__law_open : List Str := ["script", "cells", "cell"]
abbrev ps__law_open : List Str := ["script"]
theorem sc__law_open : FnScope n__law_open ps__law_open (defScope s__law_open) := ⟨rfl, rfl, rfl, by decide +kernel, rfl, by decide +kernel, by decide +kernel⟩
noncomputable def b__law_open : EvS :=
  (seqS (setS 1 (pureV (lstOf (compC (seqI (froR (sliceE (curE 0) noneO (someO (constE (.int 63)))))) [2] (nameG 2) yesT (un1 absD (un1 intD (slotE 2))))))) 
    (retS (lstV (consA (constE (.int 0)) (consA (constE (.int 0)) (consA (bin2 addD (slotE 1) (lstE (consA (constE (.int 0)) nilA))) nilA))))))
noncomputable def F__law_open : FSem := runN n__law_open.length b__law_open
theorem w__law_open (G : Facts w K mg base c) : Cal P w K mg base 1 "_law_open" (spN K c ps__law_open.length F__law_open) :=
  cal_ofN (k := 0) (body := b__law_open) G.d__law_open sc__law_open fun f cdv A outer s H E hr => (dss_cons (ds_setLc (i := 1) [("cell", 2)] rfl sc__law_open.nd rfl rfl (sw_true rfl rfl rfl rfl) (di_seq (dr_fro (de_slice (de_cur (i := 0) rfl (vis_by rfl) rfl rfl) oe_none (oe_some de_int)))) (blkOk_by (by kernel_rfl)) (fun _ _ _ _ _ => (dg_name (i := 2) sc__law_open.nd rfl (loc_by rfl) (hf_by rfl))) (fun _ _ _ _ _ => dts_nil) (fun _ _ _ _ _ => (e_abs rfl G.b_abs (e_int rfl G.b_int (de_var (i := 2) rfl (vis_by rfl) rfl rfl) rfl) rfl)) (by decide) (fun _ => rfl) (fun B as σ H s Q sr hw => wants_pure sr hw)) (dss_one (ds_ret (dv_lst (da_cons de_int (da_cons de_int (da_cons (de_bin od_add (de_var (i := 1) rfl (vis_by rfl) rfl rfl) (de_lst (da_cons de_int da_nil rfl))) da_nil rfl) rfl) rfl)))))
abbrev s__law_mixed : Stmt := top 17
abbrev n__law_mixed : List Str := ["cell", "turn", "number"]
abbrev ps__law_mixed : List Str := ["cell", "turn"]
theorem sc__law_mixed : FnScope n__law_mixed ps__law_mixed (defScope s__law_mixed) := ⟨rfl, rfl, rfl, by decide +kernel, rfl, by decide +kernel, by decide +kernel⟩
noncomputable def b__law_mixed : EvS :=
  (seqS (setS 2 (pureV (bin2 modD (bin2 addD (bin2 addD (bin2 mulD (bin2 modD (slotE 0) (bin2 subD (bin2 powD (constE (.int 2)) (constE (.int 61))) (constE (.int 1)))) (constE (.int 6364136223846793005))) (bin2 mulD (slotE 1) (constE (.int 1442695040888963407)))) (constE (.int 97))) (bin2 powD (constE (.int 2)) (constE (.int 61)))))) 
    (seqS (setS 2 (pureV (bin2 modD (bin2 mulD (bin2 xorD (slotE 2) (bin2 shrD (slotE 2) (constE (.int 29)))) (constE (.int 3935559000370003845))) (bin2 powD (constE (.int 2)) (constE (.int 61)))))) 
    (retS (pureV (bin2 modD (bin2 mulD (bin2 xorD (slotE 2) (bin2 shrD (slotE 2) (constE (.int 31)))) (constE (.int 2862933555777941757))) (bin2 powD (constE (.int 2)) (constE (.int 61))))))))
noncomputable def F__law_mixed : FSem := runF n__law_mixed.length b__law_mixed
theorem w__law_mixed (G : Facts w K mg base c) : Cal P w K mg base 1 "_law_mixed" (spD K c ps__law_mixed.length F__law_mixed) :=
  cal_of (k := 0) (body := b__law_mixed) G.d__law_mixed sc__law_mixed fun f cdv A outer s H E hr => (dss_cons (ds_set (i := 2) sc__law_mixed.nd rfl (loc_by rfl) (dv_de (de_bin od_mod (de_bin od_add (de_bin od_add (de_bin od_mul (de_bin od_mod (de_var (i := 0) rfl (vis_by rfl) rfl rfl) (de_bin od_sub (de_bin od_pow de_int de_int) de_int)) de_int) (de_bin od_mul (de_var (i := 1) rfl (vis_by rfl) rfl rfl) de_int)) de_int) (de_bin od_pow de_int de_int))) rfl (.inl rfl)) (dss_cons (ds_set (i := 2) sc__law_mixed.nd rfl (loc_by rfl) (dv_de (de_bin od_mod (de_bin od_mul (de_bin od_xor (de_var (i := 2) rfl (vis_by rfl) rfl rfl) (de_bin od_shr (de_var (i := 2) rfl (vis_by rfl) rfl rfl) de_int)) de_int) (de_bin od_pow de_int de_int))) rfl (.inl rfl)) (dss_one (ds_ret (dv_de (de_bin od_mod (de_bin od_mul (de_bin od_xor (de_var (i := 2) rfl (vis_by rfl) rfl rfl) (de_bin od_shr (de_var (i := 2) rfl (vis_by rfl) rfl rfl) de_int)) de_int) (de_bin od_pow de_int de_int)))))))
abbrev s__law_draw : Stmt := top 18
abbrev n__law_draw : List Str := ["draws", "size", "turn", "left", "cells", "cell"]
abbrev ps__law_draw : List Str := ["draws", "size"]
theorem sc__law_draw : FnScope n__law_draw ps__law_draw (defScope s__law_draw) := ⟨rfl, rfl, rfl, by decide +kernel, rfl, by decide +kernel, by decide +kernel⟩
noncomputable def b__law_draw : EvS :=
  (seqS (unlS 3 (curE 0) (consG (nameG 2) (consG (nameG 3) (consG (nameG 4) nilG)))) 
    (seqS (ifS (cmpT ltD (slotE 3) (slotE 1)) (seqS (setS 5 (pureV (bin2 itemD (slotE 4) (bin2 modD (slotE 2) (un1 lenD (slotE 4)))))) 
    (seqS (setS 3 (pureV (iteE (andT (cmpT ltD (slotE 2) (un1 lenD (slotE 4))) (cmpT geD (slotE 5) (bin2 powD (constE (.int 10)) (constE (.int 18))))) (slotE 5) (callE 2 F__law_mixed (consSlotA 5 (consSlotA 2 nilA)))))) 
    (setS 2 (pureV (bin2 addD (slotE 2) (constE (.int 1))))))) nilS) 
    (seqS (stoS 0 (constE (.int 0)) (slotE 2)) 
    (seqS (stoS 0 (constE (.int 1)) (bin2 fdivD (slotE 3) (slotE 1))) 
    (retS (pureV (bin2 modD (slotE 3) (slotE 1))))))))
noncomputable def F__law_draw : FSem := runF n__law_draw.length b__law_draw
theorem w__law_draw (G : Facts w K mg base c) : Cal P w K mg base 2 "_law_draw" (spD K c ps__law_draw.length F__law_draw) :=
  cal_of (k := 1) (body := b__law_draw) G.d__law_draw sc__law_draw fun f cdv A outer s H E hr => (dss_cons (ds_unl rfl (de_cur (i := 0) rfl (vis_by rfl) rfl rfl) (dgs_cons (dg_name (i := 2) sc__law_draw.nd rfl (loc_by rfl) (.inl rfl)) (dgs_cons (dg_name (i := 3) sc__law_draw.nd rfl (loc_by rfl) (.inl rfl)) (dgs_cons (dg_name (i := 4) sc__law_draw.nd rfl (loc_by rfl) (.inl rfl)) dgs_nil rfl) rfl) rfl) rfl rfl rfl rfl rfl) (dss_cons (ds_if (dt_cmp (od_lt (Room.units hr)) rfl (de_var (i := 3) rfl (vis_by rfl) rfl rfl) (de_var (i := 1) rfl (vis_by rfl) rfl rfl) no_tr) (dss_cons (ds_set (i := 5) sc__law_draw.nd rfl (loc_by rfl) (dv_de (de_item (de_var (i := 4) rfl (vis_by rfl) rfl rfl) (de_bin od_mod (de_var (i := 2) rfl (vis_by rfl) rfl rfl) (e_len rfl G.b_len (de_var (i := 4) rfl (vis_by rfl) rfl rfl) rfl)) no_tr (fun _ _ => rfl))) rfl (.inl rfl)) (dss_cons (ds_set (i := 3) sc__law_draw.nd rfl (loc_by rfl) (dv_de (de_ite (DW.dt (dw_and (dt_cmp (od_lt (Room.units hr)) rfl (de_var (i := 2) rfl (vis_by rfl) rfl rfl) (e_len rfl G.b_len (de_var (i := 4) rfl (vis_by rfl) rfl rfl) rfl) no_tr) (dw_and1 (dt_cmp (od_ge (Room.units hr)) rfl (de_var (i := 5) rfl (vis_by rfl) rfl rfl) (de_bin od_pow de_int de_int) no_tr)))) (de_var (i := 5) rfl (vis_by rfl) rfl rfl) (de_fn (w__law_mixed G) hr (by decide) rfl takesB (da_slot (i := 5) rfl (vis_by rfl) rfl rfl (da_slot (i := 2) rfl (vis_by rfl) rfl rfl da_nil rfl) rfl) rfl rfl rfl))) rfl (.inl rfl)) (dss_one (ds_set (i := 2) sc__law_draw.nd rfl (loc_by rfl) (dv_de (de_bin od_add (de_var (i := 2) rfl (vis_by rfl) rfl rfl) de_int)) rfl (.inl rfl))))) dss_nil) (dss_cons (ds_sto (i := 0) rfl (vis_by rfl) rfl rfl de_int (de_var (i := 2) rfl (vis_by rfl) rfl rfl) (fun _ => rfl) rfl rfl rfl) (dss_cons (ds_sto (i := 0) rfl (vis_by rfl) rfl rfl de_int (de_bin od_fdiv (de_var (i := 3) rfl (vis_by rfl) rfl rfl) (de_var (i := 1) rfl (vis_by rfl) rfl rfl)) (fun _ => rfl) rfl rfl rfl) (dss_one (ds_ret (dv_de (de_bin od_mod (de_var (i := 3) rfl (vis_by rfl) rfl rfl) (de_var (i := 1) rfl (vis_by rfl) rfl rfl)))))))))
abbrev s__law_int : Stmt := top 19
abbrev n__law_int : List Str := ["value"]
abbrev ps__law_int : List Str := ["value"]
theorem sc__law_int : FnScope n__law_int ps__law_int (defScope s__law_int) := ⟨rfl, rfl, rfl, by decide +kernel, rfl, by decide +kernel, by decide +kernel⟩
noncomputable def b__law_int : EvS :=
  (retS (pureV (andE (isiE .int (slotE 0)) (notE (isiE .bool (slotE 0))))))
noncomputable def F__law_int : FSem := runF n__law_int.length b__law_int
theorem w__law_int (G : Facts w K mg base c) : Cal P w K mg base 1 "_law_int" (spD K c ps__law_int.length F__law_int) :=
  cal_of (k := 0) (body := b__law_int) G.d__law_int sc__law_int fun f cdv A outer s H E hr => (dss_one (ds_ret (dv_de (de_and (i_int rfl G.b_isinstance rfl G.b_int (de_var (i := 0) rfl (vis_by rfl) rfl rfl) rfl) (de_one (de_not (i_bool rfl G.b_isinstance rfl G.b_bool (de_var (i := 0) rfl (vis_by rfl) rfl rfl) rfl)))))))
abbrev s__law_same : Stmt := top 20
abbrev n__law_same : List Str := ["told", "due"]
abbrev ps__law_same : List Str := ["told", "due"]
theorem sc__law_same : FnScope n__law_same ps__law_same (defScope s__law_same) := ⟨rfl, rfl, rfl, by decide +kernel, rfl, by decide +kernel, by decide +kernel⟩
noncomputable def b__law_same : EvS :=
  (retS (pureV (iteE (valT (slotE 1)) (bin2 isD (slotE 0) (constE (.bool true))) (bin2 isD (slotE 0) (constE (.bool false))))))
noncomputable def F__law_same : FSem := runF n__law_same.length b__law_same
theorem w__law_same (G : Facts w K mg base c) : Cal P w K mg base 1 "_law_same" (spD K c ps__law_same.length F__law_same) :=
  cal_of (k := 0) (body := b__law_same) G.d__law_same sc__law_same fun f cdv A outer s H E hr => (dss_one (ds_ret (dv_de (de_ite (dt_val (de_var (i := 1) rfl (vis_by rfl) rfl rfl) (fun _ => rfl)) (de_cmp od_is rfl (de_var (i := 0) rfl (vis_by rfl) rfl rfl) de_bool no_tr) (de_cmp od_is rfl (de_var (i := 0) rfl (vis_by rfl) rfl rfl) de_bool no_tr)))))
abbrev s__law_lift : Stmt := top 21
abbrev n__law_lift : List Str := ["draws", "wide", "calls", "k", "one", "other"]
abbrev ps__law_lift : List Str := ["draws"]
theorem sc__law_lift : FnScope n__law_lift ps__law_lift (defScope s__law_lift) := ⟨rfl, rfl, rfl, by decide +kernel, rfl, by decide +kernel, by decide +kernel⟩
noncomputable def b__law_lift : EvS :=
  (seqS (setS 1 (pureV (bin2 itemD (lstE (consA (constE (.int 4)) (consA (constE (.int 8)) (consA (constE (.int 21)) nilA)))) (callE 2 F__law_draw (consSlotA 0 (consA (constE (.int 3)) nilA)))))) 
    (seqS (setS 2 (lstV nilA)) 
    (seqS (forS (range1I (callE 2 F__law_draw (consSlotA 0 (consA (constE (.int 5)) nilA)))) (nameG 3) (seqS (parS 4 5 (consV (pureV (callE 2 F__law_draw (consSlotA 0 (consSlotA 1 nilA)))) (consV (pureV (callE 2 F__law_draw (consSlotA 0 (consSlotA 1 nilA)))) nilA))) 
    (ifS (cmpT neD (slotE 4) (slotE 5)) (dropS (appE 2 (iteE (cmpT gtD (callE 2 F__law_draw (consSlotA 0 (consA (constE (.int 3)) nilA))) (constE (.int 0))) (tupE (consA (slotE 4) (consA (slotE 5) nilA))) (tupE (consA (bin2 min2D (slotE 4) (slotE 5)) (consA (bin2 max2D (slotE 4) (slotE 5)) nilA)))))) nilS)) [3, 4, 5]) 
    (retS (pureV (tupE (consA (callE 2 F__law_draw (consSlotA 0 (consSlotA 1 nilA))) (consA (bin2 addD (constE (.int 1)) (callE 2 F__law_draw (consSlotA 0 (consA (constE (.int 3)) nilA)))) (consA (un1 tupleD (sliceE (curE 2) noneO (someO (constE (.int 4))))) nilA)))))))))
noncomputable def F__law_lift : FSem := runF n__law_lift.length b__law_lift
theorem w__law_lift (G : Facts w K mg base c) : Cal P w K mg base 3 "_law_lift" (spD K c ps__law_lift.length F__law_lift) :=
  cal_of (k := 2) (body := b__law_lift) G.d__law_lift sc__law_lift fun f cdv A outer s H E hr => (dss_cons (ds_set (i := 1) sc__law_lift.nd rfl (loc_by rfl) (dv_de (de_item (de_lst (da_cons de_int (da_cons de_int (da_cons de_int da_nil rfl) rfl) rfl)) (de_fn (w__law_draw G) hr (by decide) rfl takesB (da_slot (i := 0) rfl (vis_by rfl) rfl rfl (da_cons de_int da_nil rfl) rfl) rfl rfl rfl) no_tr (fun _ _ => rfl))) rfl (.inl rfl)) (dss_cons (ds_set (i := 2) sc__law_lift.nd rfl (loc_by rfl) (dv_lst da_nil) rfl (.inl rfl)) (dss_cons (ds_for [3, 4, 5] passesB rfl (di_range1 rfl G.b_range (de_fn (w__law_draw G) hr (by decide) rfl takesB (da_slot (i := 0) rfl (vis_by rfl) rfl rfl (da_cons de_int da_nil rfl) rfl) rfl rfl rfl) rfl) (dg_name (i := 3) sc__law_lift.nd rfl (loc_by rfl) (.inl rfl)) (dss_cons (ds_par (i := 4) (j := 5) rfl sc__law_lift.nd rfl rfl (by decide) rfl rfl (dva_cons (dv_de (de_fn (w__law_draw G) hr (by decide) rfl takesB (da_slot (i := 0) rfl (vis_by rfl) rfl rfl (da_slot (i := 1) rfl (vis_by rfl) rfl rfl da_nil rfl) rfl) rfl rfl rfl)) (dva_cons (dv_de (de_fn (w__law_draw G) hr (by decide) rfl takesB (da_slot (i := 0) rfl (vis_by rfl) rfl rfl (da_slot (i := 1) rfl (vis_by rfl) rfl rfl da_nil rfl) rfl) rfl rfl rfl)) dva_nil rfl) rfl) rfl rfl) (dss_one (ds_if (dt_cmp (od_ne (Room.units hr)) rfl (de_var (i := 4) rfl (vis_by rfl) rfl rfl) (de_var (i := 5) rfl (vis_by rfl) rfl rfl) no_tr) (dss_one (ds_expr (de_app (i := 2) rfl (vis_by rfl) rfl rfl (de_ite (dt_cmp (od_gt (Room.units hr)) rfl (de_fn (w__law_draw G) hr (by decide) rfl takesB (da_slot (i := 0) rfl (vis_by rfl) rfl rfl (da_cons de_int da_nil rfl) rfl) rfl rfl rfl) de_int no_tr) (de_tup (da_cons (de_var (i := 4) rfl (vis_by rfl) rfl rfl) (da_cons (de_var (i := 5) rfl (vis_by rfl) rfl rfl) da_nil rfl) rfl)) (de_tup (da_cons (e_min2 rfl rfl G.b_min (de_var (i := 4) rfl (vis_by rfl) rfl rfl) (de_var (i := 5) rfl (vis_by rfl) rfl rfl) rfl rfl) (da_cons (e_max2 rfl rfl G.b_max (de_var (i := 4) rfl (vis_by rfl) rfl rfl) (de_var (i := 5) rfl (vis_by rfl) rfl rfl) rfl rfl) da_nil rfl) rfl))) rfl rfl rfl rfl) rfl)) dss_nil))) (fun _ => rfl)) (dss_one (ds_ret (dv_de (de_tup (da_cons (de_fn (w__law_draw G) hr (by decide) rfl takesB (da_slot (i := 0) rfl (vis_by rfl) rfl rfl (da_slot (i := 1) rfl (vis_by rfl) rfl rfl da_nil rfl) rfl) rfl rfl rfl) (da_cons (de_bin od_add de_int (de_fn (w__law_draw G) hr (by decide) rfl takesB (da_slot (i := 0) rfl (vis_by rfl) rfl rfl (da_cons de_int da_nil rfl) rfl) rfl rfl rfl)) (da_cons (e_tuple rfl G.b_tuple (de_slice (de_cur (i := 2) rfl (vis_by rfl) rfl rfl) oe_none (oe_some de_int)) rfl) da_nil rfl) rfl) rfl))))))))
abbrev s__law_runs : Stmt := top 22
abbrev n__law_runs : List Str := ["lift", "waiting", "within", "told", "k", "row", "one"]
abbrev ps__law_runs : List Str := ["lift", "waiting", "within"]
theorem sc__law_runs : FnScope n__law_runs ps__law_runs (defScope s__law_runs) := ⟨rfl, rfl, rfl, by decide +kernel, rfl, by decide +kernel, by decide +kernel⟩
noncomputable def b__law_runs (Fr : FSem) : EvS :=
  (seqS (ifS (andT (cmpT eqD (slotE 1) (lstE nilA)) (cmpT eqD (slotE 2) (lstE nilA))) (retS (pureV (lstE (consA (tupE nilA) nilA)))) nilS) 
    (seqS (setS 3 (pureV (lstE nilA))) 
    (seqS (forS (seqI (froR (slotE 1))) (nameG 4) (ifS (cmpT ltD (un1 lenD (slotE 2)) (bin2 itemD (slotE 0) (constE (.int 1)))) (setS 3 (pureV (bin2 addD (slotE 3) (lstOf (compC (seqI (froR (callE 3 Fr (consSlotA 0 (consA (lstOf (compC (seqI (froR (slotE 1))) [6] (nameG 6) (cmpT neD (slotE 6) (slotE 4)) (slotE 6))) (consA (bin2 addD (slotE 2) (lstE (consA (slotE 4) nilA))) nilA)))))) [5] (nameG 5) yesT (bin2 addD (tupE (consA (tupE (consA (constE (.str "in")) (consA (slotE 4) nilA))) nilA)) (slotE 5))))))) nilS) [4]) 
    (seqS (forS (seqI (froR (slotE 2))) (nameG 4) (setS 3 (pureV (bin2 addD (slotE 3) (lstOf (compC (seqI (froR (callE 3 Fr (consSlotA 0 (consSlotA 1 (consA (lstOf (compC (seqI (froR (slotE 2))) [6] (nameG 6) (cmpT neD (slotE 6) (slotE 4)) (slotE 6))) nilA)))))) [5] (nameG 5) yesT (bin2 addD (tupE (consA (tupE (consA (constE (.str "out")) (consA (slotE 4) nilA))) nilA)) (slotE 5))))))) [4]) 
    (retS (slotV 3))))))
noncomputable def F__law_runs : Nat → FSem
  | 0 => stuckF
  | d + 1 => runF n__law_runs.length (b__law_runs (F__law_runs d))
theorem w__law_runs (G : Facts w K mg base c) : ∀ d : Nat, Cal P w K mg base (d + 1) "_law_runs" (spD K c ps__law_runs.length (F__law_runs d))
  | 0 => (cal_never G.d__law_runs sc__law_runs).mono (by omega)
  | d + 1 => by
    have ih := w__law_runs G d
    exact cal_of (k := d + 1) (body := b__law_runs (F__law_runs d)) G.d__law_runs sc__law_runs fun f cdv A outer s H E hr => (dss_cons (ds_if (DW.dt (dw_and (dt_cmp (od_eq (Room.units hr)) rfl (de_var (i := 1) rfl (vis_by rfl) rfl rfl) (de_lst da_nil) no_tr) (dw_and1 (dt_cmp (od_eq (Room.units hr)) rfl (de_var (i := 2) rfl (vis_by rfl) rfl rfl) (de_lst da_nil) no_tr)))) (dss_one (ds_ret (dv_de (de_lst (da_cons (de_tup da_nil) da_nil rfl))))) dss_nil) (dss_cons (ds_set (i := 3) sc__law_runs.nd rfl (loc_by rfl) (dv_de (de_lst da_nil)) rfl (.inl rfl)) (dss_cons (ds_for [4] passesB rfl (di_seq (dr_fro (de_var (i := 1) rfl (vis_by rfl) rfl rfl))) (dg_name (i := 4) sc__law_runs.nd rfl (loc_by rfl) (.inl rfl)) (dss_one (ds_if (dt_cmp (od_lt (Room.units hr)) rfl (e_len rfl G.b_len (de_var (i := 2) rfl (vis_by rfl) rfl rfl) rfl) (de_item (de_var (i := 0) rfl (vis_by rfl) rfl rfl) de_int no_tr (fun _ _ => rfl)) no_tr) (dss_one (ds_set (i := 3) sc__law_runs.nd rfl (loc_by rfl) (dv_de (de_bin od_add (de_var (i := 3) rfl (vis_by rfl) rfl rfl) (de_c (dc_lc [("row", 5)] rfl sc__law_runs.nd (di_seq (dr_fro (de_fn ih hr (by omega) rfl takesB (da_slot (i := 0) rfl (vis_by rfl) rfl rfl (da_cons (de_c (dc_lc [("one", 6)] rfl sc__law_runs.nd (di_seq (dr_fro (de_var (i := 1) rfl (vis_by rfl) rfl rfl))) (blkOk_by (by kernel_rfl)) (fun _ _ _ _ _ => (dg_name (i := 6) sc__law_runs.nd rfl (loc_by rfl) (hf_by rfl))) (fun _ _ _ _ _ => (dts_one (dt_cmp (od_ne (Room.units hr)) rfl (de_var (i := 6) rfl (vis_by rfl) rfl rfl) (de_var (i := 4) rfl (vis_by rfl) rfl rfl) no_tr))) (fun _ _ _ _ _ => (de_var (i := 6) rfl (vis_by rfl) rfl rfl)) (by decide) (fun _ => rfl))) (da_cons (de_bin od_add (de_var (i := 2) rfl (vis_by rfl) rfl rfl) (de_lst (da_cons (de_var (i := 4) rfl (vis_by rfl) rfl rfl) da_nil rfl))) da_nil rfl) rfl) rfl) rfl rfl rfl))) (blkOk_by (by kernel_rfl)) (fun _ _ _ _ _ => (dg_name (i := 5) sc__law_runs.nd rfl (loc_by rfl) (hf_by rfl))) (fun _ _ _ _ _ => dts_nil) (fun _ _ _ _ _ => (de_bin od_add (de_tup (da_cons (de_tup (da_cons de_str (da_cons (de_var (i := 4) rfl (vis_by rfl) rfl rfl) da_nil rfl) rfl)) da_nil rfl)) (de_var (i := 5) rfl (vis_by rfl) rfl rfl))) (by decide) (fun _ => rfl))))) rfl (.inl rfl))) dss_nil)) (fun _ => rfl)) (dss_cons (ds_for [4] passesB rfl (di_seq (dr_fro (de_var (i := 2) rfl (vis_by rfl) rfl rfl))) (dg_name (i := 4) sc__law_runs.nd rfl (loc_by rfl) (.inl rfl)) (dss_one (ds_set (i := 3) sc__law_runs.nd rfl (loc_by rfl) (dv_de (de_bin od_add (de_var (i := 3) rfl (vis_by rfl) rfl rfl) (de_c (dc_lc [("row", 5)] rfl sc__law_runs.nd (di_seq (dr_fro (de_fn ih hr (by omega) rfl takesB (da_slot (i := 0) rfl (vis_by rfl) rfl rfl (da_slot (i := 1) rfl (vis_by rfl) rfl rfl (da_cons (de_c (dc_lc [("one", 6)] rfl sc__law_runs.nd (di_seq (dr_fro (de_var (i := 2) rfl (vis_by rfl) rfl rfl))) (blkOk_by (by kernel_rfl)) (fun _ _ _ _ _ => (dg_name (i := 6) sc__law_runs.nd rfl (loc_by rfl) (hf_by rfl))) (fun _ _ _ _ _ => (dts_one (dt_cmp (od_ne (Room.units hr)) rfl (de_var (i := 6) rfl (vis_by rfl) rfl rfl) (de_var (i := 4) rfl (vis_by rfl) rfl rfl) no_tr))) (fun _ _ _ _ _ => (de_var (i := 6) rfl (vis_by rfl) rfl rfl)) (by decide) (fun _ => rfl))) da_nil rfl) rfl) rfl) rfl rfl rfl))) (blkOk_by (by kernel_rfl)) (fun _ _ _ _ _ => (dg_name (i := 5) sc__law_runs.nd rfl (loc_by rfl) (hf_by rfl))) (fun _ _ _ _ _ => dts_nil) (fun _ _ _ _ _ => (de_bin od_add (de_tup (da_cons (de_tup (da_cons de_str (da_cons (de_var (i := 4) rfl (vis_by rfl) rfl rfl) da_nil rfl) rfl)) da_nil rfl)) (de_var (i := 5) rfl (vis_by rfl) rfl rfl))) (by decide) (fun _ => rfl))))) rfl (.inl rfl))) (fun _ => rfl)) (dss_one (ds_ret (dv_slot (i := 3) rfl (vis_by rfl) rfl rfl)))))))
abbrev s__law_travel : Stmt := top 23
abbrev n__law_travel : List Str := ["lift", "run", "floor", "told", "word", "k", "later"]
abbrev ps__law_travel : List Str := ["lift", "run"]
theorem sc__law_travel : FnScope n__law_travel ps__law_travel (defScope s__law_travel) := ⟨rfl, rfl, rfl, by decide +kernel, rfl, by decide +kernel, by decide +kernel⟩
noncomputable def b__law_travel : EvS :=
  (seqS (parS 2 3 (consV (pureV (bin2 itemD (slotE 0) (constE (.int 0)))) (consV (pureV (constE (.int 0))) nilA))) 
    (seqS (forS (seqI (froR (slotE 1))) (tupG 2 (consG (nameG 4) (consG (nameG 5) nilG))) (seqS (setS 6 (pureV (bin2 itemD (bin2 itemD (bin2 itemD (slotE 0) (constE (.int 2))) (slotE 5)) (iteE (cmpT eqD (slotE 4) (constE (.str "in"))) (constE (.int 0)) (constE (.int 1)))))) 
    (seqS (augS 3 iaddD (un1 absD (bin2 subD (slotE 6) (slotE 2)))) 
    (setS 2 (slotV 6)))) [4, 5, 6]) 
    (retS (slotV 3))))
noncomputable def F__law_travel : FSem := runF n__law_travel.length b__law_travel
theorem w__law_travel (G : Facts w K mg base c) : Cal P w K mg base 1 "_law_travel" (spD K c ps__law_travel.length F__law_travel) :=
  cal_of (k := 0) (body := b__law_travel) G.d__law_travel sc__law_travel fun f cdv A outer s H E hr => (dss_cons (ds_par (i := 2) (j := 3) rfl sc__law_travel.nd rfl rfl (by decide) rfl rfl (dva_cons (dv_de (de_item (de_var (i := 0) rfl (vis_by rfl) rfl rfl) de_int no_tr (fun _ _ => rfl))) (dva_cons (dv_de de_int) dva_nil rfl) rfl) rfl rfl) (dss_cons (ds_for [4, 5, 6] passesB rfl (di_seq (dr_fro (de_var (i := 1) rfl (vis_by rfl) rfl rfl))) (dg_tup rfl (dgs_cons (dg_name (i := 4) sc__law_travel.nd rfl (loc_by rfl) (.inl rfl)) (dgs_cons (dg_name (i := 5) sc__law_travel.nd rfl (loc_by rfl) (.inl rfl)) dgs_nil rfl) rfl) rfl rfl) (dss_cons (ds_set (i := 6) sc__law_travel.nd rfl (loc_by rfl) (dv_de (de_item (de_item (de_item (de_var (i := 0) rfl (vis_by rfl) rfl rfl) de_int no_tr (fun _ _ => rfl)) (de_var (i := 5) rfl (vis_by rfl) rfl rfl) no_tr (fun _ _ => rfl)) (de_ite (dt_cmp (od_eq (Room.units hr)) rfl (de_var (i := 4) rfl (vis_by rfl) rfl rfl) de_str no_tr) de_int de_int) no_tr (fun _ _ => rfl))) rfl (.inl rfl)) (dss_cons (ds_aug (i := 3) sc__law_travel.nd rfl (loc_by rfl) (e_abs rfl G.b_abs (de_bin od_sub (de_var (i := 6) rfl (vis_by rfl) rfl rfl) (de_var (i := 2) rfl (vis_by rfl) rfl rfl)) rfl) id_add (.inl rfl)) (dss_one (ds_set (i := 2) sc__law_travel.nd rfl (loc_by rfl) (dv_slot (i := 6) rfl (vis_by rfl) rfl rfl) rfl (.inl rfl))))) (fun _ => rfl)) (dss_one (ds_ret (dv_slot (i := 3) rfl (vis_by rfl) rfl rfl)))))
abbrev s__law_is_run : Stmt := top 24
abbrev n__law_is_run : List Str := ["lift", "value", "within", "done", "deed", "one"]
abbrev ps__law_is_run : List Str := ["lift", "value"]
theorem sc__law_is_run : FnScope n__law_is_run ps__law_is_run (defScope s__law_is_run) := ⟨rfl, rfl, rfl, by decide +kernel, rfl, by decide +kernel, by decide +kernel⟩
noncomputable def b__law_is_run : EvS :=
  (seqS (ifS (orT (notT (valT (isiE .tuple (slotE 1)))) (cmpT neD (un1 lenD (slotE 1)) (bin2 mulD (constE (.int 2)) (un1 lenD (bin2 itemD (slotE 0) (constE (.int 2))))))) (retS (pureV (constE (.bool false)))) nilS) 
    (seqS (parS 2 3 (consV (pureV (lstE nilA)) (consV (pureV (lstE nilA)) nilA))) 
    (seqS (forS (seqI (froR (slotE 1))) (nameG 4) (seqS (ifS (orT (notT (valT (isiE .tuple (slotE 4)))) (orT (cmpT neD (un1 lenD (slotE 4)) (constE (.int 2))) (orT (notT (valT (isiE .str (bin2 itemD (slotE 4) (constE (.int 0)))))) (orT (cmpT notInD (bin2 itemD (slotE 4) (constE (.int 0))) (tupE (consA (constE (.str "in")) (consA (constE (.str "out")) nilA)))) (orT (notT (valT (callE 1 F__law_int (consA (bin2 itemD (slotE 4) (constE (.int 1))) nilA)))) (notT (valT (chain2 leD ltD (constE (.int 0)) (bin2 itemD (slotE 4) (constE (.int 1))) (un1 lenD (bin2 itemD (slotE 0) (constE (.int 2)))))))))))) (retS (pureV (constE (.bool false)))) nilS) 
    (seqS (ifS (orT (andT (cmpT eqD (bin2 itemD (slotE 4) (constE (.int 0))) (constE (.str "in"))) (orT (cmpT inD (bin2 itemD (slotE 4) (constE (.int 1))) (bin2 addD (slotE 2) (slotE 3))) (cmpT eqD (un1 lenD (slotE 2)) (bin2 itemD (slotE 0) (constE (.int 1)))))) (andT (cmpT eqD (bin2 itemD (slotE 4) (constE (.int 0))) (constE (.str "out"))) (cmpT notInD (bin2 itemD (slotE 4) (constE (.int 1))) (slotE 2)))) (retS (pureV (constE (.bool false)))) nilS) 
    (ifS (cmpT eqD (bin2 itemD (slotE 4) (constE (.int 0))) (constE (.str "in"))) (setS 2 (pureV (bin2 addD (slotE 2) (lstE (consA (bin2 itemD (slotE 4) (constE (.int 1))) nilA))))) (seqS (setS 2 (pureV (lstOf (compC (seqI (froR (slotE 2))) [5] (nameG 5) (cmpT neD (slotE 5) (bin2 itemD (slotE 4) (constE (.int 1)))) (slotE 5))))) 
    (setS 3 (pureV (bin2 addD (slotE 3) (lstE (consA (bin2 itemD (slotE 4) (constE (.int 1))) nilA))))))))) [4]) 
    (retS (pureV (constE (.bool true)))))))
noncomputable def F__law_is_run : FSem := runF n__law_is_run.length b__law_is_run
theorem w__law_is_run (G : Facts w K mg base c) : Cal P w K mg base 2 "_law_is_run" (spD K c ps__law_is_run.length F__law_is_run) :=
  cal_of (k := 1) (body := b__law_is_run) G.d__law_is_run sc__law_is_run fun f cdv A outer s H E hr => (dss_cons (ds_if (DW.dt (dw_or (dt_not (dt_val (i_tuple rfl G.b_isinstance rfl G.b_tuple (de_var (i := 1) rfl (vis_by rfl) rfl rfl) rfl) (fun _ => rfl))) (dw_or1 (dt_cmp (od_ne (Room.units hr)) rfl (e_len rfl G.b_len (de_var (i := 1) rfl (vis_by rfl) rfl rfl) rfl) (de_bin od_mul de_int (e_len rfl G.b_len (de_item (de_var (i := 0) rfl (vis_by rfl) rfl rfl) de_int no_tr (fun _ _ => rfl)) rfl)) no_tr)))) (dss_one (ds_ret (dv_de de_bool))) dss_nil) (dss_cons (ds_par (i := 2) (j := 3) rfl sc__law_is_run.nd rfl rfl (by decide) rfl rfl (dva_cons (dv_de (de_lst da_nil)) (dva_cons (dv_de (de_lst da_nil)) dva_nil rfl) rfl) rfl rfl) (dss_cons (ds_for [4] passesB rfl (di_seq (dr_fro (de_var (i := 1) rfl (vis_by rfl) rfl rfl))) (dg_name (i := 4) sc__law_is_run.nd rfl (loc_by rfl) (.inl rfl)) (dss_cons (ds_if (DW.dt (dw_or (dt_not (dt_val (i_tuple rfl G.b_isinstance rfl G.b_tuple (de_var (i := 4) rfl (vis_by rfl) rfl rfl) rfl) (fun _ => rfl))) (dw_or (dt_cmp (od_ne (Room.units hr)) rfl (e_len rfl G.b_len (de_var (i := 4) rfl (vis_by rfl) rfl rfl) rfl) de_int no_tr) (dw_or (dt_not (dt_val (i_str rfl G.b_isinstance rfl G.b_str (de_item (de_var (i := 4) rfl (vis_by rfl) rfl rfl) de_int no_tr (fun _ _ => rfl)) rfl) (fun _ => rfl))) (dw_or (dt_cmp (od_notIn (Room.units hr)) rfl (de_item (de_var (i := 4) rfl (vis_by rfl) rfl rfl) de_int no_tr (fun _ _ => rfl)) (de_tup (da_cons de_str (da_cons de_str da_nil rfl) rfl)) no_tr) (dw_or (dt_not (dt_val (de_fn (w__law_int G) hr (by decide) rfl takesB (da_cons (de_item (de_var (i := 4) rfl (vis_by rfl) rfl rfl) de_int no_tr (fun _ _ => rfl)) da_nil rfl) rfl rfl rfl) (fun _ => rfl))) (dw_or1 (dt_not (dt_chain (od_le (Room.units hr)) (od_lt (Room.units hr)) rfl de_int (de_item (de_var (i := 4) rfl (vis_by rfl) rfl rfl) de_int no_tr (fun _ _ => rfl)) (e_len rfl G.b_len (de_item (de_var (i := 0) rfl (vis_by rfl) rfl rfl) de_int no_tr (fun _ _ => rfl)) rfl)))))))))) (dss_one (ds_ret (dv_de de_bool))) dss_nil) (dss_cons (ds_if (DW.dt (dw_or (DW.dt (dw_and (dt_cmp (od_eq (Room.units hr)) rfl (de_item (de_var (i := 4) rfl (vis_by rfl) rfl rfl) de_int no_tr (fun _ _ => rfl)) de_str no_tr) (dw_and1 (DW.dt (dw_or (dt_cmp (od_in (Room.units hr)) rfl (de_item (de_var (i := 4) rfl (vis_by rfl) rfl rfl) de_int no_tr (fun _ _ => rfl)) (de_bin od_add (de_var (i := 2) rfl (vis_by rfl) rfl rfl) (de_var (i := 3) rfl (vis_by rfl) rfl rfl)) no_tr) (dw_or1 (dt_cmp (od_eq (Room.units hr)) rfl (e_len rfl G.b_len (de_var (i := 2) rfl (vis_by rfl) rfl rfl) rfl) (de_item (de_var (i := 0) rfl (vis_by rfl) rfl rfl) de_int no_tr (fun _ _ => rfl)) no_tr))))))) (dw_or1 (DW.dt (dw_and (dt_cmp (od_eq (Room.units hr)) rfl (de_item (de_var (i := 4) rfl (vis_by rfl) rfl rfl) de_int no_tr (fun _ _ => rfl)) de_str no_tr) (dw_and1 (dt_cmp (od_notIn (Room.units hr)) rfl (de_item (de_var (i := 4) rfl (vis_by rfl) rfl rfl) de_int no_tr (fun _ _ => rfl)) (de_var (i := 2) rfl (vis_by rfl) rfl rfl) no_tr))))))) (dss_one (ds_ret (dv_de de_bool))) dss_nil) (dss_one (ds_if (dt_cmp (od_eq (Room.units hr)) rfl (de_item (de_var (i := 4) rfl (vis_by rfl) rfl rfl) de_int no_tr (fun _ _ => rfl)) de_str no_tr) (dss_one (ds_set (i := 2) sc__law_is_run.nd rfl (loc_by rfl) (dv_de (de_bin od_add (de_var (i := 2) rfl (vis_by rfl) rfl rfl) (de_lst (da_cons (de_item (de_var (i := 4) rfl (vis_by rfl) rfl rfl) de_int no_tr (fun _ _ => rfl)) da_nil rfl)))) rfl (.inl rfl))) (dss_cons (ds_setLc (i := 2) [("one", 5)] rfl sc__law_is_run.nd rfl rfl (sw_true rfl rfl rfl rfl) (di_seq (dr_fro (de_var (i := 2) rfl (vis_by rfl) rfl rfl))) (blkOk_by (by kernel_rfl)) (fun _ _ _ _ _ => (dg_name (i := 5) sc__law_is_run.nd rfl (loc_by rfl) (hf_by rfl))) (fun _ _ _ _ _ => (dts_one (dt_cmp (od_ne (Room.units hr)) rfl (de_var (i := 5) rfl (vis_by rfl) rfl rfl) (de_item (de_var (i := 4) rfl (vis_by rfl) rfl rfl) de_int no_tr (fun _ _ => rfl)) no_tr))) (fun _ _ _ _ _ => (de_var (i := 5) rfl (vis_by rfl) rfl rfl)) (by decide) (fun _ => rfl) (fun B as σ H s Q sr hw => wants_pure sr hw)) (dss_one (ds_set (i := 3) sc__law_is_run.nd rfl (loc_by rfl) (dv_de (de_bin od_add (de_var (i := 3) rfl (vis_by rfl) rfl rfl) (de_lst (da_cons (de_item (de_var (i := 4) rfl (vis_by rfl) rfl rfl) de_int no_tr (fun _ _ => rfl)) da_nil rfl)))) rfl (.inl rfl)))))))) (fun _ => rfl)) (dss_one (ds_ret (dv_de de_bool))))))
abbrev s__law_lifts : Stmt := top 25
abbrev n__law_lifts : List Str := ["lift", "floor", "room", "calls", "wrong", "value"]
abbrev ps__law_lifts : List Str := ["lift"]
theorem sc__law_lifts : FnScope n__law_lifts ps__law_lifts (defScope s__law_lifts) := ⟨rfl, rfl, rfl, by decide +kernel, rfl, by decide +kernel, by decide +kernel⟩
noncomputable def b__law_lifts : EvS :=
  (seqS (asgS (slotE 0) (tupG 3 (consG (nameG 1) (consG (nameG 2) (consG (nameG 3) nilG))))) 
    (seqS (setS 4 (pureV (lstE (consA (constE .none) (consA (tupE (consA (slotE 1) (consA (slotE 2) nilA))) (consA (lstE (consA (slotE 1) (consA (slotE 2) (consA (slotE 3) nilA)))) (consA (tupE (consA (slotE 1) (consA (slotE 2) (consA (slotE 3) (consA (constE (.int 0)) nilA))))) (consA (tupE (consA (constE (.int 21)) (consA (slotE 2) (consA (slotE 3) nilA)))) (consA (tupE (consA (negE (constE (.int 1))) (consA (slotE 2) (consA (slotE 3) nilA)))) (consA (tupE (consA (constE (.bool true)) (consA (slotE 2) (consA (slotE 3) nilA)))) (consA (tupE (consA (slotE 1) (consA (constE (.int 0)) (consA (slotE 3) nilA)))) (consA (tupE (consA (slotE 1) (consA (constE (.int 4)) (consA (slotE 3) nilA)))) (consA (tupE (consA (slotE 1) (consA (slotE 2) (consA (un1 listD (slotE 3)) nilA)))) (consA (tupE (consA (slotE 1) (consA (slotE 2) (consA (tupE (consA (tupE (consA (constE (.int 1)) (consA (constE (.int 1)) nilA))) nilA)) nilA)))) (consA (tupE (consA (slotE 1) (consA (slotE 2) (consA (tupE (consA (tupE (consA (constE (.int 0)) (consA (constE (.int 21)) nilA))) nilA)) nilA)))) (consA (tupE (consA (slotE 1) (consA (slotE 2) (consA (tupE (consA (tupE (consA (constE (.int 0)) nilA)) nilA)) nilA)))) (consA (tupE (consA (slotE 1) (consA (slotE 2) (consA (tupE (consA (lstE (consA (constE (.int 0)) (consA (constE (.int 1)) nilA))) nilA)) nilA)))) (consA (tupE (consA (slotE 1) (consA (slotE 2) (consA (tupE (consA (constE .none) nilA)) nilA)))) (consA (tupE (consA (slotE 1) (consA (slotE 2) (consA (bin2 mulD (tupE (consA (tupE (consA (constE (.int 0)) (consA (constE (.int 1)) nilA))) nilA)) (constE (.int 6))) nilA)))) (consA (constE (.int 5)) nilA)))))))))))))))))))) 
    (retS (pureV (andE (bin2 isD (callE 1 F_is_lift (consSlotA 0 nilA)) (constE (.bool true))) (andE (bin2 isD (callE 1 F_is_lift (consA (tupE (consA (constE (.int 20)) (consA (constE (.int 3)) (consA (bin2 mulD (tupE (consA (tupE (consA (constE (.int 0)) (consA (constE (.int 20)) nilA))) nilA)) (constE (.int 5))) nilA)))) nilA)) (constE (.bool true))) (bin2 eqD (lstOf (compC (seqI (froR (slotE 4))) [5] (nameG 5) (cmpT isNotD (callE 1 F_is_lift (consSlotA 5 nilA)) (constE (.bool false))) (slotE 5))) (lstE nilA))))))))
noncomputable def F__law_lifts : FSem := runF n__law_lifts.length b__law_lifts
theorem w__law_lifts (G : Facts w K mg base c) : Cal P w K mg base 10 "_law_lifts" (spD K c ps__law_lifts.length F__law_lifts) :=
  cal_of (k := 9) (body := b__law_lifts) G.d__law_lifts sc__law_lifts fun f cdv A outer s H E hr => (dss_cons (ds_asg (de_var (i := 0) rfl (vis_by rfl) rfl rfl) (dg_tup rfl (dgs_cons (dg_name (i := 1) sc__law_lifts.nd rfl (loc_by rfl) (.inl rfl)) (dgs_cons (dg_name (i := 2) sc__law_lifts.nd rfl (loc_by rfl) (.inl rfl)) (dgs_cons (dg_name (i := 3) sc__law_lifts.nd rfl (loc_by rfl) (.inl rfl)) dgs_nil rfl) rfl) rfl) rfl rfl) rfl rfl rfl) (dss_cons (ds_set (i := 4) sc__law_lifts.nd rfl (loc_by rfl) (dv_de (de_lst (da_cons de_none (da_cons (de_tup (da_cons (de_var (i := 1) rfl (vis_by rfl) rfl rfl) (da_cons (de_var (i := 2) rfl (vis_by rfl) rfl rfl) da_nil rfl) rfl)) (da_cons (de_lst (da_cons (de_var (i := 1) rfl (vis_by rfl) rfl rfl) (da_cons (de_var (i := 2) rfl (vis_by rfl) rfl rfl) (da_cons (de_var (i := 3) rfl (vis_by rfl) rfl rfl) da_nil rfl) rfl) rfl)) (da_cons (de_tup (da_cons (de_var (i := 1) rfl (vis_by rfl) rfl rfl) (da_cons (de_var (i := 2) rfl (vis_by rfl) rfl rfl) (da_cons (de_var (i := 3) rfl (vis_by rfl) rfl rfl) (da_cons de_int da_nil rfl) rfl) rfl) rfl)) (da_cons (de_tup (da_cons de_int (da_cons (de_var (i := 2) rfl (vis_by rfl) rfl rfl) (da_cons (de_var (i := 3) rfl (vis_by rfl) rfl rfl) da_nil rfl) rfl) rfl)) (da_cons (de_tup (da_cons (de_neg de_int) (da_cons (de_var (i := 2) rfl (vis_by rfl) rfl rfl) (da_cons (de_var (i := 3) rfl (vis_by rfl) rfl rfl) da_nil rfl) rfl) rfl)) (da_cons (de_tup (da_cons de_bool (da_cons (de_var (i := 2) rfl (vis_by rfl) rfl rfl) (da_cons (de_var (i := 3) rfl (vis_by rfl) rfl rfl) da_nil rfl) rfl) rfl)) (da_cons (de_tup (da_cons (de_var (i := 1) rfl (vis_by rfl) rfl rfl) (da_cons de_int (da_cons (de_var (i := 3) rfl (vis_by rfl) rfl rfl) da_nil rfl) rfl) rfl)) (da_cons (de_tup (da_cons (de_var (i := 1) rfl (vis_by rfl) rfl rfl) (da_cons de_int (da_cons (de_var (i := 3) rfl (vis_by rfl) rfl rfl) da_nil rfl) rfl) rfl)) (da_cons (de_tup (da_cons (de_var (i := 1) rfl (vis_by rfl) rfl rfl) (da_cons (de_var (i := 2) rfl (vis_by rfl) rfl rfl) (da_cons (e_list rfl G.b_list (de_var (i := 3) rfl (vis_by rfl) rfl rfl) rfl) da_nil rfl) rfl) rfl)) (da_cons (de_tup (da_cons (de_var (i := 1) rfl (vis_by rfl) rfl rfl) (da_cons (de_var (i := 2) rfl (vis_by rfl) rfl rfl) (da_cons (de_tup (da_cons (de_tup (da_cons de_int (da_cons de_int da_nil rfl) rfl)) da_nil rfl)) da_nil rfl) rfl) rfl)) (da_cons (de_tup (da_cons (de_var (i := 1) rfl (vis_by rfl) rfl rfl) (da_cons (de_var (i := 2) rfl (vis_by rfl) rfl rfl) (da_cons (de_tup (da_cons (de_tup (da_cons de_int (da_cons de_int da_nil rfl) rfl)) da_nil rfl)) da_nil rfl) rfl) rfl)) (da_cons (de_tup (da_cons (de_var (i := 1) rfl (vis_by rfl) rfl rfl) (da_cons (de_var (i := 2) rfl (vis_by rfl) rfl rfl) (da_cons (de_tup (da_cons (de_tup (da_cons de_int da_nil rfl)) da_nil rfl)) da_nil rfl) rfl) rfl)) (da_cons (de_tup (da_cons (de_var (i := 1) rfl (vis_by rfl) rfl rfl) (da_cons (de_var (i := 2) rfl (vis_by rfl) rfl rfl) (da_cons (de_tup (da_cons (de_lst (da_cons de_int (da_cons de_int da_nil rfl) rfl)) da_nil rfl)) da_nil rfl) rfl) rfl)) (da_cons (de_tup (da_cons (de_var (i := 1) rfl (vis_by rfl) rfl rfl) (da_cons (de_var (i := 2) rfl (vis_by rfl) rfl rfl) (da_cons (de_tup (da_cons de_none da_nil rfl)) da_nil rfl) rfl) rfl)) (da_cons (de_tup (da_cons (de_var (i := 1) rfl (vis_by rfl) rfl rfl) (da_cons (de_var (i := 2) rfl (vis_by rfl) rfl rfl) (da_cons (de_bin od_mul (de_tup (da_cons (de_tup (da_cons de_int (da_cons de_int da_nil rfl) rfl)) da_nil rfl)) de_int) da_nil rfl) rfl) rfl)) (da_cons de_int da_nil rfl) rfl) rfl) rfl) rfl) rfl) rfl) rfl) rfl) rfl) rfl) rfl) rfl) rfl) rfl) rfl) rfl))) rfl (.inl rfl)) (dss_one (ds_ret (dv_de (de_and (de_cmp od_is rfl (de_fn (w_is_lift G) hr (by decide) rfl takesB (da_slot (i := 0) rfl (vis_by rfl) rfl rfl da_nil rfl) rfl rfl rfl) de_bool no_tr) (de_and (de_cmp od_is rfl (de_fn (w_is_lift G) hr (by decide) rfl takesB (da_cons (de_tup (da_cons de_int (da_cons de_int (da_cons (de_bin od_mul (de_tup (da_cons (de_tup (da_cons de_int (da_cons de_int da_nil rfl) rfl)) da_nil rfl)) de_int) da_nil rfl) rfl) rfl)) da_nil rfl) rfl rfl rfl) de_bool no_tr) (de_one (de_cmp (od_eq (Room.units hr)) rfl (de_c (dc_lc [("value", 5)] rfl sc__law_lifts.nd (di_seq (dr_fro (de_var (i := 4) rfl (vis_by rfl) rfl rfl))) (blkOk_by (by kernel_rfl)) (fun _ _ _ _ _ => (dg_name (i := 5) sc__law_lifts.nd rfl (loc_by rfl) (hf_by rfl))) (fun _ _ _ _ _ => (dts_one (dt_cmp od_isNot rfl (de_fn (w_is_lift G) hr (by decide) rfl takesW0 (da_slot (i := 5) rfl (vis_by rfl) rfl rfl da_nil rfl) rfl rfl rfl) de_bool no_tr))) (fun _ _ _ _ _ => (de_var (i := 5) rfl (vis_by rfl) rfl rfl)) (by decide) (fun _ => rfl))) (de_lst da_nil) no_tr)))))))))
abbrev s_law : Stmt := top 26
abbrev n_law : List Str := ["script", "draws", "lift", "floor", "room", "calls", "every", "best", "told", "floors", "low", "high", "turn", "run", "at", "values", "value", "call"]
abbrev ps_law : List Str := ["script"]
theorem sc_law : FnScope n_law ps_law (defScope s_law) := ⟨rfl, rfl, rfl, by decide +kernel, rfl, by decide +kernel, by decide +kernel⟩
noncomputable def b_law : EvS :=
  (seqS (setS 1 (ownOf (callC 1 F__law_open (consSlotA 0 nilA)))) 
    (seqS (setS 2 (pureV (callE 1 F__law_lift (consSlotA 1 nilA)))) 
    (seqS (ifS (notT (valT (callE 1 F__law_lifts (consSlotA 2 nilA)))) (retS (pureV (constE (.bool false)))) nilS) 
    (seqS (asgS (slotE 2) (tupG 3 (consG (nameG 3) (consG (nameG 4) (consG (nameG 5) nilG))))) 
    (seqS (ifS (andT (cmpT eqD (un1 lenD (slotE 5)) (constE (.int 4))) (cmpT gtD (slotE 4) (constE (.int 1)))) (seqS (setS 5 (pureV (sliceE (slotE 5) noneO (someO (constE (.int 3)))))) 
    (setS 2 (pureV (tupE (consA (slotE 3) (consA (slotE 4) (consA (slotE 5) nilA))))))) nilS) 
    (seqS (setS 6 (pureV (callE 3 (F__law_runs 9) (consSlotA 2 (consA (rg1E .list (un1 lenD (slotE 5))) (consA (lstE nilA) nilA)))))) 
    (seqS (setS 7 (pureV (un1 minDD (lstOf (compC (seqI (froR (slotE 6))) [13] (nameG 13) yesT (tupE (consA (callE 2 F__law_travel (consSlotA 2 (consSlotA 13 nilA))) (consA (slotE 13) nilA)))))))) 
    (seqS (setS 8 (pureV (callE 1 F_least_run (consSlotA 2 nilA)))) 
    (seqS (ifS (orT (cmpT neD (slotE 8) (bin2 itemD (slotE 7) (constE (.int 1)))) (orT (notT (valT (isiE .tuple (slotE 8)))) (orT (cmpT neD (callE 1 F_least_travel (consSlotA 2 nilA)) (bin2 itemD (slotE 7) (constE (.int 0)))) (notT (valT (callE 1 F__law_int (consA (callE 1 F_least_travel (consSlotA 2 nilA)) nilA))))))) (retS (pureV (constE (.bool false)))) nilS) 
    (seqS (setS 9 (pureV (bin2 addD (bin2 addD (lstE (consA (slotE 3) nilA)) (lstOf (compC (seqI (froR (slotE 5))) [17] (nameG 17) yesT (bin2 itemD (slotE 17) (constE (.int 0)))))) (lstOf (compC (seqI (froR (slotE 5))) [17] (nameG 17) yesT (bin2 itemD (slotE 17) (constE (.int 1)))))))) 
    (seqS (parS 10 11 (consV (pureV (un1 minDD (slotE 9))) (consV (pureV (un1 maxDD (slotE 9))) nilA))) 
    (seqS (ifS (cmpT ltD (bin2 itemD (slotE 7) (constE (.int 0))) (bin2 addD (bin2 subD (slotE 11) (slotE 10)) (bin2 min2D (bin2 subD (slotE 11) (slotE 3)) (bin2 subD (slotE 3) (slotE 10))))) (retS (pureV (constE (.bool false)))) nilS) 
    (seqS (ifS (andT (cmpT eqD (lstOf (compC (seqI (froR (slotE 5))) [17] (nameG 17) (orT (cmpT geD (bin2 itemD (slotE 17) (constE (.int 0))) (bin2 itemD (slotE 17) (constE (.int 1)))) (cmpT ltD (bin2 itemD (slotE 17) (constE (.int 0))) (slotE 3))) (slotE 17))) (lstE nilA)) (andT (cmpT leD (un1 lenD (slotE 5)) (slotE 4)) (cmpT neD (bin2 itemD (slotE 7) (constE (.int 0))) (bin2 subD (slotE 11) (slotE 3))))) (retS (pureV (constE (.bool false)))) nilS) 
    (seqS (forS (range1I (constE (.int 6))) (nameG 12) (seqS (setS 13 (pureV (bin2 itemD (slotE 6) (callE 2 F__law_draw (consSlotA 1 (consA (un1 lenD (slotE 6)) nilA)))))) 
    (seqS (ifS (orT (cmpT isNotD (callE 2 F_is_run (consSlotA 2 (consSlotA 13 nilA))) (constE (.bool true))) (cmpT neD (callE 2 F_travel (consSlotA 2 (consSlotA 13 nilA))) (callE 2 F__law_travel (consSlotA 2 (consSlotA 13 nilA))))) (retS (pureV (constE (.bool false)))) nilS) 
    (seqS (setS 14 (pureV (callE 2 F__law_draw (consSlotA 1 (consA (bin2 max2D (constE (.int 1)) (un1 lenD (slotE 13))) nilA))))) 
    (seqS (setS 15 (pureV (lstE (consA (un1 listD (slotE 13)) (consA (un1 revD (slotE 13)) (consA (sliceE (slotE 13) (someO (constE (.int 1))) noneO) (consA (bin2 addD (slotE 13) (sliceE (slotE 13) noneO (someO (constE (.int 1))))) (consA (bin2 addD (sliceE (slotE 13) (someO (slotE 14)) noneO) (sliceE (slotE 13) noneO (someO (slotE 14)))) (consA (bin2 addD (bin2 addD (sliceE (slotE 13) noneO (someO (slotE 14))) (tupE (consA (constE .none) nilA))) (sliceE (slotE 13) (someO (bin2 addD (slotE 14) (constE (.int 1)))) noneO)) (consA (bin2 addD (bin2 addD (sliceE (slotE 13) noneO (someO (slotE 14))) (tupE (consA (tupE (consA (constE (.str "in")) (consA (slotE 14) nilA))) nilA))) (sliceE (slotE 13) (someO (bin2 addD (slotE 14) (constE (.int 1)))) noneO)) (consA (bin2 addD (bin2 addD (sliceE (slotE 13) noneO (someO (slotE 14))) (tupE (consA (tupE (consA (constE (.str "up")) (consA (constE (.int 0)) nilA))) nilA))) (sliceE (slotE 13) (someO (bin2 addD (slotE 14) (constE (.int 1)))) noneO)) (consA (bin2 addD (bin2 addD (sliceE (slotE 13) noneO (someO (slotE 14))) (tupE (consA (tupE (consA (constE (.str "in")) (consA (constE (.bool true)) nilA))) nilA))) (sliceE (slotE 13) (someO (bin2 addD (slotE 14) (constE (.int 1)))) noneO)) (consA (bin2 addD (bin2 addD (sliceE (slotE 13) noneO (someO (slotE 14))) (tupE (consA (lstE (consA (constE (.str "in")) (consA (constE (.int 0)) nilA))) nilA))) (sliceE (slotE 13) (someO (bin2 addD (slotE 14) (constE (.int 1)))) noneO)) (consA (constE .none) (consA (tupE nilA) nilA))))))))))))))) 
    (forS (seqI (froR (slotE 15))) (nameG 16) (ifS (notT (valT (callE 2 F__law_same (consA (callE 2 F_is_run (consSlotA 2 (consSlotA 16 nilA))) (consA (callE 2 F__law_is_run (consSlotA 2 (consSlotA 16 nilA))) nilA))))) (retS (pureV (constE (.bool false)))) nilS) [16]))))) [12, 13, 14, 15, 16]) 
    (retS (pureV (constE (.bool true))))))))))))))))))
noncomputable def F_law : FSem := runF n_law.length b_law
theorem w_law (G : Facts w K mg base c) {f : Addr} {fd : FuncData} (F : L2.Fun K "law" "law" s_law f fd) : FnOk P w K mg base (L2.CX P w) 13 f fd ps_law (spD K c ps_law.length F_law) :=
  fn_ok (k := 12) (body := b_law) F sc_law fun cdv A outer s H E hr => (dss_cons (ds_set (i := 1) sc_law.nd rfl (loc_by rfl) (dv_c (dc_fn (w__law_open G) hr (by decide) rfl takesB (da_slot (i := 0) rfl (vis_by rfl) rfl rfl da_nil rfl) rfl rfl rfl)) rfl (.inl rfl)) (dss_cons (ds_set (i := 2) sc_law.nd rfl (loc_by rfl) (dv_de (de_fn (w__law_lift G) hr (by decide) rfl takesB (da_slot (i := 1) rfl (vis_by rfl) rfl rfl da_nil rfl) rfl rfl rfl)) rfl (.inl rfl)) (dss_cons (ds_if (dt_not (dt_val (de_fn (w__law_lifts G) hr (by decide) rfl takesB (da_slot (i := 2) rfl (vis_by rfl) rfl rfl da_nil rfl) rfl rfl rfl) (fun _ => rfl))) (dss_one (ds_ret (dv_de de_bool))) dss_nil) (dss_cons (ds_asg (de_var (i := 2) rfl (vis_by rfl) rfl rfl) (dg_tup rfl (dgs_cons (dg_name (i := 3) sc_law.nd rfl (loc_by rfl) (.inl rfl)) (dgs_cons (dg_name (i := 4) sc_law.nd rfl (loc_by rfl) (.inl rfl)) (dgs_cons (dg_name (i := 5) sc_law.nd rfl (loc_by rfl) (.inl rfl)) dgs_nil rfl) rfl) rfl) rfl rfl) rfl rfl rfl) (dss_cons (ds_if (DW.dt (dw_and (dt_cmp (od_eq (Room.units hr)) rfl (e_len rfl G.b_len (de_var (i := 5) rfl (vis_by rfl) rfl rfl) rfl) de_int no_tr) (dw_and1 (dt_cmp (od_gt (Room.units hr)) rfl (de_var (i := 4) rfl (vis_by rfl) rfl rfl) de_int no_tr)))) (dss_cons (ds_set (i := 5) sc_law.nd rfl (loc_by rfl) (dv_de (de_slice (de_var (i := 5) rfl (vis_by rfl) rfl rfl) oe_none (oe_some de_int))) rfl (.inl rfl)) (dss_one (ds_set (i := 2) sc_law.nd rfl (loc_by rfl) (dv_de (de_tup (da_cons (de_var (i := 3) rfl (vis_by rfl) rfl rfl) (da_cons (de_var (i := 4) rfl (vis_by rfl) rfl rfl) (da_cons (de_var (i := 5) rfl (vis_by rfl) rfl rfl) da_nil rfl) rfl) rfl))) rfl (.inl rfl)))) dss_nil) (dss_cons (ds_set (i := 6) sc_law.nd rfl (loc_by rfl) (dv_de (de_fn (w__law_runs G 9) hr (by decide) rfl takesB (da_slot (i := 2) rfl (vis_by rfl) rfl rfl (da_cons (de_listRg1 rfl rfl G.b_list rfl G.b_range (e_len rfl G.b_len (de_var (i := 5) rfl (vis_by rfl) rfl rfl) rfl) rfl rfl) (da_cons (de_lst da_nil) da_nil rfl) rfl) rfl) rfl rfl rfl)) rfl (.inl rfl)) (dss_cons (ds_set (i := 7) sc_law.nd rfl (loc_by rfl) (dv_de (e_min rfl (Room.units hr) rfl G.b_min (de_c (dc_lc [("run", 13)] rfl sc_law.nd (di_seq (dr_fro (de_var (i := 6) rfl (vis_by rfl) rfl rfl))) (blkOk_by (by kernel_rfl)) (fun _ _ _ _ _ => (dg_name (i := 13) sc_law.nd rfl (loc_by rfl) (hf_by rfl))) (fun _ _ _ _ _ => dts_nil) (fun _ _ _ _ _ => (de_tup (da_cons (de_fn (w__law_travel G) hr (by decide) rfl takesW0 (da_slot (i := 2) rfl (vis_by rfl) rfl rfl (da_slot (i := 13) rfl (vis_by rfl) rfl rfl da_nil rfl) rfl) rfl rfl rfl) (da_cons (de_var (i := 13) rfl (vis_by rfl) rfl rfl) da_nil rfl) rfl))) (by decide) (fun _ => rfl))) rfl)) rfl (.inl rfl)) (dss_cons (ds_set (i := 8) sc_law.nd rfl (loc_by rfl) (dv_de (de_fn (w_least_run G) hr (by decide) rfl takesB (da_slot (i := 2) rfl (vis_by rfl) rfl rfl da_nil rfl) rfl rfl rfl)) rfl (.inl rfl)) (dss_cons (ds_if (DW.dt (dw_or (dt_cmp (od_ne (Room.units hr)) rfl (de_var (i := 8) rfl (vis_by rfl) rfl rfl) (de_item (de_var (i := 7) rfl (vis_by rfl) rfl rfl) de_int no_tr (fun _ _ => rfl)) no_tr) (dw_or (dt_not (dt_val (i_tuple rfl G.b_isinstance rfl G.b_tuple (de_var (i := 8) rfl (vis_by rfl) rfl rfl) rfl) (fun _ => rfl))) (dw_or (dt_cmp (od_ne (Room.units hr)) rfl (de_fn (w_least_travel G) hr (by decide) rfl takesB (da_slot (i := 2) rfl (vis_by rfl) rfl rfl da_nil rfl) rfl rfl rfl) (de_item (de_var (i := 7) rfl (vis_by rfl) rfl rfl) de_int no_tr (fun _ _ => rfl)) no_tr) (dw_or1 (dt_not (dt_val (de_fn (w__law_int G) hr (by decide) rfl takesB (da_cons (de_fn (w_least_travel G) hr (by decide) rfl takesB (da_slot (i := 2) rfl (vis_by rfl) rfl rfl da_nil rfl) rfl rfl rfl) da_nil rfl) rfl rfl rfl) (fun _ => rfl)))))))) (dss_one (ds_ret (dv_de de_bool))) dss_nil) (dss_cons (ds_set (i := 9) sc_law.nd rfl (loc_by rfl) (dv_de (de_bin od_add (de_bin od_add (de_lst (da_cons (de_var (i := 3) rfl (vis_by rfl) rfl rfl) da_nil rfl)) (de_c (dc_lc [("call", 17)] rfl sc_law.nd (di_seq (dr_fro (de_var (i := 5) rfl (vis_by rfl) rfl rfl))) (blkOk_by (by kernel_rfl)) (fun _ _ _ _ _ => (dg_name (i := 17) sc_law.nd rfl (loc_by rfl) (hf_by rfl))) (fun _ _ _ _ _ => dts_nil) (fun _ _ _ _ _ => (de_item (de_var (i := 17) rfl (vis_by rfl) rfl rfl) de_int no_tr (fun _ _ => rfl))) (by decide) (fun _ => rfl)))) (de_c (dc_lc [("call", 17)] rfl sc_law.nd (di_seq (dr_fro (de_var (i := 5) rfl (vis_by rfl) rfl rfl))) (blkOk_by (by kernel_rfl)) (fun _ _ _ _ _ => (dg_name (i := 17) sc_law.nd rfl (loc_by rfl) (hf_by rfl))) (fun _ _ _ _ _ => dts_nil) (fun _ _ _ _ _ => (de_item (de_var (i := 17) rfl (vis_by rfl) rfl rfl) de_int no_tr (fun _ _ => rfl))) (by decide) (fun _ => rfl))))) rfl (.inl rfl)) (dss_cons (ds_par (i := 10) (j := 11) rfl sc_law.nd rfl rfl (by decide) rfl rfl (dva_cons (dv_de (e_min rfl (Room.units hr) rfl G.b_min (de_var (i := 9) rfl (vis_by rfl) rfl rfl) rfl)) (dva_cons (dv_de (e_max rfl (Room.units hr) rfl G.b_max (de_var (i := 9) rfl (vis_by rfl) rfl rfl) rfl)) dva_nil rfl) rfl) rfl rfl) (dss_cons (ds_if (dt_cmp (od_lt (Room.units hr)) rfl (de_item (de_var (i := 7) rfl (vis_by rfl) rfl rfl) de_int no_tr (fun _ _ => rfl)) (de_bin od_add (de_bin od_sub (de_var (i := 11) rfl (vis_by rfl) rfl rfl) (de_var (i := 10) rfl (vis_by rfl) rfl rfl)) (e_min2 rfl rfl G.b_min (de_bin od_sub (de_var (i := 11) rfl (vis_by rfl) rfl rfl) (de_var (i := 3) rfl (vis_by rfl) rfl rfl)) (de_bin od_sub (de_var (i := 3) rfl (vis_by rfl) rfl rfl) (de_var (i := 10) rfl (vis_by rfl) rfl rfl)) rfl rfl)) no_tr) (dss_one (ds_ret (dv_de de_bool))) dss_nil) (dss_cons (ds_if (DW.dt (dw_and (dt_cmp (od_eq (Room.units hr)) rfl (de_c (dc_lc [("call", 17)] rfl sc_law.nd (di_seq (dr_fro (de_var (i := 5) rfl (vis_by rfl) rfl rfl))) (blkOk_by (by kernel_rfl)) (fun _ _ _ _ _ => (dg_name (i := 17) sc_law.nd rfl (loc_by rfl) (hf_by rfl))) (fun _ _ _ _ _ => (dts_one (DW.dt (dw_or (dt_cmp (od_ge (Room.units hr)) rfl (de_item (de_var (i := 17) rfl (vis_by rfl) rfl rfl) de_int no_tr (fun _ _ => rfl)) (de_item (de_var (i := 17) rfl (vis_by rfl) rfl rfl) de_int no_tr (fun _ _ => rfl)) no_tr) (dw_or1 (dt_cmp (od_lt (Room.units hr)) rfl (de_item (de_var (i := 17) rfl (vis_by rfl) rfl rfl) de_int no_tr (fun _ _ => rfl)) (de_var (i := 3) rfl (vis_by rfl) rfl rfl) no_tr)))))) (fun _ _ _ _ _ => (de_var (i := 17) rfl (vis_by rfl) rfl rfl)) (by decide) (fun _ => rfl))) (de_lst da_nil) no_tr) (dw_and (dt_cmp (od_le (Room.units hr)) rfl (e_len rfl G.b_len (de_var (i := 5) rfl (vis_by rfl) rfl rfl) rfl) (de_var (i := 4) rfl (vis_by rfl) rfl rfl) no_tr) (dw_and1 (dt_cmp (od_ne (Room.units hr)) rfl (de_item (de_var (i := 7) rfl (vis_by rfl) rfl rfl) de_int no_tr (fun _ _ => rfl)) (de_bin od_sub (de_var (i := 11) rfl (vis_by rfl) rfl rfl) (de_var (i := 3) rfl (vis_by rfl) rfl rfl)) no_tr))))) (dss_one (ds_ret (dv_de de_bool))) dss_nil) (dss_cons (ds_for [12, 13, 14, 15, 16] passesB rfl (di_range1 rfl G.b_range de_int rfl) (dg_name (i := 12) sc_law.nd rfl (loc_by rfl) (.inl rfl)) (dss_cons (ds_set (i := 13) sc_law.nd rfl (loc_by rfl) (dv_de (de_item (de_var (i := 6) rfl (vis_by rfl) rfl rfl) (de_fn (w__law_draw G) hr (by decide) rfl takesB (da_slot (i := 1) rfl (vis_by rfl) rfl rfl (da_cons (e_len rfl G.b_len (de_var (i := 6) rfl (vis_by rfl) rfl rfl) rfl) da_nil rfl) rfl) rfl rfl rfl) no_tr (fun _ _ => rfl))) rfl (.inl rfl)) (dss_cons (ds_if (DW.dt (dw_or (dt_cmp od_isNot rfl (de_fn (w_is_run G) hr (by decide) rfl takesB (da_slot (i := 2) rfl (vis_by rfl) rfl rfl (da_slot (i := 13) rfl (vis_by rfl) rfl rfl da_nil rfl) rfl) rfl rfl rfl) de_bool no_tr) (dw_or1 (dt_cmp (od_ne (Room.units hr)) rfl (de_fn (w_travel G) hr (by decide) rfl takesB (da_slot (i := 2) rfl (vis_by rfl) rfl rfl (da_slot (i := 13) rfl (vis_by rfl) rfl rfl da_nil rfl) rfl) rfl rfl rfl) (de_fn (w__law_travel G) hr (by decide) rfl takesB (da_slot (i := 2) rfl (vis_by rfl) rfl rfl (da_slot (i := 13) rfl (vis_by rfl) rfl rfl da_nil rfl) rfl) rfl rfl rfl) no_tr)))) (dss_one (ds_ret (dv_de de_bool))) dss_nil) (dss_cons (ds_set (i := 14) sc_law.nd rfl (loc_by rfl) (dv_de (de_fn (w__law_draw G) hr (by decide) rfl takesB (da_slot (i := 1) rfl (vis_by rfl) rfl rfl (da_cons (e_max2 rfl rfl G.b_max de_int (e_len rfl G.b_len (de_var (i := 13) rfl (vis_by rfl) rfl rfl) rfl) rfl rfl) da_nil rfl) rfl) rfl rfl rfl)) rfl (.inl rfl)) (dss_cons (ds_set (i := 15) sc_law.nd rfl (loc_by rfl) (dv_de (de_lst (da_cons (e_list rfl G.b_list (de_var (i := 13) rfl (vis_by rfl) rfl rfl) rfl) (da_cons (de_rev (de_var (i := 13) rfl (vis_by rfl) rfl rfl)) (da_cons (de_slice (de_var (i := 13) rfl (vis_by rfl) rfl rfl) (oe_some de_int) oe_none) (da_cons (de_bin od_add (de_var (i := 13) rfl (vis_by rfl) rfl rfl) (de_slice (de_var (i := 13) rfl (vis_by rfl) rfl rfl) oe_none (oe_some de_int))) (da_cons (de_bin od_add (de_slice (de_var (i := 13) rfl (vis_by rfl) rfl rfl) (oe_some (de_var (i := 14) rfl (vis_by rfl) rfl rfl)) oe_none) (de_slice (de_var (i := 13) rfl (vis_by rfl) rfl rfl) oe_none (oe_some (de_var (i := 14) rfl (vis_by rfl) rfl rfl)))) (da_cons (de_bin od_add (de_bin od_add (de_slice (de_var (i := 13) rfl (vis_by rfl) rfl rfl) oe_none (oe_some (de_var (i := 14) rfl (vis_by rfl) rfl rfl))) (de_tup (da_cons de_none da_nil rfl))) (de_slice (de_var (i := 13) rfl (vis_by rfl) rfl rfl) (oe_some (de_bin od_add (de_var (i := 14) rfl (vis_by rfl) rfl rfl) de_int)) oe_none)) (da_cons (de_bin od_add (de_bin od_add (de_slice (de_var (i := 13) rfl (vis_by rfl) rfl rfl) oe_none (oe_some (de_var (i := 14) rfl (vis_by rfl) rfl rfl))) (de_tup (da_cons (de_tup (da_cons de_str (da_cons (de_var (i := 14) rfl (vis_by rfl) rfl rfl) da_nil rfl) rfl)) da_nil rfl))) (de_slice (de_var (i := 13) rfl (vis_by rfl) rfl rfl) (oe_some (de_bin od_add (de_var (i := 14) rfl (vis_by rfl) rfl rfl) de_int)) oe_none)) (da_cons (de_bin od_add (de_bin od_add (de_slice (de_var (i := 13) rfl (vis_by rfl) rfl rfl) oe_none (oe_some (de_var (i := 14) rfl (vis_by rfl) rfl rfl))) (de_tup (da_cons (de_tup (da_cons de_str (da_cons de_int da_nil rfl) rfl)) da_nil rfl))) (de_slice (de_var (i := 13) rfl (vis_by rfl) rfl rfl) (oe_some (de_bin od_add (de_var (i := 14) rfl (vis_by rfl) rfl rfl) de_int)) oe_none)) (da_cons (de_bin od_add (de_bin od_add (de_slice (de_var (i := 13) rfl (vis_by rfl) rfl rfl) oe_none (oe_some (de_var (i := 14) rfl (vis_by rfl) rfl rfl))) (de_tup (da_cons (de_tup (da_cons de_str (da_cons de_bool da_nil rfl) rfl)) da_nil rfl))) (de_slice (de_var (i := 13) rfl (vis_by rfl) rfl rfl) (oe_some (de_bin od_add (de_var (i := 14) rfl (vis_by rfl) rfl rfl) de_int)) oe_none)) (da_cons (de_bin od_add (de_bin od_add (de_slice (de_var (i := 13) rfl (vis_by rfl) rfl rfl) oe_none (oe_some (de_var (i := 14) rfl (vis_by rfl) rfl rfl))) (de_tup (da_cons (de_lst (da_cons de_str (da_cons de_int da_nil rfl) rfl)) da_nil rfl))) (de_slice (de_var (i := 13) rfl (vis_by rfl) rfl rfl) (oe_some (de_bin od_add (de_var (i := 14) rfl (vis_by rfl) rfl rfl) de_int)) oe_none)) (da_cons de_none (da_cons (de_tup da_nil) da_nil rfl) rfl) rfl) rfl) rfl) rfl) rfl) rfl) rfl) rfl) rfl) rfl))) rfl (.inl rfl)) (dss_one (ds_for [16] passesB rfl (di_seq (dr_fro (de_var (i := 15) rfl (vis_by rfl) rfl rfl))) (dg_name (i := 16) sc_law.nd rfl (loc_by rfl) (.inl rfl)) (dss_one (ds_if (dt_not (dt_val (de_fn (w__law_same G) hr (by decide) rfl takesB (da_cons (de_fn (w_is_run G) hr (by decide) rfl takesB (da_slot (i := 2) rfl (vis_by rfl) rfl rfl (da_slot (i := 16) rfl (vis_by rfl) rfl rfl da_nil rfl) rfl) rfl rfl rfl) (da_cons (de_fn (w__law_is_run G) hr (by decide) rfl takesB (da_slot (i := 2) rfl (vis_by rfl) rfl rfl (da_slot (i := 16) rfl (vis_by rfl) rfl rfl da_nil rfl) rfl) rfl rfl rfl) da_nil rfl) rfl) rfl rfl rfl) (fun _ => rfl))) (dss_one (ds_ret (dv_de de_bool))) dss_nil)) (fun _ => rfl))))))) (fun _ => rfl)) (dss_one (ds_ret (dv_de de_bool)))))))))))))))))
end
end K53
end
section
set_option Elab.async false
set_option linter.all false
/-! k53: the runs of a lift, in plain Lean. -/
namespace Lk53
abbrev Deed := Bool × Nat
def ab (a : Int) : Int := if a < 0 then -a else a
theorem ab_nonneg (a : Int) : 0 ≤ ab a := by unfold ab; split <;> omega
theorem ab_tri (a b c : Int) : ab (a - c) ≤ ab (a - b) + ab (b - c) := by unfold ab; split <;> split <;> split <;> omega
def can (cap : Nat) (w h : List Nat) (d : Deed) : Bool := if d.1 = true then decide (d.2 ∈ w) && decide (h.length < cap) else decide (d.2 ∈ h)
def nxW (w : List Nat) (d : Deed) : List Nat := if d.1 = true then w.filter (fun x => x != d.2) else w
def nxH (h : List Nat) (d : Deed) : List Nat := if d.1 = true then h ++ [d.2] else h.filter (fun x => x != d.2)
/-- r is a run of what is still to be done -/
def okR (cap : Nat) : List Nat → List Nat → List Deed → Bool
  | w, h, [] => w.isEmpty && h.isEmpty
  | w, h, d :: r => can cap w h d && okR cap (nxW w d) (nxH h d) r
def stF (cs : List (Nat × Nat)) (k : Nat) : Nat := ((cs[k]?).getD (0, 0)).1
def glF (cs : List (Nat × Nat)) (k : Nat) : Nat := ((cs[k]?).getD (0, 0)).2
def flr (cs : List (Nat × Nat)) (d : Deed) : Int := if d.1 = true then (stF cs d.2 : Nat) else (glF cs d.2 : Nat)
def trv (cs : List (Nat × Nat)) : Int → List Deed → Int
  | _, [] => 0
  | f, d :: r => ab (flr cs d - f) + trv cs (flr cs d) r
theorem trv_nonneg (cs : List (Nat × Nat)) : ∀ (f : Int) (r : List Deed), 0 ≤ trv cs f r
  | _, [] => Int.le_refl _
  | f, d :: r => by have := trv_nonneg cs (flr cs d) r; have := ab_nonneg (flr cs d - f); simp only [trv]; omega
/-! ### sizes -/
theorem filter_lt {w : List Nat} {k : Nat} (h : k ∈ w) : (w.filter fun x => x != k).length + 1 ≤ w.length := by
  induction w with
  | nil => cases h
  | cons a w ih =>
    rw [List.filter_cons]
    by_cases e : a = k
    · subst e
      simp only [bne_self_eq_false, Bool.false_eq_true, if_false, List.length_cons]
      have := List.length_filter_le (fun x => x != a) w
      omega
    · have : k ∈ w := by rcases List.mem_cons.mp h with z | z; exact absurd z.symm e; exact z
      rw [if_pos (by simp [e])]
      simp only [List.length_cons]
      have := ih this
      omega
def mea (w h : List Nat) : Nat := 2 * w.length + h.length
theorem mea_nx {cap : Nat} {w h : List Nat} {d : Deed} (c : can cap w h d = true) : mea (nxW w d) (nxH h d) + 1 ≤ mea w h := by
  obtain ⟨b, k⟩ := d
  cases b
  · simp only [can, Bool.false_eq_true, if_false, decide_eq_true_eq] at c
    have := filter_lt c
    simp only [mea, nxW, nxH, Bool.false_eq_true, if_false]
    omega
  · simp only [can, if_true, Bool.and_eq_true, decide_eq_true_eq] at c
    have := filter_lt c.1
    simp only [mea, nxW, nxH, if_true, List.length_append, List.length_singleton]
    omega
/-! ### all runs, as the law lists them -/
def runsL (cap : Nat) : Nat → List Nat → List Nat → List (List Deed)
  | 0, _, _ => []
  | n + 1, w, h => if w = [] ∧ h = [] then [[]] else
      (w.flatMap fun k => if h.length < cap then (runsL cap n (w.filter fun x => x != k) (h ++ [k])).map ((true, k) :: ·) else []) ++
      h.flatMap fun k => (runsL cap n w (h.filter fun x => x != k)).map ((false, k) :: ·)
theorem mem_runsL {cap : Nat} : ∀ {n : Nat} {w h : List Nat} {r : List Deed}, mea w h < n → (r ∈ runsL cap n w h ↔ okR cap w h r = true)
  | 0, _, _, _, hn => by omega
  | n + 1, w, h, r, hn => by
    unfold runsL
    by_cases he : w = [] ∧ h = []
    · rw [if_pos he]
      obtain ⟨e1, e2⟩ := he
      subst e1 e2
      cases r with
      | nil => simp [okR]
      | cons d r =>
        obtain ⟨b, k⟩ := d
        cases b <;> simp [okR, can]
    · rw [if_neg he, List.mem_append, List.mem_flatMap, List.mem_flatMap]
      cases r with
      | nil =>
        constructor
        · rintro (⟨k, hk, h1⟩ | ⟨k, hk, h1⟩)
          · split at h1
            · simp at h1
            · cases h1
          · simp at h1
        · intro h1
          simp only [okR, Bool.and_eq_true, List.isEmpty_iff] at h1
          exact absurd h1 he
      | cons d r =>
        obtain ⟨b, k⟩ := d
        constructor
        · rintro (⟨j, hj, h1⟩ | ⟨j, hj, h1⟩)
          · split at h1
            · rename_i hc
              obtain ⟨r', h2, h3⟩ := List.mem_map.mp h1
              simp only [List.cons.injEq, Prod.mk.injEq] at h3
              obtain ⟨⟨rfl, rfl⟩, rfl⟩ := h3
              have cn : can cap w h (true, j) = true := by simp [can, hj, hc]
              have hm := mea_nx cn
              have := (mem_runsL (cap := cap) (n := n) (w := nxW w (true, j)) (h := nxH h (true, j)) (r := r') (by omega)).mp (by simpa [nxW, nxH] using h2)
              simp [okR, cn, this]
            · cases h1
          · obtain ⟨r', h2, h3⟩ := List.mem_map.mp h1
            simp only [List.cons.injEq, Prod.mk.injEq] at h3
            obtain ⟨⟨rfl, rfl⟩, rfl⟩ := h3
            have cn : can cap w h (false, j) = true := by simp [can, hj]
            have hm := mea_nx cn
            have := (mem_runsL (cap := cap) (n := n) (w := nxW w (false, j)) (h := nxH h (false, j)) (r := r') (by omega)).mp (by simpa [nxW, nxH] using h2)
            simp [okR, cn, this]
        · intro h1
          simp only [okR, Bool.and_eq_true] at h1
          obtain ⟨cn, h2⟩ := h1
          have hm := mea_nx cn
          have h3 := (mem_runsL (cap := cap) (n := n) (w := nxW w (b, k)) (h := nxH h (b, k)) (r := r) (by omega)).mpr h2
          cases b
          · refine .inr ⟨k, by simpa [can] using cn, List.mem_map.mpr ⟨r, by simpa [nxW, nxH] using h3, rfl⟩⟩
          · simp only [can, if_true, Bool.and_eq_true, decide_eq_true_eq] at cn
            refine .inl ⟨k, cn.1, ?_⟩
            rw [if_pos cn.2]
            exact List.mem_map.mpr ⟨r, by simpa [nxW, nxH] using h3, rfl⟩
def fct : Nat → Nat
  | 0 => 1
  | n + 1 => (n + 1) * fct n
theorem fct_pos : ∀ n, 1 ≤ fct n
  | 0 => Nat.le_refl _
  | n + 1 => Nat.le_trans (fct_pos n) (Nat.le_mul_of_pos_left _ (Nat.succ_pos n))
theorem fct_mono {m n : Nat} (h : m ≤ n) : fct m ≤ fct n := by
  induction h with
  | refl => exact Nat.le_refl _
  | step _ ih => exact Nat.le_trans ih (Nat.le_mul_of_pos_left _ (Nat.succ_pos _))
theorem flatMap_le {α β : Type} {f : α → List β} {B : Nat} : ∀ (l : List α), (∀ a ∈ l, (f a).length ≤ B) → (l.flatMap f).length ≤ l.length * B
  | [], _ => by simp
  | a :: l, h => by
    rw [List.flatMap_cons, List.length_append, List.length_cons, Nat.succ_mul]
    have h1 := h a List.mem_cons_self
    have h2 := flatMap_le l fun x hx => h x (List.mem_cons_of_mem _ hx)
    omega
theorem runsL_len {cap : Nat} : ∀ (n : Nat) (w h : List Nat), (runsL cap n w h).length ≤ fct (mea w h)
  | 0, _, _ => Nat.zero_le _
  | n + 1, w, h => by
    unfold runsL
    by_cases he : w = [] ∧ h = []
    · rw [if_pos he]; exact fct_pos _
    · rw [if_neg he, List.length_append]
      have hm : ∃ m, mea w h = m + 1 := by
        refine ⟨mea w h - 1, ?_⟩
        have : mea w h ≠ 0 := fun z => he (by
          unfold mea at z
          exact ⟨List.length_eq_zero_iff.mp (by omega), List.length_eq_zero_iff.mp (by omega)⟩)
        omega
      obtain ⟨m, hm⟩ := hm
      have h1 := flatMap_le (B := fct m) (f := fun k => if h.length < cap then (runsL cap n (w.filter fun x => x != k) (h ++ [k])).map ((true, k) :: ·) else []) w fun k hk => by
        show (if h.length < cap then (runsL cap n (w.filter fun x => x != k) (h ++ [k])).map ((true, k) :: ·) else []).length ≤ _
        split
        · rename_i hc
          rw [List.length_map]
          have cn : can cap w h (true, k) = true := by simp [can, hk, hc]
          have := mea_nx cn
          refine Nat.le_trans (runsL_len n _ _) (fct_mono ?_)
          simp only [nxW, nxH, if_true] at this
          omega
        · exact Nat.zero_le _
      have h2 := flatMap_le (B := fct m) (f := fun k => (runsL cap n w (h.filter fun x => x != k)).map ((false, k) :: ·)) h fun k hk => by
        show ((runsL cap n w (h.filter fun x => x != k)).map ((false, k) :: ·)).length ≤ _
        rw [List.length_map]
        have cn : can cap w h (false, k) = true := by simp [can, hk]
        have := mea_nx cn
        refine Nat.le_trans (runsL_len n _ _) (fct_mono ?_)
        simp only [nxW, nxH, Bool.false_eq_true, if_false] at this
        omega
      have h3 : w.length + h.length ≤ m + 1 := by unfold mea at hm; omega
      have h4 : (w.length + h.length) * fct m ≤ (m + 1) * fct m := Nat.mul_le_mul_right _ h3
      rw [hm]
      show _ ≤ (m + 1) * fct m
      rw [Nat.add_mul] at h4
      omega
/-! ### what is held may be in any order -/
theorem okR_perm {cap : Nat} : ∀ (r : List Deed) {w h h' : List Nat}, h.Perm h' → okR cap w h r = okR cap w h' r
  | [], w, h, h', p => by
    simp only [okR]
    rw [Bool.eq_iff_iff]
    simp only [Bool.and_eq_true, List.isEmpty_iff]
    exact and_congr_right fun _ => ⟨fun e => by subst e; exact List.nil_perm.mp p, fun e => by subst e; exact List.perm_nil.mp p⟩
  | d :: r, w, h, h', p => by
    have e1 : can cap w h d = can cap w h' d := by
      unfold can
      rw [p.length_eq]
      congr 1
      rw [Bool.eq_iff_iff, decide_eq_true_iff, decide_eq_true_iff]
      exact p.mem_iff
    have e2 : (nxH h d).Perm (nxH h' d) := by
      unfold nxH
      split
      · exact p.append_right _
      · exact p.filter _
    simp only [okR]
    rw [e1, okR_perm r e2]
/-! ### what a run visits; the least way -/
theorem visits {cap : Nat} : ∀ (r : List Deed) {w h : List Nat}, okR cap w h r = true → (∀ k ∈ w, (true, k) ∈ r ∧ (false, k) ∈ r) ∧ ∀ k ∈ h, (false, k) ∈ r
  | [], w, h, o => by
    simp only [okR, Bool.and_eq_true, List.isEmpty_iff] at o
    obtain ⟨rfl, rfl⟩ := o
    exact ⟨(fun k hk => by cases hk), (fun k hk => by cases hk)⟩
  | d :: r, w, h, o => by
    simp only [okR, Bool.and_eq_true] at o
    obtain ⟨c, o⟩ := o
    obtain ⟨v1, v2⟩ := visits r o
    obtain ⟨b, j⟩ := d
    cases b
    · simp only [nxW, nxH, Bool.false_eq_true, if_false] at v1 v2
      refine ⟨fun k hk => ⟨List.mem_cons_of_mem _ (v1 k hk).1, List.mem_cons_of_mem _ (v1 k hk).2⟩, fun k hk => ?_⟩
      by_cases e : k = j
      · subst e; exact List.mem_cons_self
      · exact List.mem_cons_of_mem _ (v2 k (List.mem_filter.mpr ⟨hk, by simp [e]⟩))
    · simp only [nxW, nxH, if_true] at v1 v2
      refine ⟨fun k hk => ?_, fun k hk => List.mem_cons_of_mem _ (v2 k (List.mem_append_left _ hk))⟩
      by_cases e : k = j
      · subst e; exact ⟨List.mem_cons_self, List.mem_cons_of_mem _ (v2 k (List.mem_append_right _ List.mem_cons_self))⟩
      · have := v1 k (List.mem_filter.mpr ⟨hk, by simp [e]⟩)
        exact ⟨List.mem_cons_of_mem _ this.1, List.mem_cons_of_mem _ this.2⟩
theorem trv_one (cs : List (Nat × Nat)) : ∀ (r : List Deed) (f : Int) {d : Deed}, d ∈ r → ab (flr cs d - f) ≤ trv cs f r
  | e :: r, f, d, hd => by
    simp only [trv]
    have n := trv_nonneg cs (flr cs e) r
    rcases List.mem_cons.mp hd with z | z
    · subst z; omega
    · have := trv_one cs r (flr cs e) z
      have := ab_tri (flr cs d) (flr cs e) f
      omega
/-- x: where it stands, or the floor of one of the deeds -/
def Seen (cs : List (Nat × Nat)) (f : Int) (r : List Deed) (x : Int) : Prop := x = f ∨ ∃ d ∈ r, flr cs d = x
theorem trv_two (cs : List (Nat × Nat)) : ∀ (r : List Deed) (f : Int) {a b : Int}, Seen cs f r a → Seen cs f r b → ab (a - f) + ab (b - a) ≤ trv cs f r ∨ ab (b - f) + ab (b - a) ≤ trv cs f r
  | r, f, a, b, .inl ha, hb => by
    subst ha
    left
    rcases hb with hb | ⟨d, hd, hb⟩
    · subst hb; have := trv_nonneg cs b r; simp [ab]; omega
    · have := trv_one cs r a hd
      rw [hb] at this
      simp only [Int.sub_self]
      have : ab 0 = 0 := rfl
      omega
  | r, f, a, b, .inr ⟨d, hd, ha⟩, .inl hb => by
    subst hb
    right
    have := trv_one cs r b hd
    rw [ha] at this
    have h0 : ab (b - b) = 0 := by rw [Int.sub_self]; rfl
    have h1 : ab (b - a) = ab (a - b) := by unfold ab; split <;> split <;> omega
    omega
  | [], f, a, b, .inr ⟨d, hd, ha⟩, _ => by cases hd
  | e :: r, f, a, b, .inr ⟨d, hd, ha⟩, .inr ⟨d', hd', hb⟩ => by
    have sa : Seen cs (flr cs e) r a := by
      rcases List.mem_cons.mp hd with z | z
      · exact .inl (by rw [← ha, z])
      · exact .inr ⟨d, z, ha⟩
    have sb : Seen cs (flr cs e) r b := by
      rcases List.mem_cons.mp hd' with z | z
      · exact .inl (by rw [← hb, z])
      · exact .inr ⟨d', z, hb⟩
    simp only [trv]
    have t1 := ab_tri a (flr cs e) f
    have t2 := ab_tri b (flr cs e) f
    rcases trv_two cs r (flr cs e) sa sb with h | h
    · left; omega
    · right; omega
/-- never less than the way that covers all floors -/
theorem low_bound {cs : List (Nat × Nat)} {f lo hi : Int} {r : List Deed} (h1 : lo ≤ f) (h2 : f ≤ hi) (hl : Seen cs f r lo) (hh : Seen cs f r hi) : hi - lo + min (hi - f) (f - lo) ≤ trv cs f r := by
  have := trv_two cs r f hl hh
  have e1 : ab (hi - lo) = hi - lo := by unfold ab; split <;> omega
  have e2 : ab (lo - f) = f - lo := by unfold ab; split <;> omega
  have e3 : ab (hi - f) = hi - f := by unfold ab; split <;> omega
  rw [e1, e2, e3] at this
  omega
/-! ### all calls go up, and fit: a run that goes up -/
theorem least_of {α : Type} (g : α → Int) : ∀ (l : List α), l ≠ [] → ∃ a ∈ l, ∀ b ∈ l, g a ≤ g b
  | [], h => absurd rfl h
  | [a], _ => ⟨a, List.mem_cons_self, fun b hb => by rw [List.mem_singleton.mp hb]; exact Int.le_refl _⟩
  | a :: c :: l, _ => by
    obtain ⟨m, h1, h2⟩ := least_of g (c :: l) (by simp)
    by_cases h : g a ≤ g m
    · refine ⟨a, List.mem_cons_self, fun b hb => ?_⟩
      rcases List.mem_cons.mp hb with z | z
      · rw [z]; exact Int.le_refl _
      · exact Int.le_trans h (h2 b z)
    · refine ⟨m, List.mem_cons_of_mem _ h1, fun b hb => ?_⟩
      rcases List.mem_cons.mp hb with z | z
      · rw [z]; omega
      · exact h2 b z
theorem up_run {cs : List (Nat × Nat)} {cap : Nat} : ∀ (n : Nat) (w h : List Nat) (f : Int), mea w h < n → w.length + h.length ≤ cap → (∀ k ∈ w, f ≤ (stF cs k : Nat) ∧ stF cs k < glF cs k) → (∀ k ∈ h, f ≤ (glF cs k : Nat)) →
    ∃ r, okR cap w h r = true ∧ ∀ T : Int, f ≤ T → (∀ k ∈ w, (glF cs k : Int) ≤ T) → (∀ k ∈ h, (glF cs k : Int) ≤ T) → trv cs f r ≤ T - f
  | 0, _, _, _, hn, _, _, _ => by omega
  | n + 1, w, h, f, hn, hc, hw, hh => by
    by_cases he : w = [] ∧ h = []
    · obtain ⟨rfl, rfl⟩ := he
      exact ⟨[], rfl, fun T h1 _ _ => by simp only [trv]; omega⟩
    · let ds : List Deed := w.map (fun k => (true, k)) ++ h.map (fun k => (false, k))
      have hds : ds ≠ [] := by
        intro z
        have z2 := List.append_eq_nil_iff.mp z
        exact he ⟨List.map_eq_nil_iff.mp z2.1, List.map_eq_nil_iff.mp z2.2⟩
      obtain ⟨d, hd, hmin⟩ := least_of (flr cs) ds hds
      have cn : can cap w h d = true ∧ f ≤ flr cs d := by
        rcases List.mem_append.mp hd with z | z
        · obtain ⟨k, hk, rfl⟩ := List.mem_map.mp z
          have : 0 < w.length := List.length_pos_of_mem hk
          refine ⟨by simp [can, hk]; omega, ?_⟩
          simpa [flr] using (hw k hk).1
        · obtain ⟨k, hk, rfl⟩ := List.mem_map.mp z
          exact ⟨by simp [can, hk], by simpa [flr] using hh k hk⟩
      have mW : ∀ k ∈ w, flr cs d ≤ (stF cs k : Nat) := fun k hk => by
        have := hmin (true, k) (List.mem_append_left _ (List.mem_map.mpr ⟨k, hk, rfl⟩))
        simpa [flr] using this
      have mH : ∀ k ∈ h, flr cs d ≤ (glF cs k : Nat) := fun k hk => by
        have := hmin (false, k) (List.mem_append_right _ (List.mem_map.mpr ⟨k, hk, rfl⟩))
        simpa [flr] using this
      have hm := mea_nx cn.1
      have sub1 : ∀ k ∈ nxW w d, k ∈ w := fun k hk => by
        unfold nxW at hk
        split at hk
        · exact (List.mem_filter.mp hk).1
        · exact hk
      have sub2 : ∀ k ∈ nxH h d, k ∈ h ∨ (d = (true, k) ∧ k ∈ w) := fun k hk => by
        unfold nxH at hk
        split at hk
        · rename_i hb
          rcases List.mem_append.mp hk with z | z
          · exact .inl z
          · have z' := List.mem_singleton.mp z
            obtain ⟨b, j⟩ := d
            simp only at hb z'
            subst hb z'
            have := cn.1
            simp only [can, if_true, Bool.and_eq_true, decide_eq_true_eq] at this
            exact .inr ⟨rfl, this.1⟩
        · exact .inl (List.mem_filter.mp hk).1
      have hsum : (nxW w d).length + (nxH h d).length ≤ cap := by
        obtain ⟨b, j⟩ := d
        have c1 := cn.1
        cases b
        · simp only [nxW, nxH, Bool.false_eq_true, if_false]
          have := List.length_filter_le (fun x => x != j) h
          omega
        · simp only [can, if_true, Bool.and_eq_true, decide_eq_true_eq] at c1
          have := filter_lt c1.1
          simp only [nxW, nxH, if_true, List.length_append, List.length_singleton]
          omega
      obtain ⟨r, h1, h2⟩ := up_run n (nxW w d) (nxH h d) (flr cs d) (by omega) hsum (fun k hk => ⟨mW k (sub1 k hk), (hw k (sub1 k hk)).2⟩) (fun k hk => by
        rcases sub2 k hk with z | ⟨z, z2⟩
        · exact mH k z
        · have := (hw k z2).2
          have := mW k z2
          omega)
      refine ⟨d :: r, by simp only [okR, cn.1, h1, Bool.and_self], fun T t1 t2 t3 => ?_⟩
      have top : flr cs d ≤ T := by
        rcases List.mem_append.mp hd with z | z
        · obtain ⟨k, hk, rfl⟩ := List.mem_map.mp z
          have := t2 k hk
          have := (hw k hk).2
          simp [flr]
          omega
        · obtain ⟨k, hk, rfl⟩ := List.mem_map.mp z
          simpa [flr] using t3 k hk
      have := h2 T top (fun k hk => t2 k (sub1 k hk)) (fun k hk => by
        rcases sub2 k hk with z | ⟨z, z2⟩
        · exact t3 k z
        · exact t2 k z2)
      simp only [trv]
      have : ab (flr cs d - f) = flr cs d - f := by unfold ab; split <;> omega
      omega
end Lk53
end
section
set_option Elab.async false
set_option linter.all false
set_option maxRecDepth 100000
/-! k53: deeds as data, the least row. -/
namespace Lk53
open PySem PySem.Spec DL
def wordS (b : Bool) : Str := if b = true then "in" else "out"
theorem wordS_inj {a b : Bool} : wordS a = wordS b ↔ a = b := by
  cases a <;> cases b <;> simp [wordS] <;> decide
def wordE : Enc Bool := ⟨fun b => .str (wordS b), fun _ _ => by simp [PySem.W.alike], 0, fun _ => by simp [PyData.depth], fun a b => by simp [PyData.eqv, wordS_inj], fun _ => by simp⟩
def deedE : Enc Deed := Enc.tup2 wordE Enc.nat
def rowE : Enc (List Deed) := Enc.tupL deedE
def pairE : Enc (Int × List Deed) := Enc.tup2 Enc.int rowE
theorem lt_shift (c1 c2 k : Int) (d : Deed) (r1 r2 : List Deed) : pairE.lt (c1 + k, d :: r1) (c2 + k, d :: r2) = pairE.lt (c1, r1) (c2, r2) := by
  unfold pairE
  rw [Enc.lt_tup2, Enc.lt_tup2]
  simp only
  rw [Enc.lt_int, Enc.lt_int]
  have e1 : decide (c1 + k < c2 + k) = decide (c1 < c2) := by
    rw [Bool.eq_iff_iff, decide_eq_true_iff, decide_eq_true_iff]; omega
  have e2 : decide (c1 + k = c2 + k) = decide (c1 = c2) := by
    rw [Bool.eq_iff_iff, decide_eq_true_iff, decide_eq_true_iff]; omega
  have e3 : rowE.lt (d :: r1) (d :: r2) = rowE.lt r1 r2 := by
    unfold rowE
    rw [Enc.lt_tupL_cons, deedE.irr]
    simp
  rw [e1, e2, e3]
/-- p: the least travel, and the least row that has it -/
structure Best (cs : List (Nat × Nat)) (cap : Nat) (f : Int) (w h : List Nat) (p : Int × List Deed) : Prop where
  ok : okR cap w h p.2 = true
  cost : trv cs f p.2 = p.1
  least : ∀ r, okR cap w h r = true → pairE.lt (trv cs f r, r) p = false
theorem Best.uniq {cs : List (Nat × Nat)} {cap : Nat} {f : Int} {w h : List Nat} {p q : Int × List Deed} (a : Best cs cap f w h p) (b : Best cs cap f w h q) : p = q := by
  have h1 := a.least q.2 b.ok
  have h2 := b.least p.2 a.ok
  rw [b.cost] at h1
  rw [a.cost] at h2
  exact pairE.tri (by simpa using h2) (by simpa using h1)
theorem Best.perm {cs : List (Nat × Nat)} {cap : Nat} {f : Int} {w h h' : List Nat} {p : Int × List Deed} (a : Best cs cap f w h p) (hp : h.Perm h') : Best cs cap f w h' p :=
  ⟨by rw [← okR_perm _ hp]; exact a.ok, a.cost, fun r o => a.least r (by rw [okR_perm _ hp]; exact o)⟩
theorem best_nil (cs : List (Nat × Nat)) (cap : Nat) (f : Int) : Best cs cap f [] [] (0, []) :=
  ⟨rfl, rfl, fun r o => by
    cases r with
    | nil => exact pairE.irr _
    | cons d r =>
      obtain ⟨b, k⟩ := d
      cases b <;> simp [okR, can] at o⟩
def deedsP (cap : Nat) (w h : List Nat) : List Deed := (if h.length < cap then w.map fun k => (true, k) else []) ++ h.map fun k => (false, k)
theorem mem_deeds {cap : Nat} {w h : List Nat} {d : Deed} : d ∈ deedsP cap w h ↔ can cap w h d = true := by
  obtain ⟨b, k⟩ := d
  unfold deedsP can
  rw [List.mem_append]
  cases b
  · simp only [Bool.false_eq_true, if_false, decide_eq_true_eq]
    constructor
    · rintro (z | z)
      · split at z
        · obtain ⟨j, _, e⟩ := List.mem_map.mp z; cases e
        · cases z
      · obtain ⟨j, hj, e⟩ := List.mem_map.mp z; cases e; exact hj
    · exact fun z => .inr (List.mem_map.mpr ⟨k, z, rfl⟩)
  · simp only [if_true, Bool.and_eq_true, decide_eq_true_eq]
    constructor
    · rintro (z | z)
      · split at z
        · rename_i hc
          obtain ⟨j, hj, e⟩ := List.mem_map.mp z; cases e; exact ⟨hj, hc⟩
        · cases z
      · obtain ⟨j, hj, e⟩ := List.mem_map.mp z; cases e
    · rintro ⟨z, hc⟩
      refine .inl ?_
      rw [if_pos hc]
      exact List.mem_map.mpr ⟨k, z, rfl⟩
def candP (cs : List (Nat × Nat)) (f : Int) (d : Deed) (p : Int × List Deed) : Int × List Deed := (p.1 + ab (flr cs d - f), d :: p.2)
/-- the least of the candidates -/
theorem best_step {cs : List (Nat × Nat)} {cap : Nat} {f : Int} {w h : List Nat} (he : ¬ (w = [] ∧ h = [])) (bp : Deed → Int × List Deed) (hb : ∀ d ∈ deedsP cap w h, Best cs cap (flr cs d) (nxW w d) (nxH h d) (bp d)) {m : Int × List Deed}
    (hm : m ∈ (deedsP cap w h).map fun d => candP cs f d (bp d)) (hl : ∀ y ∈ (deedsP cap w h).map (fun d => candP cs f d (bp d)), pairE.lt y m = false) : Best cs cap f w h m := by
  obtain ⟨d, hd, rfl⟩ := List.mem_map.mp hm
  have b := hb d hd
  refine ⟨?_, ?_, fun r o => ?_⟩
  · simp only [candP, okR, mem_deeds.mp hd, b.ok, Bool.and_self]
  · simp only [candP, trv, b.cost]; omega
  · cases r with
    | nil =>
      simp only [okR, Bool.and_eq_true, List.isEmpty_iff] at o
      exact absurd o he
    | cons e r =>
      simp only [okR, Bool.and_eq_true] at o
      have hin := mem_deeds.mpr o.1
      have be := hb e hin
      have h1 := be.least r o.2
      have h2 := hl _ (List.mem_map.mpr ⟨e, hin, rfl⟩)
      refine pairE.le_trans h2 ?_
      have h3 := lt_shift (trv cs (flr cs e) r) (bp e).1 (ab (flr cs e - f)) e r (bp e).2
      rw [h1] at h3
      have e1 : trv cs f (e :: r) = trv cs (flr cs e) r + ab (flr cs e - f) := by simp only [trv]; omega
      rw [e1]
      exact h3
end Lk53
end
section
set_option linter.all false
set_option maxRecDepth 100000
set_option maxHeartbeats 20000000
open PySem PySem.Spec PyProof.Rows L2 DL
local macro_rules | `(tactic| walk_at "y") => `(tactic| first | with_reducible assumption | with_reducible exact y_bool_none | with_reducible exact y_bool_bool | with_reducible exact y_bool_int | with_reducible exact y_bool_str | with_reducible exact y_bool_list | with_reducible exact y_bool_tuple | with_reducible exact y_int_none | with_reducible exact y_int_bool | with_reducible exact y_int_int | with_reducible exact y_int_str | with_reducible exact y_int_list | with_reducible exact y_int_tuple | with_reducible exact y_str_none | with_reducible exact y_str_bool | with_reducible exact y_str_int | with_reducible exact y_str_str | with_reducible exact y_str_list | with_reducible exact y_str_tuple | with_reducible exact y_list_none | with_reducible exact y_list_bool | with_reducible exact y_list_int | with_reducible exact y_list_str | with_reducible exact y_list_list | with_reducible exact y_list_tuple | with_reducible exact y_tuple_none | with_reducible exact y_tuple_bool | with_reducible exact y_tuple_int | with_reducible exact y_tuple_str | with_reducible exact y_tuple_list | with_reducible exact y_tuple_tuple | exact rfl)
local macro_rules | `(tactic| walk_at "b") => `(tactic| first | with_reducible assumption | with_reducible rfl | with_reducible exact Bool.not_false | with_reducible exact Bool.not_true)
local macro_rules | `(tactic| walk_at "i") => `(tactic| first | with_reducible exact set_0 | (apply set_s; walk_at "i") | exact rfl)
local macro_rules | `(tactic| walk_at "len") => `(tactic| first | omega | (simp only [List.length_cons, List.length_nil]; omega) | (simp only [List.length_map, List.length_append, List.length_cons, List.length_nil]; omega) | (simp; omega))
local macro_rules | `(tactic| walk_at "o") => `(tactic| first | with_reducible assumption | with_reducible exact ltD_nat _ _ | with_reducible exact leD_nat _ _ | with_reducible exact gtD_nat _ _ | with_reducible exact geD_nat _ _ | with_reducible exact eqD_nat _ _ | with_reducible exact neD_nat _ _ | with_reducible exact gtD_nat0 _ | with_reducible exact eqD_nat0 _ | with_reducible exact addD_nat _ _ | with_reducible exact addD_nat1 _ | with_reducible exact iaddD_nat _ _ | with_reducible exact iaddD_nat1 _ | with_reducible exact iaddD_int _ _ | with_reducible exact addD_int _ _ | with_reducible exact subD_int _ _ | with_reducible exact ltD_int _ _ | with_reducible exact leD_int _ _ | with_reducible exact gtD_int _ _ | with_reducible exact geD_int _ _ | with_reducible exact eqD_int _ _ | with_reducible exact neD_int _ _ | with_reducible exact lenD_tuple _ | with_reducible exact lenD_list _ | with_reducible exact intD_int _ | with_reducible exact intD_bool _ | with_reducible exact absD_int _ | with_reducible exact tupleD_list _ | with_reducible exact tupleD_tuple _ | with_reducible exact revD_tuple _ | with_reducible exact revD_list _ | with_reducible exact listD_tuple _ | with_reducible exact listD_list _ | with_reducible exact sum_nat _ _ | with_reducible exact isD_bool _ _ | with_reducible exact isNotD_bool _ _ | with_reducible exact isD_none _ | with_reducible exact isNotD_none _ | with_reducible exact sum_int _ _ | with_reducible exact eqD_list0 _ | with_reducible exact neD_list0 _ | with_reducible exact eqD_bool _ _ | with_reducible exact neD_bool _ _ | exact rfl)
local macro_rules | `(tactic| walk_at "c") => `(tactic| first | with_reducible assumption | with_reducible apply_assumption)
local macro_rules | `(tactic| walk_at "n") => `(tactic| first | with_reducible exact n_0 | with_reducible exact n_1 | with_reducible exact n_2 | with_reducible exact n_3 | with_reducible exact n_4 | exact rfl)
local macro_rules | `(tactic| walk_at "j") => `(tactic| first | with_reducible exact p_0 | ((with_reducible apply p_1); walk_at "j") | exact rfl)
local macro_rules | `(tactic| walk_at "p") => `(tactic| first | with_reducible exact p_nil | ((with_reducible apply p_cons); walk_at "p") | ((with_reducible apply p_star); walk_at "p") | with_reducible exact p_all)
local macro_rules | `(tactic| walk_at "k") => `(tactic| (intro hk; (try simp only [bq_t, bq_f, beq_self_eq_true, List.isEmpty_nil, List.isEmpty_cons, Bool.not_true, Bool.not_false, Bool.or_true, Bool.true_or, Bool.or_false, Bool.false_or, Bool.and_true, Bool.true_and, Bool.and_false, Bool.false_and, reduceCtorEq, Bool.false_eq_true, decide_eq_true_eq, decide_eq_false_iff_not, Bool.and_eq_true, Bool.not_eq_true', Bool.not_eq_false', Bool.or_eq_true, Bool.or_eq_false_iff, Bool.and_eq_false_iff, Bool.not_eq_true, Bool.not_eq_false] at hk)))
local macro_rules | `(tactic| walk_at "e") => `(tactic| first
  | with_reducible assumption
  | with_reducible exact e_const
  | ((with_reducible apply e_slot); exact rfl)
  | ((with_reducible apply e_bin); (focus (walk_at "e")); (focus (walk_at "e")); (focus (walk_at "o")))
  | ((with_reducible apply e_un); (focus (walk_at "e")); (focus (walk_at "o")))
  | ((with_reducible apply e_cur); (focus (exact rfl)); (focus (exact rfl)))
  | ((with_reducible apply e_curS); (focus (exact rfl)))
  | ((with_reducible apply e_isi); (focus (walk_at "e")); (focus (walk_at "y")))
  | ((with_reducible apply e_call); (focus (walk_at "a")); (focus (walk_at "c")))
  | ((with_reducible apply e_chain); (focus (walk_at "e")); (focus (walk_at "e")); (focus (walk_at "o")); (focus (walk_at "e")); (focus (walk_at "o")))
  | ((with_reducible apply e_not); (focus (walk_at "e")))
  | ((with_reducible apply e_orX); (focus (walk_at "e")); (focus (first | ((with_reducible apply x_t); (focus (walk_at "b"))) | ((with_reducible apply x_orf); (focus (walk_at "b")); (focus (walk_at "e"))) | ((with_reducible apply x_orge); (focus (walk_at "k" <;> walk_at "e"))))))
  | ((with_reducible apply e_andX); (focus (walk_at "e")); (focus (first | ((with_reducible apply x_t); (focus (walk_at "b"))) | ((with_reducible apply x_andt); (focus (walk_at "b")); (focus (walk_at "e"))) | ((with_reducible apply x_andge); (focus (walk_at "k" <;> walk_at "e"))))))
  | ((with_reducible apply e_neg); (focus (walk_at "e")))
  | ((with_reducible apply e_tup); (focus (walk_at "a")); (focus (walk_at "p")); (focus (walk_at "len")))
  | ((with_reducible apply e_lstE); (focus (walk_at "a")); (focus (walk_at "p")); (focus (walk_at "len")))
  | ((with_reducible apply e_ite); (focus (walk_at "t")); (focus (walk_at "k" <;> walk_at "e")); (focus (walk_at "k" <;> walk_at "e")))
  | ((with_reducible apply e_slice); (focus (walk_at "e")); (focus (walk_at "e")); (focus (walk_at "e")); (focus (walk_at "o")))
  | with_reducible exact o_none'
  | ((with_reducible apply o_some'); (focus (walk_at "e")))
  | ((with_reducible apply e_lst); (focus (walk_at "e")))
  | ((with_reducible apply e_app); (focus (exact rfl)); (focus (exact rfl)); (focus (walk_at "e")); (focus (exact rfl)); (focus (walk_at "len")); (focus (walk_at "i")))
  | ((with_reducible apply e_rem); (focus (exact rfl)); (focus (exact rfl)); (focus (walk_at "e")); (focus (exact rfl)); (focus (walk_at "o")); (focus (walk_at "i")))
  | ((with_reducible apply e_rg1); (focus (walk_at "e")); (focus (walk_at "len")))
  | ((with_reducible apply e_mget); (focus (exact rfl)); (focus (walk_at "e")); (focus (exact rfl)); (focus (walk_at "o")); (focus (walk_at "o")))
  | ((with_reducible apply e_callVE); (focus (walk_at "a")); (focus (walk_at "c")); (focus (exact rfl)))
  | ((with_reducible apply e_dict0M); (focus (walk_at "n")); (focus (walk_at "j")))
  | ((with_reducible apply e_pop); (focus (exact rfl)); (focus (exact rfl)); (focus (walk_at "o")); (focus (walk_at "i")))
  | ((with_reducible apply e_dget); (focus (exact rfl)); (focus (walk_at "e")); (focus (exact rfl)); (focus (exact rfl)); (focus (walk_at "o")))
  | ((with_reducible apply e_pure); (focus (walk_at "e")))
  | ((with_reducible apply e_slotV); exact rfl)
  | ((with_reducible apply e_own); (focus (walk_at "e")); (focus (walk_at "n")); (focus (walk_at "j")))
  | ((with_reducible apply e_lstV); (focus (walk_at "a")); (focus (walk_at "p")); (focus (walk_at "len")); (focus (walk_at "n")); (focus (walk_at "j")))
  | ((with_reducible apply e_binV); (focus (walk_at "e")); (focus (walk_at "e")); (focus (walk_at "o")); (focus (walk_at "n")); (focus (walk_at "j")))
  | ((with_reducible apply e_un1V); (focus (walk_at "e")); (focus (walk_at "o")); (focus (walk_at "n")); (focus (walk_at "j")))
  | ((with_reducible apply e_dict0); (focus (walk_at "n")); (focus (walk_at "j")))
  | ((with_reducible apply e_dict1); (focus (walk_at "e")); (focus (walk_at "e")); (focus (exact rfl)); (focus (walk_at "n")); (focus (walk_at "j")))
  | ((with_reducible apply e_callC); (focus (walk_at "a")); (focus (walk_at "c"))))
local macro_rules | `(tactic| walk_at "a") => `(tactic| first
  | with_reducible exact a_nil
  | ((with_reducible apply a_cons); (focus (walk_at "e")); (focus (walk_at "a")))
  | ((with_reducible apply a_consV); (focus (walk_at "e")); (focus (walk_at "a")))
  | ((with_reducible apply a_slot); (focus (exact rfl)); (focus (walk_at "a")))
  | ((with_reducible apply a_starT); (focus (walk_at "e")); (focus (walk_at "a")))
  | ((with_reducible apply a_starL); (focus (walk_at "e")); (focus (walk_at "a"))))
local macro_rules | `(tactic| walk_at "t") => `(tactic| first
  | with_reducible assumption
  | with_reducible exact t_yes
  | ((with_reducible apply t_cmp); (focus (walk_at "e")); (focus (walk_at "e")); (focus (walk_at "o")))
  | ((with_reducible apply t_val); (focus (walk_at "e")))
  | ((with_reducible apply t_not); (focus (walk_at "t")))
  | ((with_reducible apply t_min); (focus (exact rfl)); (focus (walk_at "e")); (focus (exact rfl)); (focus (walk_at "o")))
  | ((with_reducible apply t_orX); (focus (walk_at "t")); (focus (first | ((with_reducible apply x_t); (focus (walk_at "b"))) | ((with_reducible apply x_orf); (focus (walk_at "b")); (focus (walk_at "t"))) | ((with_reducible apply x_org); (focus (walk_at "k" <;> walk_at "t"))))))
  | ((with_reducible apply t_andX); (focus (walk_at "t")); (focus (first | ((with_reducible apply x_t); (focus (walk_at "b"))) | ((with_reducible apply x_andt); (focus (walk_at "b")); (focus (walk_at "t"))) | ((with_reducible apply x_andg); (focus (walk_at "k" <;> walk_at "t")))))))
local macro_rules | `(tactic| walk_at "g") => `(tactic| first
  | with_reducible exact g_nil
  | ((with_reducible apply g_name); (focus (walk_at "i")))
  | ((with_reducible apply g_tup); (focus (exact rfl)); (focus (walk_at "g")))
  | ((with_reducible apply g_cons); (focus (walk_at "g")); (focus (walk_at "g"))))
local macro_rules | `(tactic| walk_at "w") => `(tactic| first
  | ((with_reducible apply w_range1); (focus (walk_at "e")); (focus (walk_at "len")))
  | ((with_reducible apply w_range2); (focus (walk_at "e")); (focus (walk_at "e")); (focus (walk_at "len")); (focus (walk_at "len")))
  | ((with_reducible apply w_seqT); (focus (walk_at "e")))
  | ((with_reducible apply w_seqL); (focus (walk_at "e")))
  | ((with_reducible apply w_scr); (focus (exact rfl))))
local macro_rules | `(tactic| walk_at "s") => `(tactic| first
  | ((with_reducible apply s_next); walk_at "s")
  | ((with_reducible apply okS_seq); walk_at "s")
  | ((with_reducible apply s_set); (focus (walk_at "e")); (focus (walk_at "i")); walk_at "s")
  | ((with_reducible apply s_par); (focus (walk_at "a")); (focus (walk_at "i")); (focus (walk_at "i")); walk_at "s")
  | ((with_reducible apply s_asg2); (focus (walk_at "a")); (focus (walk_at "i")); (focus (walk_at "i")); walk_at "s")
  | ((with_reducible apply s_par3); (focus (walk_at "a")); (focus (walk_at "i")); (focus (walk_at "i")); (focus (walk_at "i")); walk_at "s")
  | ((with_reducible apply s_unl); (focus (walk_at "e")); (focus (exact rfl)); (focus (walk_at "g")); walk_at "s")
  | ((with_reducible apply s_mput); (focus (walk_at "e")); (focus (exact rfl)); (focus (walk_at "e")); (focus (exact rfl)); (focus (walk_at "o")); (focus (walk_at "len")); (focus (walk_at "i")); walk_at "s")
  | ((with_reducible apply s_asg); (focus (walk_at "e")); (focus (walk_at "g")); walk_at "s")
  | ((with_reducible apply s_aug); (focus (exact rfl)); (focus (walk_at "e")); (focus (walk_at "o")); (focus (walk_at "i")); walk_at "s")
  | ((with_reducible apply s_drop); (focus (walk_at "e")); walk_at "s")
  | ((with_reducible apply s_nil); walk_at "s")
  | ((with_reducible apply s_ret); (focus (walk_at "e")); walk_at "s")
  | ((with_reducible apply s_ret'); walk_at "s")
  | ((with_reducible apply s_dput); (focus (walk_at "e")); (focus (exact rfl)); (focus (walk_at "e")); (focus (exact rfl)); (focus (exact rfl)); (focus (walk_at "len")); (focus (walk_at "i")); walk_at "s")
  | ((with_reducible apply s_sto); (focus (walk_at "e")); (focus (exact rfl)); (focus (walk_at "e")); (focus (exact rfl)); (focus (walk_at "o")); (focus (walk_at "i")); walk_at "s")
  | (focus ((with_reducible apply s_if); (focus (walk_at "t")); (all_goals (walk_at "k" <;> walk_at "s"))))
  | skip)
section
namespace Lk53
open K53
def isNum (v : PyData) (lo hi : Int) : Bool := match v with
  | .int i => decide (lo ≤ i) && decide (i ≤ hi)
  | _ => false
theorem F_is_number_eq (v : PyData) (lo hi : Int) : F_is_number [.pure v, .pure (.int lo), .pure (.int hi)] [] = .ok (.bool (isNum v lo hi), []) := by
  cases v <;> simp [F_is_number, runF, b_is_number, envOf_eq, isiB, endF, isNum]
  rename_i i
  cases decide (lo ≤ i) <;> simp
theorem C_is_number (x : PyData) (lo hi : Int) {env st} : callS 3 F_is_number [.pure x, .pure (.int lo), .pure (.int hi)] ⟨env, st⟩ = .ok (.bool (isNum x lo hi), st) := call3 (F_is_number_eq x lo hi)
local macro_rules | `(tactic| walk_at "c") => `(tactic| first | with_reducible apply_assumption | exact C_is_number _ _ _)
def callD (p : Nat × Nat) : PyData := .tuple [.int p.1, .int p.2]
def liftD (f cap : Nat) (cs : List (Nat × Nat)) : PyData := .tuple [.int f, .int cap, .tuple (cs.map callD)]
def callB (v : PyData) : Bool := match v with
  | .tuple [.int a, .int b] => decide (0 ≤ a) && decide (a ≤ 20) && decide (0 ≤ b) && decide (b ≤ 20) && !decide (a = b)
  | _ => false
theorem isNum_int {v : PyData} {lo hi : Int} (h : isNum v lo hi = true) : ∃ i, v = .int i ∧ lo ≤ i ∧ i ≤ hi := by
  unfold isNum at h
  split at h
  · rw [Bool.and_eq_true, decide_eq_true_eq, decide_eq_true_eq] at h
    exact ⟨_, rfl, h.1, h.2⟩
  · cases h
theorem F_is_call_eq (v : PyData) : F_is_call [.pure v] [] = .ok (.bool (callB v), []) := by
  rw [F_is_call]
  refine f_run ?_
  show OkS (b_is_call 0 ⟨[some (.pure v), none], []⟩) _
  rw [b_is_call]
  by_cases ht : ∃ ds, v = .tuple ds
  · obtain ⟨ds, rfl⟩ := ht
    by_cases hl : ds.length = 2
    · obtain ⟨a, b, rfl⟩ : ∃ a b, ds = [a, b] := by
        match ds, hl with
        | [a, b], _ => exact ⟨a, b, rfl⟩
      have h0 : quantE false (seqI (froR (slotE 0))) [1] (nameG 1) yesT (callE 3 F_is_number (consSlotA 1 (consA (constE (.int 0)) (consA (constE k_MOST_FLOOR) nilA)))) ⟨[some (.pure (.tuple [a, b])), none], []⟩ = .ok (.bool ([a, b].all fun x => isNum x 0 20), []) :=
        q_all [a, b] id (fun x => [some (.pure (.tuple [a, b])), some (.pure x)]) (fun x => isNum x 0 20) (by rw [List.map_id]; walk_at "w") fun x hx => ⟨by walk_at "g", t_yes, by walk_at "e"⟩
      cases hA : isNum a 0 20
      · have e : ([a, b].all fun x => isNum x 0 20) = false := by simp [hA]
        rw [e] at h0
        have r : callB (.tuple [a, b]) = false := by
          cases hc : callB (.tuple [a, b]) with
          | false => rfl
          | true =>
            unfold callB at hc
            split at hc
            · rename_i e1; cases e1; simp [isNum] at hA hc; omega
            · cases hc
        rw [r]
        walk_at "s"
        rfl
      · cases hB : isNum b 0 20
        · have e : ([a, b].all fun x => isNum x 0 20) = false := by simp [hB]
          rw [e] at h0
          have r : callB (.tuple [a, b]) = false := by
            cases hc : callB (.tuple [a, b]) with
            | false => rfl
            | true =>
              unfold callB at hc
              split at hc
              · rename_i e1; cases e1; simp [isNum] at hB hc; omega
              · cases hc
          rw [r]
          walk_at "s"
          rfl
        · have e : ([a, b].all fun x => isNum x 0 20) = true := by simp [hA, hB]
          rw [e] at h0
          obtain ⟨i, rfl, i1, i2⟩ := isNum_int hA
          obtain ⟨j, rfl, j1, j2⟩ := isNum_int hB
          have r : callB (.tuple [.int i, .int j]) = !decide (i = j) := by simp [callB, i1, i2, j1, j2]
          rw [r]
          have hN : neD (.int (([PyData.int i, PyData.int j] : List PyData).length : Nat)) (.int 2) = some (.bool false) := by simp
          walk_at "s"
          rfl
    · have r : callB (.tuple ds) = false := by
        unfold callB
        split
        · rename_i e; cases e; exact absurd rfl hl
        · rfl
      rw [r]
      have h1 : (!decide ((ds.length : Int) = 2)) = true := by
        rw [Bool.not_eq_true', decide_eq_false_iff_not]; omega
      have h2 := neD_int ds.length 2
      rw [h1] at h2
      walk_at "s"
      rfl
  · have r : callB v = false := by
      unfold callB
      split
      · exact absurd ⟨_, rfl⟩ ht
      · rfl
    have hy : isiB .tuple v = false := by
      cases v with
      | tuple ds => exact absurd ⟨_, rfl⟩ ht
      | _ => rfl
    rw [r]
    have h0 := t_orT (t' := orT (cmpT neD (un1 lenD (slotE 0)) (constE (.int 2))) (notT (valT (quantE false (seqI (froR (slotE 0))) [1] (nameG 1) yesT (callE 3 F_is_number (consSlotA 1 (consA (constE (.int 0)) (consA (constE k_MOST_FLOOR) nilA)))))))) (t_not (t_val (e_isi (st := []) (st1 := []) (fa := slotE 0) (env := [some (.pure v), none]) (by walk_at "e") hy))) rfl
    walk_at "s"
    rfl
theorem C_is_call (x : PyData) {env st} : callS 1 F_is_call [.pure x] ⟨env, st⟩ = .ok (.bool (callB x), st) := call1 (F_is_call_eq x)
local macro_rules | `(tactic| walk_at "c") => `(tactic| first | with_reducible apply_assumption | exact C_is_call _)
/-! ### is_lift -/
def liftB (v : PyData) : Bool := match v with
  | .tuple [.int f, .int r, .tuple cs] => decide (0 ≤ f) && decide (f ≤ 20) && decide (1 ≤ r) && decide (r ≤ 3) && decide (cs.length ≤ 5) && cs.all callB
  | _ => false
theorem liftB_split {a b c : PyData} (h : liftB (.tuple [a, b, c]) = true) : isNum a 0 20 = true ∧ isNum b 1 3 = true ∧ ∃ cs, c = .tuple cs ∧ cs.length ≤ 5 ∧ cs.all callB = true := by
  unfold liftB at h
  split at h
  · rename_i e
    cases e
    simp only [Bool.and_eq_true, decide_eq_true_eq] at h
    obtain ⟨⟨⟨⟨⟨h1, h2⟩, h3⟩, h4⟩, h5⟩, h6⟩ := h
    exact ⟨by simp [isNum, h1, h2], by simp [isNum, h3, h4], _, rfl, h5, h6⟩
  · cases h
theorem F_is_lift_eq (v : PyData) : F_is_lift [.pure v] [] = .ok (.bool (liftB v), []) := by
  rw [F_is_lift]
  refine f_run ?_
  show OkS (b_is_lift 0 ⟨[some (.pure v), none], []⟩) _
  rw [b_is_lift]
  by_cases ht : ∃ ds, v = .tuple ds
  · obtain ⟨ds, rfl⟩ := ht
    by_cases hl : ds.length = 3
    · obtain ⟨a, b, c, rfl⟩ : ∃ a b c, ds = [a, b, c] := by
        match ds, hl with
        | [a, b, c], _ => exact ⟨a, b, c, rfl⟩
      have hN : neD (.int (([a, b, c] : List PyData).length : Nat)) (.int 3) = some (.bool false) := by simp
      have ia : itemD (.tuple [a, b, c]) (.int 0) = some a := itemD_tuple (i := 0)
      have ib : itemD (.tuple [a, b, c]) (.int 1) = some b := itemD_tuple (i := 1)
      have ic : itemD (.tuple [a, b, c]) (.int 2) = some c := itemD_tuple (i := 2)
      cases hr : liftB (.tuple [a, b, c]) with
      | true =>
        obtain ⟨hA, hB, cs, rfl, hc, hall⟩ := liftB_split hr
        have cA : ∀ {env st}, callS 3 F_is_number [.pure a, .pure (.int 0), .pure (.int 20)] ⟨env, st⟩ = .ok (.bool true, st) := fun {env st} => by rw [C_is_number, hA]
        have cB : ∀ {env st}, callS 3 F_is_number [.pure b, .pure (.int 1), .pure (.int 3)] ⟨env, st⟩ = .ok (.bool true, st) := fun {env st} => by rw [C_is_number, hB]
        have hG : gtD (.int (cs.length : Nat)) (.int 5) = some (.bool false) := by rw [gtD_int, decide_eq_false (by omega)]
        have h0 : quantE false (seqI (froR (bin2 itemD (slotE 0) (constE (.int 2))))) [1] (nameG 1) yesT (callE 1 F_is_call (consSlotA 1 nilA)) ⟨[some (.pure (.tuple [a, b, .tuple cs])), none], []⟩ = .ok (.bool (cs.all callB), []) :=
          q_all cs id (fun x => [some (.pure (.tuple [a, b, .tuple cs])), some (.pure x)]) callB (by rw [List.map_id]; walk_at "w") fun x hx => ⟨by walk_at "g", t_yes, by walk_at "e"⟩
        rw [hall] at h0
        walk_at "s"
        rfl
      | false =>
        by_cases hA : isNum a 0 20 = true
        · have cA : ∀ {env st}, callS 3 F_is_number [.pure a, .pure (.int 0), .pure (.int 20)] ⟨env, st⟩ = .ok (.bool true, st) := fun {env st} => by rw [C_is_number, hA]
          by_cases hB : isNum b 1 3 = true
          · have cB : ∀ {env st}, callS 3 F_is_number [.pure b, .pure (.int 1), .pure (.int 3)] ⟨env, st⟩ = .ok (.bool true, st) := fun {env st} => by rw [C_is_number, hB]
            by_cases hC : ∃ cs, c = .tuple cs
            · obtain ⟨cs, rfl⟩ := hC
              by_cases h5 : cs.length ≤ 5
              · have hG : gtD (.int (cs.length : Nat)) (.int 5) = some (.bool false) := by rw [gtD_int, decide_eq_false (by omega)]
                have h0 : quantE false (seqI (froR (bin2 itemD (slotE 0) (constE (.int 2))))) [1] (nameG 1) yesT (callE 1 F_is_call (consSlotA 1 nilA)) ⟨[some (.pure (.tuple [a, b, .tuple cs])), none], []⟩ = .ok (.bool (cs.all callB), []) :=
                  q_all cs id (fun x => [some (.pure (.tuple [a, b, .tuple cs])), some (.pure x)]) callB (by rw [List.map_id]; walk_at "w") fun x hx => ⟨by walk_at "g", t_yes, by walk_at "e"⟩
                have hall : cs.all callB = false := by
                  cases q : cs.all callB with
                  | false => rfl
                  | true =>
                    obtain ⟨i, rfl, i1, i2⟩ := isNum_int hA
                    obtain ⟨j, rfl, j1, j2⟩ := isNum_int hB
                    simp only [liftB, q, i1, i2, j1, j2, h5, decide_true, Bool.and_self] at hr
                    cases hr
                rw [hall] at h0
                walk_at "s"
                rfl
              · have hG : gtD (.int (cs.length : Nat)) (.int 5) = some (.bool true) := by rw [gtD_int, decide_eq_true (by omega)]
                walk_at "s"
                rfl
            · have hy : isiB .tuple c = false := by
                cases c with
                | tuple ds => exact absurd ⟨_, rfl⟩ hC
                | _ => rfl
              walk_at "s"
              rfl
          · have cB : ∀ {env st}, callS 3 F_is_number [.pure b, .pure (.int 1), .pure (.int 3)] ⟨env, st⟩ = .ok (.bool false, st) := fun {env st} => by rw [C_is_number, Bool.eq_false_iff.mpr hB]
            walk_at "s"
            rfl
        · have cA : ∀ {env st}, callS 3 F_is_number [.pure a, .pure (.int 0), .pure (.int 20)] ⟨env, st⟩ = .ok (.bool false, st) := fun {env st} => by rw [C_is_number, Bool.eq_false_iff.mpr hA]
          walk_at "s"
          rfl
    · have r : liftB (.tuple ds) = false := by
        unfold liftB
        split
        · rename_i e; cases e; exact absurd rfl hl
        · rfl
      rw [r]
      have h2 := neD_int ds.length 3
      rw [decide_eq_false (by omega)] at h2
      walk_at "s"
      rfl
  · have r : liftB v = false := by
      unfold liftB
      split
      · exact absurd ⟨_, rfl⟩ ht
      · rfl
    have hy : isiB .tuple v = false := by
      cases v with
      | tuple ds => exact absurd ⟨_, rfl⟩ ht
      | _ => rfl
    rw [r]
    walk_at "s"
    rfl
theorem C_is_lift (x : PyData) {env st} : callS 1 F_is_lift [.pure x] ⟨env, st⟩ = .ok (.bool (liftB x), st) := call1 (F_is_lift_eq x)
end Lk53
end
section
namespace Lk53
open K53
local macro_rules | `(tactic| walk_at "c") => `(tactic| first | with_reducible apply_assumption | with_reducible exact C_is_number _ _ _ | with_reducible exact C_is_lift _)
theorem l_0 (f cap : Nat) (cs : List (Nat × Nat)) : itemD (liftD f cap cs) (.int 0) = some (.int f) := itemD_tuple (i := 0)
theorem l_1 (f cap : Nat) (cs : List (Nat × Nat)) : itemD (liftD f cap cs) (.int 1) = some (.int cap) := itemD_tuple (i := 1)
theorem l_2 (f cap : Nat) (cs : List (Nat × Nat)) : itemD (liftD f cap cs) (.int 2) = some (.tuple (cs.map callD)) := itemD_tuple (i := 2)
theorem d_0 (d : Deed) : itemD (deedE.f d) (.int 0) = some (.str (wordS d.1)) := itemD_tuple (i := 0)
theorem d_1 (d : Deed) : itemD (deedE.f d) (.int 1) = some (.int (d.2 : Nat)) := itemD_tuple (i := 1)
theorem len_cs (cs : List (Nat × Nat)) : lenD (.tuple (cs.map callD)) = some (.int (cs.length : Nat)) := by rw [lenD_tuple, List.length_map]
theorem w_eq (b : Bool) : eqD (.str (wordS b)) (.str "in") = some (.bool b) := by
  have h := wordE.eqD_e (by decide) b true
  have e : decide (b = true) = b := by cases b <;> rfl
  rw [e] at h
  exact h
local macro_rules | `(tactic| walk_at "o") => `(tactic| first | with_reducible exact l_0 _ _ _ | with_reducible exact l_1 _ _ _ | with_reducible exact l_2 _ _ _ | with_reducible exact d_0 _ | with_reducible exact d_1 _ | with_reducible exact len_cs _ | with_reducible exact w_eq _)
/-! ### is_deed -/
def deedB (n : Nat) (v : PyData) : Bool := match v with
  | .tuple [.str s, .int k] => decide (s ∈ (["in", "out"] : List Str)) && decide (0 ≤ k) && decide (k < n)
  | _ => false
theorem in_words (s : Str) : inD (.str s) (.tuple [.str "in", .str "out"]) = some (.bool (decide (s ∈ (["in", "out"] : List Str)))) := Enc.str.inT (by decide) s ["in", "out"]
theorem notin_words (s : Str) : notInD (.str s) (.tuple [.str "in", .str "out"]) = some (.bool (!decide (s ∈ (["in", "out"] : List Str)))) := Enc.str.notInT (by decide) s ["in", "out"]
theorem isNum_no {v : PyData} {lo hi : Int} (h : ∀ i, v ≠ .int i) : isNum v lo hi = false := by
  unfold isNum
  split
  · exact absurd rfl (h _)
  · rfl
theorem F_is_deed_eq (f cap : Nat) (cs : List (Nat × Nat)) (v : PyData) : F_is_deed [.pure (liftD f cap cs), .pure v] [] = .ok (.bool (deedB cs.length v), []) := by
  rw [F_is_deed]
  refine f_run ?_
  show OkS (b_is_deed 0 ⟨[some (.pure (liftD f cap cs)), some (.pure v)], []⟩) _
  rw [b_is_deed]
  by_cases ht : ∃ ds, v = .tuple ds
  · obtain ⟨ds, rfl⟩ := ht
    by_cases hl : ds.length = 2
    · obtain ⟨a, b, rfl⟩ : ∃ a b, ds = [a, b] := by
        match ds, hl with
        | [a, b], _ => exact ⟨a, b, rfl⟩
      have hN : neD (.int (([a, b] : List PyData).length : Nat)) (.int 2) = some (.bool false) := by simp
      have ia : itemD (.tuple [a, b]) (.int 0) = some a := itemD_tuple (i := 0)
      have ib : itemD (.tuple [a, b]) (.int 1) = some b := itemD_tuple (i := 1)
      by_cases hs : ∃ s, a = .str s
      · obtain ⟨s, rfl⟩ := hs
        have iw := in_words s
        have r : deedB cs.length (.tuple [.str s, b]) = (decide (s ∈ (["in", "out"] : List Str)) && isNum b 0 ((cs.length : Int) - 1)) := by
          by_cases hb : ∃ k, b = .int k
          · obtain ⟨k, rfl⟩ := hb
            simp only [deedB, isNum, Bool.and_assoc]
            congr 2
            rw [Bool.eq_iff_iff, decide_eq_true_iff, decide_eq_true_iff]
            omega
          · rw [isNum_no fun i e => hb ⟨i, e⟩, Bool.and_false]
            unfold deedB
            split
            · rename_i e; cases e; exact absurd ⟨_, rfl⟩ hb
            · rfl
        rw [r]
        walk_at "s"
        rfl
      · have hy : isiB .str a = false := by
          cases a with
          | str ds => exact absurd ⟨_, rfl⟩ hs
          | _ => rfl
        have r : deedB cs.length (.tuple [a, b]) = false := by
          unfold deedB
          split
          · rename_i e; cases e; exact absurd ⟨_, rfl⟩ hs
          · rfl
        rw [r]
        walk_at "s"
        rfl
    · have r : deedB cs.length (.tuple ds) = false := by
        unfold deedB
        split
        · rename_i e; cases e; exact absurd rfl hl
        · rfl
      rw [r]
      have h2 := neD_int ds.length 2
      rw [decide_eq_false (by omega)] at h2
      walk_at "s"
      rfl
  · have r : deedB cs.length v = false := by
      unfold deedB
      split
      · exact absurd ⟨_, rfl⟩ ht
      · rfl
    have hy : isiB .tuple v = false := by
      cases v with
      | tuple ds => exact absurd ⟨_, rfl⟩ ht
      | _ => rfl
    rw [r]
    walk_at "s"
    rfl
theorem C_is_deed (f cap : Nat) (cs : List (Nat × Nat)) (v : PyData) {env st} : callS 2 F_is_deed [.pure (liftD f cap cs), .pure v] ⟨env, st⟩ = .ok (.bool (deedB cs.length v), st) := call2 (F_is_deed_eq f cap cs v)
/-! ### floors, travel -/
theorem item_cs {cs : List (Nat × Nat)} {k : Nat} (h : k < cs.length) : itemD (.tuple (cs.map callD)) (.int (k : Nat)) = some (.tuple [.int (stF cs k : Nat), .int (glF cs k : Nat)]) := by
  rw [item_tm callD cs k h]
  unfold stF glF
  rw [List.getElem?_eq_getElem h]
  rfl
theorem F_floor_of_eq (f cap : Nat) (cs : List (Nat × Nat)) (d : Deed) (h : d.2 < cs.length) : F_floor_of [.pure (liftD f cap cs), .pure (deedE.f d)] [] = .ok (.int (flr cs d), []) := by
  rw [F_floor_of]
  refine f_run ?_
  show OkS (b_floor_of 0 ⟨[some (.pure (liftD f cap cs)), some (.pure (deedE.f d)), none, none], []⟩) _
  rw [b_floor_of]
  have hi := item_cs h
  walk_at "s"
  show (Res.ok (_, _) : RE) = _
  unfold flr
  cases d.1 <;> rfl
theorem C_floor_of (f cap : Nat) (cs : List (Nat × Nat)) (d : Deed) (h : d.2 < cs.length) {env st} : callS 2 F_floor_of [.pure (liftD f cap cs), .pure (deedE.f d)] ⟨env, st⟩ = .ok (.int (flr cs d), st) := call2 (F_floor_of_eq f cap cs d h)
theorem absD_ab (a : Int) : absD (.int a) = some (.int (ab a)) := rfl
local macro_rules | `(tactic| walk_at "o") => `(tactic| first | with_reducible exact absD_ab _)
def trA (cs : List (Nat × Nat)) (t : Int × Int) (d : Deed) : Int × Int := (t.1 + ab (flr cs d - t.2), flr cs d)
theorem trA_eq (cs : List (Nat × Nat)) : ∀ (r : List Deed) (t : Int × Int), (r.foldl (trA cs) t).1 = t.1 + trv cs t.2 r
  | [], t => by simp [trv]
  | d :: r, t => by
    rw [List.foldl_cons, trA_eq cs r]
    simp only [trA, trv]
    omega
theorem F_travel_eq (f cap : Nat) (cs : List (Nat × Nat)) (r : List Deed) (h : ∀ d ∈ r, d.2 < cs.length) : F_travel [.pure (liftD f cap cs), .pure (rowE.f r)] [] = .ok (.int (trv cs f r), []) := by
  rw [F_travel]
  refine f_run ?_
  show OkS (b_travel 0 ⟨[some (.pure (liftD f cap cs)), some (.pure (rowE.f r)), none, none, none], []⟩) _
  rw [b_travel]
  walk_at "s"
  refine s_fold r deedE.f (fun t : Int × Int => ⟨[some (.pure (liftD f cap cs)), some (.pure (rowE.f r)), some (.pure (.int t.2)), some (.pure (.int t.1)), none], []⟩) (trA cs) (fun _ _ => True) (0, (f : Int)) (by show Walks _ _ _ _; exact w_seqT (ds := r.map deedE.f) (e_slot rfl)) rfl True.intro ?_ ?_
  · intro k hk t _
    refine ⟨_, by walk_at "g", ?_⟩
    have hf := h r[k] (List.getElem_mem hk)
    have c1 : ∀ {env st}, callS 2 F_floor_of [.pure (liftD f cap cs), .pure (deedE.f r[k])] ⟨env, st⟩ = .ok (.int (flr cs r[k]), st) := fun {env st} => C_floor_of f cap cs r[k] hf
    walk_at "s"
    exact ⟨rfl, rfl, True.intro⟩
  · intro _
    have e := trA_eq cs r (0, (f : Int))
    simp only [Int.zero_add] at e
    walk_at "s"
    rw [e]
    rfl
theorem C_travel (f cap : Nat) (cs : List (Nat × Nat)) (r : List Deed) (h : ∀ d ∈ r, d.2 < cs.length) {env st} : callS 2 F_travel [.pure (liftD f cap cs), .pure (rowE.f r)] ⟨env, st⟩ = .ok (.int (trv cs f r), st) := call2 (F_travel_eq f cap cs r h)
theorem i_01 (a b : Int) (k : Bool) : itemD (.tuple [.int a, .int b]) (cond k (.int 0) (.int 1)) = some (.int (if k = true then a else b)) := by
  cases k
  · exact itemD_tuple (i := 1)
  · exact itemD_tuple (i := 0)
theorem F_ltravel_eq (f cap : Nat) (cs : List (Nat × Nat)) (r : List Deed) (h : ∀ d ∈ r, d.2 < cs.length) : F__law_travel [.pure (liftD f cap cs), .pure (rowE.f r)] [] = .ok (.int (trv cs f r), []) := by
  rw [F__law_travel]
  refine f_run ?_
  show OkS (b__law_travel 0 ⟨[some (.pure (liftD f cap cs)), some (.pure (rowE.f r)), none, none, none, none, none], []⟩) _
  rw [b__law_travel]
  walk_at "s"
  refine s_fold r deedE.f (fun t : Int × Int => ⟨[some (.pure (liftD f cap cs)), some (.pure (rowE.f r)), some (.pure (.int t.2)), some (.pure (.int t.1)), none, none, none], []⟩) (trA cs) (fun _ _ => True) (0, (f : Int)) (by show Walks _ _ _ _; exact w_seqT (ds := r.map deedE.f) (e_slot rfl)) rfl True.intro ?_ ?_
  · intro k hk t _
    have hf := h r[k] (List.getElem_mem hk)
    have hi := item_cs hf
    refine ⟨[some (.pure (liftD f cap cs)), some (.pure (rowE.f r)), some (.pure (.int t.2)), some (.pure (.int t.1)), some (.pure (.str (wordS r[k].1))), some (.pure (.int (r[k].2 : Nat))), none], by
      show tupG 2 _ (.tuple [.str (wordS r[k].1), .int (r[k].2 : Nat)]) _ = _
      walk_at "g", ?_⟩
    have e1 : itemD (.tuple [.int (stF cs r[k].2 : Nat), .int (glF cs r[k].2 : Nat)]) (cond r[k].1 (.int 0) (.int 1)) = some (.int (flr cs r[k])) := i_01 _ _ _
    walk_at "s"
    exact ⟨rfl, rfl, True.intro⟩
  · intro _
    have e := trA_eq cs r (0, (f : Int))
    simp only [Int.zero_add] at e
    walk_at "s"
    rw [e]
    rfl
theorem C_ltravel (f cap : Nat) (cs : List (Nat × Nat)) (r : List Deed) (h : ∀ d ∈ r, d.2 < cs.length) {env st} : callS 2 F__law_travel [.pure (liftD f cap cs), .pure (rowE.f r)] ⟨env, st⟩ = .ok (.int (trv cs f r), st) := call2 (F_ltravel_eq f cap cs r h)
/-! ### _law_int, _law_same -/
def isInt : PyData → Bool
  | .int _ => true
  | _ => false
theorem F_lint_eq (v : PyData) : F__law_int [.pure v] [] = .ok (.bool (isInt v), []) := by
  cases v <;> simp [F__law_int, runF, b__law_int, envOf_eq, isiB, endF, isInt]
theorem C_lint (v : PyData) {env st} : callS 1 F__law_int [.pure v] ⟨env, st⟩ = .ok (.bool (isInt v), st) := call1 (F_lint_eq v)
theorem F_same_eq (a b : Bool) : F__law_same [.pure (.bool a), .pure (.bool b)] [] = .ok (.bool (a == b), []) := by
  cases a <;> cases b <;> simp [F__law_same, runF, b__law_same, envOf_eq, endF, isD_bool]
theorem C_same (a b : Bool) {env st} : callS 2 F__law_same [.pure (.bool a), .pure (.bool b)] ⟨env, st⟩ = .ok (.bool (a == b), st) := call2 (F_same_eq a b)
end Lk53
end
section
namespace Lk53
open K53
local macro_rules | `(tactic| walk_at "o") => `(tactic| first | with_reducible exact l_0 _ _ _ | with_reducible exact l_1 _ _ _ | with_reducible exact l_2 _ _ _ | with_reducible exact d_0 _ | with_reducible exact d_1 _ | with_reducible exact len_cs _ | with_reducible exact w_eq _ | with_reducible exact absD_ab _)
abbrev natD (n : Nat) : PyData := .int (n : Int)
theorem okR_len {cap : Nat} : ∀ (r : List Deed) {w h : List Nat}, okR cap w h r = true → r.length ≤ mea w h
  | [], _, _, _ => Nat.zero_le _
  | d :: r, w, h, o => by
    simp only [okR, Bool.and_eq_true] at o
    have h1 := okR_len r o.2
    have h2 := mea_nx o.1
    rw [List.length_cons]
    omega
theorem foldl_app {α β : Type} (f : α → List β) : ∀ (l : List α) (t : List β), l.foldl (fun t a => t ++ f a) t = t ++ l.flatMap f
  | [], t => by simp
  | a :: l, t => by rw [List.foldl_cons, foldl_app f l, List.flatMap_cons, List.append_assoc]
theorem add_row (b : Bool) (k : Nat) (r : List Deed) (h : r.length ≤ 1000) : addD (.tuple [.tuple [.str (wordS b), .int (k : Nat)]]) (rowE.f r) = some (rowE.f ((b, k) :: r)) := by
  show addD (.tuple [deedE.f (b, k)]) (.tuple (r.map deedE.f)) = some (.tuple (((b, k) :: r).map deedE.f))
  simp only [addD]
  rw [if_pos (by simp; omega)]
  rfl
theorem add_rows (s t : List (List Deed)) (h : s.length + t.length ≤ 16777216) : addD (.list (s.map rowE.f)) (.list (t.map rowE.f)) = some (.list ((s ++ t).map rowE.f)) := by
  simp only [addD]
  rw [if_pos (by simp; omega), List.map_append]
theorem add_nat1 (s : List Nat) (k : Nat) (h : s.length ≤ 1000) : addD (.list (s.map natD)) (.list [.int (k : Nat)]) = some (.list ((s ++ [k]).map natD)) := by
  simp only [addD]
  rw [if_pos (by simp; omega), List.map_append]
  rfl
theorem F_runs_eq (f cap : Nat) (cs : List (Nat × Nat)) : ∀ (n : Nat) (w h : List Nat), mea w h < n → mea w h ≤ 8 → F__law_runs n [.pure (liftD f cap cs), .pure (.list (w.map natD)), .pure (.list (h.map natD))] [] = .ok (.list ((runsL cap n w h).map rowE.f), [])
  | 0, _, _, hn, _ => by omega
  | n + 1, w, h, hn, h8 => by
    rw [F__law_runs]
    refine f_run ?_
    show OkS (b__law_runs (F__law_runs n) 0 ⟨[some (.pure (liftD f cap cs)), some (.pure (.list (w.map natD))), some (.pure (.list (h.map natD))), none, none, none, none], []⟩) _
    rw [b__law_runs]
    have hw8 : w.length ≤ 8 := by unfold mea at h8; omega
    have hh8 : h.length ≤ 8 := by unfold mea at h8; omega
    have e1 : (w.map natD).isEmpty = w.isEmpty := by cases w <;> rfl
    have e2 : (h.map natD).isEmpty = h.isEmpty := by cases h <;> rfl
    have q1 := eqD_list0 (w.map natD)
    have q2 := eqD_list0 (h.map natD)
    rw [e1] at q1
    rw [e2] at q2
    have ql : lenD (.list (h.map natD)) = some (.int (h.length : Nat)) := by rw [lenD_list, List.length_map]
    have ext : ∀ {w' h' : List Nat}, mea w' h' + 1 ≤ mea w h → ∀ r ∈ runsL cap n w' h', r.length ≤ 1000 := fun {w' h'} hm r hr => by
      have := okR_len r ((mem_runsL (by omega)).mp hr)
      omega
    have exl : ∀ {w' h' : List Nat}, mea w' h' + 1 ≤ mea w h → (runsL cap n w' h').length ≤ 40320 := fun {w' h'} hm => by
      have := runsL_len (cap := cap) n w' h'
      have h2 : fct (mea w' h') ≤ fct 8 := fct_mono (by omega)
      have h3 : fct 8 = 40320 := by decide
      omega
    by_cases he : w = [] ∧ h = []
    · obtain ⟨rfl, rfl⟩ := he
      walk_at "s"
      rfl
    · have hr : runsL cap (n + 1) w h = (w.flatMap fun k => if h.length < cap then (runsL cap n (w.filter fun x => x != k) (h ++ [k])).map ((true, k) :: ·) else []) ++
          h.flatMap fun k => (runsL cap n w (h.filter fun x => x != k)).map ((false, k) :: ·) := by
        rw [runsL, if_neg he]
      have hc : (w.isEmpty && h.isEmpty) = false := by
        cases w <;> cases h <;> first | rfl | exact absurd ⟨rfl, rfl⟩ he
      clear he
      have ht : andT (cmpT eqD (slotE 1) (lstE nilA)) (cmpT eqD (slotE 2) (lstE nilA)) ⟨[some (.pure (liftD f cap cs)), some (.pure (.list (w.map natD))), some (.pure (.list (h.map natD))), none, none, none, none], []⟩ = .ok (false, []) := by
        rw [← hc]
        exact t_and (by walk_at "t") fun _ => by walk_at "t"
      refine okS_seq (s_ifF ht (s_nil (s_next ?_)))
      walk_at "s"
      refine s_fold w natD (fun t : List (List Deed) => ⟨[some (.pure (liftD f cap cs)), some (.pure (.list (w.map natD))), some (.pure (.list (h.map natD))), some (.pure (.list (t.map rowE.f))), none, none, none], []⟩)
        (fun t k => t ++ if h.length < cap then (runsL cap n (w.filter fun x => x != k) (h ++ [k])).map ((true, k) :: ·) else []) (fun k t => t.length ≤ k * 40320) [] (by walk_at "w") rfl (Nat.zero_le _) ?_ ?_
      · intro i hi t ht
        have hiw := List.getElem_mem hi
        refine ⟨_, by walk_at "g", ?_⟩
        have hkk : ∀ x : Nat, (!decide (x = w[i])) = (x != w[i]) := fun x => rfl
        refine s_if (k := decide (h.length < cap)) (by walk_at "t") (fun hk => ?_) (fun hk => ?_)
        · rw [decide_eq_true_eq] at hk
          have hm := mea_nx (cap := cap) (w := w) (h := h) (d := (true, w[i])) (by simp [can, hiw, hk])
          simp only [nxW, nxH, if_true] at hm
          have c1 := c_pure (env := [some (.pure (liftD f cap cs)), some (.pure (.list (w.map natD))), some (.pure (.list (h.map natD))), some (.pure (.list (t.map rowE.f))), some (.pure (natD w[i])), none, none]) (st := []) (st1 := []) (fi := seqI (froR (slotE 1))) (vs := [6]) (gt := nameG 6) (ft := cmpT neD (slotE 6) (slotE 4)) (fe := slotE 6)
            w natD (fun x => [some (.pure (liftD f cap cs)), some (.pure (.list (w.map natD))), some (.pure (.list (h.map natD))), some (.pure (.list (t.map rowE.f))), some (.pure (natD w[i])), none, some (.pure (natD x))]) (fun x => x != w[i]) natD (by walk_at "w") (by omega) fun x hx => ⟨by walk_at "g", by rw [← hkk]; walk_at "t", fun _ => by walk_at "e"⟩
          have c2 : ∀ {env st}, callS 3 (F__law_runs n) [.pure (liftD f cap cs), .pure (.list ((w.filter fun x => x != w[i]).map natD)), .pure (.list ((h ++ [w[i]]).map natD))] ⟨env, st⟩ = .ok (.list ((runsL cap n (w.filter fun x => x != w[i]) (h ++ [w[i]])).map rowE.f), st) := fun {env st} => call3 (F_runs_eq f cap cs n _ _ (by omega) (by omega))
          have c3 := add_nat1 h w[i] (by omega)
          have c4 := c_all (env := [some (.pure (liftD f cap cs)), some (.pure (.list (w.map natD))), some (.pure (.list (h.map natD))), some (.pure (.list (t.map rowE.f))), some (.pure (natD w[i])), none, none]) (st := []) (st1 := []) (fi := seqI (froR (callE 3 (F__law_runs n) (consSlotA 0 (consA (lstOf (compC (seqI (froR (slotE 1))) [6] (nameG 6) (cmpT neD (slotE 6) (slotE 4)) (slotE 6))) (consA (bin2 addD (slotE 2) (lstE (consA (slotE 4) nilA))) nilA)))))) (vs := [5]) (gt := nameG 5) (ft := yesT) (fe := bin2 addD (tupE (consA (tupE (consA (constE (.str "in")) (consA (slotE 4) nilA))) nilA)) (slotE 5))
            (runsL cap n (w.filter fun x => x != w[i]) (h ++ [w[i]])) rowE.f (fun x => [some (.pure (liftD f cap cs)), some (.pure (.list (w.map natD))), some (.pure (.list (h.map natD))), some (.pure (.list (t.map rowE.f))), some (.pure (natD w[i])), some (.pure (rowE.f x)), none]) (fun x => rowE.f ((true, w[i]) :: x)) (by walk_at "w") (by have := exl hm; omega) fun x hx => ⟨by walk_at "g", t_yes, by
              have : addD (.tuple [.tuple [.str "in", .int (w[i] : Nat)]]) (rowE.f x) = some (rowE.f ((true, w[i]) :: x)) := add_row true w[i] x (ext hm x hx)
              walk_at "e"⟩
          have c5 := add_rows t ((runsL cap n (w.filter fun x => x != w[i]) (h ++ [w[i]])).map ((true, w[i]) :: ·)) (by
            rw [List.length_map]
            have := exl hm
            have : i * 40320 ≤ 8 * 40320 := Nat.mul_le_mul_right _ (by omega)
            omega)
          rw [List.map_map] at c5
          simp only [Function.comp_def] at c5
          walk_at "s"
          refine ⟨rfl, ?_, ?_⟩
          · rw [if_pos hk]; rfl
          · rw [if_pos hk, List.length_append, List.length_map, Nat.add_mul]
            have := exl hm
            omega
        · rw [decide_eq_false_iff_not] at hk
          walk_at "s"
          refine ⟨rfl, ?_, ?_⟩
          · rw [if_neg hk, List.append_nil]; rfl
          · rw [if_neg hk, List.append_nil, Nat.add_mul]; omega
      · intro ht1
        have ht2 : (w.foldl (fun t k => t ++ if h.length < cap then (runsL cap n (w.filter fun x => x != k) (h ++ [k])).map ((true, k) :: ·) else []) []).length ≤ 8 * 40320 := Nat.le_trans ht1 (Nat.mul_le_mul_right _ hw8)
        clear ht1
        have hf1 := foldl_app (fun k => if h.length < cap then (runsL cap n (w.filter fun x => x != k) (h ++ [k])).map ((true, k) :: ·) else []) w []
        rw [List.nil_append] at hf1
        rw [hf1] at ht2 ⊢
        generalize hA : (w.flatMap fun k => if h.length < cap then (runsL cap n (w.filter fun x => x != k) (h ++ [k])).map ((true, k) :: ·) else []) = A at ht2 hr ⊢
        walk_at "s"
        refine s_fold h natD (fun t : List (List Deed) => ⟨[some (.pure (liftD f cap cs)), some (.pure (.list (w.map natD))), some (.pure (.list (h.map natD))), some (.pure (.list (t.map rowE.f))), none, none, none], []⟩)
          (fun t k => t ++ (runsL cap n w (h.filter fun x => x != k)).map ((false, k) :: ·)) (fun k t => t.length ≤ (8 + k) * 40320) A (by walk_at "w") rfl ht2 ?_ ?_
        · intro i hi t ht
          have hiw := List.getElem_mem hi
          refine ⟨_, by walk_at "g", ?_⟩
          have hkk : ∀ x : Nat, (!decide (x = h[i])) = (x != h[i]) := fun x => rfl
          have hm := mea_nx (cap := cap) (w := w) (h := h) (d := (false, h[i])) (by simp [can, hiw])
          simp only [nxW, nxH, Bool.false_eq_true, if_false] at hm
          have c1 := c_pure (env := [some (.pure (liftD f cap cs)), some (.pure (.list (w.map natD))), some (.pure (.list (h.map natD))), some (.pure (.list (t.map rowE.f))), some (.pure (natD h[i])), none, none]) (st := []) (st1 := []) (fi := seqI (froR (slotE 2))) (vs := [6]) (gt := nameG 6) (ft := cmpT neD (slotE 6) (slotE 4)) (fe := slotE 6)
            h natD (fun x => [some (.pure (liftD f cap cs)), some (.pure (.list (w.map natD))), some (.pure (.list (h.map natD))), some (.pure (.list (t.map rowE.f))), some (.pure (natD h[i])), none, some (.pure (natD x))]) (fun x => x != h[i]) natD (by walk_at "w") (by omega) fun x hx => ⟨by walk_at "g", by rw [← hkk]; walk_at "t", fun _ => by walk_at "e"⟩
          have c2 : ∀ {env st}, callS 3 (F__law_runs n) [.pure (liftD f cap cs), .pure (.list (w.map natD)), .pure (.list ((h.filter fun x => x != h[i]).map natD))] ⟨env, st⟩ = .ok (.list ((runsL cap n w (h.filter fun x => x != h[i])).map rowE.f), st) := fun {env st} => call3 (F_runs_eq f cap cs n _ _ (by omega) (by omega))
          have c4 := c_all (env := [some (.pure (liftD f cap cs)), some (.pure (.list (w.map natD))), some (.pure (.list (h.map natD))), some (.pure (.list (t.map rowE.f))), some (.pure (natD h[i])), none, none]) (st := []) (st1 := []) (fi := seqI (froR (callE 3 (F__law_runs n) (consSlotA 0 (consSlotA 1 (consA (lstOf (compC (seqI (froR (slotE 2))) [6] (nameG 6) (cmpT neD (slotE 6) (slotE 4)) (slotE 6))) nilA)))))) (vs := [5]) (gt := nameG 5) (ft := yesT) (fe := bin2 addD (tupE (consA (tupE (consA (constE (.str "out")) (consA (slotE 4) nilA))) nilA)) (slotE 5))
            (runsL cap n w (h.filter fun x => x != h[i])) rowE.f (fun x => [some (.pure (liftD f cap cs)), some (.pure (.list (w.map natD))), some (.pure (.list (h.map natD))), some (.pure (.list (t.map rowE.f))), some (.pure (natD h[i])), some (.pure (rowE.f x)), none]) (fun x => rowE.f ((false, h[i]) :: x)) (by walk_at "w") (by have := exl hm; omega) fun x hx => ⟨by walk_at "g", t_yes, by
              have : addD (.tuple [.tuple [.str "out", .int (h[i] : Nat)]]) (rowE.f x) = some (rowE.f ((false, h[i]) :: x)) := add_row false h[i] x (ext hm x hx)
              walk_at "e"⟩
          have c5 := add_rows t ((runsL cap n w (h.filter fun x => x != h[i])).map ((false, h[i]) :: ·)) (by
            rw [List.length_map]
            have := exl hm
            have : (8 + i) * 40320 ≤ 16 * 40320 := Nat.mul_le_mul_right _ (by omega)
            omega)
          rw [List.map_map] at c5
          simp only [Function.comp_def] at c5
          walk_at "s"
          refine ⟨rfl, rfl, ?_⟩
          rw [List.length_append, List.length_map, ← Nat.add_assoc, Nat.add_mul]
          have := exl hm
          omega
        · intro ht1
          have hf2 := foldl_app (fun k => (runsL cap n w (h.filter fun x => x != k)).map ((false, k) :: ·)) h A
          rw [hf2, ← hr]
          walk_at "s"
          rfl
end Lk53
end
section
namespace Lk53
open K53
local macro_rules | `(tactic| walk_at "o") => `(tactic| first | with_reducible exact l_0 _ _ _ | with_reducible exact l_1 _ _ _ | with_reducible exact l_2 _ _ _ | with_reducible exact d_0 _ | with_reducible exact d_1 _ | with_reducible exact len_cs _ | with_reducible exact w_eq _ | with_reducible exact absD_ab _)
abbrev nats : Enc (List Nat) := Enc.tupL Enc.nat
def stE : Enc (Int × List Nat × List Nat) := Enc.tup3 Enc.int nats nats
theorem st_key (f : Int) (w h : List Nat) : mKey (.tuple [.int f, .tuple (w.map natD), .tuple (h.map natD)]) = true := by
  have h1 : DK.kOkAll (w.map natD) = true := kOkAll_map natD (fun _ => rfl) w
  have h2 : DK.kOkAll (h.map natD) = true := kOkAll_map natD (fun _ => rfl) h
  have h3 := Enc.depAll Enc.nat w
  have h4 := Enc.depAll Enc.nat h
  have h3' : PyData.depthAll (w.map natD) ≤ 0 := h3
  have h4' : PyData.depthAll (h.map natD) ≤ 0 := h4
  clear h3 h4
  have z3 := Nat.le_zero.mp h3'
  have z4 := Nat.le_zero.mp h4'
  simp [mKey, DK.kOkAll, DK.kOk, h1, h2, PyData.depthAll, PyData.depth, z3, z4]
/-- what is known, is so -/
def KvOk (cs : List (Nat × Nat)) (cap : Nat) (kvs : List (PyData × PyData)) : Prop := ∀ q ∈ kvs, ∃ f w h p, q.1 = stE.f (f, w, h) ∧ q.2 = pairE.f p ∧ Best cs cap f w h p
theorem KvOk.find {cs : List (Nat × Nat)} {cap : Nat} {kvs : List (PyData × PyData)} (k : KvOk cs cap kvs) {f : Int} {w h : List Nat} {d : PyData} (e : mFind kvs (stE.f (f, w, h)) = some d) : ∃ p, d = pairE.f p ∧ Best cs cap f w h p := by
  obtain ⟨q, q1, q2, q3⟩ := mFind_mem e
  obtain ⟨f', w', h', p, e1, e2, b⟩ := k q q1
  rw [e1] at q2
  have := (stE.eqv _ _).mp q2
  cases this
  exact ⟨p, by rw [← q3, e2], b⟩
theorem KvOk.put {cs : List (Nat × Nat)} {cap : Nat} {kvs : List (PyData × PyData)} (k : KvOk cs cap kvs) {f : Int} {w h : List Nat} {p : Int × List Deed} (b : Best cs cap f w h p) : KvOk cs cap (mPut kvs (stE.f (f, w, h)) (pairE.f p)) := by
  intro q hq
  rcases mPut_mem hq with ⟨q', h1, h2, h3, h4⟩ | z | z
  · obtain ⟨f', w', h', p', e1, e2, b'⟩ := k q' h1
    rw [e1] at h3
    have := (stE.eqv _ _).mp h3
    cases this
    exact ⟨f, w, h, p, by rw [← h2, e1], h4, b⟩
  · exact k q z
  · subst z
    exact ⟨f, w, h, p, rfl, rfl, b⟩
def cnt : Nat → Nat
  | 0 => 1
  | m + 1 => 1 + (m + 1) * cnt m
theorem cnt_pos : ∀ m, 1 ≤ cnt m
  | 0 => Nat.le_refl _
  | m + 1 => by rw [cnt]; omega
theorem cnt_mono {m n : Nat} (h : m ≤ n) : cnt m ≤ cnt n := by
  induction h with
  | refl => exact Nat.le_refl _
  | @step k _ ih =>
    refine Nat.le_trans ih ?_
    have := Nat.le_mul_of_pos_left (cnt k) (Nat.succ_pos k)
    show cnt k ≤ 1 + (k + 1) * cnt k
    have e : k.succ * cnt k = (k + 1) * cnt k := rfl
    rw [e] at this
    omega
open Classical in
/-- the best behind a deed -/
noncomputable def bpF (cs : List (Nat × Nat)) (cap : Nat) (w h : List Nat) (d : Deed) : Int × List Deed := if e : ∃ p, Best cs cap (flr cs d) (nxW w d) (nxH h d) p then choose e else (0, [])
theorem bpF_eq {cs : List (Nat × Nat)} {cap : Nat} {w h : List Nat} {d : Deed} {p : Int × List Deed} (b : Best cs cap (flr cs d) (nxW w d) (nxH h d) p) : bpF cs cap w h d = p := by
  unfold bpF
  have e : ∃ p, Best cs cap (flr cs d) (nxW w d) (nxH h d) p := ⟨p, b⟩
  rw [dif_pos e]
  exact (Classical.choose_spec e).uniq b
theorem nx_sub {n : Nat} {cap : Nat} {w h : List Nat} {d : Deed} (c : can cap w h d = true) (hw : ∀ k ∈ w, k < n) (hh : ∀ k ∈ h, k < n) : d.2 < n ∧ (∀ k ∈ nxW w d, k < n) ∧ ∀ k ∈ nxH h d, k < n := by
  obtain ⟨b, j⟩ := d
  cases b
  · simp only [can, Bool.false_eq_true, if_false, decide_eq_true_eq] at c
    refine ⟨hh j c, fun k hk => hw k hk, fun k hk => ?_⟩
    simp only [nxH, Bool.false_eq_true, if_false] at hk
    exact hh k (List.mem_filter.mp hk).1
  · simp only [can, if_true, Bool.and_eq_true, decide_eq_true_eq] at c
    refine ⟨hw j c.1, fun k hk => ?_, fun k hk => ?_⟩
    · simp only [nxW, if_true] at hk
      exact hw k (List.mem_filter.mp hk).1
    · simp only [nxH, if_true, List.mem_append, List.mem_singleton] at hk
      rcases hk with z | z
      · exact hh k z
      · rw [z]; exact hw j c.1
theorem nx_cap {cap : Nat} {w h : List Nat} {d : Deed} (c : can cap w h d = true) (hc : h.length ≤ cap) : (nxH h d).length ≤ cap := by
  obtain ⟨b, j⟩ := d
  cases b
  · simp only [nxH, Bool.false_eq_true, if_false]
    exact Nat.le_trans (List.length_filter_le _ _) hc
  · simp only [can, if_true, Bool.and_eq_true, decide_eq_true_eq] at c
    simp only [nxH, if_true, List.length_append, List.length_singleton]
    omega
/-- what is held behind a deed, as the program keeps it -/
def heldP (h : List Nat) (d : Deed) : List Nat := if d.1 = true then Enc.nat.srt (h ++ [d.2]) else h.filter (fun x => x != d.2)
theorem held_perm (h : List Nat) (d : Deed) : (heldP h d).Perm (nxH h d) := by
  unfold heldP nxH
  split
  · exact Enc.nat.srt_perm _
  · exact List.Perm.refl _
theorem neD_deed (d e : Deed) : neD (deedE.f d) (deedE.f e) = some (.bool (!decide (d = e))) := deedE.neD_e (by decide) d e
theorem deeds_len (cap : Nat) (w h : List Nat) : (deedsP cap w h).length ≤ w.length + h.length := by
  unfold deedsP
  rw [List.length_append, List.length_map]
  split
  · rw [List.length_map]; omega
  · simp
end Lk53
end
section
namespace Lk53
open K53
local macro_rules | `(tactic| walk_at "o") => `(tactic| first | with_reducible exact l_0 _ _ _ | with_reducible exact l_1 _ _ _ | with_reducible exact l_2 _ _ _ | with_reducible exact d_0 _ | with_reducible exact d_1 _ | with_reducible exact len_cs _ | with_reducible exact w_eq _ | with_reducible exact absD_ab _)
theorem eq_nats0 (w : List Nat) : eqD (.tuple (w.map natD)) (.tuple []) = some (.bool (decide (w = []))) := nats.eqD_e (by decide) w []
theorem len_nats (w : List Nat) : lenD (.tuple (w.map natD)) = some (.int (w.length : Nat)) := by rw [lenD_tuple, List.length_map]
theorem add_deeds (s t : List Deed) (h : s.length + t.length ≤ 1000) : addD (.list (s.map deedE.f)) (.list (t.map deedE.f)) = some (.list ((s ++ t).map deedE.f)) := by
  simp only [addD]
  rw [if_pos (by simp; omega), List.map_append]
theorem add_natsT (s : List Nat) (k : Nat) (h : s.length ≤ 1000) : addD (.tuple (s.map natD)) (.tuple [.int (k : Nat)]) = some (.tuple ((s ++ [k]).map natD)) := by
  simp only [addD]
  rw [if_pos (by simp; omega), List.map_append]
  rfl
theorem add_rowD (d : Deed) (r : List Deed) (h : r.length ≤ 1000) : addD (.tuple [deedE.f d]) (rowE.f r) = some (rowE.f (d :: r)) := by
  show addD (.tuple [deedE.f d]) (.tuple (r.map deedE.f)) = some (.tuple ((d :: r).map deedE.f))
  simp only [addD]
  rw [if_pos (by simp; omega)]
  rfl
theorem sorted_nats (xs : List Nat) : sortedDD (.tuple (xs.map natD)) = some (.list ((Enc.nat.srt xs).map natD)) :=
  Enc.nat.sortedT (by decide) (PySem.W.Sortable.others fun _ => ⟨by simp [Enc.nat], by simp [Enc.nat]⟩)
theorem dne (b : Bool) (j x : Nat) : (!decide (((b, j) : Deed) = (b, x))) = (x != j) := by
  by_cases e : x = j
  · subst e; simp
  · have : ¬ j = x := fun z => e z.symm
    simp [e, this]
theorem F_least_eq (f0 cap : Nat) (cs : List (Nat × Nat)) (hcap : 1 ≤ cap) : ∀ (n : Nat) (f : Int) (w h : List Nat) (kvs : List (PyData × PyData)), mea w h < n → mea w h ≤ 8 → (∀ k ∈ w, k < cs.length) → (∀ k ∈ h, k < cs.length) → h.length ≤ cap → KvOk cs cap kvs → kvs.length + cnt (mea w h) ≤ 16777000 →
    ∃ p kvs', F_least_behind n [.pure (liftD f0 cap cs), .pure (.int f), .pure (.tuple (w.map natD)), .pure (.tuple (h.map natD)), .obj 0] [.dM kvs] = .ok (pairE.f p, [.dM kvs']) ∧ Best cs cap f w h p ∧ KvOk cs cap kvs' ∧ kvs'.length ≤ kvs.length + cnt (mea w h)
  | 0, _, _, _, _, hn, _, _, _, _, _, _ => by omega
  | n + 1, f, w, h, kvs, hn, h8, hw, hh, hc, hk, hl => by
    have hw8 : w.length ≤ 8 := by unfold mea at h8; omega
    have hh8 : h.length ≤ 8 := by unfold mea at h8; omega
    have q1 := eq_nats0 w
    have q2 := eq_nats0 h
    have ql := len_nats h
    by_cases he : w = [] ∧ h = []
    · obtain ⟨rfl, rfl⟩ := he
      refine ⟨(0, []), kvs, ?_, best_nil cs cap f, hk, Nat.le_add_right _ _⟩
      rw [F_least_behind]
      refine f_run ?_
      show OkS (b_least_behind (F_least_behind n) 1 ⟨[some (.pure (liftD f0 cap cs)), some (.pure (.int f)), some (.pure (.tuple [])), some (.pure (.tuple [])), some (.obj 0), none, none, none, none, none, none, none, none, none, none], [.dM kvs]⟩) _
      rw [b_least_behind]
      have q1 : eqD (.tuple []) (.tuple []) = some (.bool true) := q1
      walk_at "s"
      rfl
    · have hcE : (decide (w = []) && decide (h = [])) = false := by
        cases w <;> cases h <;> first | rfl | exact absurd ⟨rfl, rfl⟩ he
      have ht : andT (cmpT eqD (slotE 2) (tupE nilA)) (cmpT eqD (slotE 3) (tupE nilA)) ⟨[some (.pure (liftD f0 cap cs)), some (.pure (.int f)), some (.pure (.tuple (w.map natD))), some (.pure (.tuple (h.map natD))), some (.obj 0), none, none, none, none, none, none, none, none, none, none], [.dM kvs]⟩ = .ok (false, [.dM kvs]) := by
        rw [← hcE]
        exact t_and (by walk_at "t") fun _ => by walk_at "t"
      have hkey := st_key f w h
      cases hf : mFind kvs (.tuple [.int f, .tuple (w.map natD), .tuple (h.map natD)]) with
      | some d =>
        obtain ⟨p, rfl, hb⟩ := hk.find hf
        refine ⟨p, kvs, ?_, hb, hk, Nat.le_add_right _ _⟩
        rw [F_least_behind]
        refine f_run ?_
        show OkS (b_least_behind (F_least_behind n) 1 ⟨[some (.pure (liftD f0 cap cs)), some (.pure (.int f)), some (.pure (.tuple (w.map natD))), some (.pure (.tuple (h.map natD))), some (.obj 0), none, none, none, none, none, none, none, none, none, none], [.dM kvs]⟩) _
        rw [b_least_behind]
        clear he
        refine okS_seq (s_ifF ht (s_nil (s_next ?_)))
        refine okS_seq (s_set (by walk_at "e") (by walk_at "i") (s_next ?_))
        have hm : minT true 4 (slotE 5) ⟨[some (.pure (liftD f0 cap cs)), some (.pure (.int f)), some (.pure (.tuple (w.map natD))), some (.pure (.tuple (h.map natD))), some (.obj 0), some (.pure (.tuple [.int f, .tuple (w.map natD), .tuple (h.map natD)])), none, none, none, none, none, none, none, none, none], [.dM kvs]⟩ = .ok (false, [.dM kvs]) := by
          have := t_min (neg := true) (env := [some (.pure (liftD f0 cap cs)), some (.pure (.int f)), some (.pure (.tuple (w.map natD))), some (.pure (.tuple (h.map natD))), some (.obj 0), some (.pure (.tuple [.int f, .tuple (w.map natD), .tuple (h.map natD)])), none, none, none, none, none, none, none, none, none]) (st := [.dM kvs]) (i := 4) (fa := slotE 5) (j := 0) rfl (by walk_at "e") rfl hkey
          rw [hf] at this
          exact this
        refine okS_seq (s_ifF hm (s_nil (s_next ?_)))
        walk_at "s"
        rfl
      | none =>
        have hdl := deeds_len cap w h
        have hme : ∃ m, mea w h = m + 1 := by
          refine ⟨mea w h - 1, ?_⟩
          have : mea w h ≠ 0 := fun z => he (by
            unfold mea at z
            exact ⟨List.length_eq_zero_iff.mp (by omega), List.length_eq_zero_iff.mp (by omega)⟩)
          omega
        obtain ⟨m, hme⟩ := hme
        have hdm : (deedsP cap w h).length ≤ m + 1 := by unfold mea at hme; omega
        have hcnt : cnt (mea w h) = 1 + (m + 1) * cnt m := by rw [hme, cnt]
        have hds : deedsP cap w h ≠ [] := by
          intro z
          cases h with
          | cons k r =>
            have : (false, k) ∈ deedsP cap w (k :: r) := mem_deeds.mpr (by simp [can])
            rw [z] at this
            cases this
          | nil =>
            cases w with
            | nil => exact he ⟨rfl, rfl⟩
            | cons k r =>
              have : (true, k) ∈ deedsP cap (k :: r) [] := mem_deeds.mpr (by simp [can]; omega)
              rw [z] at this
              cases this
        have hst := fun hb {mm} => best_step (cs := cs) (cap := cap) (f := f) (m := mm) he (bpF cs cap w h) hb
        clear he
        have hnl : ∀ {d : Deed} {r : List Deed}, can cap w h d = true → okR cap (nxW w d) (nxH h d) r = true → r.length ≤ 1000 := fun {d r} c o => by
          have h1 := okR_len r o
          have h2 := mea_nx c
          omega
        let E0 : Sto → List PyData → Option SV → Option SV → Option SV → Option SV → Option SV → Option SV → S := fun st dd a b c' d e g => ⟨[some (.pure (liftD f0 cap cs)), some (.pure (.int f)), some (.pure (.tuple (w.map natD))), some (.pure (.tuple (h.map natD))), some (.obj 0), some (.pure (.tuple [.int f, .tuple (w.map natD), .tuple (h.map natD)])), some (.obj 1), some (.pure (.list dd)), a, b, c', d, e, g, none], st⟩
        have loop : ∀ (Q : Fl → S → Prop) (nn : Nat), (∀ kvs', KvOk cs cap kvs' → kvs'.length ≤ kvs.length + (m + 1) * cnt m → (∀ d ∈ deedsP cap w h, Best cs cap (flr cs d) (nxW w d) (nxH h d) (bpF cs cap w h d)) →
            Q .next (E0 [.dM kvs', .lst (((deedsP cap w h).map fun d => candP cs f d (bpF cs cap w h d)).map pairE.f)] ((deedsP cap w h).map deedE.f) none none none none none none)) →
            OkS (forS (seqI (froR (slotE 7))) (nameG 8) (seqS (setS 9 (pureV (callE 2 F_floor_of (consSlotA 0 (consSlotA 8 nilA))))) (seqS (setS 10 (pureV (un1 tupleD (lstOf (compC (seqI (froR (slotE 2))) [14] (nameG 14) (cmpT neD (slotE 8) (tupE (consA (constE (.str "in")) (consA (slotE 14) nilA)))) (slotE 14))))))
              (seqS (setS 11 (pureV (un1 tupleD (lstOf (compC (seqI (froR (slotE 3))) [14] (nameG 14) (cmpT neD (slotE 8) (tupE (consA (constE (.str "out")) (consA (slotE 14) nilA)))) (slotE 14))))))
              (seqS (ifS (cmpT eqD (bin2 itemD (slotE 8) (constE (.int 0))) (constE (.str "in"))) (setS 11 (pureV (un1 tupleD (un1 sortedDD (bin2 addD (slotE 11) (tupE (consA (bin2 itemD (slotE 8) (constE (.int 1))) nilA))))))) nilS)
              (seqS (asgS (callE 5 (F_least_behind n) (consSlotA 0 (consSlotA 9 (consSlotA 10 (consSlotA 11 (consSlotA 4 nilA)))))) (tupG 2 (consG (nameG 12) (consG (nameG 13) nilG))))
              (dropS (appE 6 (tupE (consA (bin2 addD (slotE 12) (un1 absD (bin2 subD (slotE 9) (slotE 1)))) (consA (bin2 addD (tupE (consA (slotE 8) nilA)) (slotE 13)) nilA)))))))))) [8, 9, 10, 11, 12, 13] nn (E0 [.dM kvs, .lst []] ((deedsP cap w h).map deedE.f) none none none none none none)) Q := by
          intro Q nn hQ
          refine s_for (deedsP cap w h) deedE.f (fun k s => ∃ kvs', s = E0 [.dM kvs', .lst ((((deedsP cap w h).take k).map fun d => candP cs f d (bpF cs cap w h d)).map pairE.f)] ((deedsP cap w h).map deedE.f) none none none none none none ∧ KvOk cs cap kvs' ∧ kvs'.length ≤ kvs.length + k * cnt m ∧
            ∀ d ∈ (deedsP cap w h).take k, Best cs cap (flr cs d) (nxW w d) (nxH h d) (bpF cs cap w h d)) (by show Walks _ ⟨_, _⟩ _ _; exact w_seqL (e_slot rfl)) ⟨kvs, rfl, hk, by omega, fun d hd => by simp at hd⟩ ?_ ?_
          · rintro k hkl s ⟨kvs', rfl, hk', hl', hb'⟩
            generalize hd : (deedsP cap w h)[k] = d
            have hdm' : d ∈ deedsP cap w h := by rw [← hd]; exact List.getElem_mem hkl
            have cn := mem_deeds.mp hdm'
            obtain ⟨s1, s2, s3⟩ := nx_sub cn hw hh
            have hmn := mea_nx cn
            have hp := held_perm h d
            have hmh : mea (nxW w d) (heldP h d) = mea (nxW w d) (nxH h d) := by unfold mea; rw [hp.length_eq]
            have hle : cnt (mea (nxW w d) (heldP h d)) ≤ cnt m := cnt_mono (by omega)
            have hk8 : k * cnt m + cnt m ≤ (m + 1) * cnt m := by
              rw [← Nat.succ_mul]; exact Nat.mul_le_mul_right _ (by omega)
            obtain ⟨p, kvs2, r1, r2, r3, r4⟩ := F_least_eq f0 cap cs hcap n (flr cs d) (nxW w d) (heldP h d) kvs' (by omega) (by omega) s2 (fun k hk => s3 k (hp.mem_iff.mp hk)) (by rw [hp.length_eq]; exact nx_cap cn hc) hk' (by omega)
            have r2' := r2.perm hp
            have ebp := bpF_eq r2'
            have hts : (deedsP cap w h).take (k + 1) = (deedsP cap w h).take k ++ [d] := by
              rw [List.take_add_one, List.getElem?_eq_getElem hkl, hd]; rfl
            generalize hAe : (((deedsP cap w h).take k).map fun d => candP cs f d (bpF cs cap w h d)).map pairE.f = A
            have hAl : A.length ≤ 16 := by
              rw [← hAe, List.length_map, List.length_map, List.length_take]; omega
            generalize hDD : (deedsP cap w h).map deedE.f = DD
            refine ⟨_, by walk_at "g", ?_⟩
            clear hst hQ
            obtain ⟨b, j⟩ := d
            cases b
            ·
              have n1 : ∀ x : Nat, neD (deedE.f (false, j)) (.tuple [.str "in", .int (x : Nat)]) = some (.bool (!decide (((false, j) : Deed) = (true, x)))) := fun x => neD_deed (false, j) (true, x)
              have n2 : ∀ x : Nat, neD (deedE.f (false, j)) (.tuple [.str "out", .int (x : Nat)]) = some (.bool (!decide (((false, j) : Deed) = (false, x)))) := fun x => neD_deed (false, j) (false, x)
              have c1 : ∀ {env st}, callS 2 F_floor_of [.pure (liftD f0 cap cs), .pure (deedE.f (false, j))] ⟨env, st⟩ = .ok (.int (flr cs (false, j)), st) := fun {env st} => C_floor_of f0 cap cs (false, j) s1
              have cW := c_pure (env := [some (.pure (liftD f0 cap cs)), some (.pure (.int f)), some (.pure (.tuple (w.map natD))), some (.pure (.tuple (h.map natD))), some (.obj 0), some (.pure (.tuple [.int f, .tuple (w.map natD), .tuple (h.map natD)])), some (.obj 1), some (.pure (.list DD)), some (.pure (deedE.f (false, j))), some (.pure (.int (flr cs (false, j)))), none, none, none, none, none]) (st := [.dM kvs', .lst A]) (st1 := [.dM kvs', .lst A]) (fi := seqI (froR (slotE 2))) (vs := [14]) (gt := nameG 14) (ft := cmpT neD (slotE 8) (tupE (consA (constE (.str "in")) (consA (slotE 14) nilA)))) (fe := slotE 14)
                w natD (fun x => [some (.pure (liftD f0 cap cs)), some (.pure (.int f)), some (.pure (.tuple (w.map natD))), some (.pure (.tuple (h.map natD))), some (.obj 0), some (.pure (.tuple [.int f, .tuple (w.map natD), .tuple (h.map natD)])), some (.obj 1), some (.pure (.list DD)), some (.pure (deedE.f (false, j))), some (.pure (.int (flr cs (false, j)))), none, none, none, none, some (.pure (natD x))]) (fun x => !decide (((false, j) : Deed) = (true, x))) natD (by walk_at "w") (by omega) fun x hx => ⟨by walk_at "g", by have := n1 x; walk_at "t", fun _ => by walk_at "e"⟩
              have eW : (w.filter fun x => !decide (((false, j) : Deed) = (true, x))) = nxW w (false, j) := by
                unfold nxW; rw [if_neg (by simp)]; refine List.filter_eq_self.mpr fun x _ => ?_; simp
              rw [eW] at cW
              have cH := c_pure (env := [some (.pure (liftD f0 cap cs)), some (.pure (.int f)), some (.pure (.tuple (w.map natD))), some (.pure (.tuple (h.map natD))), some (.obj 0), some (.pure (.tuple [.int f, .tuple (w.map natD), .tuple (h.map natD)])), some (.obj 1), some (.pure (.list DD)), some (.pure (deedE.f (false, j))), some (.pure (.int (flr cs (false, j)))), some (.pure (.tuple ((nxW w (false, j)).map natD))), none, none, none, none]) (st := [.dM kvs', .lst A]) (st1 := [.dM kvs', .lst A]) (fi := seqI (froR (slotE 3))) (vs := [14]) (gt := nameG 14) (ft := cmpT neD (slotE 8) (tupE (consA (constE (.str "out")) (consA (slotE 14) nilA)))) (fe := slotE 14)
                h natD (fun x => [some (.pure (liftD f0 cap cs)), some (.pure (.int f)), some (.pure (.tuple (w.map natD))), some (.pure (.tuple (h.map natD))), some (.obj 0), some (.pure (.tuple [.int f, .tuple (w.map natD), .tuple (h.map natD)])), some (.obj 1), some (.pure (.list DD)), some (.pure (deedE.f (false, j))), some (.pure (.int (flr cs (false, j)))), some (.pure (.tuple ((nxW w (false, j)).map natD))), none, none, none, some (.pure (natD x))]) (fun x => !decide (((false, j) : Deed) = (false, x))) natD (by walk_at "w") (by omega) fun x hx => ⟨by walk_at "g", by have := n2 x; walk_at "t", fun _ => by walk_at "e"⟩
              have eH : (h.filter fun x => !decide (((false, j) : Deed) = (false, x))) = (h.filter fun x => x != j) := by
                refine List.filter_congr fun x _ => ?_; exact dne _ _ _
              rw [eH] at cH
              have hw1 : eqD (.str (wordS false)) (.str "in") = some (.bool false) := w_eq false
              
              
              have cc : ∀ {env}, callS 5 (F_least_behind n) [.pure (liftD f0 cap cs), .pure (.int (flr cs (false, j))), .pure (.tuple ((nxW w (false, j)).map natD)), .pure (.tuple (((h.filter fun x => x != j)).map natD)), .obj 0] ⟨env, [.dM kvs', .lst A]⟩ = .ok (.tuple [.int p.1, rowE.f p.2], [.dM kvs2, .lst A]) := fun {env} => callO5 rfl r1
              have a3 := add_rowD (false, j) p.2 (hnl cn r2'.ok)
              clear r1 r2
              walk_at "s"
              refine ⟨kvs2, ?_, r3, by rw [Nat.add_mul]; omega, ?_⟩
              · rw [hts, List.map_append, List.map_append, hAe]
                show _ = E0 [.dM kvs2, .lst (A ++ [pairE.f (candP cs f (false, j) (bpF cs cap w h (false, j)))])] _ _ _ _ _ _ _
                rw [ebp]
                rfl
              · intro d' hd'
                rw [hts, List.mem_append, List.mem_singleton] at hd'
                rcases hd' with z | z
                · exact hb' d' z
                · rw [z, ebp]; exact r2'
            ·
              have n1 : ∀ x : Nat, neD (deedE.f (true, j)) (.tuple [.str "in", .int (x : Nat)]) = some (.bool (!decide (((true, j) : Deed) = (true, x)))) := fun x => neD_deed (true, j) (true, x)
              have n2 : ∀ x : Nat, neD (deedE.f (true, j)) (.tuple [.str "out", .int (x : Nat)]) = some (.bool (!decide (((true, j) : Deed) = (false, x)))) := fun x => neD_deed (true, j) (false, x)
              have c1 : ∀ {env st}, callS 2 F_floor_of [.pure (liftD f0 cap cs), .pure (deedE.f (true, j))] ⟨env, st⟩ = .ok (.int (flr cs (true, j)), st) := fun {env st} => C_floor_of f0 cap cs (true, j) s1
              have cW := c_pure (env := [some (.pure (liftD f0 cap cs)), some (.pure (.int f)), some (.pure (.tuple (w.map natD))), some (.pure (.tuple (h.map natD))), some (.obj 0), some (.pure (.tuple [.int f, .tuple (w.map natD), .tuple (h.map natD)])), some (.obj 1), some (.pure (.list DD)), some (.pure (deedE.f (true, j))), some (.pure (.int (flr cs (true, j)))), none, none, none, none, none]) (st := [.dM kvs', .lst A]) (st1 := [.dM kvs', .lst A]) (fi := seqI (froR (slotE 2))) (vs := [14]) (gt := nameG 14) (ft := cmpT neD (slotE 8) (tupE (consA (constE (.str "in")) (consA (slotE 14) nilA)))) (fe := slotE 14)
                w natD (fun x => [some (.pure (liftD f0 cap cs)), some (.pure (.int f)), some (.pure (.tuple (w.map natD))), some (.pure (.tuple (h.map natD))), some (.obj 0), some (.pure (.tuple [.int f, .tuple (w.map natD), .tuple (h.map natD)])), some (.obj 1), some (.pure (.list DD)), some (.pure (deedE.f (true, j))), some (.pure (.int (flr cs (true, j)))), none, none, none, none, some (.pure (natD x))]) (fun x => !decide (((true, j) : Deed) = (true, x))) natD (by walk_at "w") (by omega) fun x hx => ⟨by walk_at "g", by have := n1 x; walk_at "t", fun _ => by walk_at "e"⟩
              have eW : (w.filter fun x => !decide (((true, j) : Deed) = (true, x))) = nxW w (true, j) := by
                unfold nxW; rw [if_pos rfl]; refine List.filter_congr fun x _ => ?_; exact dne _ _ _
              rw [eW] at cW
              have cH := c_pure (env := [some (.pure (liftD f0 cap cs)), some (.pure (.int f)), some (.pure (.tuple (w.map natD))), some (.pure (.tuple (h.map natD))), some (.obj 0), some (.pure (.tuple [.int f, .tuple (w.map natD), .tuple (h.map natD)])), some (.obj 1), some (.pure (.list DD)), some (.pure (deedE.f (true, j))), some (.pure (.int (flr cs (true, j)))), some (.pure (.tuple ((nxW w (true, j)).map natD))), none, none, none, none]) (st := [.dM kvs', .lst A]) (st1 := [.dM kvs', .lst A]) (fi := seqI (froR (slotE 3))) (vs := [14]) (gt := nameG 14) (ft := cmpT neD (slotE 8) (tupE (consA (constE (.str "out")) (consA (slotE 14) nilA)))) (fe := slotE 14)
                h natD (fun x => [some (.pure (liftD f0 cap cs)), some (.pure (.int f)), some (.pure (.tuple (w.map natD))), some (.pure (.tuple (h.map natD))), some (.obj 0), some (.pure (.tuple [.int f, .tuple (w.map natD), .tuple (h.map natD)])), some (.obj 1), some (.pure (.list DD)), some (.pure (deedE.f (true, j))), some (.pure (.int (flr cs (true, j)))), some (.pure (.tuple ((nxW w (true, j)).map natD))), none, none, none, some (.pure (natD x))]) (fun x => !decide (((true, j) : Deed) = (false, x))) natD (by walk_at "w") (by omega) fun x hx => ⟨by walk_at "g", by have := n2 x; walk_at "t", fun _ => by walk_at "e"⟩
              have eH : (h.filter fun x => !decide (((true, j) : Deed) = (false, x))) = h := by
                refine List.filter_eq_self.mpr fun x _ => ?_; simp
              rw [eH] at cH
              have hw1 : eqD (.str (wordS true)) (.str "in") = some (.bool true) := w_eq true
              have a1 := add_natsT h j (by omega)
              have a2 := sorted_nats (h ++ [j])
              have cc : ∀ {env}, callS 5 (F_least_behind n) [.pure (liftD f0 cap cs), .pure (.int (flr cs (true, j))), .pure (.tuple ((nxW w (true, j)).map natD)), .pure (.tuple ((Enc.nat.srt (h ++ [j])).map natD)), .obj 0] ⟨env, [.dM kvs', .lst A]⟩ = .ok (.tuple [.int p.1, rowE.f p.2], [.dM kvs2, .lst A]) := fun {env} => callO5 rfl r1
              have a3 := add_rowD (true, j) p.2 (hnl cn r2'.ok)
              clear r1 r2
              walk_at "s"
              refine ⟨kvs2, ?_, r3, by rw [Nat.add_mul]; omega, ?_⟩
              · rw [hts, List.map_append, List.map_append, hAe]
                show _ = E0 [.dM kvs2, .lst (A ++ [pairE.f (candP cs f (true, j) (bpF cs cap w h (true, j)))])] _ _ _ _ _ _ _
                rw [ebp]
                rfl
              · intro d' hd'
                rw [hts, List.mem_append, List.mem_singleton] at hd'
                rcases hd' with z | z
                · exact hb' d' z
                · rw [z, ebp]; exact r2'
          · rintro s ⟨kvs', rfl, hk', hl', hb'⟩
            rw [List.take_length] at hb' ⊢
            refine hQ kvs' hk' (Nat.le_trans hl' (Nat.add_le_add_left (Nat.mul_le_mul_right _ hdm) _)) hb'
        have hB : ∀ kvs', KvOk cs cap kvs' → kvs'.length ≤ kvs.length + (m + 1) * cnt m → (∀ d ∈ deedsP cap w h, Best cs cap (flr cs d) (nxW w d) (nxH h d) (bpF cs cap w h d)) → ∃ mm, minDD (.list (((deedsP cap w h).map fun d => candP cs f d (bpF cs cap w h d)).map pairE.f)) = some (pairE.f mm) ∧ Best cs cap f w h mm := by
          intro kvs' k1 k2 k3
          obtain ⟨mm, h1, h2, h3⟩ := pairE.minL (by decide) (xs := (deedsP cap w h).map fun d => candP cs f d (bpF cs cap w h d)) (by simpa using hds)
          exact ⟨mm, h1, hst k3 h2 h3⟩
        clear hst
        rw [F_least_behind]
        refine runF_P (P := fun r => ∃ p kvs', r = .ok (pairE.f p, [.dM kvs']) ∧ Best cs cap f w h p ∧ KvOk cs cap kvs' ∧ kvs'.length ≤ kvs.length + cnt (mea w h)) ?_
        show OkS (b_least_behind (F_least_behind n) 1 ⟨[some (.pure (liftD f0 cap cs)), some (.pure (.int f)), some (.pure (.tuple (w.map natD))), some (.pure (.tuple (h.map natD))), some (.obj 0), none, none, none, none, none, none, none, none, none, none], [.dM kvs]⟩) _
        rw [b_least_behind]
        refine okS_seq (s_ifF ht (s_nil (s_next ?_)))
        refine okS_seq (s_set (by walk_at "e") (by walk_at "i") (s_next ?_))
        have hm : minT true 4 (slotE 5) ⟨[some (.pure (liftD f0 cap cs)), some (.pure (.int f)), some (.pure (.tuple (w.map natD))), some (.pure (.tuple (h.map natD))), some (.obj 0), some (.pure (.tuple [.int f, .tuple (w.map natD), .tuple (h.map natD)])), none, none, none, none, none, none, none, none, none], [.dM kvs]⟩ = .ok (true, [.dM kvs]) := by
          have := t_min (neg := true) (env := [some (.pure (liftD f0 cap cs)), some (.pure (.int f)), some (.pure (.tuple (w.map natD))), some (.pure (.tuple (h.map natD))), some (.obj 0), some (.pure (.tuple [.int f, .tuple (w.map natD), .tuple (h.map natD)])), none, none, none, none, none, none, none, none, none]) (st := [.dM kvs]) (i := 4) (fa := slotE 5) (j := 0) rfl (by walk_at "e") rfl hkey
          rw [hf] at this
          exact this
        refine okS_seq (s_ifT hm ?_)
        refine okS_seq (s_set (by walk_at "e") (by walk_at "i") (s_next ?_))
        have cO := c_all (env := [some (.pure (liftD f0 cap cs)), some (.pure (.int f)), some (.pure (.tuple (w.map natD))), some (.pure (.tuple (h.map natD))), some (.obj 0), some (.pure (.tuple [.int f, .tuple (w.map natD), .tuple (h.map natD)])), some (.obj 1), none, none, none, none, none, none, none, none]) (st := [.dM kvs, .lst []]) (st1 := [.dM kvs, .lst []]) (fi := seqI (froR (slotE 3))) (vs := [14]) (gt := nameG 14) (ft := yesT) (fe := tupE (consA (constE (.str "out")) (consA (slotE 14) nilA)))
          h natD (fun x => [some (.pure (liftD f0 cap cs)), some (.pure (.int f)), some (.pure (.tuple (w.map natD))), some (.pure (.tuple (h.map natD))), some (.obj 0), some (.pure (.tuple [.int f, .tuple (w.map natD), .tuple (h.map natD)])), some (.obj 1), none, none, none, none, none, none, none, some (.pure (natD x))]) (fun x => PyData.tuple [.str "out", .int (x : Nat)]) (by walk_at "w") (by omega) fun x hx => ⟨by walk_at "g", t_yes, by walk_at "e"⟩
        have eO : (h.map fun x : Nat => PyData.tuple [.str "out", .int (x : Nat)]) = (h.map fun k => ((false, k) : Deed)).map deedE.f := by
          rw [List.map_map]; rfl
        rw [eO] at cO
        refine okS_seq (s_set (by walk_at "e") (by walk_at "i") (s_next ?_))
        refine okS_seq (OkS.mono (Q := fun fl s => fl = .next ∧ s = E0 [.dM kvs, .lst []] ((deedsP cap w h).map deedE.f) none none none none none none) ?_ ?_)
        · refine s_if (k := decide (h.length < cap)) (by walk_at "t") (fun hc2 => ?_) (fun hc2 => ?_)
          · rw [decide_eq_true_eq] at hc2
            have cI := c_all (env := [some (.pure (liftD f0 cap cs)), some (.pure (.int f)), some (.pure (.tuple (w.map natD))), some (.pure (.tuple (h.map natD))), some (.obj 0), some (.pure (.tuple [.int f, .tuple (w.map natD), .tuple (h.map natD)])), some (.obj 1), some (.pure (.list ((h.map fun k => ((false, k) : Deed)).map deedE.f))), none, none, none, none, none, none, none]) (st := [.dM kvs, .lst []]) (st1 := [.dM kvs, .lst []]) (fi := seqI (froR (slotE 2))) (vs := [14]) (gt := nameG 14) (ft := yesT) (fe := tupE (consA (constE (.str "in")) (consA (slotE 14) nilA)))
              w natD (fun x => [some (.pure (liftD f0 cap cs)), some (.pure (.int f)), some (.pure (.tuple (w.map natD))), some (.pure (.tuple (h.map natD))), some (.obj 0), some (.pure (.tuple [.int f, .tuple (w.map natD), .tuple (h.map natD)])), some (.obj 1), some (.pure (.list ((h.map fun k => ((false, k) : Deed)).map deedE.f))), none, none, none, none, none, none, some (.pure (natD x))]) (fun x => PyData.tuple [.str "in", .int (x : Nat)]) (by walk_at "w") (by omega) fun x hx => ⟨by walk_at "g", t_yes, by walk_at "e"⟩
            have eI : (w.map fun x : Nat => PyData.tuple [.str "in", .int (x : Nat)]) = (w.map fun k => ((true, k) : Deed)).map deedE.f := by
              rw [List.map_map]; rfl
            rw [eI] at cI
            have aD := add_deeds (w.map fun k => ((true, k) : Deed)) (h.map fun k => ((false, k) : Deed)) (by rw [List.length_map, List.length_map]; omega)
            have eD : (w.map fun k => ((true, k) : Deed)) ++ (h.map fun k => ((false, k) : Deed)) = deedsP cap w h := by unfold deedsP; rw [if_pos hc2]
            rw [eD] at aD
            walk_at "s"
            exact ⟨rfl, rfl⟩
          · rw [decide_eq_false_iff_not] at hc2
            have eD : (h.map fun k => ((false, k) : Deed)) = deedsP cap w h := by unfold deedsP; rw [if_neg hc2, List.nil_append]
            rw [eD]
            walk_at "s"
            exact ⟨rfl, rfl⟩
        · rintro fl s ⟨rfl, rfl⟩
          refine okS_seq (loop _ _ fun kvs' k1 k2 k3 => ?_)
          obtain ⟨mm, hmin, hbest⟩ := hB kvs' k1 k2 k3
          have hfind : mFind (mPut kvs' (.tuple [.int f, .tuple (w.map natD), .tuple (h.map natD)]) (pairE.f mm)) (.tuple [.int f, .tuple (w.map natD), .tuple (h.map natD)]) = some (pairE.f mm) := mPut_find ((stE.eqv (f, w, h) (f, w, h)).mpr rfl)
          have hput := k1.put hbest
          have hlen := mPut_len kvs' (.tuple [.int f, .tuple (w.map natD), .tuple (h.map natD)]) (pairE.f mm)
          clear loop hB
          show thenS _ _ _ _ (⟨_, _⟩ : S)
          walk_at "s"
          exact ⟨mm, _, rfl, hbest, hput, by rw [hcnt]; exact Nat.le_trans hlen (by omega)⟩
end Lk53
end
section
namespace Lk53
open K53
local macro_rules | `(tactic| walk_at "o") => `(tactic| first | with_reducible exact l_0 _ _ _ | with_reducible exact l_1 _ _ _ | with_reducible exact l_2 _ _ _ | with_reducible exact d_0 _ | with_reducible exact d_1 _ | with_reducible exact len_cs _ | with_reducible exact w_eq _ | with_reducible exact absD_ab _)
/-! ### least_run, least_travel -/
theorem F_least_run_eq (f0 cap : Nat) (cs : List (Nat × Nat)) (hcap : 1 ≤ cap) (hn : cs.length ≤ 4) : ∃ p, F_least_run [.pure (liftD f0 cap cs)] [] = .ok (rowE.f p.2, []) ∧ Best cs cap f0 (List.range cs.length) [] p := by
  obtain ⟨p, kvs', h1, h2, h3, h4⟩ := F_least_eq f0 cap cs hcap 9 f0 (List.range cs.length) [] [] (by simp [mea]; omega) (by simp [mea]; omega) (fun k hk => List.mem_range.mp hk) (fun k hk => by cases hk) (Nat.zero_le _) (fun q hq => by cases hq) (by
    have : cnt (mea (List.range cs.length) []) ≤ cnt 8 := cnt_mono (by simp [mea]; omega)
    have e : cnt 8 = 109601 := by decide
    rw [e] at this
    simp only [List.length_nil]
    omega)
  refine ⟨p, ?_, h2⟩
  rw [F_least_run]
  refine f_run ?_
  show OkS (b_least_run 0 ⟨[some (.pure (liftD f0 cap cs))], []⟩) _
  rw [b_least_run]
  have cc : callS 5 (F_least_behind 9) [.pure (liftD f0 cap cs), .pure (.int (f0 : Nat)), .pure (.tuple ((List.range cs.length).map fun i : Nat => PyData.int (i : Nat))), .pure (.tuple []), .obj 0] ⟨[some (.pure (liftD f0 cap cs))], [.dM []]⟩ = .ok (.tuple [.int p.1, rowE.f p.2], [.dM kvs']) := callO5 rfl h1
  have i1 : itemD (.tuple [.int p.1, rowE.f p.2]) (.int 1) = some (rowE.f p.2) := itemD_tuple (i := 1)
  clear h1 h4
  walk_at "s"
  rfl
theorem okR_lt {n cap : Nat} : ∀ (r : List Deed) {w h : List Nat}, (∀ k ∈ w, k < n) → (∀ k ∈ h, k < n) → okR cap w h r = true → ∀ d ∈ r, d.2 < n
  | [], _, _, _, _, _, d, hd => by cases hd
  | e :: r, w, h, hw, hh, o, d, hd => by
    simp only [okR, Bool.and_eq_true] at o
    obtain ⟨s1, s2, s3⟩ := nx_sub o.1 hw hh
    rcases List.mem_cons.mp hd with z | z
    · rw [z]; exact s1
    · exact okR_lt r s2 s3 o.2 d z
theorem F_least_travel_eq (f0 cap : Nat) (cs : List (Nat × Nat)) (hcap : 1 ≤ cap) (hn : cs.length ≤ 4) {p : Int × List Deed} (b : Best cs cap f0 (List.range cs.length) [] p) : F_least_travel [.pure (liftD f0 cap cs)] [] = .ok (.int p.1, []) := by
  obtain ⟨p', h1, h2⟩ := F_least_run_eq f0 cap cs hcap hn
  have e := b.uniq h2
  subst e
  rw [F_least_travel]
  refine f_run ?_
  show OkS (b_least_travel 0 ⟨[some (.pure (liftD f0 cap cs))], []⟩) _
  rw [b_least_travel]
  have c1 : callS 1 F_least_run [.pure (liftD f0 cap cs)] ⟨[some (.pure (liftD f0 cap cs))], []⟩ = .ok (rowE.f p.2, []) := call1 h1
  have c2 := C_travel f0 cap cs p.2 (okR_lt p.2 (fun k hk => List.mem_range.mp hk) (fun k hk => by cases hk) b.ok) (env := [some (.pure (liftD f0 cap cs))]) (st := [])
  rw [b.cost] at c2
  walk_at "s"
  rfl
end Lk53
end
section
namespace Lk53
open K53
local macro_rules | `(tactic| walk_at "o") => `(tactic| first | with_reducible exact l_0 _ _ _ | with_reducible exact l_1 _ _ _ | with_reducible exact l_2 _ _ _ | with_reducible exact d_0 _ | with_reducible exact d_1 _ | with_reducible exact len_cs _ | with_reducible exact w_eq _ | with_reducible exact absD_ab _)
/-! ### runs, checked deed by deed -/
abbrev MS := List Nat × List Nat
def stepM (cap : Nat) (t : MS) (d : Deed) : Option MS :=
  if d.1 = true then (if d.2 ∈ t.1 ∨ d.2 ∈ t.2 ∨ t.1.length = cap then none else some (t.1 ++ [d.2], t.2)) else (if d.2 ∈ t.1 then some (t.1.erase d.2, t.2 ++ [d.2]) else none)
def mach (cap : Nat) (o : Option MS) (ds : List Deed) : Option MS := ds.foldl (fun o d => o.bind fun t => stepM cap t d) o
theorem mach_none (cap : Nat) : ∀ ds : List Deed, mach cap none ds = none
  | [] => rfl
  | d :: ds => mach_none cap ds
theorem mach_snoc (cap : Nat) (o : Option MS) (ds : List Deed) (d : Deed) : mach cap o (ds ++ [d]) = (mach cap o ds).bind fun t => stepM cap t d := by
  unfold mach; rw [List.foldl_append]; rfl
theorem mach_cut {cap : Nat} {o : Option MS} {ds : List Deed} {k : Nat} (h : mach cap o (ds.take k) = none) : mach cap o ds = none := by
  have e : mach cap o (ds.take k ++ ds.drop k) = mach cap (mach cap o (ds.take k)) (ds.drop k) := by unfold mach; rw [List.foldl_append]
  rw [List.take_append_drop, h, mach_none] at e
  exact e
/-- c deeds done -/
structure MInv (n c : Nat) (t : MS) : Prop where
  cnt : c = t.1.length + 2 * t.2.length
  nd : (t.1 ++ t.2).Nodup
  lt : ∀ k ∈ t.1 ++ t.2, k < n
theorem step_inv {n c cap : Nat} {t t' : MS} {d : Deed} (i : MInv n c t) (hd : d.2 < n) (h : stepM cap t d = some t') : MInv n (c + 1) t' := by
  obtain ⟨w, dn⟩ := t
  obtain ⟨b, k⟩ := d
  obtain ⟨i1, i2, i3⟩ := i
  simp only at i1 i2 i3 hd
  have i2' := List.nodup_append.mp i2
  cases b
  · simp only [stepM, Bool.false_eq_true, if_false] at h
    split at h
    · rename_i hk
      cases h
      refine ⟨?_, ?_, ?_⟩
      · have := List.length_erase_of_mem hk
        have := List.length_pos_of_mem hk
        simp only [List.length_append, List.length_singleton]
        omega
      · show (w.erase k ++ (dn ++ [k])).Nodup
        rw [List.nodup_append]
        refine ⟨i2'.1.erase k, ?_, ?_⟩
        · rw [List.nodup_append]
          refine ⟨i2'.2.1, by simp, fun a ha b hb => ?_⟩
          rw [List.mem_singleton.mp hb]
          exact fun e => i2'.2.2 k hk a ha e.symm
        · intro a ha b hb e
          subst e
          rcases List.mem_append.mp hb with z | z
          · exact i2'.2.2 a (List.mem_of_mem_erase ha) a z rfl
          · rw [List.mem_singleton.mp z] at ha
            exact (List.Nodup.not_mem_erase i2'.1) ha
      · intro j hj
        rcases List.mem_append.mp hj with z | z
        · exact i3 j (List.mem_append_left _ (List.mem_of_mem_erase z))
        · rcases List.mem_append.mp z with y | y
          · exact i3 j (List.mem_append_right _ y)
          · rw [List.mem_singleton.mp y]; exact hd
    · cases h
  · simp only [stepM, if_true] at h
    split at h
    · cases h
    · rename_i hk
      cases h
      simp only [not_or] at hk
      refine ⟨?_, ?_, ?_⟩
      · simp only [List.length_append, List.length_singleton]; omega
      · show ((w ++ [k]) ++ dn).Nodup
        rw [List.nodup_append]
        refine ⟨?_, i2'.2.1, ?_⟩
        · rw [List.nodup_append]
          refine ⟨i2'.1, by simp, fun a ha b hb => ?_⟩
          rw [List.mem_singleton.mp hb]
          exact fun e => hk.1 (e ▸ ha)
        · intro a ha b hb e
          subst e
          rcases List.mem_append.mp ha with z | z
          · exact i2'.2.2 a z a hb rfl
          · rw [List.mem_singleton.mp z] at hb; exact hk.2.1 hb
      · intro j hj
        rcases List.mem_append.mp hj with z | z
        · rcases List.mem_append.mp z with y | y
          · exact i3 j (List.mem_append_left _ y)
          · rw [List.mem_singleton.mp y]; exact hd
        · exact i3 j (List.mem_append_right _ z)
theorem mach_inv {n cap : Nat} : ∀ (ds : List Deed) {c : Nat} {t t' : MS}, (∀ d ∈ ds, d.2 < n) → MInv n c t → mach cap (some t) ds = some t' → MInv n (c + ds.length) t'
  | [], c, t, t', _, i, h => by cases h; exact i
  | d :: ds, c, t, t', hd, i, h => by
    have e : mach cap (some t) (d :: ds) = mach cap (stepM cap t d) ds := rfl
    rw [e] at h
    cases q : stepM cap t d with
    | none => rw [q, mach_none] at h; cases h
    | some t1 =>
      rw [q] at h
      have := mach_inv ds (fun x hx => hd x (List.mem_cons_of_mem _ hx)) (step_inv i (hd d List.mem_cons_self) q) h
      rw [List.length_cons]
      rw [show c + (ds.length + 1) = c + 1 + ds.length by omega]
      exact this
theorem nodup_lt : ∀ (n : Nat) {l : List Nat}, l.Nodup → (∀ k ∈ l, k < n) → l.length ≤ n
  | 0, l, _, h => by
    cases l with
    | nil => exact Nat.le_refl _
    | cons a l => exact absurd (h a List.mem_cons_self) (Nat.not_lt_zero _)
  | n + 1, l, nd, h => by
    have h1 := nodup_lt n (nd.erase n) fun k hk => by
      have h2 := h k (List.mem_of_mem_erase hk)
      have : k ≠ n := fun e => by rw [e] at hk; exact (List.Nodup.not_mem_erase nd) hk
      omega
    have := List.length_erase (a := n) (l := l)
    split at this <;> omega
/-- a whole row of deeds ends with all done -/
theorem mach_end {n cap : Nat} {ds : List Deed} {t : MS} (hd : ∀ d ∈ ds, d.2 < n) (hl : ds.length = 2 * n) (h : mach cap (some ([], [])) ds = some t) : t.2.length = n := by
  have i := mach_inv ds hd (c := 0) ⟨rfl, by simp, by simp⟩ h
  have h1 := nodup_lt n i.nd i.lt
  have h2 := i.cnt
  rw [List.length_append] at h1
  rw [hl] at h2
  omega
/-- a run of what is left goes through -/
theorem mach_ok {cap : Nat} : ∀ (r : List Deed) {w h dn : List Nat}, okR cap w h r = true → h.Nodup → (∀ k ∈ w, k ∉ h ∧ k ∉ dn) → (∀ k ∈ h, k ∉ dn) → (mach cap (some (h, dn)) r).isSome = true
  | [], _, _, _, _, _, _, _ => rfl
  | d :: r, w, h, dn, o, nd, hw, hh => by
    simp only [okR, Bool.and_eq_true] at o
    obtain ⟨c, o⟩ := o
    obtain ⟨b, k⟩ := d
    cases b
    · simp only [can, Bool.false_eq_true, if_false, decide_eq_true_eq] at c
      have e : mach cap (some (h, dn)) ((false, k) :: r) = mach cap (some (h.erase k, dn ++ [k])) r := by
        show mach cap (stepM cap (h, dn) (false, k)) r = _
        simp [stepM, c]
      have ef : h.erase k = h.filter fun x => x != k := nd.erase_eq_filter k
      rw [e, ef]
      simp only [nxW, nxH, Bool.false_eq_true, if_false] at o
      refine mach_ok r o (nd.filter _) (fun j hj => ⟨fun z => (hw j hj).1 (List.mem_filter.mp z).1, fun z => ?_⟩) (fun j hj z => ?_)
      · rcases List.mem_append.mp z with y | y
        · exact (hw j hj).2 y
        · rw [List.mem_singleton.mp y] at hj; exact (hw k hj).1 c
      · have hj' := List.mem_filter.mp hj
        rcases List.mem_append.mp z with y | y
        · exact hh j hj'.1 y
        · rw [List.mem_singleton.mp y] at hj'; simp at hj'
    · simp only [can, if_true, Bool.and_eq_true, decide_eq_true_eq] at c
      have hk := hw k c.1
      have e : mach cap (some (h, dn)) ((true, k) :: r) = mach cap (some (h ++ [k], dn)) r := by
        show mach cap (stepM cap (h, dn) (true, k)) r = _
        have : ¬ (h.length = cap) := by omega
        simp [stepM, hk.1, hk.2, this]
      rw [e]
      simp only [nxW, nxH, if_true] at o
      refine mach_ok r o ?_ (fun j hj => ?_) (fun j hj => ?_)
      · rw [List.nodup_append]
        exact ⟨nd, by simp, fun a ha b hb z => hk.1 (by rw [← List.mem_singleton.mp hb, ← z]; exact ha)⟩
      · have hj' := List.mem_filter.mp hj
        refine ⟨fun z => ?_, (hw j hj'.1).2⟩
        rcases List.mem_append.mp z with y | y
        · exact (hw j hj'.1).1 y
        · rw [List.mem_singleton.mp y] at hj'; simp at hj'
      · rcases List.mem_append.mp hj with y | y
        · exact hh j y
        · rw [List.mem_singleton.mp y]; exact hk.2
end Lk53
end
section
namespace Lk53
open K53
local macro_rules | `(tactic| walk_at "o") => `(tactic| first | with_reducible exact l_0 _ _ _ | with_reducible exact l_1 _ _ _ | with_reducible exact l_2 _ _ _ | with_reducible exact d_0 _ | with_reducible exact d_1 _ | with_reducible exact len_cs _ | with_reducible exact w_eq _ | with_reducible exact absD_ab _)
theorem deedB_ex {n : Nat} {v : PyData} (h : deedB n v = true) : ∃ d : Deed, v = deedE.f d ∧ d.2 < n := by
  unfold deedB at h
  split at h
  · rename_i s k
    simp only [Bool.and_eq_true, decide_eq_true_eq] at h
    obtain ⟨⟨h1, h2⟩, h3⟩ := h
    have hk : (k.toNat : Int) = k := Int.toNat_of_nonneg h2
    have e : ∀ b, wordS b = s → PyData.tuple [.str s, .int k] = deedE.f (b, k.toNat) := fun b hb => by
      show _ = PyData.tuple [.str (wordS b), .int (k.toNat : Nat)]
      rw [hk, hb]
    have hl : k.toNat < n := by omega
    rcases List.mem_cons.mp h1 with z | z
    · exact ⟨(true, k.toNat), e true z.symm, hl⟩
    · exact ⟨(false, k.toNat), e false (List.mem_singleton.mp z).symm, hl⟩
  · cases h
theorem deedB_of {n : Nat} (d : Deed) (h : d.2 < n) : deedB n (deedE.f d) = true := by
  show deedB n (.tuple [.str (wordS d.1), .int (d.2 : Nat)]) = true
  unfold deedB
  have : wordS d.1 ∈ (["in", "out"] : List Str) := by cases d.1 <;> simp [wordS]
  simp [this]
  omega
theorem all_deeds {n : Nat} : ∀ {xs : List PyData}, xs.all (deedB n) = true → ∃ ds : List Deed, xs = ds.map deedE.f ∧ ∀ d ∈ ds, d.2 < n
  | [], _ => ⟨[], rfl, fun d hd => by cases hd⟩
  | x :: xs, h => by
    rw [List.all_cons, Bool.and_eq_true] at h
    obtain ⟨d, rfl, hd⟩ := deedB_ex h.1
    obtain ⟨ds, rfl, hds⟩ := all_deeds h.2
    refine ⟨d :: ds, rfl, fun e he => ?_⟩
    rcases List.mem_cons.mp he with z | z
    · rw [z]; exact hd
    · exact hds e z
def RunP (n cap : Nat) (v : PyData) : Prop := ∃ ds : List Deed, v = .tuple (ds.map deedE.f) ∧ ds.length = 2 * n ∧ (∀ d ∈ ds, d.2 < n) ∧ (mach cap (some ([], [])) ds).isSome = true
open Classical in
noncomputable def runB (n cap : Nat) (v : PyData) : Bool := decide (RunP n cap v)
theorem runB_f {n cap : Nat} {v : PyData} (h : ¬ RunP n cap v) : runB n cap v = false := by unfold runB; exact @decide_eq_false _ (Classical.propDecidable _) h
theorem runB_t {n cap : Nat} {v : PyData} (h : RunP n cap v) : runB n cap v = true := by unfold runB; exact @decide_eq_true _ (Classical.propDecidable _) h
theorem row_inj {ds es : List Deed} (h : ds.map deedE.f = es.map deedE.f) : ds = es := rowE.inj (show rowE.f ds = rowE.f es by show PyData.tuple _ = PyData.tuple _; rw [h])
theorem runB_ds {n cap : Nat} {ds : List Deed} (hl : ds.length = 2 * n) (hd : ∀ d ∈ ds, d.2 < n) : runB n cap (.tuple (ds.map deedE.f)) = (mach cap (some ([], [])) ds).isSome := by
  cases h : (mach cap (some ([], [])) ds).isSome with
  | true => exact runB_t ⟨ds, rfl, hl, hd, h⟩
  | false =>
    refine runB_f fun ⟨es, e, _, _, h'⟩ => ?_
    cases row_inj (PyData.tuple.inj e)
    rw [h] at h'
    cases h'
theorem in_nats (k : Nat) (w : List Nat) : inD (.int (k : Nat)) (.list (w.map natD)) = some (.bool (decide (k ∈ w))) := Enc.nat.inL (by decide) k w
theorem notin_nats (k : Nat) (w : List Nat) : notInD (.int (k : Nat)) (.list (w.map natD)) = some (.bool (!decide (k ∈ w))) := Enc.nat.notInL (by decide) k w
theorem erase_cast (k : Nat) : ∀ w : List Nat, (w.map fun x : Nat => (x : Int)).erase (k : Int) = (w.erase k).map fun x : Nat => (x : Int)
  | [] => rfl
  | a :: w => by
    rw [List.map_cons, List.erase_cons, List.erase_cons]
    by_cases e : a = k
    · subst e; simp
    · have e1 : ((a : Int) == (k : Int)) = false := by rw [beq_eq_false_iff_ne]; omega
      have e2 : (a == k) = false := by rw [beq_eq_false_iff_ne]; exact e
      rw [e1, e2]
      simp only [Bool.false_eq_true, if_false, List.map_cons, erase_cast k w]
theorem F_is_run_eq (f cap : Nat) (cs : List (Nat × Nat)) (hn : cs.length ≤ 100) (v : PyData) : F_is_run [.pure (liftD f cap cs), .pure v] [] = .ok (.bool (runB cs.length cap v), []) := by
  rw [F_is_run]
  refine f_run ?_
  show OkS (b_is_run 0 ⟨[some (.pure (liftD f cap cs)), some (.pure v), none, none, none, none, none], []⟩) _
  rw [b_is_run]
  have hm : mulD (.int 2) (.int (cs.length : Nat)) = some (.int ((2 * cs.length : Nat) : Int)) := mulD_nat 2 cs.length (.inl (by decide))
  by_cases ht : ∃ xs, v = .tuple xs
  · obtain ⟨xs, rfl⟩ := ht
    by_cases hl : xs.length = 2 * cs.length
    · have hN : neD (.int (xs.length : Nat)) (.int ((2 * cs.length : Nat) : Int)) = some (.bool false) := by rw [neD_nat, decide_eq_true hl]; rfl
      have h0 : quantE false (seqI (froR (slotE 1))) [6] (nameG 6) yesT (callE 2 F_is_deed (consSlotA 0 (consSlotA 6 nilA))) ⟨[some (.pure (liftD f cap cs)), some (.pure (.tuple xs)), none, none, none, none, none], []⟩ = .ok (.bool (xs.all (deedB cs.length)), []) :=
        q_all xs id (fun x => [some (.pure (liftD f cap cs)), some (.pure (.tuple xs)), none, none, none, none, some (.pure x)]) (deedB cs.length) (by rw [List.map_id]; walk_at "w") fun x hx => ⟨by walk_at "g", t_yes, by
          have := C_is_deed f cap cs x (env := [some (.pure (liftD f cap cs)), some (.pure (.tuple xs)), none, none, none, none, some (.pure x)]) (st := [])
          walk_at "e"⟩
      cases ha : xs.all (deedB cs.length) with
      | false =>
        rw [ha] at h0
        have r : runB cs.length cap (.tuple xs) = false := runB_f fun ⟨ds, e, _, hd, _⟩ => by
          cases e
          rw [List.all_eq_false] at ha
          obtain ⟨x, hx, hx2⟩ := ha
          obtain ⟨d, hd1, rfl⟩ := List.mem_map.mp hx
          exact hx2 (deedB_of d (hd d hd1))
        rw [r]
        walk_at "s"
        rfl
      | true =>
        rw [ha] at h0
        obtain ⟨ds, rfl, hd⟩ := all_deeds ha
        rw [List.length_map] at hl
        rw [runB_ds hl hd]
        walk_at "s"
        refine s_for ds deedE.f (fun k s => ∃ w dn, mach cap (some ([], [])) (ds.take k) = some (w, dn) ∧ w.length ≤ k ∧ dn.length ≤ k ∧ s = ⟨[some (.pure (liftD f cap cs)), some (.pure (.tuple (ds.map deedE.f))), some (.obj 0), some (.obj 1), none, none, none], [.lst (w.map natD), .lst (dn.map natD)]⟩) (w_seqT (e_slot rfl)) ⟨[], [], rfl, Nat.le_refl _, Nat.le_refl _, rfl⟩ ?_ ?_
        · rintro k hk s ⟨w, dn, hmk, hwk, hdk, rfl⟩
          generalize hdd : ds[k] = d
          obtain ⟨b, j⟩ := d
          have hts : mach cap (some ([], [])) (ds.take (k + 1)) = stepM cap (w, dn) (b, j) := by
            rw [List.take_add_one, List.getElem?_eq_getElem hk, hdd]
            show mach cap _ (ds.take k ++ [(b, j)]) = _
            rw [mach_snoc, hmk]; rfl
          refine ⟨[some (.pure (liftD f cap cs)), some (.pure (.tuple (ds.map deedE.f))), some (.obj 0), some (.obj 1), some (.pure (.str (wordS b))), some (.pure (.int (j : Nat))), none], by
            show tupG 2 _ (.tuple [.str (wordS b), .int (j : Nat)]) _ = _
            walk_at "g", ?_⟩
          have hA1 : (w.map natD).length < 16777216 := by rw [List.length_map]; omega
          have hA2 : (dn.map natD).length < 16777216 := by rw [List.length_map]; omega
          have i1 := in_nats j w
          have i2 := in_nats j dn
          have i3 := notin_nats j w
          have il : lenD (.list (w.map natD)) = some (.int (w.length : Nat)) := by rw [lenD_list, List.length_map]
          have hdec : ∀ r : List PyData, r.length < 16777216 → True := fun _ _ => True.intro
          clear hdec
          cases b
          · have hw1 : eqD (.str (wordS false)) (.str "in") = some (.bool false) := w_eq false
            by_cases hj : j ∈ w
            · rw [decide_eq_true hj] at i3
              have hst : stepM cap (w, dn) (false, j) = some (w.erase j, dn ++ [j]) := by simp [stepM, hj]
              have hr : remE 2 (slotE 5) ⟨[some (.pure (liftD f cap cs)), some (.pure (.tuple (ds.map deedE.f))), some (.obj 0), some (.obj 1), some (.pure (.str (wordS false))), some (.pure (.int (j : Nat))), none], [.lst (w.map natD), .lst (dn.map natD)]⟩ = .ok (.none, [.lst ((w.erase j).map natD), .lst (dn.map natD)]) := by
                have e1 : w.map natD = (w.map fun x : Nat => (x : Int)).map PyData.int := by rw [List.map_map]; rfl
                have e2 : (w.erase j).map natD = ((w.map fun x : Nat => (x : Int)).erase (j : Int)).map PyData.int := by rw [erase_cast, List.map_map]; rfl
                rw [e1, e2]
                exact e_rem rfl rfl (e_slot rfl) rfl (List.mem_map.mpr ⟨j, hj, rfl⟩) rfl
              have hle : (w.erase j).length ≤ w.length := List.length_erase_le
              walk_at "s"
              refine ⟨w.erase j, dn ++ [j], by rw [hts, hst], by omega, by simp; omega, ?_⟩
              rw [List.map_append]
              rfl
            · rw [decide_eq_false hj] at i3
              have hst : stepM cap (w, dn) (false, j) = none := by simp [stepM, hj]
              rw [hst] at hts
              have hz := mach_cut hts
              walk_at "s"
              rw [hz]
              rfl
          · have hw1 : eqD (.str (wordS true)) (.str "in") = some (.bool true) := w_eq true
            have htt : orT (cmpT inD (slotE 5) (curE 2)) (orT (cmpT inD (slotE 5) (curE 3)) (cmpT eqD (un1 lenD (curE 2)) (bin2 itemD (slotE 0) (constE (.int 1))))) ⟨[some (.pure (liftD f cap cs)), some (.pure (.tuple (ds.map deedE.f))), some (.obj 0), some (.obj 1), some (.pure (.str (wordS true))), some (.pure (.int (j : Nat))), none], [.lst (w.map natD), .lst (dn.map natD)]⟩ = .ok (decide (j ∈ w) || (decide (j ∈ dn) || decide (w.length = cap)), [.lst (w.map natD), .lst (dn.map natD)]) :=
              t_or (by walk_at "t") fun _ => t_or (by walk_at "t") fun _ => by walk_at "t"
            by_cases hj : j ∈ w ∨ j ∈ dn ∨ w.length = cap
            · have hb : (decide (j ∈ w) || (decide (j ∈ dn) || decide (w.length = cap))) = true := by simpa using hj
              rw [hb] at htt
              have hst : stepM cap (w, dn) (true, j) = none := by simp [stepM, hj]
              rw [hst] at hts
              have hz := mach_cut hts
              clear hj
              walk_at "s"
              rw [hz]
              rfl
            · have hb : (decide (j ∈ w) || (decide (j ∈ dn) || decide (w.length = cap))) = false := by simpa using hj
              rw [hb] at htt
              have hst : stepM cap (w, dn) (true, j) = some (w ++ [j], dn) := by simp [stepM, hj]
              clear hj
              walk_at "s"
              refine ⟨w ++ [j], dn, by rw [hts, hst], by simp; omega, by omega, ?_⟩
              rw [List.map_append]
              rfl
        · rintro s ⟨w, dn, hmk, _, _, rfl⟩
          rw [List.take_length] at hmk
          have he := mach_end hd hl hmk
          rw [hmk]
          have il : lenD (.list (dn.map natD)) = some (.int (cs.length : Nat)) := by rw [lenD_list, List.length_map]; simp only at he; rw [he]
          have ie : eqD (.int (cs.length : Nat)) (.int (cs.length : Nat)) = some (.bool true) := by rw [eqD_nat, decide_eq_true rfl]
          walk_at "s"
          rfl
    · have r : runB cs.length cap (.tuple xs) = false := runB_f fun ⟨ds, e, h, _, _⟩ => by
        cases e
        rw [List.length_map] at hl
        exact hl h
      rw [r]
      have hN : neD (.int (xs.length : Nat)) (.int ((2 * cs.length : Nat) : Int)) = some (.bool true) := by rw [neD_nat, decide_eq_false hl]; rfl
      clear hl
      walk_at "s"
      rfl
  · have r : runB cs.length cap v = false := runB_f fun ⟨ds, e, _⟩ => ht ⟨_, e⟩
    have hy : isiB .tuple v = false := by
      cases v with
      | tuple ds => exact absurd ⟨_, rfl⟩ ht
      | _ => rfl
    rw [r]
    clear ht
    walk_at "s"
    rfl
end Lk53
end
section
namespace Lk53
open K53
local macro_rules | `(tactic| walk_at "o") => `(tactic| first | with_reducible exact l_0 _ _ _ | with_reducible exact l_1 _ _ _ | with_reducible exact l_2 _ _ _ | with_reducible exact d_0 _ | with_reducible exact d_1 _ | with_reducible exact len_cs _ | with_reducible exact w_eq _ | with_reducible exact absD_ab _)
/-- the first test of a deed, by the law -/
noncomputable abbrev badT : EvT := orT (notT (valT (isiE .tuple (slotE 4)))) (orT (cmpT neD (un1 lenD (slotE 4)) (constE (.int 2))) (orT (notT (valT (isiE .str (bin2 itemD (slotE 4) (constE (.int 0)))))) (orT (cmpT notInD (bin2 itemD (slotE 4) (constE (.int 0))) (tupE (consA (constE (.str "in")) (consA (constE (.str "out")) nilA)))) (orT (notT (valT (callE 1 F__law_int (consA (bin2 itemD (slotE 4) (constE (.int 1))) nilA)))) (notT (valT (chain2 leD ltD (constE (.int 0)) (bin2 itemD (slotE 4) (constE (.int 1))) (un1 lenD (bin2 itemD (slotE 0) (constE (.int 2)))))))))))
theorem bad_eq (f cap : Nat) (cs : List (Nat × Nat)) (v a b x : PyData) : badT ⟨[some (.pure (liftD f cap cs)), some (.pure v), some (.pure a), some (.pure b), some (.pure x), none], []⟩ = .ok (!deedB cs.length x, []) := by
  by_cases ht : ∃ ds, x = .tuple ds
  · obtain ⟨ds, rfl⟩ := ht
    by_cases hl : ds.length = 2
    · obtain ⟨p, q, rfl⟩ : ∃ p q, ds = [p, q] := by
        match ds, hl with
        | [p, q], _ => exact ⟨p, q, rfl⟩
      have hN : neD (.int (([p, q] : List PyData).length : Nat)) (.int 2) = some (.bool false) := by simp
      have ia : itemD (.tuple [p, q]) (.int 0) = some p := itemD_tuple (i := 0)
      have ib : itemD (.tuple [p, q]) (.int 1) = some q := itemD_tuple (i := 1)
      refine t_orF (t_not (t_val (e_isi (e_slot rfl) rfl))) rfl (t_orF (by walk_at "t") rfl ?_)
      by_cases hs : ∃ s, p = .str s
      · obtain ⟨s, rfl⟩ := hs
        refine t_orF (t_not (t_val (e_isi (e_bin (e_slot rfl) e_const ia) rfl))) rfl ?_
        have iw := notin_words s
        by_cases hw : s ∈ (["in", "out"] : List Str)
        · rw [decide_eq_true hw, Bool.not_true] at iw
          refine t_orF (by walk_at "t") rfl ?_
          by_cases hq : ∃ k, q = .int k
          · obtain ⟨k, rfl⟩ := hq
            have c1 := C_lint (.int k) (env := [some (.pure (liftD f cap cs)), some (.pure v), some (.pure a), some (.pure b), some (.pure (.tuple [.str s, .int k])), none]) (st := [])
            refine t_orF (t_not (t_val (by walk_at "e"))) rfl ?_
            have r : deedB cs.length (.tuple [.str s, .int k]) = (decide ((0 : Int) ≤ k) && decide (k < (cs.length : Nat))) := by
              simp only [deedB, decide_eq_true hw, Bool.true_and]
            rw [r]
            refine t_not (t_val ?_)
            have e1 := leD_int 0 k
            have e2 := ltD_int k cs.length
            by_cases h0 : (0 : Int) ≤ k
            · rw [decide_eq_true h0] at e1 ⊢
              walk_at "e"
            · rw [decide_eq_false h0] at e1 ⊢
              simp only [ev_chain, ev_const, Res.bind_ok, Bool.false_and]
              have e3 : bin2 itemD (slotE 4) (constE (.int 1)) ⟨[some (.pure (liftD f cap cs)), some (.pure v), some (.pure a), some (.pure b), some (.pure (.tuple [.str s, .int k])), none], []⟩ = .ok (.int k, []) := by walk_at "e"
              rw [e3]
              simp only [Res.bind_ok, e1]
          · have c0 : isInt q = false := by
              cases q with
              | int k => exact absurd ⟨_, rfl⟩ hq
              | _ => rfl
            have c1 := C_lint q (env := [some (.pure (liftD f cap cs)), some (.pure v), some (.pure a), some (.pure b), some (.pure (.tuple [.str s, q])), none]) (st := [])
            rw [c0] at c1
            have r : deedB cs.length (.tuple [.str s, q]) = false := by
              unfold deedB
              split
              · rename_i e; cases e; exact absurd ⟨_, rfl⟩ hq
              · rfl
            rw [r]
            clear hq
            exact t_orT (t_not (t_val (by walk_at "e"))) rfl
        · rw [decide_eq_false hw, Bool.not_false] at iw
          have r : deedB cs.length (.tuple [.str s, q]) = false := by
            unfold deedB
            split
            · rename_i e; cases e; simp only [decide_eq_false hw, Bool.false_and]
            · rfl
          rw [r]
          clear hw
          exact t_orT (by walk_at "t") rfl
      · have hy : isiB .str p = false := by
          cases p with
          | str ds => exact absurd ⟨_, rfl⟩ hs
          | _ => rfl
        have r : deedB cs.length (.tuple [p, q]) = false := by
          unfold deedB
          split
          · rename_i e; cases e; exact absurd ⟨_, rfl⟩ hs
          · rfl
        rw [r]
        clear hs
        exact t_orT (t_not (t_val (e_isi (by walk_at "e") hy))) rfl
    · have r : deedB cs.length (.tuple ds) = false := by
        unfold deedB
        split
        · rename_i e; cases e; exact absurd rfl hl
        · rfl
      rw [r]
      have h2 := neD_int ds.length 2
      rw [decide_eq_false (by omega), Bool.not_false] at h2
      clear hl
      exact t_orF (t_not (t_val (e_isi (e_slot rfl) rfl))) rfl (t_orT (by walk_at "t") rfl)
  · have r : deedB cs.length x = false := by
      unfold deedB
      split
      · exact absurd ⟨_, rfl⟩ ht
      · rfl
    have hy : isiB .tuple x = false := by
      cases x with
      | tuple ds => exact absurd ⟨_, rfl⟩ ht
      | _ => rfl
    rw [r]
    clear ht
    exact t_orT (t_not (t_val (e_isi (by walk_at "e") hy))) rfl
end Lk53
end
section
namespace Lk53
open K53
local macro_rules | `(tactic| walk_at "o") => `(tactic| first | with_reducible exact l_0 _ _ _ | with_reducible exact l_1 _ _ _ | with_reducible exact l_2 _ _ _ | with_reducible exact d_0 _ | with_reducible exact d_1 _ | with_reducible exact len_cs _ | with_reducible exact w_eq _ | with_reducible exact absD_ab _)
theorem w_eqo (b : Bool) : eqD (.str (wordS b)) (.str "out") = some (.bool (!b)) := by
  have h := wordE.eqD_e (by decide) b false
  have e : decide (b = false) = !b := by cases b <;> rfl
  rw [e] at h
  exact h
theorem add_natsL (s t : List Nat) (h : s.length + t.length ≤ 1000) : addD (.list (s.map natD)) (.list (t.map natD)) = some (.list ((s ++ t).map natD)) := by
  simp only [addD]
  rw [if_pos (by simp; omega), List.map_append]
theorem F_lrun_eq (f cap : Nat) (cs : List (Nat × Nat)) (hn : cs.length ≤ 100) (v : PyData) : F__law_is_run [.pure (liftD f cap cs), .pure v] [] = .ok (.bool (runB cs.length cap v), []) := by
  rw [F__law_is_run]
  refine f_run ?_
  show OkS (b__law_is_run 0 ⟨[some (.pure (liftD f cap cs)), some (.pure v), none, none, none, none], []⟩) _
  rw [b__law_is_run]
  have hm : mulD (.int 2) (.int (cs.length : Nat)) = some (.int ((2 * cs.length : Nat) : Int)) := mulD_nat 2 cs.length (.inl (by decide))
  by_cases ht : ∃ xs, v = .tuple xs
  · obtain ⟨xs, rfl⟩ := ht
    by_cases hl : xs.length = 2 * cs.length
    · have hN : neD (.int (xs.length : Nat)) (.int ((2 * cs.length : Nat) : Int)) = some (.bool false) := by rw [neD_nat, decide_eq_true hl]; rfl
      walk_at "s"
      refine s_for xs id (fun k s => ∃ (ds : List Deed) (w dn : List Nat), xs.take k = ds.map deedE.f ∧ (∀ d ∈ ds, d.2 < cs.length) ∧ mach cap (some ([], [])) ds = some (w, dn) ∧ s = ⟨[some (.pure (liftD f cap cs)), some (.pure (.tuple xs)), some (.pure (.list (w.map natD))), some (.pure (.list (dn.map natD))), none, none], []⟩) (by rw [List.map_id]; exact w_seqT (e_slot rfl)) ⟨[], [], [], rfl, (fun d hd => by cases hd), rfl, rfl⟩ ?_ ?_
      · rintro k hk s ⟨ds, w, dn, e1, hd, hmk, rfl⟩
        generalize hx : xs[k] = x
        have hts : xs.take (k + 1) = xs.take k ++ [x] := by
          rw [List.take_add_one, List.getElem?_eq_getElem hk, hx]; rfl
        refine ⟨[some (.pure (liftD f cap cs)), some (.pure (.tuple xs)), some (.pure (.list (w.map natD))), some (.pure (.list (dn.map natD))), some (.pure x), none], by
          show nameG 4 x _ = _
          walk_at "g", ?_⟩
        have hbad := bad_eq f cap cs (.tuple xs) (.list (w.map natD)) (.list (dn.map natD)) x
        unfold badT at hbad
        cases hgood : deedB cs.length x with
        | false =>
          rw [hgood, Bool.not_false] at hbad
          have r : runB cs.length cap (.tuple xs) = false := runB_f fun ⟨es, e, _, hd', _⟩ => by
            cases e
            have hxm : x ∈ es.map deedE.f := by rw [← hx]; exact List.getElem_mem hk
            obtain ⟨d, hd1, rfl⟩ := List.mem_map.mp hxm
            rw [deedB_of d (hd' d hd1)] at hgood
            cases hgood
          walk_at "s"
          rw [r]
          rfl
        | true =>
          rw [hgood, Bool.not_true] at hbad
          obtain ⟨d, rfl, hdn⟩ := deedB_ex hgood
          clear hgood
          obtain ⟨b, j⟩ := d
          have inv := mach_inv ds hd (c := 0) (t := ([], [])) ⟨rfl, by simp, by simp⟩ hmk
          have hwl : w.length + dn.length ≤ 100 := by
            have := nodup_lt cs.length inv.nd inv.lt
            rw [List.length_append] at this
            simp only at this
            omega
          have hnd : w.Nodup := (List.nodup_append.mp inv.nd).1
          have hstep : mach cap (some ([], [])) (ds ++ [(b, j)]) = stepM cap (w, dn) (b, j) := by rw [mach_snoc, hmk]; rfl
          have hfail : stepM cap (w, dn) (b, j) = none → runB cs.length cap (.tuple xs) = false := fun hz => runB_f fun ⟨es, e, _, hd', hs⟩ => by
            cases e
            have e2 : es.take (k + 1) = ds ++ [(b, j)] := by
              refine row_inj ?_
              rw [List.map_take, hts, e1, List.map_append]; rfl
            rw [hz, ← e2] at hstep
            rw [mach_cut hstep] at hs
            cases hs
          have i0 := add_natsL w dn (by omega)
          have i1 := in_nats j (w ++ dn)
          have i3 := notin_nats j w
          have il : lenD (.list (w.map natD)) = some (.int (w.length : Nat)) := by rw [lenD_list, List.length_map]
          have a1 := add_nat1 w j (by omega)
          have a2 := add_nat1 dn j (by omega)
          have hnext : ∀ {w' dn' : List Nat}, stepM cap (w, dn) (b, j) = some (w', dn') → ∀ e5 : Option SV, ∃ ds' w2 dn2, xs.take (k + 1) = ds'.map deedE.f ∧ (∀ d ∈ ds', d.2 < cs.length) ∧ mach cap (some ([], [])) ds' = some (w2, dn2) ∧
              (⟨[some (.pure (liftD f cap cs)), some (.pure (.tuple xs)), some (.pure (.list (w'.map natD))), some (.pure (.list (dn'.map natD))), none, none], []⟩ : S) = ⟨[some (.pure (liftD f cap cs)), some (.pure (.tuple xs)), some (.pure (.list (w2.map natD))), some (.pure (.list (dn2.map natD))), none, none], []⟩ := fun {w' dn'} hs _ => by
            refine ⟨ds ++ [(b, j)], w', dn', by rw [hts, e1, List.map_append]; rfl, fun d hd' => ?_, by rw [hstep, hs], rfl⟩
            rcases List.mem_append.mp hd' with z | z
            · exact hd d z
            · rw [List.mem_singleton.mp z]; exact hdn
          cases b
          · have o1 : eqD (.str (wordS false)) (.str "in") = some (.bool false) := w_eq false
            have o2 : eqD (.str (wordS false)) (.str "out") = some (.bool true) := w_eqo false
            by_cases hj : j ∈ w
            · rw [decide_eq_true hj, Bool.not_true] at i3
              have hst : stepM cap (w, dn) (false, j) = some (w.erase j, dn ++ [j]) := by simp [stepM, hj]
              have c1 := c_pure (env := [some (.pure (liftD f cap cs)), some (.pure (.tuple xs)), some (.pure (.list (w.map natD))), some (.pure (.list (dn.map natD))), some (.pure (deedE.f (false, j))), none]) (st := []) (st1 := []) (fi := seqI (froR (slotE 2))) (vs := [5]) (gt := nameG 5) (ft := cmpT neD (slotE 5) (bin2 itemD (slotE 4) (constE (.int 1)))) (fe := slotE 5)
                w natD (fun x => [some (.pure (liftD f cap cs)), some (.pure (.tuple xs)), some (.pure (.list (w.map natD))), some (.pure (.list (dn.map natD))), some (.pure (deedE.f (false, j))), some (.pure (natD x))]) (fun x => !decide (x = j)) natD (by walk_at "w") (by omega) fun x hx => ⟨by walk_at "g", by walk_at "t", fun _ => by walk_at "e"⟩
              have ef : (w.filter fun x => !decide (x = j)) = w.erase j := (hnd.erase_eq_filter j).symm
              rw [ef] at c1
              have hq := hnext hst none
              clear hj hfail hnext
              walk_at "s"
              exact hq
            · rw [decide_eq_false hj, Bool.not_false] at i3
              have hst : stepM cap (w, dn) (false, j) = none := by simp [stepM, hj]
              have r := hfail hst
              clear hj hfail hnext
              walk_at "s"
              rw [r]
              rfl
          · have o1 : eqD (.str (wordS true)) (.str "in") = some (.bool true) := w_eq true
            have o2 : eqD (.str (wordS true)) (.str "out") = some (.bool false) := w_eqo true
            have hcond : orT (andT (cmpT eqD (bin2 itemD (slotE 4) (constE (.int 0))) (constE (.str "in"))) (orT (cmpT inD (bin2 itemD (slotE 4) (constE (.int 1))) (bin2 addD (slotE 2) (slotE 3))) (cmpT eqD (un1 lenD (slotE 2)) (bin2 itemD (slotE 0) (constE (.int 1)))))) (andT (cmpT eqD (bin2 itemD (slotE 4) (constE (.int 0))) (constE (.str "out"))) (cmpT notInD (bin2 itemD (slotE 4) (constE (.int 1))) (slotE 2)))
                ⟨[some (.pure (liftD f cap cs)), some (.pure (.tuple xs)), some (.pure (.list (w.map natD))), some (.pure (.list (dn.map natD))), some (.pure (deedE.f (true, j))), none], []⟩ = .ok ((decide (j ∈ w ++ dn) || decide (w.length = cap)) || false, []) :=
              t_or (t_andT (by walk_at "t") rfl (t_or (by walk_at "t") fun _ => by walk_at "t")) fun _ => t_andF (by walk_at "t") rfl
            by_cases hj : j ∈ w ∨ j ∈ dn ∨ w.length = cap
            · have hb : ((decide (j ∈ w ++ dn) || decide (w.length = cap)) || false) = true := by simpa [or_assoc] using hj
              rw [hb] at hcond
              have hst : stepM cap (w, dn) (true, j) = none := by simp [stepM, hj]
              have r := hfail hst
              clear hj hfail hnext
              walk_at "s"
              rw [r]
              rfl
            · have hb : ((decide (j ∈ w ++ dn) || decide (w.length = cap)) || false) = false := by simpa [or_assoc, and_assoc] using hj
              rw [hb] at hcond
              have hst : stepM cap (w, dn) (true, j) = some (w ++ [j], dn) := by simp [stepM, hj]
              have hq := hnext hst none
              clear hj hfail hnext
              walk_at "s"
              exact hq
      · rintro s ⟨ds, w, dn, e1, hd, hmk, rfl⟩
        rw [List.take_length] at e1
        have r : runB cs.length cap (.tuple xs) = true := runB_t ⟨ds, by rw [e1], by rw [e1, List.length_map] at hl; exact hl, hd, by rw [hmk]; rfl⟩
        rw [r]
        walk_at "s"
        rfl
    · have r : runB cs.length cap (.tuple xs) = false := runB_f fun ⟨ds, e, h, _, _⟩ => by
        cases e
        rw [List.length_map] at hl
        exact hl h
      rw [r]
      have hN : neD (.int (xs.length : Nat)) (.int ((2 * cs.length : Nat) : Int)) = some (.bool true) := by rw [neD_nat, decide_eq_false hl]; rfl
      clear hl
      walk_at "s"
      rfl
  · have r : runB cs.length cap v = false := runB_f fun ⟨ds, e, _⟩ => ht ⟨_, e⟩
    have hy : isiB .tuple v = false := by
      cases v with
      | tuple ds => exact absurd ⟨_, rfl⟩ ht
      | _ => rfl
    rw [r]
    clear ht
    walk_at "s"
    rfl
end Lk53
end
section
namespace Lk53
open K53
/-- a row of draws -/
def drD (t l : Nat) (cells : List Nat) : List PyData := [.int t, .int l, .list (cells.map natD)]
theorem pow61 : powD (.int 2) (.int 61) = some (.int 2305843009213693952) := by
  unfold powD
  simp
theorem pow18 : powD (.int 10) (.int 18) = some (.int 1000000000000000000) := by
  unfold powD
  simp
theorem shrD_nat (a : Int) (k : Nat) : shrD (.int a) (.int k) = some (.int (a / 2 ^ k)) := by
  unfold shrD
  simp
theorem F_mixed_ex (a b : Int) : ∃ m : Nat, F__law_mixed [.pure (.int a), .pure (.int b)] [] = .ok (.int m, []) := by
  refine runF_P (P := fun r => ∃ m : Nat, r = .ok (.int m, [])) ?_
  show OkS (b__law_mixed 0 ⟨[some (.pure (.int a)), some (.pure (.int b)), none], []⟩) _
  rw [b__law_mixed]
  have p := pow61
  have m1 := modD_int (a := a) (b := 2305843009213693951) (by decide)
  have m2 : ∀ x : Int, modD (.int x) (.int 2305843009213693952) = some (.int (x % 2305843009213693952)) := fun x => modD_int (by decide)
  have m3 : ∀ x : Int, mulD (.int x) (.int 6364136223846793005) = some (.int (x * 6364136223846793005)) := fun x => mulD_int ⟨by decide, by decide⟩
  have m4 : ∀ x : Int, mulD (.int x) (.int 1442695040888963407) = some (.int (x * 1442695040888963407)) := fun x => mulD_int ⟨by decide, by decide⟩
  have m5 : ∀ x : Int, mulD (.int x) (.int 3935559000370003845) = some (.int (x * 3935559000370003845)) := fun x => mulD_int ⟨by decide, by decide⟩
  have m6 : ∀ x : Int, mulD (.int x) (.int 2862933555777941757) = some (.int (x * 2862933555777941757)) := fun x => mulD_int ⟨by decide, by decide⟩
  have s0 : subD (.int 2305843009213693952) (.int 1) = some (.int 2305843009213693951) := by rw [subD_int]; rfl
  have s1 := shrD_nat
  have x1 : ∀ x y : Int, xorD (.int x) (.int y) = some (.int (Builtin.bitXor x y)) := fun _ _ => rfl
  refine okS_seq (s_set (sv := .pure (.int ((a % 2305843009213693951 * 6364136223846793005 + b * 1442695040888963407 + 97) % 2305843009213693952))) (e_pure (e_bin (e_bin (e_bin (e_bin (e_bin (e_slot rfl) (e_bin (e_bin e_const e_const p) e_const s0) m1) e_const (m3 _)) (e_bin (e_slot rfl) e_const (m4 _)) (addD_int _ _)) e_const (addD_int _ _)) (e_bin e_const e_const p) (m2 _))) rfl (s_next ?_))
  generalize ((a % 2305843009213693951 * 6364136223846793005 + b * 1442695040888963407 + 97) % 2305843009213693952) = u
  refine okS_seq (s_set (e_pure (e_bin (e_bin (e_bin (e_slot rfl) (e_bin (e_slot rfl) e_const (s1 _ 29)) (x1 _ _)) e_const (m5 _)) (e_bin e_const e_const p) (m2 _))) rfl (s_next ?_))
  generalize (Builtin.bitXor u (u / 2 ^ 29) * 3935559000370003845 % 2305843009213693952) = z
  refine s_ret (e_pure (e_bin (e_bin (e_bin (e_slot rfl) (e_bin (e_slot rfl) e_const (s1 _ 31)) (x1 _ _)) e_const (m6 _)) (e_bin e_const e_const p) (m2 _))) ?_
  generalize (Builtin.bitXor z (z / 2 ^ 31) * 2862933555777941757) = y
  refine ⟨(y % 2305843009213693952).toNat, ?_⟩
  have : ((y % 2305843009213693952).toNat : Int) = y % 2305843009213693952 := Int.toNat_of_nonneg (Int.emod_nonneg _ (by decide))
  rw [this]
  rfl
end Lk53
end
section
namespace Lk53
open K53
theorem add_int1 (t : Nat) : addD (.int (t : Nat)) (.int 1) = some (.int ((t + 1 : Nat) : Int)) := by simp
/-- a valid row of draws gives a number below size, and a valid row -/
theorem F_draw_ex (t l : Nat) (cells : List Nat) (hc : cells ≠ []) (size : Nat) (h0 : 0 < size) (h1 : size < 1073741824) : ∃ r t' l' : Nat, r < size ∧ F__law_draw [.obj 0, .pure (.int size)] [.lst (drD t l cells)] = .ok (.int r, [.lst (drD t' l' cells)]) := by
  have hlen : 0 < cells.length := List.length_pos_iff.mpr hc
  refine runF_P (P := fun r => ∃ x t' l' : Nat, x < size ∧ r = .ok (.int x, [.lst (drD t' l' cells)])) ?_
  show OkS (b__law_draw 1 ⟨[some (.obj 0), some (.pure (.int size)), none, none, none, none], [.lst (drD t l cells)]⟩) _
  rw [b__law_draw]
  refine okS_seq (s_unl (ds := drD t l cells) (e_cur rfl rfl) rfl (g_cons (g_name rfl) (g_cons (g_name rfl) (g_cons (g_name rfl) g_nil))) (s_next ?_))
  refine okS_seq (OkS.mono (Q := fun fl s => fl = .next ∧ ∃ t' l' : Nat, ∃ c5, s = ⟨[some (.obj 0), some (.pure (.int size)), some (.pure (.int t')), some (.pure (.int l')), some (.pure (.list (cells.map natD))), c5], [.lst (drD t l cells)]⟩) ?_ ?_)
  · refine s_if (k := decide (l < size)) (t_cmp (e_slot rfl) (e_slot rfl) (ltD_nat _ _)) (fun hk => ?_) (fun hk => ?_)
    · have hlc : lenD (.list (cells.map natD)) = some (.int (cells.length : Nat)) := by rw [lenD_list, List.length_map]
      have hmd : modD (.int (t : Nat)) (.int (cells.length : Nat)) = some (.int ((t % cells.length : Nat) : Int)) := by
        rw [modD_int (by omega)]; simp
      have hlt : t % cells.length < cells.length := Nat.mod_lt _ hlen
      have hit : itemD (.list (cells.map natD)) (.int ((t % cells.length : Nat) : Int)) = some (natD (cells[t % cells.length])) := item_lm natD cells _ hlt
      generalize cells[t % cells.length] = cell at hit
      refine okS_seq (s_set (e_pure (e_bin (e_slot rfl) (e_bin (e_slot rfl) (e_un (e_slot rfl) hlc) hmd) hit)) rfl (s_next ?_))
      obtain ⟨m, hm⟩ := F_mixed_ex (cell : Nat) (t : Nat)
      have cm := call2 (env := [some (.obj 0), some (.pure (.int size)), some (.pure (.int t)), some (.pure (.int l)), some (.pure (.list (cells.map natD))), some (.pure (natD cell))]) (st := [.lst (drD t l cells)]) hm
      have ht : andT (cmpT ltD (slotE 2) (un1 lenD (slotE 4))) (cmpT geD (slotE 5) (bin2 powD (constE (.int 10)) (constE (.int 18)))) ⟨[some (.obj 0), some (.pure (.int size)), some (.pure (.int t)), some (.pure (.int l)), some (.pure (.list (cells.map natD))), some (.pure (natD cell))], [.lst (drD t l cells)]⟩ = .ok (decide (t < cells.length) && decide ((1000000000000000000 : Int) ≤ (cell : Nat)), [.lst (drD t l cells)]) :=
        t_and (t_cmp (e_slot rfl) (e_un (e_slot rfl) hlc) (ltD_nat _ _)) fun _ => t_cmp (e_slot rfl) (e_bin e_const e_const pow18) (geD_int _ _)
      refine okS_seq (s_set (e_pure (e_ite ht (fun _ => e_slot rfl) (fun _ => e_call (a_slot rfl (a_slot rfl a_nil)) cm))) rfl (s_next ?_))
      refine s_set (e_pure (e_bin (e_slot rfl) e_const (add_int1 t))) rfl ?_
      cases (decide (t < cells.length) && decide ((1000000000000000000 : Int) ≤ (cell : Nat))) with
      | true => exact ⟨rfl, t + 1, cell, _, rfl⟩
      | false => exact ⟨rfl, t + 1, m, _, rfl⟩
    · exact s_nil ⟨rfl, t, l, none, rfl⟩
  · rintro fl s ⟨rfl, t', l', c5, rfl⟩
    have hf : fdivD (.int (l' : Nat)) (.int (size : Nat)) = some (.int ((l' / size : Nat) : Int)) := by
      rw [fdivD_int (by omega) (by omega)]; simp
    have hmd : modD (.int (l' : Nat)) (.int (size : Nat)) = some (.int ((l' % size : Nat) : Int)) := by
      rw [modD_int (by omega)]; simp
    show OkS _ _
    refine okS_seq (s_sto (e_slot rfl) rfl e_const rfl (m := 0) rfl rfl (s_next ?_))
    refine okS_seq (s_sto (e_bin (e_slot rfl) (e_slot rfl) hf) rfl e_const rfl (m := 1) rfl rfl (s_next ?_))
    refine s_ret (e_pure (e_bin (e_slot rfl) (e_slot rfl) hmd)) ?_
    exact ⟨l' % size, t', l' / size, Nat.mod_lt _ h0, rfl⟩
theorem C_draw (t l : Nat) (cells : List Nat) (hc : cells ≠ []) (size : Nat) (h0 : 0 < size) (h1 : size < 1073741824) : ∃ r t' l' : Nat, r < size ∧ ∀ (env : List (Option SV)) (st : Sto) (j : Nat), st[j]? = some (.lst (drD t l cells)) → callS 2 F__law_draw [.obj j, .pure (.int size)] ⟨env, st⟩ = .ok (.int r, st.set j (.lst (drD t' l' cells))) := by
  obtain ⟨r, t', l', hr, h⟩ := F_draw_ex t l cells hc size h0 h1
  exact ⟨r, t', l', hr, fun env st j hj => callO2 hj h⟩
end Lk53
end
section
namespace Lk53
open K53
theorem ab_abs (x : Int) : ab x = ((x.natAbs : Nat) : Int) := by unfold ab; split <;> omega
theorem F_open_eq (ns : List Int) : F__law_open [.scr (ns.map .int)] [] = .ok (.list (drD 0 0 ((ns.take 63).map Int.natAbs ++ [0])), []) := by
  refine runN_ok (P := fun r => r = .ok (.list (drD 0 0 ((ns.take 63).map Int.natAbs ++ [0])), [])) ?_
  show OkS (b__law_open 0 ⟨[some (.scr (ns.map .int)), none, none], []⟩) _
  rw [b__law_open]
  have hsl : sliceD (.list (ns.map PyData.int)) none (some ((63 : Nat) : Int)) = some (.list ((ns.take 63).map .int)) := slice_to_l PyData.int ns 63
  have hlen : (ns.take 63).length ≤ 63 := by rw [List.length_take]; omega
  have hc := c_all (env := [some (.scr (ns.map .int)), none, none]) (st := []) (st1 := []) (fi := seqI (froR (sliceE (curE 0) noneO (someO (constE (.int 63)))))) (vs := [2]) (gt := nameG 2) (ft := yesT) (fe := un1 absD (un1 intD (slotE 2)))
    (ns.take 63) PyData.int (fun x => [some (.scr (ns.map .int)), none, some (.pure (.int x))]) (fun x => natD x.natAbs) (w_seqL (e_slice (e_curS rfl) o_none' (o_some' e_const) hsl)) (by omega) fun x hx => ⟨g_name rfl, t_yes, by
      have := absD_ab x
      rw [ab_abs] at this
      exact e_un (e_un (e_slot rfl) (intD_int x)) this⟩
  have ha : addD (.list ((ns.take 63).map fun x => natD x.natAbs)) (.list [.int 0]) = some (.list (((ns.take 63).map Int.natAbs ++ [0]).map natD)) := by
    simp only [addD]
    rw [if_pos (by simp; omega), List.map_append, List.map_map]
    rfl
  refine okS_seq (s_set (e_pure (e_lst hc)) rfl (s_next ?_))
  refine s_ret (e_lstV (a_cons e_const (a_cons e_const (a_cons (e_bin (e_slot rfl) (e_lstE (a_cons e_const a_nil) (p_cons p_nil) (by simp)) ha) a_nil))) (p_cons (p_cons (p_cons p_nil))) (by simp) rfl rfl) ?_
  rfl
end Lk53
end
section
namespace Lk53
open K53
theorem min_nat (a b : Nat) : min2D (.int a) (.int b) = some (.int ((if b < a then b else a : Nat) : Int)) := by
  show some (PyData.int _) = _
  by_cases h : b < a
  · rw [if_pos h, if_pos (by omega)]
  · rw [if_neg h, if_neg (by omega)]
theorem max_nat (a b : Nat) : max2D (.int a) (.int b) = some (.int ((if a < b then b else a : Nat) : Int)) := by
  show some (PyData.int _) = _
  by_cases h : a < b
  · rw [if_pos h, if_pos (by omega)]
  · rw [if_neg h, if_neg (by omega)]
def GoodC (p : Nat × Nat) : Prop := p.1 ≤ 20 ∧ p.2 ≤ 20 ∧ p.1 ≠ p.2
theorem F_lift_ex (t l : Nat) (cells : List Nat) (hc : cells ≠ []) : ∃ (f cap : Nat) (cs : List (Nat × Nat)) (t' l' : Nat), f ≤ 20 ∧ 1 ≤ cap ∧ cap ≤ 3 ∧ cs.length ≤ 4 ∧ (∀ p ∈ cs, GoodC p) ∧ F__law_lift [.obj 0] [.lst (drD t l cells)] = .ok (liftD f cap cs, [.lst (drD t' l' cells)]) := by
  refine runF_P (P := fun r => ∃ (f cap : Nat) (cs : List (Nat × Nat)) (t' l' : Nat), f ≤ 20 ∧ 1 ≤ cap ∧ cap ≤ 3 ∧ cs.length ≤ 4 ∧ (∀ p ∈ cs, GoodC p) ∧ r = .ok (liftD f cap cs, [.lst (drD t' l' cells)])) ?_
  show OkS (b__law_lift 1 ⟨[some (.obj 0), none, none, none, none, none], [.lst (drD t l cells)]⟩) _
  rw [b__law_lift]
  obtain ⟨r, t1, l1, hr, d1⟩ := C_draw t l cells hc 3 (by decide) (by decide)
  have hi : ∃ wide : Nat, 0 < wide ∧ wide ≤ 21 ∧ itemD (.list [.int 4, .int 8, .int 21]) (.int (r : Nat)) = some (.int (wide : Nat)) := by
    match r, hr with
    | 0, _ => exact ⟨4, by decide, by decide, itemD_list (i := 0)⟩
    | 1, _ => exact ⟨8, by decide, by decide, itemD_list (i := 1)⟩
    | 2, _ => exact ⟨21, by decide, by decide, itemD_list (i := 2)⟩
  obtain ⟨wide, w0, w1, hi⟩ := hi
  refine okS_seq (s_set (e_pure (e_bin (e_lstE (a_cons e_const (a_cons e_const (a_cons e_const a_nil))) (p_cons (p_cons (p_cons p_nil))) (by simp)) (e_call (a_slot rfl (a_cons e_const a_nil)) (d1 _ _ 0 rfl)) hi)) rfl (s_next ?_))
  refine okS_seq (s_set (e_lstV a_nil p_nil (by simp) rfl rfl) rfl (s_next ?_))
  obtain ⟨n, t2, l2, hn, d2⟩ := C_draw t1 l1 cells hc 5 (by decide) (by decide)
  refine okS_seq (s_for (List.range n) (fun i => PyData.int (i : Nat)) (fun k s => ∃ (t l : Nat) (cs : List (Nat × Nat)), s = ⟨[some (.obj 0), some (.pure (.int wide)), some (.obj 1), none, none, none], [.lst (drD t l cells), .lst (cs.map callD)]⟩ ∧ (∀ p ∈ cs, GoodC p) ∧ cs.length ≤ k)
    (w_range1 (e_call (a_slot rfl (a_cons e_const a_nil)) (d2 _ _ 0 rfl)) (by omega)) ⟨t2, l2, [], rfl, (fun p hp => by cases hp), Nat.le_refl _⟩ ?_ ?_)
  · rintro k hk s ⟨t, l, cs, rfl, hg, hl⟩
    rw [List.length_range] at hk
    refine ⟨_, g_name rfl, ?_⟩
    obtain ⟨a, t3, l3, ha, d3⟩ := C_draw t l cells hc wide w0 (by omega)
    obtain ⟨b, t4, l4, hb, d4⟩ := C_draw t3 l3 cells hc wide w0 (by omega)
    refine okS_seq (s_par (a_consV (e_pure (e_call (a_slot rfl (a_slot rfl a_nil)) (d3 _ _ 0 rfl))) (a_consV (e_pure (e_call (a_slot rfl (a_slot rfl a_nil)) (d4 _ _ 0 rfl))) a_nil)) rfl rfl (s_next ?_))
    refine s_if (t_cmp (e_slot rfl) (e_slot rfl) (neD_nat a b)) (fun hne => ?_) (fun _ => s_nil ⟨t4, l4, cs, rfl, hg, by omega⟩)
    have hab : a ≠ b := by simpa using hne
    obtain ⟨z, t5, l5, hz, d5⟩ := C_draw t4 l4 cells hc 3 (by decide) (by decide)
    have hcl : (cs.map callD).length < 16777216 := by rw [List.length_map]; omega
    refine s_drop (e_app rfl rfl (e_ite (t_cmp (e_call (a_slot rfl (a_cons e_const a_nil)) (d5 _ _ 0 rfl)) e_const (gtD_nat0 z)) (fun _ => e_tup (a_cons (e_slot rfl) (a_cons (e_slot rfl) a_nil)) (p_cons (p_cons p_nil)) (by simp)) (fun _ => e_tup (a_cons (e_bin (e_slot rfl) (e_slot rfl) (min_nat a b)) (a_cons (e_bin (e_slot rfl) (e_slot rfl) (max_nat a b)) a_nil)) (p_cons (p_cons p_nil)) (by simp))) rfl hcl rfl) ?_
    cases decide (0 < z) with
    | true => exact ⟨t5, l5, cs ++ [(a, b)], by rw [List.map_append]; rfl, fun p hp => by
        rcases List.mem_append.mp hp with y | y
        · exact hg p y
        · rw [List.mem_singleton.mp y]; exact ⟨by show a ≤ 20; omega, by show b ≤ 20; omega, hab⟩, by simp; omega⟩
    | false => exact ⟨t5, l5, cs ++ [(if b < a then b else a, if a < b then b else a)], by rw [List.map_append]; rfl, fun p hp => by
        rcases List.mem_append.mp hp with y | y
        · exact hg p y
        · rw [List.mem_singleton.mp y]
          refine ⟨?_, ?_, ?_⟩
          · show (if b < a then b else a) ≤ 20; split <;> omega
          · show (if a < b then b else a) ≤ 20; split <;> omega
          · show (if b < a then b else a) ≠ (if a < b then b else a); split <;> split <;> omega, by simp; omega⟩
  · rintro s ⟨t, l, cs, rfl, hg, hl⟩
    rw [List.length_range] at hl
    refine s_next ?_
    obtain ⟨f, t3, l3, hf, d3⟩ := C_draw t l cells hc wide w0 (by omega)
    obtain ⟨c, t4, l4, hc4, d4⟩ := C_draw t3 l3 cells hc 3 (by decide) (by decide)
    have ha : addD (.int 1) (.int (c : Nat)) = some (.int ((1 + c : Nat) : Int)) := by simp
    have hs : sliceD (.list (cs.map callD)) none (some ((4 : Nat) : Int)) = some (.list ((cs.take 4).map callD)) := slice_to_l callD cs 4
    have ht4 : cs.take 4 = cs := List.take_of_length_le (by omega)
    rw [ht4] at hs
    refine s_ret (e_pure (e_tup (a_cons (e_call (a_slot rfl (a_slot rfl a_nil)) (d3 _ _ 0 rfl)) (a_cons (e_bin e_const (e_call (a_slot rfl (a_cons e_const a_nil)) (d4 _ _ 0 rfl)) ha) (a_cons (e_un (e_slice (e_cur rfl rfl) o_none' (o_some' e_const) hs) (tupleD_list _)) a_nil))) (p_cons (p_cons (p_cons p_nil))) (by simp))) ?_
    exact ⟨f, 1 + c, cs, t4, l4, by omega, by omega, by omega, by omega, hg, rfl⟩
end Lk53
end
section
namespace Lk53
open K53
theorem callB_good {p : Nat × Nat} (h : GoodC p) : callB (callD p) = true := by
  obtain ⟨a, b⟩ := p
  obtain ⟨h1, h2, h3⟩ := h
  simp only at h1 h2 h3
  show callB (.tuple [.int a, .int b]) = true
  simp only [callB, Bool.and_eq_true, decide_eq_true_eq, Bool.not_eq_true', decide_eq_false_iff_not]
  omega
theorem all_good {cs : List (Nat × Nat)} (h : ∀ p ∈ cs, GoodC p) : (cs.map callD).all callB = true := by
  rw [List.all_map, List.all_eq_true]
  exact fun p hp => callB_good (h p hp)
theorem liftB_good {f cap : Nat} {cs : List (Nat × Nat)} (hf : f ≤ 20) (h1 : 1 ≤ cap) (h3 : cap ≤ 3) (hl : cs.length ≤ 5) (h : ∀ p ∈ cs, GoodC p) : liftB (liftD f cap cs) = true := by
  show liftB (.tuple [.int f, .int cap, .tuple (cs.map callD)]) = true
  simp only [liftB, Bool.and_eq_true, decide_eq_true_eq, List.length_map]
  exact ⟨⟨⟨⟨⟨by omega, by omega⟩, by omega⟩, by omega⟩, hl⟩, all_good h⟩
def wrongs (f cap : Nat) (cs : PyData) (ls : PyData) : List PyData := [.none, .tuple [.int f, .int cap], .list [.int f, .int cap, cs], .tuple [.int f, .int cap, cs, .int 0], .tuple [.int 21, .int cap, cs], .tuple [.int (-1), .int cap, cs], .tuple [.bool true, .int cap, cs],
  .tuple [.int f, .int 0, cs], .tuple [.int f, .int 4, cs], .tuple [.int f, .int cap, ls], .tuple [.int f, .int cap, .tuple [.tuple [.int 1, .int 1]]], .tuple [.int f, .int cap, .tuple [.tuple [.int 0, .int 21]]], .tuple [.int f, .int cap, .tuple [.tuple [.int 0]]],
  .tuple [.int f, .int cap, .tuple [.list [.int 0, .int 1]]], .tuple [.int f, .int cap, .tuple [.none]], .tuple [.int f, .int cap, .tuple [.tuple [.int 0, .int 1], .tuple [.int 0, .int 1], .tuple [.int 0, .int 1], .tuple [.int 0, .int 1], .tuple [.int 0, .int 1], .tuple [.int 0, .int 1]]], .int 5]
theorem wrongs_f (f cap : Nat) (cs : List PyData) : ∀ x ∈ wrongs f cap (.tuple cs) (.list cs), liftB x = false := by
  intro x hx
  simp only [wrongs, List.mem_cons, List.not_mem_nil, or_false] at hx
  rcases hx with h | h | h | h | h | h | h | h | h | h | h | h | h | h | h | h | h <;> subst h <;> first | rfl | (simp [liftB, callB])
local macro_rules | `(tactic| walk_at "o") => `(tactic| first | with_reducible exact l_0 _ _ _ | with_reducible exact l_1 _ _ _ | with_reducible exact l_2 _ _ _)
theorem mulT {xs : List PyData} {k : Nat} (h0 : xs ≠ []) (h1 : 2 ≤ k) (h2 : k ≤ 1000) (h3 : xs.length ≤ 1000) : mulD (.tuple xs) (.int k) = some (.tuple (List.replicate k xs).flatten) := by
  unfold mulD
  simp only
  rw [if_pos ⟨h0, by omega, by omega, h3⟩, Int.toNat_natCast]
theorem F_lifts_eq {f cap : Nat} {cs : List (Nat × Nat)} (hf : f ≤ 20) (h1 : 1 ≤ cap) (h3 : cap ≤ 3) (hl : cs.length ≤ 5) (h : ∀ p ∈ cs, GoodC p) : F__law_lifts [.pure (liftD f cap cs)] [] = .ok (.bool true, []) := by
  have hg := liftB_good hf h1 h3 hl h
  have hw := wrongs_f f cap (cs.map callD)
  generalize hC : PyData.tuple (cs.map callD) = C at hw
  generalize hLs : PyData.list (cs.map callD) = Ls at hw
  have hls : listD C = some Ls := by rw [← hC, ← hLs]; rfl
  have hL : liftD f cap cs = .tuple [.int f, .int cap, C] := by rw [← hC]; rfl
  rw [hL] at hg ⊢
  clear hL hC hLs
  rw [F__law_lifts]
  refine f_run ?_
  show OkS (b__law_lifts 0 ⟨[some (.pure (.tuple [.int f, .int cap, C])), none, none, none, none, none], []⟩) _
  rw [b__law_lifts]
  have m6 : mulD (.tuple [.tuple [.int 0, .int 1]]) (.int 6) = some (.tuple [.tuple [.int 0, .int 1], .tuple [.int 0, .int 1], .tuple [.int 0, .int 1], .tuple [.int 0, .int 1], .tuple [.int 0, .int 1], .tuple [.int 0, .int 1]]) := mulT (k := 6) (by simp) (by decide) (by decide) (by simp)
  have m5 : mulD (.tuple [.tuple [.int 0, .int 20]]) (.int 5) = some (.tuple [.tuple [.int 0, .int 20], .tuple [.int 0, .int 20], .tuple [.int 0, .int 20], .tuple [.int 0, .int 20], .tuple [.int 0, .int 20]]) := mulT (k := 5) (by simp) (by decide) (by decide) (by simp)
  have cA := C_is_lift (.tuple [.int f, .int cap, C]) (env := [some (.pure (.tuple [.int f, .int cap, C])), some (.pure (.int f)), some (.pure (.int cap)), some (.pure C), some (.pure (.list (wrongs f cap C Ls))), none]) (st := [])
  rw [hg] at cA
  have cB := C_is_lift (.tuple [.int 20, .int 3, .tuple [.tuple [.int 0, .int 20], .tuple [.int 0, .int 20], .tuple [.int 0, .int 20], .tuple [.int 0, .int 20], .tuple [.int 0, .int 20]]]) (env := [some (.pure (.tuple [.int f, .int cap, C])), some (.pure (.int f)), some (.pure (.int cap)), some (.pure C), some (.pure (.list (wrongs f cap C Ls))), none]) (st := [])
  have eB : liftB (.tuple [.int 20, .int 3, .tuple [.tuple [.int 0, .int 20], .tuple [.int 0, .int 20], .tuple [.int 0, .int 20], .tuple [.int 0, .int 20], .tuple [.int 0, .int 20]]]) = true := by simp [liftB, callB]
  rw [eB] at cB
  have cW := c_pure (env := [some (.pure (.tuple [.int f, .int cap, C])), some (.pure (.int f)), some (.pure (.int cap)), some (.pure C), some (.pure (.list (wrongs f cap C Ls))), none]) (st := []) (st1 := []) (fi := seqI (froR (slotE 4))) (vs := [5]) (gt := nameG 5) (ft := cmpT isNotD (callE 1 F_is_lift (consSlotA 5 nilA)) (constE (.bool false))) (fe := slotE 5)
    (wrongs f cap C Ls) id (fun x => [some (.pure (.tuple [.int f, .int cap, C])), some (.pure (.int f)), some (.pure (.int cap)), some (.pure C), some (.pure (.list (wrongs f cap C Ls))), some (.pure x)]) (fun x => !(liftB x == false)) id (by rw [List.map_id]; exact w_seqL (e_slot rfl)) (by simp [wrongs]) fun x hx => ⟨g_name rfl, t_cmp (e_call (a_slot rfl a_nil) (C_is_lift x)) e_const (isNotD_bool _ _), fun _ => e_slot rfl⟩
  have eW : (wrongs f cap C Ls).filter (fun x => !(liftB x == false)) = [] := by
    rw [List.filter_eq_nil_iff]
    intro x hx
    rw [hw x hx]
    simp
  rw [eW] at cW
  unfold wrongs at cA cB cW
  clear hw eW
  walk_at "s"
  rfl
end Lk53
end
section
namespace Lk53
open K53
noncomputable def turnB : EvS := (seqS (setS 13 (pureV (bin2 itemD (slotE 6) (callE 2 F__law_draw (consSlotA 1 (consA (un1 lenD (slotE 6)) nilA)))))) 
    (seqS (ifS (orT (cmpT isNotD (callE 2 F_is_run (consSlotA 2 (consSlotA 13 nilA))) (constE (.bool true))) (cmpT neD (callE 2 F_travel (consSlotA 2 (consSlotA 13 nilA))) (callE 2 F__law_travel (consSlotA 2 (consSlotA 13 nilA))))) (retS (pureV (constE (.bool false)))) nilS) 
    (seqS (setS 14 (pureV (callE 2 F__law_draw (consSlotA 1 (consA (bin2 max2D (constE (.int 1)) (un1 lenD (slotE 13))) nilA))))) 
    (seqS (setS 15 (pureV (lstE (consA (un1 listD (slotE 13)) (consA (un1 revD (slotE 13)) (consA (sliceE (slotE 13) (someO (constE (.int 1))) noneO) (consA (bin2 addD (slotE 13) (sliceE (slotE 13) noneO (someO (constE (.int 1))))) (consA (bin2 addD (sliceE (slotE 13) (someO (slotE 14)) noneO) (sliceE (slotE 13) noneO (someO (slotE 14)))) (consA (bin2 addD (bin2 addD (sliceE (slotE 13) noneO (someO (slotE 14))) (tupE (consA (constE .none) nilA))) (sliceE (slotE 13) (someO (bin2 addD (slotE 14) (constE (.int 1)))) noneO)) (consA (bin2 addD (bin2 addD (sliceE (slotE 13) noneO (someO (slotE 14))) (tupE (consA (tupE (consA (constE (.str "in")) (consA (slotE 14) nilA))) nilA))) (sliceE (slotE 13) (someO (bin2 addD (slotE 14) (constE (.int 1)))) noneO)) (consA (bin2 addD (bin2 addD (sliceE (slotE 13) noneO (someO (slotE 14))) (tupE (consA (tupE (consA (constE (.str "up")) (consA (constE (.int 0)) nilA))) nilA))) (sliceE (slotE 13) (someO (bin2 addD (slotE 14) (constE (.int 1)))) noneO)) (consA (bin2 addD (bin2 addD (sliceE (slotE 13) noneO (someO (slotE 14))) (tupE (consA (tupE (consA (constE (.str "in")) (consA (constE (.bool true)) nilA))) nilA))) (sliceE (slotE 13) (someO (bin2 addD (slotE 14) (constE (.int 1)))) noneO)) (consA (bin2 addD (bin2 addD (sliceE (slotE 13) noneO (someO (slotE 14))) (tupE (consA (lstE (consA (constE (.str "in")) (consA (constE (.int 0)) nilA))) nilA))) (sliceE (slotE 13) (someO (bin2 addD (slotE 14) (constE (.int 1)))) noneO)) (consA (constE .none) (consA (tupE nilA) nilA))))))))))))))) 
    (forS (seqI (froR (slotE 15))) (nameG 16) (ifS (notT (valT (callE 2 F__law_same (consA (callE 2 F_is_run (consSlotA 2 (consSlotA 16 nilA))) (consA (callE 2 F__law_is_run (consSlotA 2 (consSlotA 16 nilA))) nilA))))) (retS (pureV (constE (.bool false)))) nilS) [16])))))
noncomputable def valsE : EvD := (lstE (consA (un1 listD (slotE 13)) (consA (un1 revD (slotE 13)) (consA (sliceE (slotE 13) (someO (constE (.int 1))) noneO) (consA (bin2 addD (slotE 13) (sliceE (slotE 13) noneO (someO (constE (.int 1))))) (consA (bin2 addD (sliceE (slotE 13) (someO (slotE 14)) noneO) (sliceE (slotE 13) noneO (someO (slotE 14)))) (consA (bin2 addD (bin2 addD (sliceE (slotE 13) noneO (someO (slotE 14))) (tupE (consA (constE .none) nilA))) (sliceE (slotE 13) (someO (bin2 addD (slotE 14) (constE (.int 1)))) noneO)) (consA (bin2 addD (bin2 addD (sliceE (slotE 13) noneO (someO (slotE 14))) (tupE (consA (tupE (consA (constE (.str "in")) (consA (slotE 14) nilA))) nilA))) (sliceE (slotE 13) (someO (bin2 addD (slotE 14) (constE (.int 1)))) noneO)) (consA (bin2 addD (bin2 addD (sliceE (slotE 13) noneO (someO (slotE 14))) (tupE (consA (tupE (consA (constE (.str "up")) (consA (constE (.int 0)) nilA))) nilA))) (sliceE (slotE 13) (someO (bin2 addD (slotE 14) (constE (.int 1)))) noneO)) (consA (bin2 addD (bin2 addD (sliceE (slotE 13) noneO (someO (slotE 14))) (tupE (consA (tupE (consA (constE (.str "in")) (consA (constE (.bool true)) nilA))) nilA))) (sliceE (slotE 13) (someO (bin2 addD (slotE 14) (constE (.int 1)))) noneO)) (consA (bin2 addD (bin2 addD (sliceE (slotE 13) noneO (someO (slotE 14))) (tupE (consA (lstE (consA (constE (.str "in")) (consA (constE (.int 0)) nilA))) nilA))) (sliceE (slotE 13) (someO (bin2 addD (slotE 14) (constE (.int 1)))) noneO)) (consA (constE .none) (consA (tupE nilA) nilA)))))))))))))
theorem cut_len {α : Type} (xs : List α) (lo hi : Option Int) : (DL.cutD xs lo hi).length ≤ xs.length := by
  unfold DL.cutD
  rw [List.length_take, List.length_drop]
  omega
theorem slT (ds : List PyData) (lo hi : Option Int) : sliceD (.tuple ds) lo hi = some (.tuple (DL.cutD ds lo hi)) := rfl
theorem adT (a b : List PyData) (h : a.length + b.length ≤ 1000) : addD (.tuple a) (.tuple b) = some (.tuple (a ++ b)) := by
  simp only [addD]
  rw [if_pos (by omega)]
theorem vals_ex (ds : List PyData) (hd : ds.length ≤ 100) (a : Nat) (env : List (Option SV)) (st : Sto) (h13 : env[13]? = some (some (.pure (.tuple ds)))) (h14 : env[14]? = some (some (.pure (.int (a : Nat))))) : ∃ ys : List PyData, valsE ⟨env, st⟩ = .ok (.list ys, st) := by
  have x : slotE 13 ⟨env, st⟩ = .ok (.tuple ds, st) := e_slot h13
  have y : slotE 14 ⟨env, st⟩ = .ok (.int (a : Nat), st) := e_slot h14
  have c1 := cut_len ds
  have s1 : ∀ lo hi, (DL.cutD ds lo hi).length ≤ 100 := fun lo hi => Nat.le_trans (c1 lo hi) hd
  have one : addD (.int (a : Nat)) (.int 1) = some (.int ((a + 1 : Nat) : Int)) := by simp
  have mid : ∀ (v : EvD) (w : PyData), v ⟨env, st⟩ = .ok (w, st) → ∃ ys, bin2 addD (bin2 addD (sliceE (slotE 13) noneO (someO (slotE 14))) (tupE (consA v nilA))) (sliceE (slotE 13) (someO (bin2 addD (slotE 14) (constE (.int 1)))) noneO) ⟨env, st⟩ = .ok (.tuple ys, st) := fun v w hv => by
    have q1 := s1 none (some (a : Int))
    have q2 := s1 (some ((a + 1 : Nat) : Int)) none
    exact ⟨_, e_bin (e_bin (e_slice x o_none' (o_some' y) (slT _ _ _)) (e_tup (a_cons hv a_nil) (p_cons p_nil) (by simp)) (adT _ _ (by simp; omega))) (e_slice x (o_some' (e_bin y e_const one)) o_none' (slT _ _ _)) (adT _ _ (by rw [List.length_append, List.length_singleton]; omega))⟩
  obtain ⟨y6, m6⟩ := mid (constE .none) .none e_const
  obtain ⟨y7, m7⟩ := mid (tupE (consA (constE (.str "in")) (consA (slotE 14) nilA))) _ (e_tup (a_cons e_const (a_cons y a_nil)) (p_cons (p_cons p_nil)) (by simp))
  obtain ⟨y8, m8⟩ := mid (tupE (consA (constE (.str "up")) (consA (constE (.int 0)) nilA))) _ (e_tup (a_cons e_const (a_cons e_const a_nil)) (p_cons (p_cons p_nil)) (by simp))
  obtain ⟨y9, m9⟩ := mid (tupE (consA (constE (.str "in")) (consA (constE (.bool true)) nilA))) _ (e_tup (a_cons e_const (a_cons e_const a_nil)) (p_cons (p_cons p_nil)) (by simp))
  obtain ⟨yA, mA⟩ := mid (lstE (consA (constE (.str "in")) (consA (constE (.int 0)) nilA))) _ (e_lstE (a_cons e_const (a_cons e_const a_nil)) (p_cons (p_cons p_nil)) (by simp))
  have q1 := s1 none (some 1)
  have q2 := s1 (some (a : Int)) none
  have q3 := s1 none (some (a : Int))
  exact ⟨_, e_lstE (a_cons (e_un x (listD_tuple _)) (a_cons (e_un x (revD_tuple _)) (a_cons (e_slice x (o_some' e_const) o_none' (slT _ _ _)) (a_cons (e_bin x (e_slice x o_none' (o_some' e_const) (slT _ _ _)) (adT _ _ (by omega))) (a_cons (e_bin (e_slice x (o_some' y) o_none' (slT _ _ _)) (e_slice x o_none' (o_some' y) (slT _ _ _)) (adT _ _ (by omega)))
    (a_cons m6 (a_cons m7 (a_cons m8 (a_cons m9 (a_cons mA (a_cons e_const (a_cons (e_tup a_nil p_nil (by simp)) a_nil)))))))))))) (p_cons (p_cons (p_cons (p_cons (p_cons (p_cons (p_cons (p_cons (p_cons (p_cons (p_cons (p_cons p_nil)))))))))))) (by simp)⟩
end Lk53
end
section
namespace Lk53
open K53
theorem filter_eq1 {w : List Nat} {k : Nat} (nd : w.Nodup) (h : k ∈ w) : (w.filter fun x => x != k).length + 1 = w.length := by
  rw [← nd.erase_eq_filter k, List.length_erase_of_mem h]
  have := List.length_pos_of_mem h
  omega
theorem okR_leq {cap : Nat} : ∀ (r : List Deed) {w h : List Nat}, w.Nodup → h.Nodup → (∀ k ∈ w, k ∉ h) → okR cap w h r = true → r.length = mea w h
  | [], w, h, _, _, _, o => by
    simp only [okR, Bool.and_eq_true, List.isEmpty_iff] at o
    obtain ⟨rfl, rfl⟩ := o
    rfl
  | d :: r, w, h, nw, nh, dj, o => by
    simp only [okR, Bool.and_eq_true] at o
    obtain ⟨c, o⟩ := o
    obtain ⟨b, k⟩ := d
    cases b
    · simp only [can, Bool.false_eq_true, if_false, decide_eq_true_eq] at c
      simp only [nxW, nxH, Bool.false_eq_true, if_false] at o
      have ih := okR_leq r nw (nh.filter _) (fun j hj z => dj j hj (List.mem_filter.mp z).1) o
      have e := filter_eq1 nh c
      rw [List.length_cons, ih]
      unfold mea
      omega
    · simp only [can, if_true, Bool.and_eq_true, decide_eq_true_eq] at c
      simp only [nxW, nxH, if_true] at o
      have ih := okR_leq r (nw.filter _) (by
        rw [List.nodup_append]
        exact ⟨nh, by simp, fun a ha b hb z => dj k c.1 (by rw [← List.mem_singleton.mp hb, ← z]; exact ha)⟩) (fun j hj z => by
          have hj' := List.mem_filter.mp hj
          rcases List.mem_append.mp z with y | y
          · exact dj j hj'.1 y
          · rw [List.mem_singleton.mp y] at hj'; simp at hj') o
      have e := filter_eq1 nw c.1
      rw [List.length_cons, ih]
      unfold mea
      rw [List.length_append, List.length_singleton]
      omega
theorem run_ok {cap : Nat} {n : Nat} {r : List Deed} (h : okR cap (List.range n) [] r = true) : r.length = 2 * n ∧ (∀ d ∈ r, d.2 < n) ∧ (mach cap (some ([], [])) r).isSome = true := by
  have hd := okR_lt r (fun k hk => List.mem_range.mp hk) (fun k hk => by cases hk) h
  have hm := mach_ok r (dn := []) h List.nodup_nil (fun k _ => ⟨by simp, by simp⟩) (fun k hk => by cases hk)
  refine ⟨?_, hd, hm⟩
  have := okR_leq r List.nodup_range List.nodup_nil (fun k _ => by simp) h
  simpa [mea] using this
end Lk53
end
section
namespace Lk53
open K53
theorem turn_ok (f cap : Nat) (cs : List (Nat × Nat)) (hn : cs.length ≤ 4) (every : List (List Deed)) (hE : every ≠ []) (hE2 : every.length ≤ 1000000) (hok : ∀ r ∈ every, okR cap (List.range cs.length) [] r = true) (t l : Nat) (cells : List Nat) (hc : cells ≠ []) (ns : List PyData) (x3 x4 x5 x7 x8 x9 x10 x11 : PyData) (o12 : Option SV) (h12 : keepSV 1 o12 = o12) :
    OkS (turnB 1 ⟨[some (.scr ns), some (.obj 0), some (.pure (liftD f cap cs)), some (.pure x3), some (.pure x4), some (.pure x5), some (.pure (.list (every.map rowE.f))), some (.pure x7), some (.pure x8), some (.pure x9), some (.pure x10), some (.pure x11), o12, none, none, none, none, none], [.lst (drD t l cells)]⟩) fun fl s' => fl = .next ∧ ∃ (t' l' : Nat) (a b c d : Option SV), s' = ⟨[some (.scr ns), some (.obj 0), some (.pure (liftD f cap cs)), some (.pure x3), some (.pure x4), some (.pure x5), some (.pure (.list (every.map rowE.f))), some (.pure x7), some (.pure x8), some (.pure x9), some (.pure x10), some (.pure x11), o12, a, b, c, d, none], [.lst (drD t' l' cells)]⟩ := by
  have hEl : 0 < every.length := List.length_pos_iff.mpr hE
  rw [turnB]
  obtain ⟨i, t1, l1, hi, d1⟩ := C_draw t l cells hc every.length hEl (by omega)
  have he : lenD (.list (every.map rowE.f)) = some (.int (every.length : Nat)) := by rw [lenD_list, List.length_map]
  have hit := item_lm rowE.f every i hi
  have hr := hok every[i] (List.getElem_mem hi)
  generalize every[i] = r at hit hr
  obtain ⟨hr1, hr2, hr3⟩ := run_ok hr
  refine okS_seq (s_set (e_pure (e_bin (e_slot rfl) (e_call (a_slot rfl (a_cons (e_un (e_slot rfl) he) a_nil)) (d1 _ _ 0 rfl)) hit)) rfl (s_next ?_))
  have hrun : runB cs.length cap (rowE.f r) = true := by
    show runB cs.length cap (.tuple (r.map deedE.f)) = true
    rw [runB_ds hr1 hr2, hr3]
  have c1 := call2 (env := [some (.scr ns), some (.obj 0), some (.pure (liftD f cap cs)), some (.pure x3), some (.pure x4), some (.pure x5), some (.pure (.list (every.map rowE.f))), some (.pure x7), some (.pure x8), some (.pure x9), some (.pure x10), some (.pure x11), o12, some (.pure (rowE.f r)), none, none, none, none]) (st := [.lst (drD t1 l1 cells)]) (F_is_run_eq f cap cs (by omega) (rowE.f r))
  rw [hrun] at c1
  have c2 := C_travel f cap cs r hr2 (env := [some (.scr ns), some (.obj 0), some (.pure (liftD f cap cs)), some (.pure x3), some (.pure x4), some (.pure x5), some (.pure (.list (every.map rowE.f))), some (.pure x7), some (.pure x8), some (.pure x9), some (.pure x10), some (.pure x11), o12, some (.pure (rowE.f r)), none, none, none, none]) (st := [.lst (drD t1 l1 cells)])
  have c3 := C_ltravel f cap cs r hr2 (env := [some (.scr ns), some (.obj 0), some (.pure (liftD f cap cs)), some (.pure x3), some (.pure x4), some (.pure x5), some (.pure (.list (every.map rowE.f))), some (.pure x7), some (.pure x8), some (.pure x9), some (.pure x10), some (.pure x11), o12, some (.pure (rowE.f r)), none, none, none, none]) (st := [.lst (drD t1 l1 cells)])
  refine okS_seq (s_ifF (t_orF (t_cmp (e_call (a_slot rfl (a_slot rfl a_nil)) c1) e_const (isNotD_bool _ _)) rfl (t_cmp (e_call (a_slot rfl (a_slot rfl a_nil)) c2) (e_call (a_slot rfl (a_slot rfl a_nil)) c3) (by rw [neD_int, decide_eq_true rfl]; rfl))) (s_nil (s_next ?_)))
  have hl : lenD (rowE.f r) = some (.int (r.length : Nat)) := by
    show lenD (.tuple (r.map deedE.f)) = _
    rw [lenD_tuple, List.length_map]
  have hmx : max2D (.int 1) (.int (r.length : Nat)) = some (.int ((if 1 < r.length then r.length else 1 : Nat) : Int)) := max_nat 1 r.length
  obtain ⟨a, t2, l2, ha, d2⟩ := C_draw t1 l1 cells hc (if 1 < r.length then r.length else 1) (by split <;> omega) (by split <;> omega)
  refine okS_seq (s_set (e_pure (e_call (a_slot rfl (a_cons (e_bin e_const (e_un (e_slot rfl) hl) hmx) a_nil)) (d2 _ _ 0 rfl))) rfl (s_next ?_))
  obtain ⟨ys, hv⟩ := vals_ex (r.map deedE.f) (by rw [List.length_map]; omega) a [some (.scr ns), some (.obj 0), some (.pure (liftD f cap cs)), some (.pure x3), some (.pure x4), some (.pure x5), some (.pure (.list (every.map rowE.f))), some (.pure x7), some (.pure x8), some (.pure x9), some (.pure x10), some (.pure x11), o12, some (.pure (rowE.f r)), some (.pure (.int (a : Nat))), none, none, none] [.lst (drD t2 l2 cells)] rfl rfl
  unfold valsE at hv
  refine okS_seq (s_set (e_pure hv) rfl (s_next ?_))
  refine s_check ys id (fun _ => true) (.pure (.bool false)) (by rw [List.map_id]; exact w_seqL (e_slot rfl)) (fun x hx => ⟨_, g_name rfl, ?_⟩) (fun _ => ⟨rfl, t2, l2, _, _, _, _, rfl⟩) (fun h => by simp at h)
  refine s_ifF (t_not (t_val (e_call (a_cons (e_call (a_slot rfl (a_slot rfl a_nil)) (call2 (F_is_run_eq f cap cs (by omega) x))) (a_cons (e_call (a_slot rfl (a_slot rfl a_nil)) (call2 (F_lrun_eq f cap cs (by omega) x))) a_nil)) ((C_same (runB cs.length cap x) (runB cs.length cap x)).trans (by rw [beq_self_eq_true]))))) (s_nil (by rw [if_pos rfl]; refine ⟨.inl rfl, ?_⟩; simp [wipeS, wipeE, h12]))
end Lk53
end
section
namespace Lk53
open K53
/-! ### what the law asks of the least travel -/
section
variable {cs : List (Nat × Nat)} {cap f : Nat} {p : Int × List Deed}
def flo (f : Nat) (cs : List (Nat × Nat)) : List Nat := [f] ++ cs.map (·.1) ++ cs.map (·.2)
theorem seen_all (b : Best cs cap f (List.range cs.length) [] p) {x : Nat} (h : x ∈ flo f cs) : Seen cs f p.2 (x : Nat) := by
  have v := (visits p.2 b.ok).1
  unfold flo at h
  rcases List.mem_append.mp h with h | h
  · rcases List.mem_append.mp h with h | h
    · left; rw [List.mem_singleton.mp h]
    · right
      obtain ⟨q, hq, rfl⟩ := List.mem_map.mp h
      obtain ⟨k, hk, rfl⟩ := List.getElem_of_mem hq
      refine ⟨(true, k), (v k (List.mem_range.mpr hk)).1, ?_⟩
      simp [flr, stF, List.getElem?_eq_getElem hk]
  · right
    obtain ⟨q, hq, rfl⟩ := List.mem_map.mp h
    obtain ⟨k, hk, rfl⟩ := List.getElem_of_mem hq
    refine ⟨(false, k), (v k (List.mem_range.mpr hk)).2, ?_⟩
    simp [flr, glF, List.getElem?_eq_getElem hk]
theorem low_le (b : Best cs cap f (List.range cs.length) [] p) {lo hi : Nat} (hlo : lo ∈ flo f cs) (hhi : hi ∈ flo f cs) (h1 : ∀ x ∈ flo f cs, lo ≤ x) (h2 : ∀ x ∈ flo f cs, x ≤ hi) : (hi : Int) - lo + min ((hi : Int) - f) ((f : Int) - lo) ≤ p.1 := by
  have hf : f ∈ flo f cs := by simp [flo]
  have := low_bound (cs := cs) (f := f) (r := p.2) (lo := (lo : Nat)) (hi := (hi : Nat)) (by have := h1 f hf; omega) (by have := h2 f hf; omega) (seen_all b hlo) (seen_all b hhi)
  rw [b.cost] at this
  exact this
theorem lt_pair_fst {c1 c2 : Int} {r1 r2 : List Deed} (h : pairE.lt (c1, r1) (c2, r2) = false) : c2 ≤ c1 := by
  unfold pairE at h
  rw [Enc.lt_tup2, Enc.lt_int] at h
  simp only [Bool.or_eq_false_iff, decide_eq_false_iff_not] at h
  omega
theorem up_eq (b : Best cs cap f (List.range cs.length) [] p) {lo hi : Nat} (hlo : lo ∈ flo f cs) (hhi : hi ∈ flo f cs) (h1 : ∀ x ∈ flo f cs, lo ≤ x) (h2 : ∀ x ∈ flo f cs, x ≤ hi) (hn : cs.length ≤ cap) (hup : ∀ q ∈ cs, q.1 < q.2 ∧ f ≤ q.1) : p.1 = (hi : Int) - f := by
  have hf : f ∈ flo f cs := by simp [flo]
  have hk : ∀ k ∈ List.range cs.length, ((f : Int) ≤ (stF cs k : Nat) ∧ stF cs k < glF cs k) ∧ (glF cs k : Int) ≤ hi := fun k hk => by
    have hk' := List.mem_range.mp hk
    have hq := hup _ (List.getElem_mem hk')
    have e1 : stF cs k = cs[k].1 := by simp [stF, List.getElem?_eq_getElem hk']
    have e2 : glF cs k = cs[k].2 := by simp [glF, List.getElem?_eq_getElem hk']
    have hm : glF cs k ∈ flo f cs := by
      unfold flo
      refine List.mem_append_right _ (List.mem_map.mpr ⟨cs[k], List.getElem_mem hk', e2.symm⟩)
    have := h2 _ hm
    rw [e1, e2] at *
    refine ⟨⟨by omega, hq.1⟩, by omega⟩
  obtain ⟨r, o, hr⟩ := up_run (cs := cs) (cap := cap) (mea (List.range cs.length) [] + 1) (List.range cs.length) [] f (by omega) (by simp; omega) (fun k h => (hk k h).1) (fun k h => by cases h)
  have h3 := hr (hi : Nat) (by have := h2 f hf; omega) (fun k h => (hk k h).2) (fun k h => by cases h)
  have h4 := lt_pair_fst (r2 := p.2) (b.least r o)
  have h5 := low_le b hlo hhi h1 h2
  have hlf : lo = f := by
    have hle := h1 f hf
    unfold flo at hlo
    rcases List.mem_append.mp hlo with h | h
    · rcases List.mem_append.mp h with h | h
      · exact List.mem_singleton.mp h
      · obtain ⟨q, hq, rfl⟩ := List.mem_map.mp h
        have := hup q hq
        omega
    · obtain ⟨q, hq, rfl⟩ := List.mem_map.mp h
      have := hup q hq
      omega
  have := h2 f hf
  omega
end
end Lk53
end
section
namespace Lk53
open K53
noncomputable def tailB : EvS := (seqS (setS 6 (pureV (callE 3 (F__law_runs 9) (consSlotA 2 (consA (rg1E .list (un1 lenD (slotE 5))) (consA (lstE nilA) nilA)))))) 
    (seqS (setS 7 (pureV (un1 minDD (lstOf (compC (seqI (froR (slotE 6))) [13] (nameG 13) yesT (tupE (consA (callE 2 F__law_travel (consSlotA 2 (consSlotA 13 nilA))) (consA (slotE 13) nilA)))))))) 
    (seqS (setS 8 (pureV (callE 1 F_least_run (consSlotA 2 nilA)))) 
    (seqS (ifS (orT (cmpT neD (slotE 8) (bin2 itemD (slotE 7) (constE (.int 1)))) (orT (notT (valT (isiE .tuple (slotE 8)))) (orT (cmpT neD (callE 1 F_least_travel (consSlotA 2 nilA)) (bin2 itemD (slotE 7) (constE (.int 0)))) (notT (valT (callE 1 F__law_int (consA (callE 1 F_least_travel (consSlotA 2 nilA)) nilA))))))) (retS (pureV (constE (.bool false)))) nilS) 
    (seqS (setS 9 (pureV (bin2 addD (bin2 addD (lstE (consA (slotE 3) nilA)) (lstOf (compC (seqI (froR (slotE 5))) [17] (nameG 17) yesT (bin2 itemD (slotE 17) (constE (.int 0)))))) (lstOf (compC (seqI (froR (slotE 5))) [17] (nameG 17) yesT (bin2 itemD (slotE 17) (constE (.int 1)))))))) 
    (seqS (parS 10 11 (consV (pureV (un1 minDD (slotE 9))) (consV (pureV (un1 maxDD (slotE 9))) nilA))) 
    (seqS (ifS (cmpT ltD (bin2 itemD (slotE 7) (constE (.int 0))) (bin2 addD (bin2 subD (slotE 11) (slotE 10)) (bin2 min2D (bin2 subD (slotE 11) (slotE 3)) (bin2 subD (slotE 3) (slotE 10))))) (retS (pureV (constE (.bool false)))) nilS) 
    (seqS (ifS (andT (cmpT eqD (lstOf (compC (seqI (froR (slotE 5))) [17] (nameG 17) (orT (cmpT geD (bin2 itemD (slotE 17) (constE (.int 0))) (bin2 itemD (slotE 17) (constE (.int 1)))) (cmpT ltD (bin2 itemD (slotE 17) (constE (.int 0))) (slotE 3))) (slotE 17))) (lstE nilA)) (andT (cmpT leD (un1 lenD (slotE 5)) (slotE 4)) (cmpT neD (bin2 itemD (slotE 7) (constE (.int 0))) (bin2 subD (slotE 11) (slotE 3))))) (retS (pureV (constE (.bool false)))) nilS) 
    (seqS (forS (range1I (constE (.int 6))) (nameG 12) turnB [12, 13, 14, 15, 16]) 
    (retS (pureV (constE (.bool true)))))))))))))
theorem c_0 (q : Nat × Nat) : itemD (callD q) (.int 0) = some (natD q.1) := itemD_tuple (i := 0)
theorem c_1 (q : Nat × Nat) : itemD (callD q) (.int 1) = some (natD q.2) := itemD_tuple (i := 1)
theorem adL (a b : List PyData) (h : a.length + b.length ≤ 1000) : addD (.list a) (.list b) = some (.list (a ++ b)) := by
  simp only [addD]
  rw [if_pos (by omega)]
theorem tail_ok (ns : List PyData) (f cap : Nat) (cs : List (Nat × Nat)) (hcap : 1 ≤ cap) (hn : cs.length ≤ 4) (t l : Nat) (cells : List Nat) (hc : cells ≠ []) :
    OkS (tailB 0 ⟨[some (.scr ns), some (.obj 0), some (.pure (liftD f cap cs)), some (.pure (.int f)), some (.pure (.int cap)), some (.pure (.tuple (cs.map callD))), none, none, none, none, none, none, none, none, none, none, none, none], [.lst (drD t l cells)]⟩) fun fl s' => endF 0 (.ok (fl, s')) = .ok (.bool true, []) := by
  rw [tailB]
  have hmea : mea (List.range cs.length) [] ≤ 8 := by simp [mea]; omega
  have hlc : lenD (.tuple (cs.map callD)) = some (.int (cs.length : Nat)) := len_cs cs
  have hok : ∀ r ∈ runsL cap 9 (List.range cs.length) [], okR cap (List.range cs.length) [] r = true := fun r hr => (mem_runsL (by omega)).mp hr
  have hlt : ∀ r ∈ runsL cap 9 (List.range cs.length) [], ∀ d ∈ r, d.2 < cs.length := fun r hr => okR_lt r (fun k hk => List.mem_range.mp hk) (fun k hk => by cases hk) (hok r hr)
  have hlen : (runsL cap 9 (List.range cs.length) []).length ≤ 40320 := by
    have h1 := runsL_len (cap := cap) 9 (List.range cs.length) []
    have h2 : fct (mea (List.range cs.length) []) ≤ fct 8 := fct_mono hmea
    have h3 : fct 8 = 40320 := by decide
    omega
  have cR := call3 (env := [some (.scr ns), some (.obj 0), some (.pure (liftD f cap cs)), some (.pure (.int f)), some (.pure (.int cap)), some (.pure (.tuple (cs.map callD))), none, none, none, none, none, none, none, none, none, none, none, none]) (st := [.lst (drD t l cells)]) (F_runs_eq f cap cs 9 (List.range cs.length) [] (by omega) hmea)
  refine okS_seq (s_set (e_pure (e_call (a_slot rfl (a_cons (e_rg1 (e_un (e_slot rfl) hlc) (by omega)) (a_cons (e_lstE a_nil p_nil (by simp)) a_nil))) cR)) rfl (s_next ?_))
  obtain ⟨p, hp, hB⟩ := F_least_run_eq f cap cs hcap hn
  have hpm : p.2 ∈ runsL cap 9 (List.range cs.length) [] := (mem_runsL (by omega)).mpr hB.ok
  have cT := c_all (env := [some (.scr ns), some (.obj 0), some (.pure (liftD f cap cs)), some (.pure (.int f)), some (.pure (.int cap)), some (.pure (.tuple (cs.map callD))), some (.pure (.list ((runsL cap 9 (List.range cs.length) []).map rowE.f))), none, none, none, none, none, none, none, none, none, none, none]) (st := [.lst (drD t l cells)]) (st1 := [.lst (drD t l cells)]) (fi := seqI (froR (slotE 6))) (vs := [13]) (gt := nameG 13) (ft := yesT) (fe := tupE (consA (callE 2 F__law_travel (consSlotA 2 (consSlotA 13 nilA))) (consA (slotE 13) nilA)))
    (runsL cap 9 (List.range cs.length) []) rowE.f (fun r => [some (.scr ns), some (.obj 0), some (.pure (liftD f cap cs)), some (.pure (.int f)), some (.pure (.int cap)), some (.pure (.tuple (cs.map callD))), some (.pure (.list ((runsL cap 9 (List.range cs.length) []).map rowE.f))), none, none, none, none, none, none, some (.pure (rowE.f r)), none, none, none, none]) (fun r => PyData.tuple [.int (trv cs f r), rowE.f r]) (w_seqL (e_slot rfl)) (by omega) fun r hr => ⟨g_name rfl, t_yes, e_tup (a_cons (e_call (a_slot rfl (a_slot rfl a_nil)) (C_ltravel f cap cs r (hlt r hr))) (a_cons (e_slot rfl) a_nil)) (p_cons (p_cons p_nil)) (by simp)⟩
  have eT : ((runsL cap 9 (List.range cs.length) []).map fun r => PyData.tuple [.int (trv cs f r), rowE.f r]) = ((runsL cap 9 (List.range cs.length) []).map fun r => (trv cs f r, r)).map pairE.f := by rw [List.map_map]; rfl
  rw [eT] at cT
  obtain ⟨m, m1, m2, m3⟩ := pairE.minL (by decide) (xs := (runsL cap 9 (List.range cs.length) []).map fun r => (trv cs f r, r)) (by
    intro z
    rw [List.map_eq_nil_iff] at z
    rw [z] at hpm
    cases hpm)
  have hm : Best cs cap f (List.range cs.length) [] m := by
    obtain ⟨r, hr, rfl⟩ := List.mem_map.mp m2
    exact ⟨hok r hr, rfl, fun r' o => m3 _ (List.mem_map.mpr ⟨r', (mem_runsL (by omega)).mpr o, rfl⟩)⟩
  have epm : p = m := hB.uniq hm
  subst epm
  clear m2 m3
  have m1' : minDD (.list (((runsL cap 9 (List.range cs.length) []).map fun r => (trv cs f r, r)).map pairE.f)) = some (.tuple [.int p.1, rowE.f p.2]) := m1
  refine okS_seq (s_set (e_pure (e_un (e_lst cT) m1')) rfl (s_next ?_))
  refine okS_seq (s_set (e_pure (e_call (a_slot rfl a_nil) (call1 hp))) rfl (s_next ?_))
  have b0 : itemD (.tuple [.int p.1, rowE.f p.2]) (.int 0) = some (.int p.1) := itemD_tuple (i := 0)
  have b1 : itemD (.tuple [.int p.1, rowE.f p.2]) (.int 1) = some (rowE.f p.2) := itemD_tuple (i := 1)
  have n1 : neD (rowE.f p.2) (rowE.f p.2) = some (.bool false) := by rw [rowE.neD_e (by decide), decide_eq_true rfl]; rfl
  have n2 : neD (.int p.1) (.int p.1) = some (.bool false) := by rw [neD_int, decide_eq_true rfl]; rfl
  have cL := F_least_travel_eq f cap cs hcap hn hm
  refine okS_seq (s_ifF (t_orF (t_cmp (e_slot rfl) (e_bin (e_slot rfl) e_const b1) n1) rfl (t_orF (t_not (t_val (e_isi (e_slot rfl) rfl))) rfl (t_orF (t_cmp (e_call (a_slot rfl a_nil) (call1 cL)) (e_bin (e_slot rfl) e_const b0) n2) rfl (t_not (t_val (e_call (a_cons (e_call (a_slot rfl a_nil) (call1 cL)) a_nil) (C_lint _))))))) (s_nil (s_next ?_)))
  have e9 : flo f cs = [f] ++ cs.map (fun q => q.1) ++ cs.map (fun q => q.2) := rfl
  have k9 : PyData.list ([.int (f : Nat)] ++ cs.map (fun q => PyData.int (q.1 : Nat)) ++ cs.map (fun q => PyData.int (q.2 : Nat))) = .list ((flo f cs).map Enc.nat.f) := by
    rw [e9, List.map_append, List.map_append, List.map_map, List.map_map]; rfl
  have comp0 : ∀ (g : Nat × Nat → Nat) (i : Int), (∀ q, itemD (callD q) (.int i) = some (.int (g q : Nat))) → compC (seqI (froR (slotE 5))) [17] (nameG 17) yesT (bin2 itemD (slotE 17) (constE (.int i))) ⟨[some (.scr ns), some (.obj 0), some (.pure (liftD f cap cs)), some (.pure (.int f)), some (.pure (.int cap)), some (.pure (.tuple (cs.map callD))), some (.pure (.list ((runsL cap 9 (List.range cs.length) []).map rowE.f))), some (.pure (.tuple [.int p.1, rowE.f p.2])), some (.pure (rowE.f p.2)), none, none, none, none, none, none, none, none, none], [.lst (drD t l cells)]⟩ = .ok (cs.map fun q => PyData.int (g q : Nat), [.lst (drD t l cells)]) := fun g i hg =>
    c_all cs callD (fun q => [some (.scr ns), some (.obj 0), some (.pure (liftD f cap cs)), some (.pure (.int f)), some (.pure (.int cap)), some (.pure (.tuple (cs.map callD))), some (.pure (.list ((runsL cap 9 (List.range cs.length) []).map rowE.f))), some (.pure (.tuple [.int p.1, rowE.f p.2])), some (.pure (rowE.f p.2)), none, none, none, none, none, none, none, none, some (.pure (callD q))]) (fun q => PyData.int (g q : Nat)) (w_seqT (e_slot rfl)) (by omega) fun q _ => ⟨g_name rfl, t_yes, e_bin (e_slot rfl) e_const (hg q)⟩
  have a1 : addD (.list [.int (f : Nat)]) (.list (cs.map fun q => PyData.int (q.1 : Nat))) = some (.list ([.int (f : Nat)] ++ cs.map fun q => PyData.int (q.1 : Nat))) := adL _ _ (by simp; omega)
  have a2 : addD (.list ([.int (f : Nat)] ++ cs.map fun q => PyData.int (q.1 : Nat))) (.list (cs.map fun q => PyData.int (q.2 : Nat))) = some (.list ((flo f cs).map Enc.nat.f)) := by
    rw [← k9]; exact adL _ _ (by simp; omega)
  refine okS_seq (s_set (e_pure (e_bin (e_bin (e_lstE (a_cons (e_slot rfl) a_nil) (p_cons p_nil) (by simp)) (e_lst (comp0 (fun q => q.1) 0 c_0)) a1) (e_lst (comp0 (fun q => q.2) 1 c_1)) a2)) rfl (s_next ?_))
  have hne : flo f cs ≠ [] := by simp [flo]
  obtain ⟨lo, lo1, lo2, lo3⟩ := Enc.nat.minL (by decide) hne
  obtain ⟨hi, hi1, hi2, hi3⟩ := Enc.nat.maxL (by decide) hne
  have lo4 : ∀ x ∈ flo f cs, lo ≤ x := fun x hx => by have := lo3 x hx; rw [Enc.lt_nat] at this; simpa using this
  have hi4 : ∀ x ∈ flo f cs, x ≤ hi := fun x hx => by have := hi3 x hx; rw [Enc.lt_nat] at this; simpa using this
  have hfm : f ∈ flo f cs := by simp [flo]
  have lof := lo4 f hfm
  have hif := hi4 f hfm
  have lo1' : minDD (.list ((flo f cs).map Enc.nat.f)) = some (.int (lo : Nat)) := lo1
  have hi1' : maxDD (.list ((flo f cs).map Enc.nat.f)) = some (.int (hi : Nat)) := hi1
  refine okS_seq (s_par (a_consV (e_pure (e_un (e_slot rfl) lo1')) (a_consV (e_pure (e_un (e_slot rfl) hi1')) a_nil)) rfl rfl (s_next ?_))
  have mn : min2D (.int ((hi : Int) - f)) (.int ((f : Int) - lo)) = some (.int (min ((hi : Int) - f) ((f : Int) - lo))) := by
    show some (PyData.int _) = _
    congr 2
    split <;> omega
  have hlow := low_le hm lo2 hi2 lo4 hi4
  have hup := fun a b => up_eq hm lo2 hi2 lo4 hi4 a b
  refine okS_seq (s_ifF (t_cmp (e_bin (e_slot rfl) e_const b0) (e_bin (e_bin (e_slot rfl) (e_slot rfl) (subD_int _ _)) (e_bin (e_bin (e_slot rfl) (e_slot rfl) (subD_int _ _)) (e_bin (e_slot rfl) (e_slot rfl) (subD_int _ _)) mn) (addD_int _ _)) (by rw [ltD_int, decide_eq_false (by omega)])) (s_nil (s_next ?_)))
  have cU := c_pure (env := [some (.scr ns), some (.obj 0), some (.pure (liftD f cap cs)), some (.pure (.int f)), some (.pure (.int cap)), some (.pure (.tuple (cs.map callD))), some (.pure (.list ((runsL cap 9 (List.range cs.length) []).map rowE.f))), some (.pure (.tuple [.int p.1, rowE.f p.2])), some (.pure (rowE.f p.2)), some (.pure (.list ((flo f cs).map Enc.nat.f))), some (.pure (.int (lo : Nat))), some (.pure (.int (hi : Nat))), none, none, none, none, none, none]) (st := [.lst (drD t l cells)]) (st1 := [.lst (drD t l cells)]) (fi := seqI (froR (slotE 5))) (vs := [17]) (gt := nameG 17) (ft := orT (cmpT geD (bin2 itemD (slotE 17) (constE (.int 0))) (bin2 itemD (slotE 17) (constE (.int 1)))) (cmpT ltD (bin2 itemD (slotE 17) (constE (.int 0))) (slotE 3))) (fe := slotE 17)
    cs callD (fun q => [some (.scr ns), some (.obj 0), some (.pure (liftD f cap cs)), some (.pure (.int f)), some (.pure (.int cap)), some (.pure (.tuple (cs.map callD))), some (.pure (.list ((runsL cap 9 (List.range cs.length) []).map rowE.f))), some (.pure (.tuple [.int p.1, rowE.f p.2])), some (.pure (rowE.f p.2)), some (.pure (.list ((flo f cs).map Enc.nat.f))), some (.pure (.int (lo : Nat))), some (.pure (.int (hi : Nat))), none, none, none, none, none, some (.pure (callD q))]) (fun q => decide (q.2 ≤ q.1) || decide (q.1 < f)) callD (w_seqT (e_slot rfl)) (by omega) fun q _ => ⟨g_name rfl, t_or (t_cmp (e_bin (e_slot rfl) e_const (c_0 q)) (e_bin (e_slot rfl) e_const (c_1 q)) (geD_nat _ _)) (fun _ => t_cmp (e_bin (e_slot rfl) e_const (c_0 q)) (e_slot rfl) (ltD_nat _ _)), fun _ => e_slot rfl⟩
  refine okS_seq (s_if (t_and (t_cmp (e_lst cU) (e_lstE a_nil p_nil (by simp)) (eqD_list0 _)) (fun _ => t_and (t_cmp (e_un (e_slot rfl) hlc) (e_slot rfl) (leD_nat _ _)) (fun _ => t_cmp (e_bin (e_slot rfl) e_const b0) (e_bin (e_slot rfl) (e_slot rfl) (subD_int _ _)) (neD_int _ _)))) (fun hk => ?_) (fun _ => s_nil (s_next ?_)))
  · exfalso
    simp only [Bool.and_eq_true, List.isEmpty_iff, List.map_eq_nil_iff, List.filter_eq_nil_iff, Bool.or_eq_true, decide_eq_true_eq, not_or, Nat.not_le, Nat.not_lt, Bool.not_eq_true', decide_eq_false_iff_not] at hk
    exact hk.2.2 (hup hk.2.1 fun q hq => hk.1 q hq)
  · have hE : runsL cap 9 (List.range cs.length) [] ≠ [] := fun z => by rw [z] at hpm; cases hpm
    refine okS_seq (s_for (List.range 6) (fun i => PyData.int (i : Nat)) (fun k s => ∃ (t l : Nat) (o12 : Option SV), keepSV 1 o12 = o12 ∧ s = ⟨[some (.scr ns), some (.obj 0), some (.pure (liftD f cap cs)), some (.pure (.int f)), some (.pure (.int cap)), some (.pure (.tuple (cs.map callD))), some (.pure (.list ((runsL cap 9 (List.range cs.length) []).map rowE.f))), some (.pure (.tuple [.int p.1, rowE.f p.2])), some (.pure (rowE.f p.2)), some (.pure (.list ((flo f cs).map Enc.nat.f))), some (.pure (.int (lo : Nat))), some (.pure (.int (hi : Nat))), o12, none, none, none, none, none], [.lst (drD t l cells)]⟩) (w_range1 e_const (by omega)) ⟨t, l, none, rfl, rfl⟩ ?_ ?_)
    · rintro k hk s ⟨t, l, o12, h12, rfl⟩
      refine ⟨_, g_name rfl, ?_⟩
      refine (turn_ok f cap cs hn _ hE (by omega) hok t l cells hc ns _ _ _ _ _ _ _ _ (some (.pure (.int (((List.range 6)[k] : Nat) : Int)))) rfl).mono ?_
      rintro fl s' ⟨rfl, t', l', a, b, c, d, rfl⟩
      exact ⟨t', l', none, rfl, rfl⟩
    · rintro s ⟨t, l, o12, h12, rfl⟩
      exact s_next (s_ret (e_pure e_const) rfl)
end Lk53
end
section
namespace Lk53
open K53
theorem callScr1 {F : FSem} {ds : List PyData} {env : List (Option SV)} {d : PyData} (hF : F [.scr ds] [] = .ok (d, [])) : callS 1 F [.scr ds] ⟨env, []⟩ = .ok (d, []) := by
  unfold callS
  rw [if_pos ⟨rfl, by simp [idsOf]⟩]
  simp only [idsOf, gather, List.map_cons, List.map_nil, renum, hF]
  rfl
theorem law_true (ns : List Int) (hl : ns.length ≤ 63) (hb : ∀ z ∈ ns, PySem.Builtin.Int.intBits z ≤ 1048576) : F_law [.scr (ns.map .int)] [] = .ok (.bool true, []) := by
  rw [F_law]
  refine f_run ?_
  show OkS (b_law 0 ⟨[some (.scr (ns.map .int)), none, none, none, none, none, none, none, none, none, none, none, none, none, none, none, none, none], []⟩) _
  rw [b_law]
  refine okS_seq (s_set (e_own (e_callC (a_slot rfl a_nil) (callScr1 (F_open_eq ns))) rfl rfl) rfl (s_next ?_))
  have hc : (ns.take 63).map Int.natAbs ++ [0] ≠ [] := by simp
  generalize (ns.take 63).map Int.natAbs ++ [0] = cells at hc ⊢
  obtain ⟨f, cap, cs, t, l, hf, h1, h3, hn, hg, hF⟩ := F_lift_ex 0 0 cells hc
  refine okS_seq (s_set (e_pure (e_call (a_slot rfl a_nil) (callO1 (st' := []) rfl hF))) rfl (s_next ?_))
  have hL := F_lifts_eq hf h1 h3 (by omega) hg
  refine okS_seq (s_ifF (t_not (t_val (e_call (a_slot rfl a_nil) (call1 hL)))) (s_nil (s_next ?_)))
  refine okS_seq (s_asg (e_slot rfl) (g_tup rfl (g_cons (g_name rfl) (g_cons (g_name rfl) (g_cons (g_name rfl) g_nil)))) (s_next ?_))
  have hlc : lenD (.tuple (cs.map callD)) = some (.int (cs.length : Nat)) := len_cs cs
  have hs3 : sliceD (.tuple (cs.map callD)) none (some ((3 : Nat) : Int)) = some (.tuple ((cs.take 3).map callD)) := slice_to_t callD cs 3
  refine okS_seq (s_if (t_and (t_cmp (e_un (e_slot rfl) hlc) e_const (eqD_nat cs.length 4)) (fun _ => t_cmp (e_slot rfl) e_const (gtD_nat cap 1))) (fun hk => ?_) (fun hk => ?_))
  · refine okS_seq (s_set (e_pure (e_slice (e_slot rfl) o_none' (o_some' e_const) hs3)) rfl (s_next ?_))
    refine s_set (e_pure (e_tup (a_cons (e_slot rfl) (a_cons (e_slot rfl) (a_cons (e_slot rfl) a_nil))) (p_cons (p_cons (p_cons p_nil))) (by simp))) rfl ?_
    exact s_next (tail_ok (ns.map .int) f cap (cs.take 3) h1 (by rw [List.length_take]; omega) t l cells hc)
  · exact s_nil (s_next (tail_ok (ns.map .int) f cap cs h1 hn t l cells hc))
end Lk53
theorem K53.law_true (ns : List Int) (hl : ns.length ≤ 63) (hb : ∀ z ∈ ns, PySem.Builtin.Int.intBits z ≤ 1048576) : K53.F_law [.scr (ns.map .int)] [] = .ok (.bool true, []) := Lk53.law_true ns hl hb
end
end
section
set_option Elab.async false
set_option linter.all false
set_option maxRecDepth 100000
set_option maxHeartbeats 0
/-! printed by gen.py: the head, the law. -/
namespace K53
open PySem PySem.Spec PyProof.Rows L2 DL
def dfs : List He.DefD := [⟨("is_number", none), "is_number", "is_number", defArgs (top 1), defBody (top 1), defScope (top 1), [], []⟩,
  ⟨("is_call", none), "is_call", "is_call", defArgs (top 6), defBody (top 6), defScope (top 6), [], []⟩,
  ⟨("is_lift", none), "is_lift", "is_lift", defArgs (top 7), defBody (top 7), defScope (top 7), [], []⟩,
  ⟨("is_deed", none), "is_deed", "is_deed", defArgs (top 8), defBody (top 8), defScope (top 8), [], []⟩,
  ⟨("is_run", none), "is_run", "is_run", defArgs (top 9), defBody (top 9), defScope (top 9), [], []⟩,
  ⟨("floor_of", none), "floor_of", "floor_of", defArgs (top 10), defBody (top 10), defScope (top 10), [], []⟩,
  ⟨("travel", none), "travel", "travel", defArgs (top 11), defBody (top 11), defScope (top 11), [], []⟩,
  ⟨("least_behind", none), "least_behind", "least_behind", defArgs (top 12), defBody (top 12), defScope (top 12), [], []⟩,
  ⟨("least_run", none), "least_run", "least_run", defArgs (top 13), defBody (top 13), defScope (top 13), [], []⟩,
  ⟨("least_travel", none), "least_travel", "least_travel", defArgs (top 14), defBody (top 14), defScope (top 14), [], []⟩,
  ⟨("_law_open", none), "_law_open", "_law_open", defArgs (top 16), defBody (top 16), defScope (top 16), [], []⟩,
  ⟨("_law_mixed", none), "_law_mixed", "_law_mixed", defArgs (top 17), defBody (top 17), defScope (top 17), [], []⟩,
  ⟨("_law_draw", none), "_law_draw", "_law_draw", defArgs (top 18), defBody (top 18), defScope (top 18), [], []⟩,
  ⟨("_law_int", none), "_law_int", "_law_int", defArgs (top 19), defBody (top 19), defScope (top 19), [], []⟩,
  ⟨("_law_same", none), "_law_same", "_law_same", defArgs (top 20), defBody (top 20), defScope (top 20), [], []⟩,
  ⟨("_law_lift", none), "_law_lift", "_law_lift", defArgs (top 21), defBody (top 21), defScope (top 21), [], []⟩,
  ⟨("_law_runs", none), "_law_runs", "_law_runs", defArgs (top 22), defBody (top 22), defScope (top 22), [], []⟩,
  ⟨("_law_travel", none), "_law_travel", "_law_travel", defArgs (top 23), defBody (top 23), defScope (top 23), [], []⟩,
  ⟨("_law_is_run", none), "_law_is_run", "_law_is_run", defArgs (top 24), defBody (top 24), defScope (top 24), [], []⟩,
  ⟨("_law_lifts", none), "_law_lifts", "_law_lifts", defArgs (top 25), defBody (top 25), defScope (top 25), [], []⟩,
  ⟨("law", none), "law", "law", defArgs (top 26), defBody (top 26), defScope (top 26), [], []⟩]
def fas : List He.Fa := [.glo "is_number", .glo "is_call", .glo "is_lift", .glo "is_deed", .glo "is_run", .glo "floor_of", .glo "travel", .glo "least_behind", .glo "least_run", .glo "least_travel", .glo "_law_open", .glo "_law_mixed", .glo "_law_draw", .glo "_law_int", .glo "_law_same", .glo "_law_lift", .glo "_law_runs", .glo "_law_travel", .glo "_law_is_run", .glo "_law_lifts", .glo "law", .free "abs", .free "all", .free "bool", .free "int", .free "isinstance", .free "len", .free "list", .free "max", .free "min", .free "range", .free "sorted", .free "str", .free "tuple"]
def tfs : List He.Defn := [("is_call", none), ("is_lift", none), ("is_run", none)]
def exs (K : PySem.W.Frag) : Bool := conB K "MOST_CALLS" k_MOST_CALLS && (conB K "MOST_FLOOR" k_MOST_FLOOR && (conB K "MOST_ROOM" k_MOST_ROOM && (true)))
abbrev R : PySem.W.OpenRow := PySem.W.OpenLaw.row PySem.Challenge.rw_plantkept_k53_whole_least_travels_of_lif
abbrev hk : PySem.W.Hook := He.hookX 5 fas dfs [] tfs exs
def ob (s : PySem.W.SharedT) : He.AlX := He.obsX 5 fas dfs [] tfs exs (HandSHeadRun.getT s)
theorem ob_eq (s : PySem.W.SharedT) : ob s = hk.obs s.abs := He.obsX_eq (HandSHeadRun.getT_eq s)
def nm0 : List PySem.Str := ["is_number", "MOST_FLOOR", "MOST_ROOM", "MOST_CALLS", "is_call", "is_lift", "is_deed", "is_run", "floor_of", "travel", "least_behind", "least_run", "least_travel", "_law_open", "_law_mixed", "_law_draw", "_law_int", "_law_same", "_law_lift", "_law_runs", "_law_travel", "_law_is_run", "_law_lifts"]
def nms : List PySem.Str := nm0
theorem run (w : World) : HandSHeadRun.RunEq R (PySem.W.view R.prog [26]) hk ob 2000 nms w := by
  intro os
  kernel_rfl
abbrev cfg (w : World) (K : PySem.W.Frag) : Cfg := ⟨tfs.map fun p => (He.cT K p).2, [], fun _ => .none, DK.hashD w⟩
theorem facts {h base : Heap} {mg : Str → Option Value} {w : World} {K : PySem.W.Frag} (X : K.In h) (G : h.Ns mainGlobals mg) (S : He.SaysX fas dfs [] tfs exs w h K) (tb : ∀ p ∈ tfs, GxR.TabB base mg (He.cT K p).1 (He.cT K p).2) : Facts w K mg base (cfg w K) := by
  have c : He.SaysD fas dfs K := congrArg (fun z : He.AlT => z.1) S.t
  have em := S.more
  unfold exs at em
  simp only [Bool.and_eq_true] at em
  have g0 := He.glo_ok X G (c.fact 0 (f := .glo "is_number") rfl)
  have g1 := He.glo_ok X G (c.fact 1 (f := .glo "is_call") rfl)
  have g2 := He.glo_ok X G (c.fact 2 (f := .glo "is_lift") rfl)
  have g3 := He.glo_ok X G (c.fact 3 (f := .glo "is_deed") rfl)
  have g4 := He.glo_ok X G (c.fact 4 (f := .glo "is_run") rfl)
  have g5 := He.glo_ok X G (c.fact 5 (f := .glo "floor_of") rfl)
  have g6 := He.glo_ok X G (c.fact 6 (f := .glo "travel") rfl)
  have g7 := He.glo_ok X G (c.fact 7 (f := .glo "least_behind") rfl)
  have g8 := He.glo_ok X G (c.fact 8 (f := .glo "least_run") rfl)
  have g9 := He.glo_ok X G (c.fact 9 (f := .glo "least_travel") rfl)
  have g10 := He.glo_ok X G (c.fact 10 (f := .glo "_law_open") rfl)
  have g11 := He.glo_ok X G (c.fact 11 (f := .glo "_law_mixed") rfl)
  have g12 := He.glo_ok X G (c.fact 12 (f := .glo "_law_draw") rfl)
  have g13 := He.glo_ok X G (c.fact 13 (f := .glo "_law_int") rfl)
  have g14 := He.glo_ok X G (c.fact 14 (f := .glo "_law_same") rfl)
  have g15 := He.glo_ok X G (c.fact 15 (f := .glo "_law_lift") rfl)
  have g16 := He.glo_ok X G (c.fact 16 (f := .glo "_law_runs") rfl)
  have g17 := He.glo_ok X G (c.fact 17 (f := .glo "_law_travel") rfl)
  have g18 := He.glo_ok X G (c.fact 18 (f := .glo "_law_is_run") rfl)
  have g19 := He.glo_ok X G (c.fact 19 (f := .glo "_law_lifts") rfl)
  have g20 := He.glo_ok X G (c.fact 20 (f := .glo "law") rfl)
  obtain ⟨fd0, F0⟩ := c.def_ 0 rfl
  obtain ⟨fd1, F1⟩ := c.def_ 1 rfl
  obtain ⟨fd2, F2⟩ := c.def_ 2 rfl
  obtain ⟨fd3, F3⟩ := c.def_ 3 rfl
  obtain ⟨fd4, F4⟩ := c.def_ 4 rfl
  obtain ⟨fd5, F5⟩ := c.def_ 5 rfl
  obtain ⟨fd6, F6⟩ := c.def_ 6 rfl
  obtain ⟨fd7, F7⟩ := c.def_ 7 rfl
  obtain ⟨fd8, F8⟩ := c.def_ 8 rfl
  obtain ⟨fd9, F9⟩ := c.def_ 9 rfl
  obtain ⟨fd10, F10⟩ := c.def_ 10 rfl
  obtain ⟨fd11, F11⟩ := c.def_ 11 rfl
  obtain ⟨fd12, F12⟩ := c.def_ 12 rfl
  obtain ⟨fd13, F13⟩ := c.def_ 13 rfl
  obtain ⟨fd14, F14⟩ := c.def_ 14 rfl
  obtain ⟨fd15, F15⟩ := c.def_ 15 rfl
  obtain ⟨fd16, F16⟩ := c.def_ 16 rfl
  obtain ⟨fd17, F17⟩ := c.def_ 17 rfl
  obtain ⟨fd18, F18⟩ := c.def_ 18 rfl
  obtain ⟨fd19, F19⟩ := c.def_ 19 rfl
  obtain ⟨fd20, F20⟩ := c.def_ 20 rfl
  exact {
    hsh := rfl
    b_abs := He.free_ok X G (c.fact 21 (f := .free "abs") rfl)
    b_all := He.free_ok X G (c.fact 22 (f := .free "all") rfl)
    b_bool := He.free_ok X G (c.fact 23 (f := .free "bool") rfl)
    b_int := He.free_ok X G (c.fact 24 (f := .free "int") rfl)
    b_isinstance := He.free_ok X G (c.fact 25 (f := .free "isinstance") rfl)
    b_len := He.free_ok X G (c.fact 26 (f := .free "len") rfl)
    b_list := He.free_ok X G (c.fact 27 (f := .free "list") rfl)
    b_max := He.free_ok X G (c.fact 28 (f := .free "max") rfl)
    b_min := He.free_ok X G (c.fact 29 (f := .free "min") rfl)
    b_range := He.free_ok X G (c.fact 30 (f := .free "range") rfl)
    b_sorted := He.free_ok X G (c.fact 31 (f := .free "sorted") rfl)
    b_str := He.free_ok X G (c.fact 32 (f := .free "str") rfl)
    b_tuple := He.free_ok X G (c.fact 33 (f := .free "tuple") rfl)
    c_MOST_CALLS := con_ok X G em.1
    c_MOST_FLOOR := con_ok X G em.2.1
    c_MOST_ROOM := con_ok X G em.2.2.1
    d_is_number := def_of F0 g0 (fun _ _ _ _ _ _ us hl => match us, hl with | [_, _, _], _ => rfl)
    d_is_call := def_ofG (p := ("is_call", none)) F1 g1 (fun _ _ _ _ _ _ us hl => match us, hl with | [_], _ => rfl) (tb ("is_call", none) (by decide)) (List.mem_map.mpr ⟨("is_call", none), by decide, rfl⟩)
    d_is_lift := def_ofG (p := ("is_lift", none)) F2 g2 (fun _ _ _ _ _ _ us hl => match us, hl with | [_], _ => rfl) (tb ("is_lift", none) (by decide)) (List.mem_map.mpr ⟨("is_lift", none), by decide, rfl⟩)
    d_is_deed := def_of F3 g3 (fun _ _ _ _ _ _ us hl => match us, hl with | [_, _], _ => rfl)
    d_is_run := def_ofG (p := ("is_run", none)) F4 g4 (fun _ _ _ _ _ _ us hl => match us, hl with | [_, _], _ => rfl) (tb ("is_run", none) (by decide)) (List.mem_map.mpr ⟨("is_run", none), by decide, rfl⟩)
    d_floor_of := def_of F5 g5 (fun _ _ _ _ _ _ us hl => match us, hl with | [_, _], _ => rfl)
    d_travel := def_of F6 g6 (fun _ _ _ _ _ _ us hl => match us, hl with | [_, _], _ => rfl)
    d_least_behind := def_of F7 g7 (fun _ _ _ _ _ _ us hl => match us, hl with | [_, _, _, _, _], _ => rfl)
    d_least_run := def_of F8 g8 (fun _ _ _ _ _ _ us hl => match us, hl with | [_], _ => rfl)
    d_least_travel := def_of F9 g9 (fun _ _ _ _ _ _ us hl => match us, hl with | [_], _ => rfl)
    d__law_open := def_of F10 g10 (fun _ _ _ _ _ _ us hl => match us, hl with | [_], _ => rfl)
    d__law_mixed := def_of F11 g11 (fun _ _ _ _ _ _ us hl => match us, hl with | [_, _], _ => rfl)
    d__law_draw := def_of F12 g12 (fun _ _ _ _ _ _ us hl => match us, hl with | [_, _], _ => rfl)
    d__law_int := def_of F13 g13 (fun _ _ _ _ _ _ us hl => match us, hl with | [_], _ => rfl)
    d__law_same := def_of F14 g14 (fun _ _ _ _ _ _ us hl => match us, hl with | [_, _], _ => rfl)
    d__law_lift := def_of F15 g15 (fun _ _ _ _ _ _ us hl => match us, hl with | [_], _ => rfl)
    d__law_runs := def_of F16 g16 (fun _ _ _ _ _ _ us hl => match us, hl with | [_, _, _], _ => rfl)
    d__law_travel := def_of F17 g17 (fun _ _ _ _ _ _ us hl => match us, hl with | [_, _], _ => rfl)
    d__law_is_run := def_of F18 g18 (fun _ _ _ _ _ _ us hl => match us, hl with | [_, _], _ => rfl)
    d__law_lifts := def_of F19 g19 (fun _ _ _ _ _ _ us hl => match us, hl with | [_], _ => rfl)
    d_law := def_of F20 g20 (fun _ _ _ _ _ _ us hl => match us, hl with | [_], _ => rfl) }
theorem law_at {h : Heap} {mg : Str → Option Value} {w : World} {K : PySem.W.Frag} {fa : Addr} (X : K.In h) (G : h.Ns mainGlobals mg) (S : He.SaysX fas dfs [] tfs exs w h K) (hmg : mg "law" = some (.ref fa)) : ∃ fd : FuncData, (∀ (s : Shared) (u : Value), BindsTo s fd ⟨[u], []⟩ [("script", u)]) ∧ L2.Fun K "law" "law" s_law fa fd := by
  have c : He.SaysD fas dfs K := congrArg (fun z : He.AlT => z.1) S.t
  obtain ⟨fd, F⟩ := c.def_ 20 rfl
  have e := hmg.symm.trans (He.glo_ok X G (c.fact 20 (f := .glo "law") rfl))
  cases e
  have b := FunD.bindsA (ps := ["script"]) F fun _ _ _ _ _ _ us hl => match us, hl with | [_], _ => rfl
  exact ⟨fd, fun s v => b s [v] rfl, fun_of F⟩
end K53
open PySem PySem.W PySem.Calls PyProof.Rows
theorem PySem.Challenge.cw_plantkept_k53_whole_least_travels_of_lif_holds : PySem.Challenge.rw_plantkept_k53_whole_least_travels_of_lif.Holds := by
  w_on; o_law
  refine HandSHeadRun.head_any (r := K53.R) (q := view K53.R.prog [26]) (H := K53.hk) (ob := K53.ob) (M := 2000) (loose := K53.nms) (d := HandSHeadRun.topDef K53.R.prog 26) (kwd := []) K53.ob_eq
    (by kernel_rfl) (fun s => by kernel_rfl) K53.run (by kernel_rfl) (by kernel_rfl) (by kernel_rfl) (by rfl) (by first | assumption | decide +kernel) (by decide +kernel) ⟨rfl, rfl, rfl, rfl, rfl, by decide +kernel⟩ ?hw ?hc
  case hw => w_witness2
  case hc =>
    refine LamX.walk_ofTsE (l := PySem.Challenge.rw_plantkept_k53_whole_least_travels_of_lif) (n := 63) (k := 13) (x := "script") (CX := fun w => L2.CX (PySem.Challenge.rw_plantkept_k53_whole_least_travels_of_lif).prog w) rfl (by decide) (by kernel_rfl) ⟨rfl, by decide, by decide⟩ ?F (fun _ _ _ _ _ z => by obtain ⟨_, _, _, _, _, _, _, _, _, _, _, _, q⟩ := z; exact q)
    intro w mg fa h Y G hmg0
    obtain ⟨K, KX, S⟩ := Y
    have hmg : mg ("law" : PySem.Str) = some (.ref fa) := by
      have e : (HandSHeadRun.topDef K53.R.prog 26).name = ("law" : PySem.Str) := by kernel_rfl
      rw [← e]
      exact hmg0
    refine ⟨K, KX, ?_⟩
    obtain ⟨fd, hb, FL⟩ := K53.law_at KX G S hmg
    refine ⟨fd, K53.tfs.map (He.cT K), DL.spD K (K53.cfg w K) K53.ps_law.length K53.F_law, fun p hp => ?_, fun p hp => ?_, fun p hp => ?_, fun s u => hb s u, fun H a ns hl hbits ht hS => ?_, fun base KB GB tb => ?_⟩
    · obtain ⟨q, hq, rfl⟩ := List.mem_map.mp hp
      exact S.empty q hq
    · obtain ⟨q, hq, rfl⟩ := List.mem_map.mp hp
      exact S.out q hq
    · obtain ⟨q, hq, rfl⟩ := List.mem_map.mp hp
      exact PySem.W.codeHd_of_K KX (S.hd q hq)
    · exact DL.law_sp rfl (K53.law_true ns hl hbits) (fun P hP => by
        obtain ⟨q, hq, rfl⟩ := List.mem_map.mp hP
        exact ht (He.cT K q) (List.mem_map.mpr ⟨q, hq, rfl⟩)) rfl hS
    · have C := K53.w_law (P := (PySem.Challenge.rw_plantkept_k53_whole_least_travels_of_lif).prog) (w := w) (K53.facts KX G S fun p hp => have z := tb _ (List.mem_map.mpr ⟨p, hp, rfl⟩); ⟨z.code, z.bm, z.gP⟩) FL
      exact C
end
