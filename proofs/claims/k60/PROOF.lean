import PyProof.Rows.All
import Wide.All
import OpenK.AllK
import Wide.FinOn
import HandS.ForMost
import HandS.ForExc
import HandS.Deep
import HandS.Zip
import HandS.Walk
import HandS.TupAny
import HandS.SortRule
import HandS.Style
import HandS.IsInst
import HandS.TupMul
import HandS.SortInts
import KE.KDictKeyed
import HandS.DictComp
import HandS.Conv
import KE.SortData
import KE.DataMinMax
import HandS.SetFor
import KE.GoesEnum
import KE.KDictDisplayH
import HandS.Small
import KE.KDictCopyH
import KE.KDictList
import KE.KRevSl
import HandS.Words
import HandS.WordsExc
import HandS.Defaults
import HandS.HeadHook2
import HandS.RaiseMore
import HandS.ExcCtx
import HandS.ExcInit
import KE.KExcSuper
import KE.KSuper
import HandS.Head0
import HandS.Head1
import HandS.Head2
import HandS.HeadHook4
import HandS.HeadWalk
import HandS.ExcIs
import HandS.Lambda
import HandS.TryMany
import HandS.HotCalls
import HandS.Text
import KE.KSuperObj
import KE.KNest
import PySem.Challenge.RW_eightworlds_k60_whole_rounds_and_all_tha
set_option Elab.async false
set_option linter.all false
set_option maxRecDepth 100000
/-! text P1 -/
set_option maxHeartbeats 5000000
namespace PD
open PySem.Spec PySem PyProof.Rows L2

/-! ### hashes of tuples of tuples of ints -/
structure CK where
  n : Int
  cs : List (Int × Int)
  deriving DecidableEq

def pairD (p : Int × Int) : PyData := .tuple [.int p.1, .int p.2]
def ckD (k : CK) : PyData := .tuple [.int k.n, .tuple (k.cs.map pairD)]
def tupH (l : List Int) : Int := reduceHash (Builtin.Tuple.tupleHashOf l)
def pairH (p : Int × Int) : Int := tupH [hashInt p.1, hashInt p.2]
def ckH (k : CK) : Int := tupH [hashInt k.n, tupH (k.cs.map pairH)]

section
variable {prog : Program} {w : World} {s : Shared}
/-- v's hash is h, dr tokens are drawn, below U units -/
def HashIs (prog : Program) (w : World) (s : Shared) (U : Nat) (v : Value) (h : Int) (dr : Nat) : Prop :=
  ∀ (A : Around) (E : Value → Shared → Prop) (tk : Nat) (Q : Int → Shared → Prop), A.units < U → Q h { s with toks := tk + dr } → wpAny (model prog w) A (pyHash v) Q E { s with toks := tk }
inductive HashAll (prog : Program) (w : World) (s : Shared) (U : Nat) : List Value → List Int → Nat → Prop
  | nil : HashAll prog w s U [] [] 0
  | cons {v h d vs hs ds} : HashIs prog w s U v h d → HashAll prog w s U vs hs ds → HashAll prog w s U (v :: vs) (h :: hs) (d + ds)
theorem hash_int {U : Nat} {i : Int} {t : Tok} : HashIs prog w s U (.int i t) (hashInt i) 1 := fun A E tk Q hu h => wpAny_pyHash_int h
theorem hash_tup {U : Nat} {a : Addr} {o : Obj} {items : Array Value} {n : Nat} {hs : List Int} {ds : Nat} (hU : U ≤ cLine) (ho : s.heap.get? a = some o) (hc : o.cls = .type "tuple") (hd : o.data = .seq items n) (each : HashAll prog w s (U + 1) items.toList hs ds) :
    HashIs prog w s U (.ref a) (tupH hs) (ds + 1) := fun A E tk Q room fin => by
  have ty : ({ s with toks := tk } : Shared).TypeIs (.ref a) "tuple" := ⟨o, ho, hc⟩
  have own : ¬ ((some (Value.builtin "tuple.__hash__") == some Value.none) = true) := by
    rw [beq_builtin_none]
    decide
  -- what is done, what is left
  let G : List Value → Array Int → Shared → Prop := fun rest b z => ∃ done left dn lft, hs = done ++ left ∧ HashAll prog w s (U + 1) rest left lft ∧ b.toList = done ∧ dn + lft = ds ∧ z = { s with toks := tk + dn }
  unfold pyHash
  first
    | (unfold pyHashByItsType
       refine wpAny_bind (wpAny_cRoomFor_or (.inr (by omega)) (wpAny_bind (wpAny_specialOf ty F.slot_tuple_hash.lookup (show wpAny _ _ (if (some (Value.builtin "tuple.__hash__") == some Value.none) = true then _ else _) Q E _ from ?_)))))
    | refine wpAny_bind (wpAny_specialOf ty F.slot_tuple_hash.lookup (show wpAny _ _ (if (some (Value.builtin "tuple.__hash__") == some Value.none) = true then _ else _) Q E _ from ?_))
  rw [if_neg own]
  refine wpAny_bind (wpAny_specialOf ty F.slot_tuple_hash.lookup (show wpAny _ _ (callSpecialIfBoundUnlessNone? (.ref a) "__hash__" _ >>= fun _ => _) Q E _ from wpAny_bind (wpAny_callSpecialIfBoundUnlessNone?_slot ty F.slot_tuple_hash (wpAny_call_entry F.slot_tuple_hash ty F.entry_tuple_hash
    (show wpAny _ _ (Builtin.Tuple.tupleItemsOf (.ref a) >>= fun _ => _) _ _ _ from wpAny_bind (wpAny_tupleItemsOf ho hd (wpAny_bind ?_))) (F.args_tuple_hash_1 _)))))
  rw [← Array.forIn_toList]
  refine wpAny_forIn_list _ G _ (fun x rest b z ⟨done, left, dn, lft, e1, el, eb, en, ez⟩ => ?_) (fun b z ⟨done, left, dn, lft, e1, el, eb, en, ez⟩ => ?_) _ _ ⟨[], hs, 0, ds, rfl, each, rfl, Nat.zero_add ds, rfl⟩
  · subst e1 ez
    cases el with
    | @cons _ h1 d1 _ more d2 at_ rest_ =>
      have next : G rest (b.push h1) { s with toks := tk + dn + d1 } := ⟨done ++ [h1], more, dn + d1, d2, by simp, rest_, by simp [eb], by omega, by simp [Nat.add_assoc]⟩
      refine wpAny_bind (at_ _ _ _ _ (show A.units + 1 < U + 1 by omega) ?_)
      first
        | exact wpAny_pure next
        | exact wpAny_bind (wpAny_pure (wpAny_pure next))
  · subst e1 ez
    cases el
    have en' : dn = ds := by omega
    rw [en']
    rw [List.append_nil] at fin
    have fin' : Q (tupH done) { s with toks := tk + ds + 1 } := by simpa [Nat.add_assoc] using fin
    unfold tupH reduceHash at fin'
    refine (show wpAny _ _ (retInt (Builtin.Tuple.tupleHashOf _)) _ _ _ from ?_)
    rw [eb]
    refine wpAny_ret_mkInt (show wpAny _ _ (if (decide (-(2 : Int) ^ 63 ≤ Builtin.Tuple.tupleHashOf done) && decide (Builtin.Tuple.tupleHashOf done < 2 ^ 63)) = true then _ else _) Q E _ from ?_)
    split
    case isTrue y =>
      rw [if_pos y] at fin'
      exact wpAny_pure fin'
    case isFalse y =>
      rw [if_neg y] at fin'
      exact wpAny_bind (wpAny_rule (wpAny_pure fin'))

theorem reads_int {h : Heap} {u : Value} {i : Int} {as : List Addr} (r : Reads h u (.int i) as) : ∃ t, u = .int i t := by
  cases r with
  | int i t => exact ⟨t, rfl⟩
theorem reads_tup {h : Heap} {u : Value} {ds : List PyData} {as : List Addr} (r : Reads h u (.tuple ds) as) :
    ∃ a o vs n, u = .ref a ∧ h.get? a = some o ∧ o.cls = .type "tuple" ∧ o.data = .seq vs n ∧ ReadsAll h vs.toList ds as := by
  cases r with
  | @tuple a o vs n xs as h1 h2 h3 h4 => exact ⟨a, o, vs, n, rfl, h1, h2, h3, h4⟩
theorem reads_pair {h : Heap} {u : Value} {p : Int × Int} {as : List Addr} (r : Reads h u (pairD p) as) :
    ∃ a o vs n t t', u = .ref a ∧ h.get? a = some o ∧ o.cls = .type "tuple" ∧ o.data = .seq vs n ∧ vs.toList = [.int p.1 t, .int p.2 t'] := by
  obtain ⟨a, o, vs, n, e, h1, h2, h3, h4⟩ := reads_tup r
  generalize hv : vs.toList = l at h4
  cases h4 with
  | cons q1 q2 =>
    cases q2 with
    | cons q3 q4 =>
      cases q4
      obtain ⟨t, rfl⟩ := reads_int q1
      obtain ⟨t', rfl⟩ := reads_int q3
      exact ⟨a, o, vs, n, t, t', e, h1, h2, h3, hv⟩
theorem hash_pair {U : Nat} {u : Value} {p : Int × Int} {as : List Addr} (hU : U ≤ cLine) (r : Reads s.heap u (pairD p) as) : HashIs prog w s U u (pairH p) 3 := by
  obtain ⟨a, o, vs, n, t, t', rfl, h1, h2, h3, hv⟩ := reads_pair r
  refine hash_tup (ds := 2) hU h1 h2 h3 ?_
  rw [hv]
  exact .cons hash_int (.cons hash_int .nil)
theorem hash_pairs {U : Nat} (hU : U ≤ cLine) : ∀ {us : List Value} {cs : List (Int × Int)} {as : List Addr}, ReadsAll s.heap us (cs.map pairD) as → HashAll prog w s U us (cs.map pairH) (3 * cs.length)
  | us, [], as, r => by
    cases r
    exact .nil
  | us, p :: cs, as, r => by
    rw [List.map_cons] at r
    cases r with
    | cons q1 q2 =>
      have e : 3 * (p :: cs).length = 3 + 3 * cs.length := by rw [List.length_cons]; omega
      rw [e]
      exact .cons (hash_pair hU q1) (hash_pairs hU q2)
theorem hash_ck {U : Nat} {u : Value} {k : CK} {as : List Addr} (hU : U + 2 ≤ cLine) (r : Reads s.heap u (ckD k) as) : HashIs prog w s U u (ckH k) (3 * k.cs.length + 3) := by
  obtain ⟨a, o, vs, n, rfl, h1, h2, h3, h4⟩ := reads_tup r
  have z : HashIs prog w s U (.ref a) (ckH k) (1 + ((3 * k.cs.length + 1) + 0) + 1) := by
    refine hash_tup (by omega) h1 h2 h3 ?_
    generalize hv : vs.toList = l at h4 ⊢
    cases h4 with
    | cons q1 q2 =>
      cases q2 with
      | cons q3 q4 =>
        cases q4
        obtain ⟨t, rfl⟩ := reads_int q1
        obtain ⟨b, ob, ws, m, rfl, e1, e2, e3, e4⟩ := reads_tup q3
        exact .cons hash_int (.cons (hash_tup (by omega) e1 e2 e3 (hash_pairs (by omega) e4)) .nil)
  have e : 1 + ((3 * k.cs.length + 1) + 0) + 1 = 3 * k.cs.length + 3 := by omega
  rw [e] at z
  exact z
/-! quiet -/
theorem quiet_tup {d : Nat} {a : Addr} {o : Obj} {items : Array Value} {n : Nat} {A : Around} {E : Value → Shared → Prop} {Q : Bool → Shared → Prop} (ho : s.heap.get? a = some o) (hc : o.cls = .type "tuple") (hd : o.data = .seq items n)
    (each : ∀ v ∈ items.toList, ∀ (Q : Bool → Shared → Prop), Q true s → wpAny (model prog w) A (eqIsQuiet d v) Q E s) (fin : Q true s) : wpAny (model prog w) A (eqIsQuiet (d + 1) (.ref a)) Q E s := by
  have ty : s.TypeIs (.ref a) "tuple" := ⟨o, ho, hc⟩
  unfold eqIsQuiet
  refine wpAny_bind (wpAny_specialOf ty F.slot_tuple_eq.lookup (show wpAny _ _ (isInstance (.ref a) (.type "tuple") >>= fun _ => _) _ _ _ from wpAny_bind (wpAny_isInstance ty isSubtype_tuple_tuple ?_)))
  simp only [Bool.false_eq_true, Bool.not_true, ↓reduceIte]
  refine wpAny_bind (wpAny_seqItems ho hd (wpAny_bind (show wpAny _ _ (forIn items (none, ()) _) _ _ _ from ?_)))
  rw [← Array.forIn_toList]
  refine wpAny_forIn_list _ (fun rest r z => r.1 = none ∧ z = s ∧ ∀ v ∈ rest, v ∈ items.toList) _ (fun v rest r z ⟨_, ez, all⟩ => ?_) (fun r z ⟨er, ez, _⟩ => ?_) _ _ ⟨rfl, rfl, fun _ m => m⟩
  · subst ez
    refine wpAny_bind (each v (all v List.mem_cons_self) _ ?_)
    simp only [Bool.false_eq_true, Bool.not_true, ↓reduceIte]
    exact wpAny_pure ⟨rfl, rfl, fun u m => all u (List.mem_cons_of_mem v m)⟩
  · subst ez
    rw [er]
    exact wpAny_pure fin
theorem quiet_int {d : Nat} {i : Int} {t : Tok} {A : Around} {E : Value → Shared → Prop} {Q : Bool → Shared → Prop} (h : Q true s) : wpAny (model prog w) A (eqIsQuiet d (.int i t)) Q E s := by
  rw [eqIsQuiet_byValue d (by rfl)]
  exact wpAny_pure h
theorem quiet_pair {d : Nat} {u : Value} {p : Int × Int} {as : List Addr} {A : Around} {E : Value → Shared → Prop} {Q : Bool → Shared → Prop} (r : Reads s.heap u (pairD p) as) (h : Q true s) : wpAny (model prog w) A (eqIsQuiet (d + 1) u) Q E s := by
  obtain ⟨a, o, vs, n, t, t', rfl, h1, h2, h3, hv⟩ := reads_pair r
  refine quiet_tup h1 h2 h3 (fun v hm Q' hq => ?_) h
  rw [hv] at hm
  simp only [List.mem_cons, List.not_mem_nil, or_false] at hm
  rcases hm with e | e <;> (rw [e]; exact quiet_int hq)
theorem mem_readsAll {h : Heap} : ∀ {us : List Value} {ds : List PyData} {as : List Addr} {v : Value}, ReadsAll h us ds as → v ∈ us → ∃ d as', d ∈ ds ∧ Reads h v d as'
  | _, _, _, v, .nil, hm => by cases hm
  | _, _, _, v, .cons q1 q2, hm => by
    rcases List.mem_cons.mp hm with rfl | hm
    · exact ⟨_, _, List.mem_cons_self, q1⟩
    · obtain ⟨d, as', e, q⟩ := mem_readsAll q2 hm
      exact ⟨d, as', List.mem_cons_of_mem _ e, q⟩
theorem quiet_ck {d : Nat} {u : Value} {k : CK} {as : List Addr} {A : Around} {E : Value → Shared → Prop} {Q : Bool → Shared → Prop} (r : Reads s.heap u (ckD k) as) (h : Q true s) : wpAny (model prog w) A (eqIsQuiet (d + 3) u) Q E s := by
  obtain ⟨a, o, vs, n, rfl, h1, h2, h3, h4⟩ := reads_tup r
  refine quiet_tup h1 h2 h3 (fun v hm Q' hq => ?_) h
  obtain ⟨e, as', he, q⟩ := mem_readsAll h4 hm
  rcases List.mem_cons.mp he with rfl | he
  · obtain ⟨t, rfl⟩ := reads_int q
    exact quiet_int hq
  · obtain rfl := List.mem_singleton.mp he
    obtain ⟨b, ob, ws, m, rfl, e1, e2, e3, e4⟩ := reads_tup q
    refine quiet_tup e1 e2 e3 (fun v hm Q' hq => ?_) hq
    obtain ⟨e, as', he, q⟩ := mem_readsAll e4 hm
    obtain ⟨p, _, rfl⟩ := List.mem_map.mp he
    exact quiet_pair q hq
/-! keys and their data -/
theorem pairD_inj {p q : Int × Int} (h : pairD p = pairD q) : p = q := by
  obtain ⟨a, b⟩ := p
  obtain ⟨c, d⟩ := q
  simp only [pairD, PyData.tuple.injEq, List.cons.injEq, PyData.int.injEq, and_true] at h
  exact Prod.ext h.1 h.2
theorem map_inj {α β : Type} {f : α → β} (hf : ∀ a b, f a = f b → a = b) : ∀ {l m : List α}, l.map f = m.map f → l = m
  | [], [], _ => rfl
  | [], _ :: _, h => by simp at h
  | _ :: _, [], h => by simp at h
  | a :: l, b :: m, h => by
    simp only [List.map_cons, List.cons.injEq] at h
    rw [hf a b h.1, map_inj hf h.2]
theorem ckD_inj {x y : CK} (h : ckD x = ckD y) : x = y := by
  obtain ⟨n, cs⟩ := x
  obtain ⟨m, ds⟩ := y
  simp only [ckD, PyData.tuple.injEq, List.cons.injEq, PyData.int.injEq, and_true] at h
  obtain ⟨h1, h2⟩ := h
  rw [h1, map_inj (fun a b => pairD_inj) h2]
theorem reads_fun {h : Heap} {d e : PyData} {u : Value} {as bs : List Addr} (cd : d.canLay0 = true) (ce : e.canLay0 = true) (rd : Reads h u d as) (re : Reads h u e bs) : d = e :=
  (SeqAt.readOf_eq cd rd).symm.trans (SeqAt.readOf_eq ce re)
theorem eqv_pair (p q : Int × Int) : PyData.eqv (pairD p) (pairD q) = decide (p = q) := by
  obtain ⟨a, b⟩ := p
  obtain ⟨c, d⟩ := q
  have e : PyData.eqv (pairD (a, b)) (pairD (c, d)) = ((a == c) && ((b == d) && true)) := by simp only [pairD, PyData.eqv, PyData.eqvAll]
  rw [e, Bool.and_true]
  by_cases h1 : a = c
  · by_cases h2 : b = d
    · subst h1 h2
      simp
    · simp [h2]
  · simp [h1]
theorem eqv_pairs : ∀ (l m : List (Int × Int)), PyData.eqvAll (l.map pairD) (m.map pairD) = decide (l = m)
  | [], [] => by simp [PyData.eqvAll]
  | [], _ :: _ => by simp [PyData.eqvAll]
  | _ :: _, [] => by simp [PyData.eqvAll]
  | a :: l, b :: m => by
    simp only [List.map_cons, PyData.eqvAll, eqv_pair, eqv_pairs l m]
    by_cases h1 : a = b
    · by_cases h2 : l = m
      · subst h1 h2
        simp
      · simp [h2]
    · simp [h1]
theorem eqv_ck (x y : CK) : PyData.eqv (ckD x) (ckD y) = decide (x = y) := by
  obtain ⟨n, cs⟩ := x
  obtain ⟨m, ds⟩ := y
  simp only [ckD, PyData.eqv, PyData.eqvAll, eqv_pairs, Bool.and_true]
  by_cases h1 : n = m
  · by_cases h2 : cs = ds
    · subst h1 h2
      simp
    · simp [h2]
  · simp [h1]
theorem lay_pairs : ∀ l : List (Int × Int), PyData.canLayAll0 (l.map pairD) = true
  | [] => by simp [PyData.canLayAll0]
  | p :: l => by simp [PyData.canLayAll0, pairD, PyData.canLay0, lay_pairs l]
theorem lay_ck (k : CK) : (ckD k).canLay0 = true := by simp [ckD, PyData.canLay0, PyData.canLayAll0, lay_pairs]
theorem depth_pairs : ∀ l : List (Int × Int), PyData.depthAll (l.map pairD) ≤ 1
  | [] => by simp [PyData.depthAll]
  | p :: l => by
    have := depth_pairs l
    simp [PyData.depthAll, pairD, PyData.depth]
    omega
theorem depth_ck (k : CK) : (ckD k).depth ≤ 3 := by
  have := depth_pairs k.cs
  simp [ckD, PyData.depth, PyData.depthAll]
  omega

/-! tuples stand where a dict is changed -/
theorem reads_pair_keep {h h' : Heap} {u : Value} {p : Int × Int} {as : List Addr} {d : Addr} {o : Obj} {es : Array DictEntry} {ep : Nat} (r : Reads h u (pairD p) as) (ho : h.get? d = some o) (hd : o.data = .dict es ep) (hs : Heap.SameBut d h h') :
    ∃ as', Reads h' u (pairD p) as' := by
  obtain ⟨a, o', vs, n, t, t', rfl, h1, h2, h3, hv⟩ := reads_pair r
  have hne : a ≠ d := by
    rintro rfl
    obtain rfl : o' = o := Option.some.inj (h1.symm.trans ho)
    rw [hd] at h3; exact nomatch h3
  have z : ReadsAll h' vs.toList [.int p.1, .int p.2] ([] ++ ([] ++ [])) := by
    rw [hv]
    exact .cons (.int _ _) (.cons (.int _ _) .nil)
  exact ⟨_, .tuple ((hs.2 a hne).trans h1) h2 h3 z⟩
theorem reads_pairs_keep {h h' : Heap} {d : Addr} {o : Obj} {es : Array DictEntry} {ep : Nat} (ho : h.get? d = some o) (hd : o.data = .dict es ep) (hs : Heap.SameBut d h h') :
    ∀ {us : List Value} {cs : List (Int × Int)} {as : List Addr}, ReadsAll h us (cs.map pairD) as → ∃ as', ReadsAll h' us (cs.map pairD) as'
  | us, [], as, r => by
    cases r
    exact ⟨_, .nil⟩
  | us, p :: cs, as, r => by
    rw [List.map_cons] at r
    cases r with
    | cons q1 q2 =>
      obtain ⟨a1, r1⟩ := reads_pair_keep q1 ho hd hs
      obtain ⟨a2, r2⟩ := reads_pairs_keep ho hd hs q2
      exact ⟨_, .cons r1 r2⟩
theorem reads_ck_keep {h h' : Heap} {u : Value} {k : CK} {as : List Addr} {d : Addr} {o : Obj} {es : Array DictEntry} {ep : Nat} (r : Reads h u (ckD k) as) (ho : h.get? d = some o) (hd : o.data = .dict es ep) (hs : Heap.SameBut d h h') :
    ∃ as', Reads h' u (ckD k) as' := by
  have ne : ∀ {a : Addr} {o' : Obj} {vs : Array Value} {n : Nat}, h.get? a = some o' → o'.data = .seq vs n → a ≠ d := by
    rintro a o' vs n h1 h3 rfl
    obtain rfl : o' = o := Option.some.inj (h1.symm.trans ho)
    rw [hd] at h3; exact nomatch h3
  obtain ⟨a, o1, vs, n, rfl, h1, h2, h3, h4⟩ := reads_tup r
  have hq : ∃ as', ReadsAll h' vs.toList [.int k.n, .tuple (k.cs.map pairD)] as' := by
    generalize hv : vs.toList = l at h4 ⊢
    cases h4 with
    | cons q1 q2 =>
      cases q2 with
      | cons q3 q4 =>
        cases q4
        obtain ⟨t, rfl⟩ := reads_int q1
        obtain ⟨b, ob, ws, m, rfl, e1, e2, e3, e4⟩ := reads_tup q3
        obtain ⟨a2, r2⟩ := reads_pairs_keep ho hd hs e4
        exact ⟨_, .cons (.int _ _) (.cons (.tuple ((hs.2 b (ne e1 e3)).trans e1) e2 e3 r2) .nil)⟩
  obtain ⟨as', q⟩ := hq
  exact ⟨_, .tuple ((hs.2 a (ne h1 h3)).trans h1) h2 h3 q⟩
/-- the keys of dicts of cuttings -/
def ckKind (prog : Program) (w : World) : HeapKind prog w CK where
  is := fun h k a => ∃ as, Reads h (.ref a) (ckD k) as
  hash := ckH
  draws := fun k => 3 * k.cs.length + 3
  room := fun A => A.units + 4 < cLine
  inj := fun ⟨_, hx⟩ ⟨_, hy⟩ => ckD_inj (reads_fun (lay_ck _) (lay_ck _) hx hy)
  keeps := fun ⟨_, x⟩ ho hd hs => reads_ck_keep x ho hd hs
  pyHash := fun {A E s k a Q} hu ⟨_, hk⟩ h => hash_ck (U := A.units + 1) (by have : A.units + 4 < cLine := hu; omega) hk A E s.toks Q (Nat.lt_succ_self _) h
  eqBool := fun {A E s x y a b Q} hu ⟨_, hx⟩ ⟨_, hy⟩ h => by
    refine SeqAt.eqAt_reads _ _ A s _ _ _ _ hx hy (lay_ck _) (lay_ck _) ?_ _ _ E Q ?_
    · have h1 := depth_ck x
      have h2 : min (ckD x).depth (ckD y).depth ≤ (ckD x).depth := Nat.min_le_left _ _
      have : A.units + 4 < cLine := hu
      omega
    · rw [eqv_ck]
      exact h
  quiet := fun ⟨_, hk⟩ h => quiet_ck (d := 5) hk h
end
end PD
/-! text P2 -/
set_option maxHeartbeats 5000000
namespace PD
open PySem.Spec PySem PyProof.Rows L2
abbrev St := L2.St

/-! ### data: cheap looks -/
def shp : Nat → PyData → Bool
  | 0, .list _ => false
  | 0, .tuple _ => false
  | n + 1, .list xs => xs.all (shp n)
  | n + 1, .tuple xs => xs.all (shp n)
  | _, .dict _ => false
  | _, .str x => PyData.canLay0 (.str x)
  | _, _ => true
theorem shp_ok : ∀ (n : Nat) (d : PyData), shp n d = true → d.canLay0 = true ∧ d.depth ≤ n
  | n, .none, _ => by cases n <;> simp [PyData.canLay0, PyData.depth]
  | n, .bool b, _ => by cases n <;> simp [PyData.canLay0, PyData.depth]
  | n, .int b, _ => by cases n <;> simp [PyData.canLay0, PyData.depth]
  | n, .str x, h => by
    have h' : PyData.canLay0 (.str x) = true := by cases n <;> simpa [shp] using h
    exact ⟨h', by simp [PyData.depth]⟩
  | n, .dict _, h => by cases n <;> simp [shp] at h
  | 0, .list _, h => by simp [shp] at h
  | 0, .tuple _, h => by simp [shp] at h
  | n + 1, .list xs, h => by
    have h' : ∀ x ∈ xs, shp n x = true := by simpa [shp] using h
    have q : PyData.canLayAll0 xs = true ∧ PyData.depthAll xs ≤ n := by
      clear h
      induction xs with
      | nil => simp [PyData.canLayAll0, PyData.depthAll]
      | cons x xs ih =>
        have h1 := shp_ok n x (h' x List.mem_cons_self)
        have h2 := ih fun y hy => h' y (List.mem_cons_of_mem _ hy)
        simp only [PyData.canLayAll0, PyData.depthAll, Bool.and_eq_true]
        exact ⟨⟨h1.1, h2.1⟩, by omega⟩
    simp only [PyData.canLay0, PyData.depth]
    exact ⟨q.1, by omega⟩
  | n + 1, .tuple xs, h => by
    have h' : ∀ x ∈ xs, shp n x = true := by simpa [shp] using h
    have q : PyData.canLayAll0 xs = true ∧ PyData.depthAll xs ≤ n := by
      clear h
      induction xs with
      | nil => simp [PyData.canLayAll0, PyData.depthAll]
      | cons x xs ih =>
        have h1 := shp_ok n x (h' x List.mem_cons_self)
        have h2 := ih fun y hy => h' y (List.mem_cons_of_mem _ hy)
        simp only [PyData.canLayAll0, PyData.depthAll, Bool.and_eq_true]
        exact ⟨⟨h1.1, h2.1⟩, by omega⟩
    simp only [PyData.canLay0, PyData.depth]
    exact ⟨q.1, by omega⟩
theorem shp_shaped {d : PyData} (h : shp 9 d = true) : SeqAt.shaped d = true := by
  obtain ⟨h1, h2⟩ := shp_ok 9 d h
  show (d.canLay0 && decide (d.depth ≤ 64)) = true
  rw [h1, decide_eq_true (by omega)]
  rfl
/-- equality with fuel -/
def allEq (f : PyData → PyData → Bool) : List PyData → List PyData → Bool
  | [], [] => true
  | x :: xs, y :: ys => f x y && allEq f xs ys
  | _, _ => false
def eqF : Nat → PyData → PyData → Bool
  | n + 1, .tuple xs, .tuple ys => allEq (eqF n) xs ys
  | n + 1, .list xs, .list ys => allEq (eqF n) xs ys
  | _, .int i, .int j => i == j
  | _, x, y => PyData.eqv x y
theorem eqF_ok : ∀ (n : Nat) (x y : PyData), eqF n x y = PyData.eqv x y
  | 0, x, y => by cases x <;> cases y <;> simp [eqF, PyData.eqv]
  | n + 1, x, y => by
    have hl : ∀ xs ys : List PyData, allEq (eqF n) xs ys = PyData.eqvAll xs ys := by
      intro xs
      induction xs with
      | nil => intro ys; cases ys <;> simp [allEq, PyData.eqvAll]
      | cons a l ih =>
        intro ys
        cases ys with
        | nil => simp [allEq, PyData.eqvAll]
        | cons b m => simp only [allEq, PyData.eqvAll, eqF_ok n a b, ih m]
    cases x <;> cases y <;> simp [eqF, PyData.eqv, hl]

/-! ### what a value stands for -/
def entC (x : CK × Addr × Value) : DictEntry := ⟨ckH x.1, .ref x.2.1, x.2.2⟩
/-- a dict whose keys are cuttings -/
def dO (a : Addr) (o : Obj) (xs : List (CK × Addr × Value)) : HO := .ext fun h => (a == sysModules) = false ∧ xs.length ≤ sizeLine ∧ (xs.map (·.1)).Nodup ∧ h.get? a = some o ∧ o.ExactDict ∧
  ∃ es ep, o.data = .dict es ep ∧ es.toList = xs.map entC
mutual
inductive Rp (H : Hp) : V → PyData → Prop
  | non : Rp H .non .none
  | bl (b : Bool) : Rp H (.bl b) (.bool b)
  | int (i : Int) : Rp H (.int i) (.int i)
  | str (x : Str) : Rp H (.str x) (.str x)
  | lst {a : Addr} {xs : List V} {ds : List PyData} : H a = some (.lst xs) → RpAll H xs ds → Rp H (.ref a) (.list ds)
  | tup {a : Addr} {xs : List V} {ds : List PyData} : H a = some (.tup xs) → RpAll H xs ds → Rp H (.ref a) (.tuple ds)
  | dct {a : Addr} {o : Obj} {xs : List (CK × Addr × Value)} {kvs : List (PyData × PyData)} : H a = some (dO a o xs) → RpC H xs kvs → Rp H (.ref a) (.dict kvs)
  | dci {a : Addr} {ks : List (Key × V)} {kvs : List (PyData × PyData)} : H a = some (.dK ks) → RpI H ks kvs → Rp H (.ref a) (.dict ((.none, .none) :: kvs))
inductive RpAll (H : Hp) : List V → List PyData → Prop
  | nil : RpAll H [] []
  | cons {v : V} {vs : List V} {d : PyData} {ds : List PyData} : Rp H v d → RpAll H vs ds → RpAll H (v :: vs) (d :: ds)
inductive RpC (H : Hp) : List (CK × Addr × Value) → List (PyData × PyData) → Prop
  | nil : RpC H [] []
  | cons {k : CK} {q : Addr} {v : V} {u : Value} {d : PyData} {xs : List (CK × Addr × Value)} {kvs : List (PyData × PyData)} : Rp H (.ref q) (ckD k) → RelV v u → Rp H v d → RpC H xs kvs → RpC H ((k, q, u) :: xs) ((ckD k, d) :: kvs)
inductive RpI (H : Hp) : List (Key × V) → List (PyData × PyData) → Prop
  | nil : RpI H [] []
  | cons {i : Int} {v : V} {d : PyData} {ks : List (Key × V)} {kvs : List (PyData × PyData)} : Rp H v d → RpI H ks kvs → RpI H ((.inl i, v) :: ks) ((.int i, d) :: kvs)
end
def Sub (H H' : Hp) : Prop := ∀ a o, H a = some o → H' a = some o
theorem Sub.refl (H : Hp) : Sub H H := fun _ _ h => h
theorem Sub.trans {H H1 H2 : Hp} (a : Sub H H1) (b : Sub H1 H2) : Sub H H2 := fun c o h => b c o (a c o h)
theorem Sub.nn {H H' : Hp} (s : Sub H H') {a : Addr} (h : H' a = none) : H a = none := by
  cases q : H a with
  | none => rfl
  | some o => rw [s a o q] at h; cases h
theorem Sub.up {H : Hp} {p : Addr} {o : HO} (h : H p = Option.none) : Sub H (L2.upd H p o) := fun b u e => by rw [upd_ne (ne_of_none e h)]; exact e
mutual
theorem Rp.sub {H H' : Hp} (s : Sub H H') : ∀ {v : V} {d : PyData}, Rp H v d → Rp H' v d
  | _, _, .non => .non
  | _, _, .bl b => .bl b
  | _, _, .int b => .int b
  | _, _, .str b => .str b
  | _, _, .lst e r => .lst (s _ _ e) (RpAll.sub s r)
  | _, _, .tup e r => .tup (s _ _ e) (RpAll.sub s r)
  | _, _, .dct e r => .dct (s _ _ e) (RpC.sub s r)
  | _, _, .dci e r => .dci (s _ _ e) (RpI.sub s r)
theorem RpAll.sub {H H' : Hp} (s : Sub H H') : ∀ {vs : List V} {ds : List PyData}, RpAll H vs ds → RpAll H' vs ds
  | _, _, .nil => .nil
  | _, _, .cons r t => .cons (Rp.sub s r) (RpAll.sub s t)
theorem RpC.sub {H H' : Hp} (s : Sub H H') : ∀ {xs : List (CK × Addr × Value)} {kvs : List (PyData × PyData)}, RpC H xs kvs → RpC H' xs kvs
  | _, _, .nil => .nil
  | _, _, .cons k e r t => .cons (Rp.sub s k) e (Rp.sub s r) (RpC.sub s t)
theorem RpI.sub {H H' : Hp} (s : Sub H H') : ∀ {xs : List (Key × V)} {kvs : List (PyData × PyData)}, RpI H xs kvs → RpI H' xs kvs
  | _, _, .nil => .nil
  | _, _, .cons r t => .cons (Rp.sub s r) (RpI.sub s t)
end
theorem RpAll.length : ∀ {H : Hp} {vs : List V} {ds : List PyData}, RpAll H vs ds → vs.length = ds.length
  | _, _, _, .nil => rfl
  | _, _, _, .cons r t => by rw [List.length_cons, List.length_cons, RpAll.length t]
theorem RpAll.get : ∀ {H : Hp} {vs : List V} {ds : List PyData} {i : Nat} {d : PyData}, RpAll H vs ds → ds[i]? = some d → ∃ v, vs[i]? = some v ∧ Rp H v d
  | _, _, _, _, _, .nil, e => by simp at e
  | _, _, _, 0, _, .cons r _, e => by
    simp at e
    subst e
    exact ⟨_, rfl, r⟩
  | _, _, _, i + 1, d, .cons _ t, e => by
    obtain ⟨v, h1, h2⟩ := RpAll.get (i := i) (d := d) t (by simpa using e)
    exact ⟨v, by simpa using h1, h2⟩
theorem RpAll.at {H : Hp} {vs : List V} {ds : List PyData} {i : Nat} {d : PyData} {x : V} (r : RpAll H vs ds) (h : ds[i]? = some d) (hx : vs[i]? = some x) : Rp H x d := by
  obtain ⟨v, h1, h2⟩ := r.get h
  rw [h1] at hx
  cases hx
  exact h2
theorem RpAll.append {H : Hp} : ∀ {vs ws : List V} {ds es : List PyData}, RpAll H vs ds → RpAll H ws es → RpAll H (vs ++ ws) (ds ++ es)
  | _, _, _, _, .nil, s => s
  | _, _, _, _, .cons r t, s => .cons r (RpAll.append t s)
theorem RpAll.take {H : Hp} : ∀ {vs : List V} {ds : List PyData} (n : Nat), RpAll H vs ds → RpAll H (vs.take n) (ds.take n)
  | _, _, 0, _ => .nil
  | _, _, _ + 1, .nil => .nil
  | _, _, n + 1, .cons r t => .cons r (RpAll.take n t)
theorem RpAll.drop {H : Hp} : ∀ {vs : List V} {ds : List PyData} (n : Nat), RpAll H vs ds → RpAll H (vs.drop n) (ds.drop n)
  | _, _, 0, r => r
  | _, _, _ + 1, .nil => .nil
  | _, _, n + 1, .cons r t => RpAll.drop n t
theorem RpAll.set {H : Hp} {v : V} {d : PyData} (r : Rp H v d) : ∀ {vs : List V} {ds : List PyData} (i : Nat), RpAll H vs ds → RpAll H (vs.set i v) (ds.set i d)
  | _, _, _, .nil => .nil
  | _, _, 0, .cons _ t => .cons r t
  | _, _, i + 1, .cons q t => .cons q (RpAll.set r i t)
theorem RpAll.reverse {H : Hp} {vs : List V} {ds : List PyData} (r : RpAll H vs ds) : RpAll H vs.reverse ds.reverse := by
  induction vs generalizing ds with
  | nil => cases r; exact .nil
  | cons v vs ih =>
    cases r with
    | cons r t =>
      rw [List.reverse_cons, List.reverse_cons]
      exact (ih t).append (.cons r .nil)
theorem RpAll.ints : ∀ {H : Hp} {ns : List Int}, RpAll H (ns.map V.int) (ns.map PyData.int)
  | _, [] => .nil
  | _, n :: ns => .cons (.int n) RpAll.ints
mutual
theorem Rp.dp {K : PySem.W.Frag} {H H' : Hp} (s : Sub H H') : ∀ {v : V} {d : PyData}, d.canLay0 = true → Rp H v d → Dp K H' v d
  | _, _, _, .non => .non
  | _, _, _, .bl b => .bl b
  | _, _, _, .int b => .int b
  | _, _, _, .str b => .str b
  | _, _, h, .lst e r => .lst (.of (s _ _ e)) (RpAll.dp s (by simpa [PyData.canLay0] using h) r)
  | _, _, h, .tup e r => .tup (.inl (.inl (s _ _ e))) (RpAll.dp s (by simpa [PyData.canLay0] using h) r)
  | _, _, h, .dct e r => by simp [PyData.canLay0] at h
  | _, _, h, .dci e r => by simp [PyData.canLay0] at h
theorem RpAll.dp {K : PySem.W.Frag} {H H' : Hp} (s : Sub H H') : ∀ {vs : List V} {ds : List PyData}, PyData.canLayAll0 ds = true → RpAll H vs ds → DpAll K H' vs ds
  | _, _, _, .nil => .nil
  | _, _, h, .cons r t => .cons (Rp.dp s (by simp only [PyData.canLayAll0, Bool.and_eq_true] at h; exact h.1) r) (RpAll.dp s (by simp only [PyData.canLayAll0, Bool.and_eq_true] at h; exact h.2) t)
end

/-! ### growth -/
/-- Hi is what never changes again, H all that is tracked -/
structure Ex (Hi H Hi' H' : Hp) : Prop where
  im : Sub Hi Hi'
  al : Sub H H'
  le : Sub Hi' H'
  nw : ∀ a o, Hi' a = some o → Hi a = some o ∨ H a = none
theorem Ex.refl {Hi H : Hp} (h : Sub Hi H) : Ex Hi H Hi H := ⟨.refl _, .refl _, h, fun _ _ e => .inl e⟩
theorem Ex.trans {Hi H Hi1 H1 Hi2 H2 : Hp} (a : Ex Hi H Hi1 H1) (b : Ex Hi1 H1 Hi2 H2) : Ex Hi H Hi2 H2 :=
  ⟨a.im.trans b.im, a.al.trans b.al, b.le, fun c o e => (b.nw c o e).elim (a.nw c o) fun z => .inr (a.al.nn z)⟩
/-- a new object, never to change -/
theorem Ex.new {Hi H : Hp} {p : Addr} {o : HO} (h : Sub Hi H) (hp : H p = none) : Ex Hi H (upd Hi p o) (upd H p o) := by
  have hi : Hi p = none := h.nn hp
  refine ⟨Sub.up hi, Sub.up hp, fun b u e => ?_, fun b u e => ?_⟩
  · by_cases hb : b = p
    · subst hb
      rw [upd_same] at e ⊢
      exact e
    · rw [upd_ne hb] at e ⊢
      exact h b u e
  · by_cases hb : b = p
    · subst hb
      exact .inr hp
    · rw [upd_ne hb] at e
      exact .inl e
/-- a new object that does not count -/
theorem Ex.skip {Hi H : Hp} {p : Addr} {o : HO} (h : Sub Hi H) (hp : H p = none) : Ex Hi H Hi (upd H p o) :=
  ⟨.refl _, Sub.up hp, h.trans (Sub.up hp), fun _ _ e => .inl e⟩

/-! ### slots -/
inductive Sl where
  | imm (d : PyData)
  | own (d : PyData)
  | raw (a : Addr)
abbrev Ev := List (Option Sl)
def OwnAt (Hi H : Hp) (a : Addr) : PyData → Prop
  | .list ds => ∃ xs, H a = some (.lst xs) ∧ RpAll Hi xs ds
  | .dict kvs => ∃ o xs, H a = some (dO a o xs) ∧ RpC Hi xs kvs
  | _ => False
structure Slots (He : Hp) (env : Ev) (σ : St) (Hi H : Hp) : Prop where
  len : σ.length = env.length
  imm : ∀ (i : Nat) (d : PyData), env[i]? = some (some (.imm d)) → ∃ v, σ[i]? = some (some v) ∧ Rp Hi v d
  own : ∀ (i : Nat) (d : PyData), env[i]? = some (some (.own d)) → ∃ a, σ[i]? = some (some (.ref a)) ∧ Hi a = none ∧ He a = none ∧ OwnAt Hi H a d
  raw : ∀ (i : Nat) (a : Addr), env[i]? = some (some (.raw a)) → σ[i]? = some (some (.ref a))
  dis : ∀ (i j : Nat) (d d' : PyData) (a : Addr), env[i]? = some (some (.own d)) → env[j]? = some (some (.own d')) → σ[i]? = some (some (.ref a)) → σ[j]? = some (some (.ref a)) → i = j
theorem OwnAt.ex {Hi H Hi' H' : Hp} {a : Addr} (x : Ex Hi H Hi' H') : ∀ {d : PyData}, OwnAt Hi H a d → OwnAt Hi' H' a d
  | .list ds, ⟨xs, h, r⟩ => ⟨xs, x.al _ _ h, r.sub x.im⟩
  | .dict kvs, ⟨o, xs, h, r⟩ => ⟨o, xs, x.al _ _ h, r.sub x.im⟩
  | .none, h => h
  | .bool _, h => h
  | .int _, h => h
  | .str _, h => h
  | .tuple _, h => h
theorem OwnAt.there {Hi H : Hp} {a : Addr} : ∀ {d : PyData}, OwnAt Hi H a d → ∃ o, H a = some o
  | .list ds, ⟨xs, h, r⟩ => ⟨_, h⟩
  | .dict kvs, ⟨o, xs, h, r⟩ => ⟨_, h⟩
  | .none, h => h.elim
  | .bool _, h => h.elim
  | .int _, h => h.elim
  | .str _, h => h.elim
  | .tuple _, h => h.elim
theorem Slots.ex {He : Hp} {env : Ev} {σ : St} {Hi H Hi' H' : Hp} (S : Slots He env σ Hi H) (x : Ex Hi H Hi' H') : Slots He env σ Hi' H' where
  len := S.len
  imm := fun i d e => by
    obtain ⟨v, h, r⟩ := S.imm i d e
    exact ⟨v, h, r.sub x.im⟩
  own := fun i d e => by
    obtain ⟨a, h, h1, h2, h3⟩ := S.own i d e
    refine ⟨a, h, ?_, h2, h3.ex x⟩
    cases q : Hi' a with
    | none => rfl
    | some o =>
      rcases x.nw a o q with z | z
      · rw [h1] at z; cases z
      · obtain ⟨o', z'⟩ := h3.there
        rw [z] at z'; cases z'
  raw := S.raw
  dis := S.dis
theorem Slots.set {He : Hp} {env : Ev} {σ : St} {Hi H : Hp} {i : Nat} {v : V} {d : PyData} (S : Slots He env σ Hi H) (r : Rp Hi v d) (hi : i < env.length) : Slots He (env.set i (some (.imm d))) (σ.set i (some v)) Hi H where
  len := by rw [List.length_set, List.length_set]; exact S.len
  imm := fun j e h => by
    by_cases hj : i = j
    · subst hj
      rw [List.getElem?_set_self hi] at h
      cases h
      exact ⟨v, List.getElem?_set_self (by rw [S.len]; exact hi), r⟩
    · rw [List.getElem?_set_ne hj] at h ⊢
      exact S.imm j e h
  own := fun j e h => by
    by_cases hj : i = j
    · subst hj
      rw [List.getElem?_set_self hi] at h
      cases h
    · rw [List.getElem?_set_ne hj] at h ⊢
      exact S.own j e h
  raw := fun j e h => by
    by_cases hj : i = j
    · subst hj
      rw [List.getElem?_set_self hi] at h
      cases h
    · rw [List.getElem?_set_ne hj] at h ⊢
      exact S.raw j e h
  dis := fun j k e e' a h1 h2 h3 h4 => by
    by_cases hj : i = j
    · subst hj
      rw [List.getElem?_set_self hi] at h1
      cases h1
    · by_cases hk : i = k
      · subst hk
        rw [List.getElem?_set_self hi] at h2
        cases h2
      · rw [List.getElem?_set_ne hj] at h1 h3
        rw [List.getElem?_set_ne hk] at h2 h4
        exact S.dis j k e e' a h1 h2 h3 h4
/-- a slot is forgotten -/
theorem Slots.wipe1 {He : Hp} {env : Ev} {σ : St} {Hi H : Hp} {i : Nat} (S : Slots He env σ Hi H) : Slots He (env.set i none) (σ.set i none) Hi H where
  len := by rw [List.length_set, List.length_set]; exact S.len
  imm := fun j e h => by
    by_cases hj : i = j
    · subst hj
      by_cases hi : i < env.length
      · rw [List.getElem?_set_self hi] at h
        cases h
      · rw [List.getElem?_eq_none (by rw [List.length_set]; omega)] at h
        cases h
    · rw [List.getElem?_set_ne hj] at h ⊢
      exact S.imm j e h
  own := fun j e h => by
    by_cases hj : i = j
    · subst hj
      by_cases hi : i < env.length
      · rw [List.getElem?_set_self hi] at h
        cases h
      · rw [List.getElem?_eq_none (by rw [List.length_set]; omega)] at h
        cases h
    · rw [List.getElem?_set_ne hj] at h ⊢
      exact S.own j e h
  raw := fun j e h => by
    by_cases hj : i = j
    · subst hj
      by_cases hi : i < env.length
      · rw [List.getElem?_set_self hi] at h
        cases h
      · rw [List.getElem?_eq_none (by rw [List.length_set]; omega)] at h
        cases h
    · rw [List.getElem?_set_ne hj] at h ⊢
      exact S.raw j e h
  dis := fun j k e e' a h1 h2 h3 h4 => by
    have ne : ∀ (m : Nat) (e : PyData), (env.set i none)[m]? = some (some (Sl.own e)) → i ≠ m := fun m e h q => by
      subst q
      by_cases hi : i < env.length
      · rw [List.getElem?_set_self hi] at h
        cases h
      · rw [List.getElem?_eq_none (by rw [List.length_set]; omega)] at h
        cases h
    have hj := ne j e h1
    have hk := ne k e' h2
    rw [List.getElem?_set_ne hj] at h1 h3
    rw [List.getElem?_set_ne hk] at h2 h4
    exact S.dis j k e e' a h1 h2 h3 h4
def wipeE (env : Ev) : List Nat → Ev
  | [] => env
  | i :: is => (wipeE env is).set i none
theorem Slots.wipe {He : Hp} {env : Ev} {σ : St} {Hi H : Hp} (S : Slots He env σ Hi H) : ∀ vs : List Nat, Slots He (wipeE env vs) (L2.wipe σ vs) Hi H
  | [] => S
  | i :: is => (Slots.wipe S is).wipe1
end PD
/-! text P3 -/
set_option maxHeartbeats 5000000
namespace PD
open PySem.Spec PySem PyProof.Rows L2

inductive R (α : Type) where
  | stuck
  | ok (a : α)
  | exc (c : Nat)
def R.bind {α β : Type} (r : R α) (f : α → R β) : R β := match r with
  | .ok a => f a
  | .stuck => .stuck
  | .exc c => .exc c
section
variable (ca : Nat → Addr) (E : XK)
/-- what is asked of an expression's outcome -/
def PV (Hi H : Hp) (r : R PyData) (Q : VK) : Prop := match r with
  | .stuck => False
  | .ok d => ∀ v Hi' H', Ex Hi H Hi' H' → Rp Hi' v d → Q v H'
  | .exc c => ∀ Hi' H' dx, Ex Hi H Hi' H' → E (.ref (ca c)) dx H'
def PB (Hi H : Hp) (r : R Bool) (Q : Bool → Hp → Prop) : Prop := match r with
  | .stuck => False
  | .ok b => ∀ Hi' H', Ex Hi H Hi' H' → Q b H'
  | .exc c => ∀ Hi' H' dx, Ex Hi H Hi' H' → E (.ref (ca c)) dx H'
def PL (Hi H : Hp) (r : R (List PyData)) (Q : List V → Hp → Prop) : Prop := match r with
  | .stuck => False
  | .ok ds => ∀ vs Hi' H', Ex Hi H Hi' H' → RpAll Hi' vs ds → Q vs H'
  | .exc c => ∀ Hi' H' dx, Ex Hi H Hi' H' → E (.ref (ca c)) dx H'
end
def asB : R PyData → R Bool
  | .ok (.bool b) => .ok b
  | .exc c => .exc c
  | _ => .stuck
section
variable {ca : Nat → Addr} {E : XK} {Hi H Hi1 H1 : Hp}
theorem PV.ex {r : R PyData} {Q : VK} (x : Ex Hi H Hi1 H1) (h : PV ca E Hi H r Q) : PV ca E Hi1 H1 r Q := by
  cases r with
  | stuck => exact h
  | ok d => exact fun v Hi' H' y q => h v Hi' H' (x.trans y) q
  | exc c => exact fun Hi' H' dx y => h Hi' H' dx (x.trans y)
theorem PB.ex {r : R Bool} {Q : Bool → Hp → Prop} (x : Ex Hi H Hi1 H1) (h : PB ca E Hi H r Q) : PB ca E Hi1 H1 r Q := by
  cases r with
  | stuck => exact h
  | ok d => exact fun Hi' H' y => h Hi' H' (x.trans y)
  | exc c => exact fun Hi' H' dx y => h Hi' H' dx (x.trans y)
theorem PL.ex {r : R (List PyData)} {Q : List V → Hp → Prop} (x : Ex Hi H Hi1 H1) (h : PL ca E Hi H r Q) : PL ca E Hi1 H1 r Q := by
  cases r with
  | stuck => exact h
  | ok d => exact fun v Hi' H' y q => h v Hi' H' (x.trans y) q
  | exc c => exact fun Hi' H' dx y => h Hi' H' dx (x.trans y)
/-- one part behind another -/
theorem PV.bind {r : R PyData} {f : PyData → R PyData} {Q : VK} (h : PV ca E Hi H (r.bind f) Q) : PV ca E Hi H r fun v H' => ∃ d Hi', r = .ok d ∧ Ex Hi H Hi' H' ∧ Rp Hi' v d ∧ PV ca E Hi' H' (f d) Q := by
  cases r with
  | stuck => exact h
  | ok d => exact fun v Hi' H' x q => ⟨d, Hi', rfl, x, q, PV.ex x h⟩
  | exc c => exact h
theorem PV.bindB {r : R Bool} {f : Bool → R PyData} {Q : VK} (h : PV ca E Hi H (r.bind f) Q) : PB ca E Hi H r fun b H' => ∃ Hi', r = .ok b ∧ Ex Hi H Hi' H' ∧ PV ca E Hi' H' (f b) Q := by
  cases r with
  | stuck => exact h
  | ok d => exact fun Hi' H' x => ⟨Hi', rfl, x, PV.ex x h⟩
  | exc c => exact h
theorem PV.bindL {r : R (List PyData)} {f : List PyData → R PyData} {Q : VK} (h : PV ca E Hi H (r.bind f) Q) : PL ca E Hi H r fun vs H' => ∃ ds Hi', r = .ok ds ∧ Ex Hi H Hi' H' ∧ RpAll Hi' vs ds ∧ PV ca E Hi' H' (f ds) Q := by
  cases r with
  | stuck => exact h
  | ok d => exact fun v Hi' H' x q => ⟨d, Hi', rfl, x, q, PV.ex x h⟩
  | exc c => exact h
/-- a value that is a bool -/
theorem PV.ofB {r : R PyData} {Q : Bool → Hp → Prop} (h : PB ca E Hi H (asB r) Q) : PV ca E Hi H r fun v H' => ∃ b, v = .bl b ∧ Q b H' := by
  cases r with
  | stuck => exact h
  | ok d =>
    cases d with
    | bool b =>
      intro v Hi' H' x q
      cases q
      exact ⟨b, rfl, h Hi' H' x⟩
    | none => exact h.elim
    | int _ => exact h.elim
    | str _ => exact h.elim
    | list _ => exact h.elim
    | tuple _ => exact h.elim
    | dict _ => exact h.elim
  | exc c => exact h
theorem PB.toV {r : R PyData} {Q : VK} (h : PV ca E Hi H r Q) {b : Bool} (e : asB r = .ok b) {Hi' H' : Hp} (x : Ex Hi H Hi' H') : Q (.bl b) H' := by
  cases r with
  | stuck => exact h.elim
  | ok d =>
    cases d with
    | bool c =>
      cases e
      exact h _ Hi' H' x (.bl _)
    | none => cases e
    | int _ => cases e
    | str _ => cases e
    | list _ => cases e
    | tuple _ => cases e
    | dict _ => cases e
  | exc c => cases e
theorem PV.now {d : PyData} {v : V} {Q : VK} (h : PV ca E Hi H (.ok d) Q) (x : Ex Hi H Hi1 H1) (r : Rp Hi1 v d) : Q v H1 := h v Hi1 H1 x r
end

/-! ### judgements -/
section
variable (ca : Nat → Addr) (E : XK) (X : Cx)
def OkE (e : Expr) (f : Ev → R PyData) : Prop := ∃ t, PE X e t ∧ ∀ (He : Hp) (env : Ev) (σ : St) (Hi H : Hp) (Q : VK), Slots He env σ Hi H → Sub Hi H → PV ca E Hi H (f env) Q → t σ H Q
def OkT (e : Expr) (f : Ev → R PyData) : Prop := ∃ t, PT X e t ∧ ∀ (He : Hp) (env : Ev) (σ : St) (Hi H : Hp) (Q : Bool → Hp → Prop), Slots He env σ Hi H → Sub Hi H → PB ca E Hi H (asB (f env)) Q → t σ H Q
def OkA (es : List Expr) (f : Ev → R (List PyData)) : Prop := ∃ t, PA X es t ∧ ∀ (He : Hp) (env : Ev) (σ : St) (Hi H : Hp) (Q : List V → Hp → Prop), Slots He env σ Hi H → Sub Hi H → PL ca E Hi H (f env) Q → t σ H Q
end
section
variable {ca : Nat → Addr} {E : XK} {X : Cx} {pos : Pos}

/-! ### names, constants -/
def eVar (i : Nat) : Ev → R PyData := fun env => match env[i]? with
  | some (some (.imm d)) => .ok d
  | _ => .stuck
def eC (d : PyData) : Ev → R PyData := fun _ => .ok d
theorem okE_var (i : Nat) {x : Str} (hN : X.N[i]? = some x := by rfl) (hv : Vis X.env.scope x := by first | exact Or.inl rfl | exact Or.inr (Or.inl rfl) | exact Or.inr (Or.inr rfl)) (hd : (x == ("__debug__" : Str)) = false := by decide)
    (hcd : (x == ("__classdict__" : Str)) = false := by decide) : OkE ca E X (.Name x pos) (eVar i) := by
  refine ⟨tVar i, pe_var hN hv hd hcd, fun He env σ Hi H Q S s h => ?_⟩
  unfold eVar at h
  split at h
  · rename_i d e
    obtain ⟨v, hv, r⟩ := S.imm i d e
    exact ⟨v, hv, h v Hi H (.refl s) r⟩
  · exact h.elim
theorem okE_int {i j} : OkE ca E X (.Constant (.int i) j pos) (eC (.int i)) := ⟨_, pe_int, fun He env σ Hi H Q S s h => h _ Hi H (.refl s) (.int i)⟩
theorem okE_bl {b j} : OkE ca E X (.Constant (.bool b) j pos) (eC (.bool b)) := ⟨_, pe_bl, fun He env σ Hi H Q S s h => h _ Hi H (.refl s) (.bl b)⟩
theorem okE_non {j} : OkE ca E X (.Constant .none j pos) (eC .none) := ⟨_, pe_non, fun He env σ Hi H Q S s h => h _ Hi H (.refl s) .non⟩
theorem okE_str {x j} : OkE ca E X (.Constant (.str x) j pos) (eC (.str x)) := ⟨_, pe_str, fun He env σ Hi H Q S s h => h _ Hi H (.refl s) (.str x)⟩
theorem okE_glob {x : Str} {i : Int} {t : Tok} (hg : Gl X x) (hm : X.mg x = some (.int i t)) (hd : (x == ("__debug__" : Str)) = false := by decide) : OkE ca E X (.Name x pos) (eC (.int i)) :=
  ⟨_, pe_glob (v := .int i) hg hm ⟨_, rfl⟩ hd, fun He env σ Hi H Q S s h => h _ Hi H (.refl s) (.int i)⟩

/-! ### two operands -/
variable {a b c : Expr} {fa fb fc : Ev → R PyData} {r : R2} {g : PyData → PyData → R PyData}
def e2 (g : PyData → PyData → R PyData) (fa fb : Ev → R PyData) : Ev → R PyData := fun env => (fa env).bind fun x => (fb env).bind fun y => g x y
/-- what a rule by values asks of g -/
def Gv (ca : Nat → Addr) (E : XK) (r : R2) (g : PyData → PyData → R PyData) : Prop := ∀ (x y : PyData) (v u : V) (Hi H : Hp) (Q : VK), Rp Hi v x → Rp Hi u y → Sub Hi H → PV ca E Hi H (g x y) Q → r v u H Q
theorem two {ta tb : TE} (qa : ∀ (He : Hp) (env : Ev) (σ : St) (Hi H : Hp) (Q : VK), Slots He env σ Hi H → Sub Hi H → PV ca E Hi H (fa env) Q → ta σ H Q)
    (qb : ∀ (He : Hp) (env : Ev) (σ : St) (Hi H : Hp) (Q : VK), Slots He env σ Hi H → Sub Hi H → PV ca E Hi H (fb env) Q → tb σ H Q) (hg : Gv ca E r g) :
    ∀ (He : Hp) (env : Ev) (σ : St) (Hi H : Hp) (Q : VK), Slots He env σ Hi H → Sub Hi H → PV ca E Hi H (e2 g fa fb env) Q → tOp r ta tb σ H Q := fun He env σ Hi H Q S s h => by
  refine qa He env σ Hi H _ S s ?_
  have h1 := PV.bind h
  cases ea : fa env with
  | stuck => rw [ea] at h1; exact h1.elim
  | exc c => rw [ea] at h1; exact h1
  | ok x =>
    rw [ea] at h1
    intro v Hi1 H1 x1 r1
    obtain ⟨d, Hi', e, x1, r1, h2⟩ := h1 v Hi1 H1 x1 r1
    cases e
    refine qb He env σ Hi' H1 _ (S.ex x1) x1.le ?_
    have h3 := PV.bind h2
    cases eb : fb env with
    | stuck => rw [eb] at h3; exact h3.elim
    | exc c => rw [eb] at h3; exact h3
    | ok y =>
      rw [eb] at h3
      intro u Hi2 H2 x2 r2
      obtain ⟨d', Hi'', e, x2, r2, h4⟩ := h3 u Hi2 H2 x2 r2
      cases e
      exact hg _ _ v u Hi'' H2 Q (r1.sub x2.im) r2 x2.le h4
theorem okE_op {op : Operator} (ho : OpR X (binaryOp op) r) (hg : Gv ca E r g) (ha : OkE ca E X a fa) (hb : OkE ca E X b fb) : OkE ca E X (.BinOp a op b pos) (e2 g fa fb) := by
  obtain ⟨ta, pa, qa⟩ := ha
  obtain ⟨tb, pb, qb⟩ := hb
  exact ⟨_, pe_op ho pa pb, two qa qb hg⟩
theorem okE_cmp {op : CmpOp} (ho : OpR X (compareOp op) r) (hg : Gv ca E r g) (ha : OkE ca E X a fa) (hb : OkE ca E X b fb) (hm : behindInMarks op b = false := by first | exact nomark _ | rfl) : OkE ca E X (.Compare a [op] [b] pos) (e2 g fa fb) := by
  obtain ⟨ta, pa, qa⟩ := ha
  obtain ⟨tb, pb, qb⟩ := hb
  exact ⟨_, pe_cmpR ho pa pb hm, two qa qb hg⟩
/-- a value as a test -/
theorem tTest_of {t : TE} {f : Ev → R PyData} (q : ∀ (He : Hp) (env : Ev) (σ : St) (Hi H : Hp) (Q : VK), Slots He env σ Hi H → Sub Hi H → PV ca E Hi H (f env) Q → t σ H Q) :
    ∀ (He : Hp) (env : Ev) (σ : St) (Hi H : Hp) (Q : Bool → Hp → Prop), Slots He env σ Hi H → Sub Hi H → PB ca E Hi H (asB (f env)) Q → tTest t σ H Q := fun He env σ Hi H Q S s h => q He env σ Hi H _ S s (PV.ofB h)
theorem okT_cmp {op : CmpOp} (ho : OpR X (compareOp op) r) (hg : Gv ca E r g) (ha : OkE ca E X a fa) (hb : OkE ca E X b fb) (hm : behindInMarks op b = false := by first | exact nomark _ | rfl) : OkT ca E X (.Compare a [op] [b] pos) (e2 g fa fb) := by
  obtain ⟨ta, pa, qa⟩ := ha
  obtain ⟨tb, pb, qb⟩ := hb
  exact ⟨_, pt_cmpR ho pa pb hm, tTest_of (two qa qb hg)⟩
/-- any expression whose value is a bool -/
theorem okT_val {e : Expr} {f : Ev → R PyData} (h : OkE ca E X e f) (he : ∀ whole, isTrue e X.env whole = (do let v ← whole; standAt e.pos; holding [v] (truthy v)) := by intro _; rfl) : OkT ca E X e f := by
  obtain ⟨t, p, q⟩ := h
  exact ⟨_, pt_val p he, fun He env σ Hi H Q S s h => q He env σ Hi H _ S s (PV.ofB h)⟩

/-! ### a < b < c -/
def eChain (g g' : PyData → PyData → R PyData) (fa fb fc : Ev → R PyData) : Ev → R PyData := fun env => (fa env).bind fun x => (fb env).bind fun y => (g x y).bind fun z => match z with
  | .bool true => (fc env).bind fun w => g' y w
  | .bool false => .ok (.bool false)
  | _ => .stuck
theorem chain_ok {ta tb tc : TE} {r' : R2} {g' : PyData → PyData → R PyData} (qa : ∀ (He : Hp) (env : Ev) (σ : St) (Hi H : Hp) (Q : VK), Slots He env σ Hi H → Sub Hi H → PV ca E Hi H (fa env) Q → ta σ H Q)
    (qb : ∀ (He : Hp) (env : Ev) (σ : St) (Hi H : Hp) (Q : VK), Slots He env σ Hi H → Sub Hi H → PV ca E Hi H (fb env) Q → tb σ H Q) (qc : ∀ (He : Hp) (env : Ev) (σ : St) (Hi H : Hp) (Q : VK), Slots He env σ Hi H → Sub Hi H → PV ca E Hi H (fc env) Q → tc σ H Q)
    (hg : Gv ca E r g) (hg' : Gv ca E r' g') :
    ∀ (He : Hp) (env : Ev) (σ : St) (Hi H : Hp) (Q : VK), Slots He env σ Hi H → Sub Hi H → PV ca E Hi H (eChain g g' fa fb fc env) Q → tChain r r' ta tb tc σ H Q := fun He env σ Hi H Q S s h => by
  refine qa He env σ Hi H _ S s ?_
  have h1 := PV.bind h
  cases ea : fa env with
  | stuck => rw [ea] at h1; exact h1.elim
  | exc c => rw [ea] at h1; exact h1
  | ok x =>
    rw [ea] at h1
    intro v Hi1 H1 x1 r1
    obtain ⟨d, Hi', e, x1, r1, h2⟩ := h1 v Hi1 H1 x1 r1
    cases e
    refine qb He env σ Hi' H1 _ (S.ex x1) x1.le ?_
    have h3 := PV.bind h2
    cases eb : fb env with
    | stuck => rw [eb] at h3; exact h3.elim
    | exc c => rw [eb] at h3; exact h3
    | ok y =>
      rw [eb] at h3
      intro u Hi2 H2 x2 r2
      obtain ⟨d', Hi'', e, x2, r2, h4⟩ := h3 u Hi2 H2 x2 r2
      cases e
      refine hg _ _ v u Hi'' H2 _ (r1.sub x2.im) r2 x2.le ?_
      have h5 := PV.bind h4
      cases eg : g x y with
      | stuck => rw [eg] at h5; exact h5.elim
      | exc c => rw [eg] at h5; exact h5
      | ok z =>
        rw [eg] at h5
        intro zv Hi3 H3 x3 r3
        obtain ⟨d', Hi4, e, x3, r3, h6⟩ := h5 zv Hi3 H3 x3 r3
        cases e
        cases z with
        | bool k =>
          cases r3
          refine ⟨k, rfl, ?_⟩
          cases k with
          | false => exact h6 _ _ _ (.refl x3.le) (.bl _)
          | true =>
            rw [if_pos rfl]
            refine qc He env σ Hi4 H3 _ (((S.ex x1).ex x2).ex x3) x3.le ?_
            have h7 := PV.bind h6
            cases ec : fc env with
            | stuck => rw [ec] at h7; exact h7.elim
            | exc c => rw [ec] at h7; exact h7
            | ok w' =>
              rw [ec] at h7
              intro wv Hi5 H5 x5 r5
              obtain ⟨d', Hi6, e, x5, r5, h8⟩ := h7 wv Hi5 H5 x5 r5
              cases e
              exact hg' _ _ u wv Hi6 H5 Q ((r2.sub x3.im).sub x5.im) r5 x5.le h8
        | none => exact h6.elim
        | int _ => exact h6.elim
        | str _ => exact h6.elim
        | list _ => exact h6.elim
        | tuple _ => exact h6.elim
        | dict _ => exact h6.elim
theorem okE_chain {op op' : CmpOp} {r' : R2} {g' : PyData → PyData → R PyData} (ho : OpR X (compareOp op) r) (ho' : OpR X (compareOp op') r') (hg : Gv ca E r g) (hg' : Gv ca E r' g') (ha : OkE ca E X a fa) (hb : OkE ca E X b fb) (hc : OkE ca E X c fc)
    (hm : lastMarks [op, op'] [b, c] = false := by with_unfolding_all rfl) : OkE ca E X (.Compare a [op, op'] [b, c] pos) (eChain g g' fa fb fc) := by
  obtain ⟨ta, pa, qa⟩ := ha
  obtain ⟨tb, pb, qb⟩ := hb
  obtain ⟨tc, pc, qc⟩ := hc
  exact ⟨_, pe_chain ho ho' pa pb pc hm, chain_ok qa qb qc hg hg'⟩
theorem okT_chain {op op' : CmpOp} {r' : R2} {g' : PyData → PyData → R PyData} (ho : OpR X (compareOp op) r) (ho' : OpR X (compareOp op') r') (hg : Gv ca E r g) (hg' : Gv ca E r' g') (ha : OkE ca E X a fa) (hb : OkE ca E X b fb) (hc : OkE ca E X c fc)
    (hm : lastMarks [op, op'] [b, c] = false := by with_unfolding_all rfl) : OkT ca E X (.Compare a [op, op'] [b, c] pos) (eChain g g' fa fb fc) := by
  obtain ⟨ta, pa, qa⟩ := ha
  obtain ⟨tb, pb, qb⟩ := hb
  obtain ⟨tc, pc, qc⟩ := hc
  exact ⟨_, pt_chain ho ho' pa pb pc hm, tTest_of (chain_ok qa qb qc hg hg')⟩

/-! ### and, or, not, if -/
variable {rest : List Expr}
def eAnd (fa fb : Ev → R PyData) : Ev → R PyData := fun env => (asB (fa env)).bind fun k => match k with
  | true => fb env
  | false => .ok (.bool false)
def eOr (fa fb : Ev → R PyData) : Ev → R PyData := fun env => (asB (fa env)).bind fun k => match k with
  | true => .ok (.bool true)
  | false => fb env
def eNot (fa : Ev → R PyData) : Ev → R PyData := fun env => (asB (fa env)).bind fun k => .ok (.bool (!k))
def eIf (fc fa fb : Ev → R PyData) : Ev → R PyData := fun env => (asB (fc env)).bind fun k => match k with
  | true => fa env
  | false => fb env
theorem okE_one {op} (h : OkE ca E X a fa) : OkE ca E X (.BoolOp op [a] pos) fa := by
  obtain ⟨t, p, q⟩ := h
  exact ⟨_, pe_one p, q⟩
theorem okE_and (ha : OkE ca E X a fa) (hb : OkE ca E X (.BoolOp .And (b :: rest) pos) fb) : OkE ca E X (.BoolOp .And (a :: b :: rest) pos) (eAnd fa fb) := by
  obtain ⟨ta, pa, qa⟩ := ha
  obtain ⟨tb, pb, qb⟩ := hb
  refine ⟨_, pe_and pa pb, fun He env σ Hi H Q S s h => qa He env σ Hi H _ S s ?_⟩
  have h1 := PV.bindB h
  refine PV.ofB (r := fa env) (Q := fun c H1 => if c = true then tb σ H1 Q else Q (.bl false) H1) ?_
  cases ea : asB (fa env) with
  | stuck => rw [ea] at h1; exact h1.elim
  | exc c => rw [ea] at h1; exact h1
  | ok k =>
    rw [ea] at h1
    intro Hi1 H1 x1
    obtain ⟨Hi', e, x1, h2⟩ := h1 Hi1 H1 x1
    cases k with
    | true => exact qb He env σ Hi' H1 Q (S.ex x1) x1.le h2
    | false => exact h2 _ _ _ (.refl x1.le) (.bl _)
theorem okE_or (ha : OkE ca E X a fa) (hb : OkE ca E X (.BoolOp .Or (b :: rest) pos) fb) : OkE ca E X (.BoolOp .Or (a :: b :: rest) pos) (eOr fa fb) := by
  obtain ⟨ta, pa, qa⟩ := ha
  obtain ⟨tb, pb, qb⟩ := hb
  refine ⟨_, pe_or pa pb, fun He env σ Hi H Q S s h => qa He env σ Hi H _ S s ?_⟩
  have h1 := PV.bindB h
  refine PV.ofB (r := fa env) (Q := fun c H1 => if c = true then Q (.bl true) H1 else tb σ H1 Q) ?_
  cases ea : asB (fa env) with
  | stuck => rw [ea] at h1; exact h1.elim
  | exc c => rw [ea] at h1; exact h1
  | ok k =>
    rw [ea] at h1
    intro Hi1 H1 x1
    obtain ⟨Hi', e, x1, h2⟩ := h1 Hi1 H1 x1
    cases k with
    | true => exact h2 _ _ _ (.refl x1.le) (.bl _)
    | false => exact qb He env σ Hi' H1 Q (S.ex x1) x1.le h2
theorem okE_not (ha : OkE ca E X a fa) : OkE ca E X (.UnaryOp .Not a pos) (eNot fa) := by
  obtain ⟨ta, pa, qa⟩ := ha
  refine ⟨_, pe_not pa, fun He env σ Hi H Q S s h => qa He env σ Hi H _ S s ?_⟩
  have h1 := PV.bindB h
  refine PV.ofB (r := fa env) (Q := fun c H1 => Q (.bl (!c)) H1) ?_
  cases ea : asB (fa env) with
  | stuck => rw [ea] at h1; exact h1.elim
  | exc c => rw [ea] at h1; exact h1
  | ok k =>
    rw [ea] at h1
    intro Hi1 H1 x1
    obtain ⟨Hi', e, x1, h2⟩ := h1 Hi1 H1 x1
    exact h2 _ _ _ (.refl x1.le) (.bl _)
/-- .. as tests -/
def OkW (ca : Nat → Addr) (E : XK) (X : Cx) (e : Expr) (f : Ev → R PyData) : Prop := ∃ t, PW X e t ∧ ∀ (He : Hp) (env : Ev) (σ : St) (Hi H : Hp) (Q : Bool → Hp → Prop), Slots He env σ Hi H → Sub Hi H → PB ca E Hi H (asB (f env)) Q → t σ H Q
theorem OkW.t {e : Expr} {f : Ev → R PyData} (h : OkW ca E X e f) : OkT ca E X e f := by
  obtain ⟨t, p, q⟩ := h
  exact ⟨t, p.pt, q⟩
theorem okW_and1 (ha : OkT ca E X a fa) : OkW ca E X (.BoolOp .And [a] pos) fa := by
  obtain ⟨ta, pa, qa⟩ := ha
  exact ⟨_, pw_and1 pa, qa⟩
theorem okW_or1 (ha : OkT ca E X a fa) : OkW ca E X (.BoolOp .Or [a] pos) fa := by
  obtain ⟨ta, pa, qa⟩ := ha
  exact ⟨_, pw_or1 pa, qa⟩
theorem PB.bindB {Hi H : Hp} {r : R Bool} {f : Bool → R PyData} {Q : Bool → Hp → Prop} (h : PB ca E Hi H (asB (r.bind f)) Q) : PB ca E Hi H r fun b H' => ∃ Hi', r = .ok b ∧ Ex Hi H Hi' H' ∧ PB ca E Hi' H' (asB (f b)) Q := by
  cases r with
  | stuck => exact h
  | ok d => exact fun Hi' H' x => ⟨Hi', rfl, x, PB.ex x h⟩
  | exc c => exact h
theorem okW_and (ha : OkT ca E X a fa) (hb : OkW ca E X (.BoolOp .And (b :: rest) pos) fb) : OkW ca E X (.BoolOp .And (a :: b :: rest) pos) (eAnd fa fb) := by
  obtain ⟨ta, pa, qa⟩ := ha
  obtain ⟨tb, pb, qb⟩ := hb
  refine ⟨_, pw_and pa pb, fun He env σ Hi H Q S s h => qa He env σ Hi H _ S s ?_⟩
  have h1 := PB.bindB h
  cases ea : asB (fa env) with
  | stuck => rw [ea] at h1; exact h1.elim
  | exc c => rw [ea] at h1; exact h1
  | ok k =>
    rw [ea] at h1
    intro Hi1 H1 x1
    obtain ⟨Hi', e, x1, h2⟩ := h1 Hi1 H1 x1
    cases k with
    | true => exact qb He env σ Hi' H1 Q (S.ex x1) x1.le h2
    | false => exact h2 _ _ (.refl x1.le)
theorem okW_or (ha : OkT ca E X a fa) (hb : OkW ca E X (.BoolOp .Or (b :: rest) pos) fb) : OkW ca E X (.BoolOp .Or (a :: b :: rest) pos) (eOr fa fb) := by
  obtain ⟨ta, pa, qa⟩ := ha
  obtain ⟨tb, pb, qb⟩ := hb
  refine ⟨_, pw_or pa pb, fun He env σ Hi H Q S s h => qa He env σ Hi H _ S s ?_⟩
  have h1 := PB.bindB h
  cases ea : asB (fa env) with
  | stuck => rw [ea] at h1; exact h1.elim
  | exc c => rw [ea] at h1; exact h1
  | ok k =>
    rw [ea] at h1
    intro Hi1 H1 x1
    obtain ⟨Hi', e, x1, h2⟩ := h1 Hi1 H1 x1
    cases k with
    | true => exact h2 _ _ (.refl x1.le)
    | false => exact qb He env σ Hi' H1 Q (S.ex x1) x1.le h2
theorem okT_not (ha : OkT ca E X a fa) : OkT ca E X (.UnaryOp .Not a pos) (eNot fa) := by
  obtain ⟨ta, pa, qa⟩ := ha
  refine ⟨_, pt_not pa, fun He env σ Hi H Q S s h => qa He env σ Hi H _ S s ?_⟩
  have h1 := PB.bindB h
  cases ea : asB (fa env) with
  | stuck => rw [ea] at h1; exact h1.elim
  | exc c => rw [ea] at h1; exact h1
  | ok k =>
    rw [ea] at h1
    intro Hi1 H1 x1
    obtain ⟨Hi', e, x1, h2⟩ := h1 Hi1 H1 x1
    exact h2 _ _ (.refl x1.le)
theorem okE_if (hc : OkT ca E X c fc) (ha : OkE ca E X a fa) (hb : OkE ca E X b fb) : OkE ca E X (.IfExp c a b pos) (eIf fc fa fb) := by
  obtain ⟨ta, pa, qa⟩ := ha
  obtain ⟨tb, pb, qb⟩ := hb
  obtain ⟨tc, pc, qc⟩ := hc
  refine ⟨_, pe_ifExp pc pa pb, fun He env σ Hi H Q S s h => qc He env σ Hi H _ S s ?_⟩
  have h1 := PV.bindB h
  cases ec : asB (fc env) with
  | stuck => rw [ec] at h1; exact h1.elim
  | exc c => rw [ec] at h1; exact h1
  | ok k =>
    rw [ec] at h1
    intro Hi1 H1 x1
    obtain ⟨Hi', e, x1, h2⟩ := h1 Hi1 H1 x1
    cases k with
    | true => exact qa He env σ Hi' H1 Q (S.ex x1) x1.le h2
    | false => exact qb He env σ Hi' H1 Q (S.ex x1) x1.le h2

/-! ### arguments, tuples, lists -/
variable {e : Expr} {es : List Expr} {f : Ev → R PyData} {fs : Ev → R (List PyData)}
def aNil : Ev → R (List PyData) := fun _ => .ok []
def aCons (f : Ev → R PyData) (fs : Ev → R (List PyData)) : Ev → R (List PyData) := fun env => (f env).bind fun d => (fs env).bind fun ds => .ok (d :: ds)
theorem okA_nil : OkA ca E X [] aNil := ⟨_, pa_nil, fun He env σ Hi H Q S s h => h [] Hi H (.refl s) .nil⟩
theorem PL.bind {Hi H : Hp} {r : R PyData} {f : PyData → R (List PyData)} {Q : List V → Hp → Prop} (h : PL ca E Hi H (r.bind f) Q) : PV ca E Hi H r fun v H' => ∃ d Hi', r = .ok d ∧ Ex Hi H Hi' H' ∧ Rp Hi' v d ∧ PL ca E Hi' H' (f d) Q := by
  cases r with
  | stuck => exact h
  | ok d => exact fun v Hi' H' x q => ⟨d, Hi', rfl, x, q, PL.ex x h⟩
  | exc c => exact h
theorem PL.bindL {Hi H : Hp} {r : R (List PyData)} {f : List PyData → R (List PyData)} {Q : List V → Hp → Prop} (h : PL ca E Hi H (r.bind f) Q) : PL ca E Hi H r fun v H' => ∃ d Hi', r = .ok d ∧ Ex Hi H Hi' H' ∧ RpAll Hi' v d ∧ PL ca E Hi' H' (f d) Q := by
  cases r with
  | stuck => exact h
  | ok d => exact fun v Hi' H' x q => ⟨d, Hi', rfl, x, q, PL.ex x h⟩
  | exc c => exact h
theorem okA_cons (ha : OkE ca E X e f) (hr : OkA ca E X es fs) (hs : starEach (e :: es) X.env = (false, eval e X.env) :: starEach es X.env := by rfl) : OkA ca E X (e :: es) (aCons f fs) := by
  obtain ⟨ta, pa, qa⟩ := ha
  obtain ⟨tb, pb, qb⟩ := hr
  refine ⟨_, pa_cons pa pb hs, fun He env σ Hi H Q S s h => qa He env σ Hi H _ S s ?_⟩
  have h1 := PL.bind h
  cases ea : f env with
  | stuck => rw [ea] at h1; exact h1.elim
  | exc c => rw [ea] at h1; exact h1
  | ok x =>
    rw [ea] at h1
    intro v Hi1 H1 x1 r1
    obtain ⟨d, Hi', e, x1, r1, h2⟩ := h1 v Hi1 H1 x1 r1
    cases e
    refine qb He env σ Hi' H1 _ (S.ex x1) x1.le ?_
    have h3 := PL.bindL h2
    cases eb : fs env with
    | stuck => rw [eb] at h3; exact h3.elim
    | exc c => rw [eb] at h3; exact h3
    | ok y =>
      rw [eb] at h3
      intro u Hi2 H2 x2 r2
      obtain ⟨d', Hi'', e, x2, r2, h4⟩ := h3 u Hi2 H2 x2 r2
      cases e
      exact h4 _ _ _ (.refl x2.le) (.cons (r1.sub x2.im) r2)
/-- few enough items for every list -/
theorem few {n : Nat} (h : Nat.ble n 4000 = true) : n ≤ sizeLine := by
  have := Nat.le_of_ble_eq_true h
  rw [sizeLine_eq]
  omega
def eTup (fs : Ev → R (List PyData)) : Ev → R PyData := fun env => (fs env).bind fun ds => if Nat.ble ds.length 4000 then .ok (.tuple ds) else .stuck
def eLst (fs : Ev → R (List PyData)) : Ev → R PyData := fun env => (fs env).bind fun ds => if Nat.ble ds.length 4000 then .ok (.list ds) else .stuck
theorem okE_tup {k} (h : OkA ca E X es fs) : OkE ca E X (.Tuple es k pos) (eTup fs) := by
  obtain ⟨ta, pa, qa⟩ := h
  refine ⟨_, pe_tup pa, fun He env σ Hi H Q S s h => qa He env σ Hi H _ S s ?_⟩
  have h1 := PV.bindL h
  cases ea : fs env with
  | stuck => rw [ea] at h1; exact h1.elim
  | exc c => rw [ea] at h1; exact h1
  | ok x =>
    rw [ea] at h1
    intro vs Hi1 H1 x1 r1
    obtain ⟨d, Hi', e, x1, r1, h2⟩ := h1 vs Hi1 H1 x1 r1
    cases e
    have hl := r1.length
    split at h2
    · rename_i hz
      refine ⟨by rw [hl]; exact few hz, fun p hp => h2 _ _ _ (.new x1.le hp) (.tup upd_same (r1.sub (Sub.up (x1.le.nn hp))))⟩
    · exact h2.elim
theorem okE_lst (h : OkA ca E X es fs) : OkE ca E X (.List es pos) (eLst fs) := by
  obtain ⟨ta, pa, qa⟩ := h
  refine ⟨_, pe_lst pa, fun He env σ Hi H Q S s h => qa He env σ Hi H _ S s ?_⟩
  have h1 := PV.bindL h
  cases ea : fs env with
  | stuck => rw [ea] at h1; exact h1.elim
  | exc c => rw [ea] at h1; exact h1
  | ok x =>
    rw [ea] at h1
    intro vs Hi1 H1 x1 r1
    obtain ⟨d, Hi', e, x1, r1, h2⟩ := h1 vs Hi1 H1 x1 r1
    cases e
    have hl := r1.length
    split at h2
    · rename_i hz
      refine ⟨by rw [hl]; exact few hz, fun p hp => h2 _ _ _ (.new x1.le hp) (.lst upd_same (r1.sub (Sub.up (x1.le.nn hp))))⟩
    · exact h2.elim
end
end PD
/-! text P4 -/
set_option maxHeartbeats 5000000
namespace PD
open PySem.Spec PySem PyProof.Rows L2

section
variable {ca : Nat → Addr} {E : XK} {X : Cx} {pos : Pos}
theorem PV.no {Hi H : Hp} {Q : VK} {P : Prop} (h : PV ca E Hi H .stuck Q) : P := h.elim

/-! ### + -/
def gAdd : PyData → PyData → R PyData
  | .int i, .int j => .ok (.int (i + j))
  | .list a, .list b => if Nat.ble (a.length + b.length) 4000 then .ok (.list (a ++ b)) else .stuck
  | .tuple a, .tuple b => if Nat.ble (a.length + b.length) 4000 then .ok (.tuple (a ++ b)) else .stuck
  | .str a, .str b => if Nat.ble (a.length + b.length) 4000 then .ok (.str (a ++ b)) else .stuck
  | _, _ => .stuck
def rAddU (K : PySem.W.Frag) : R2 := fun x y H Q => rI0 (fun i j => .int (i + j)) x y H Q ∨ (rCat x y H Q ∨ (rCatA K x y H Q ∨ (∃ i j, x = .str i ∧ y = .str j ∧ i.length + j.length ≤ sizeLine ∧ Q (.str (i ++ j)) H)))
theorem op_addU : OpR X (binaryOp .Add) (rAddU X.K) := op_add.or (op_cat.or (op_catA.or op_add_str))
theorem gv_add {K : PySem.W.Frag} : Gv ca E (rAddU K) gAdd := by
  intro x y v u Hi H Q rx ry s h
  cases rx with
  | int i =>
    cases ry with
    | int j => exact .inl ⟨i, j, rfl, rfl, h _ _ _ (.refl s) (.int _)⟩
    | _ => exact PV.no h
  | @lst a xs ds ea ra =>
    cases ry with
    | @lst b ys es eb rb =>
      dsimp only [gAdd] at h
      split at h
      · rename_i hz
        refine .inr (.inl ⟨a, b, xs, ys, rfl, rfl, s _ _ ea, s _ _ eb, ?_, fun p hp => h _ _ _ (.new s hp) (.lst upd_same ((ra.append rb).sub (Sub.up (s.nn hp))))⟩)
        rw [ra.length, rb.length]
        exact few hz
      · exact PV.no h
    | _ => exact PV.no h
  | @tup a xs ds ea ra =>
    cases ry with
    | @tup b ys es eb rb =>
      dsimp only [gAdd] at h
      split at h
      · rename_i hz
        refine .inr (.inr (.inl ⟨a, b, xs, ys, rfl, rfl, .inl (.inl (s _ _ ea)), .inl (.inl (s _ _ eb)), ?_, fun e => ?_, fun _ e => ?_, fun _ _ p hp => h _ _ _ (.new s hp) (.tup upd_same ((ra.append rb).sub (Sub.up (s.nn hp))))⟩))
        · rw [ra.length, rb.length]
          exact few hz
        · subst e
          cases ra
          exact h _ _ _ (.refl s) (.tup eb rb)
        · subst e
          cases rb
          rw [List.append_nil] at h
          exact h _ _ _ (.refl s) (.tup ea ra)
      · exact PV.no h
    | _ => exact PV.no h
  | str i =>
    cases ry with
    | str j =>
      dsimp only [gAdd] at h
      split at h
      · rename_i hz
        exact .inr (.inr (.inr ⟨i, j, rfl, rfl, few hz, h _ _ _ (.refl s) (.str _)⟩))
      · exact PV.no h
    | _ => exact PV.no h
  | _ => cases ry <;> exact PV.no h
/-! ### -, *, %, // -/
def gSub : PyData → PyData → R PyData
  | .int i, .int j => .ok (.int (i - j))
  | _, _ => .stuck
theorem gv_sub : Gv ca E (rI0 fun i j => .int (i - j)) gSub := by
  intro x y v u Hi H Q rx ry s h
  cases rx with
  | int i =>
    cases ry with
    | int j => exact ⟨i, j, rfl, rfl, h _ _ _ (.refl s) (.int _)⟩
    | _ => exact PV.no h
  | _ => cases ry <;> exact PV.no h
def smallI (i : Int) : Bool := Nat.ble i.natAbs 1000000000
def gMul : PyData → PyData → R PyData
  | .int i, .int j => if smallI i then .ok (.int (i * j)) else .stuck
  | _, _ => .stuck
theorem gv_mul : Gv ca E (rI CMul fun i j => .int (i * j)) gMul := by
  intro x y v u Hi H Q rx ry s h
  cases rx with
  | int i =>
    cases ry with
    | int j =>
      dsimp only [gMul] at h
      split at h
      · rename_i hz
        have := Nat.le_of_ble_eq_true hz
        exact ⟨i, j, rfl, rfl, .inl (by omega), h _ _ _ (.refl s) (.int _)⟩
      · exact PV.no h
    | _ => exact PV.no h
  | _ => cases ry <;> exact PV.no h
def gMod : PyData → PyData → R PyData
  | .int i, .int j => match j with
    | .ofNat (n + 1) => .ok (.int (i.fmod (.ofNat (n + 1))))
    | _ => .stuck
  | _, _ => .stuck
theorem gv_mod : Gv ca E (rI (fun _ j => j ≠ 0) fun i j => .int (i.fmod j)) gMod := by
  intro x y v u Hi H Q rx ry s h
  cases rx with
  | int i =>
    cases ry with
    | int j =>
      dsimp only [gMod] at h
      split at h
      · rename_i n
        refine ⟨i, _, rfl, rfl, ?_, h _ _ _ (.refl s) (.int _)⟩
        intro z
        cases z
      · exact PV.no h
    | _ => exact PV.no h
  | _ => cases ry <;> exact PV.no h
def gDiv : PyData → PyData → R PyData
  | .int i, .int j => match j with
    | .ofNat (n + 1) => if Nat.ble n 1000000 then .ok (.int (i.fdiv (.ofNat (n + 1)))) else .stuck
    | _ => .stuck
  | _, _ => .stuck
theorem gv_div : Gv ca E (rI CDivN fun i j => .int (i.fdiv j)) gDiv := by
  intro x y v u Hi H Q rx ry s h
  cases rx with
  | int i =>
    cases ry with
    | int j =>
      dsimp only [gDiv] at h
      split at h
      · rename_i n
        split at h
        · rename_i hz
          have hz := Nat.le_of_ble_eq_true hz
          refine ⟨i, _, rfl, rfl, ⟨?_, ?_⟩, h _ _ _ (.refl s) (.int _)⟩
          · intro z
            cases z
          · show n + 1 < _
            omega
        · exact PV.no h
      · exact PV.no h
    | _ => exact PV.no h
  | _ => cases ry <;> exact PV.no h
/-! ### comparisons of ints, of tuples of ints -/
def ltI (i j : Int) : Bool := decide (i < j)
def gInt (p : Int → Int → Bool) : PyData → PyData → R PyData
  | .int i, .int j => .ok (.bool (p i j))
  | _, _ => .stuck
theorem gv_int {p : Int → Int → Bool} : Gv ca E (rI0 fun i j => .bl (p i j)) (gInt p) := by
  intro x y v u Hi H Q rx ry s h
  cases rx with
  | int i =>
    cases ry with
    | int j => exact ⟨i, j, rfl, rfl, h _ _ _ (.refl s) (.bl _)⟩
    | _ => exact PV.no h
  | _ => cases ry <;> exact PV.no h
def intsOf : List PyData → Option (List Int)
  | [] => some []
  | .int i :: r => match intsOf r with
    | some l => some (i :: l)
    | none => none
  | _ :: _ => none
theorem intsOf_eq : ∀ {ds : List PyData} {ns : List Int}, intsOf ds = some ns → ds = ns.map PyData.int
  | [], ns, h => by
    unfold intsOf at h
    cases h
    rfl
  | .int i :: r, ns, h => by
    unfold intsOf at h
    cases e : intsOf r with
    | none => rw [e] at h; cases h
    | some l =>
      rw [e] at h
      cases h
      rw [List.map_cons, ← intsOf_eq e]
  | .none :: _, _, h => by cases h
  | .bool _ :: _, _, h => by cases h
  | .str _ :: _, _, h => by cases h
  | .list _ :: _, _, h => by cases h
  | .tuple _ :: _, _, h => by cases h
  | .dict _ :: _, _, h => by cases h
theorem vals_ints : ∀ {H : Hp} {vs : List V} {ns : List Int}, RpAll H vs (ns.map PyData.int) → vs = ns.map V.int
  | _, [], [], .nil => rfl
  | H, v :: vs, n :: ns, h => by
    rw [List.map_cons] at h
    cases h with
    | cons r t =>
      cases r
      rw [vals_ints t]
      rfl
  | _, _ :: _, [], h => by cases h
  | _, [], _ :: _, h => by
    rw [List.map_cons] at h
    cases h
def gLt : PyData → PyData → R PyData
  | .int i, .int j => .ok (.bool (decide (i < j)))
  | .tuple a, .tuple b => match intsOf a, intsOf b with
    | some ns, some ms => .ok (.bool (HT.lexLt ns ms))
    | _, _ => .stuck
  | _, _ => .stuck
def rLtU (K : PySem.W.Frag) : R2 := fun x y H Q => rI0 (fun i j => .bl (decide (i < j))) x y H Q ∨ rLtT K x y H Q
theorem op_ltU (hu : X.A.units < cLine) : OpR X (compareOp .Lt) (rLtU X.K) := op_lt.or (op_ltT hu)
theorem gv_lt {K : PySem.W.Frag} : Gv ca E (rLtU K) gLt := by
  intro x y v u Hi H Q rx ry s h
  cases rx with
  | int i =>
    cases ry with
    | int j => exact .inl ⟨i, j, rfl, rfl, h _ _ _ (.refl s) (.bl _)⟩
    | _ => exact PV.no h
  | @tup a xs ds ea ra =>
    cases ry with
    | @tup b ys es eb rb =>
      dsimp only [gLt] at h
      split at h
      · rename_i ns ms h1 h2
        have e1 := intsOf_eq h1
        have e2 := intsOf_eq h2
        subst e1 e2
        have e3 := vals_ints ra
        have e4 := vals_ints rb
        subst e3 e4
        exact .inr ⟨a, b, ns, ms, rfl, rfl, .inl (.inl (s _ _ ea)), .inl (.inl (s _ _ eb)), h _ _ _ (.refl s) (.bl _)⟩
      · exact PV.no h
    | _ => exact PV.no h
  | _ => cases ry <;> exact PV.no h
/-! ### ==, != -/
def gEq : PyData → PyData → R PyData := fun x y => match shp 9 x && shp 9 y with
  | true => .ok (.bool (eqF 9 x y))
  | false => .stuck
def gNe : PyData → PyData → R PyData := fun x y => match shp 9 x && shp 9 y with
  | true => .ok (.bool (!eqF 9 x y))
  | false => .stuck
theorem shp2 {x y : PyData} (h : (shp 9 x && shp 9 y) = true) : SeqAt.shaped x = true ∧ SeqAt.shaped y = true := by
  obtain ⟨h1, h2⟩ := Bool.and_eq_true_iff.mp h
  exact ⟨shp_shaped h1, shp_shaped h2⟩
theorem gv_eq {K : PySem.W.Frag} : Gv ca E (rEqD K) gEq := by
  intro x y v u Hi H Q rx ry s h
  unfold gEq at h
  split at h
  · rename_i hz
    obtain ⟨h1, h2⟩ := shp2 hz
    rw [eqF_ok] at h
    exact ⟨x, y, rx.dp s (SeqAt.canLay_of_shaped h1), ry.dp s (SeqAt.canLay_of_shaped h2), h1, h2, h _ _ _ (.refl s) (.bl _)⟩
  · exact PV.no h
theorem gv_ne {K : PySem.W.Frag} : Gv ca E (rNeD K) gNe := by
  intro x y v u Hi H Q rx ry s h
  unfold gNe at h
  split at h
  · rename_i hz
    obtain ⟨h1, h2⟩ := shp2 hz
    rw [eqF_ok] at h
    exact ⟨x, y, rx.dp s (SeqAt.canLay_of_shaped h1), ry.dp s (SeqAt.canLay_of_shaped h2), h1, h2, h _ _ _ (.refl s) (.bl _)⟩
  · exact PV.no h
/-! ### is None, is True -/
def gIsN : PyData → PyData → R PyData := fun x y => match y with
  | .none => .ok (.bool (match x with | .none => true | _ => false))
  | _ => .stuck
def gNotN : PyData → PyData → R PyData := fun x y => match y with
  | .none => .ok (.bool (match x with | .none => false | _ => true))
  | .bool b => match x with
    | .bool a => .ok (.bool (!(a == b)))
    | _ => .stuck
  | _ => .stuck
theorem gv_isN : Gv ca E (fun x y H Q => y = .non ∧ Q (.bl (decide (x = .non))) H) gIsN := by
  intro x y v u Hi H Q rx ry s h
  cases ry with
  | non =>
    refine ⟨rfl, ?_⟩
    cases rx <;> exact h _ _ _ (.refl s) (.bl _)
  | _ => exact PV.no h
def rNotU : R2 := fun x y H Q => (y = .non ∧ Q (.bl (!decide (x = .non))) H) ∨ rNotB x y H Q
theorem op_notU : OpR X (compareOp .IsNot) rNotU := op_notN.or op_notBl
theorem gv_notN : Gv ca E rNotU gNotN := by
  intro x y v u Hi H Q rx ry s h
  cases ry with
  | non =>
    refine .inl ⟨rfl, ?_⟩
    cases rx <;> exact h _ _ _ (.refl s) (.bl _)
  | bl b =>
    cases rx with
    | bl a =>
      refine .inr ⟨a, b, rfl, rfl, ?_⟩
      have e : (a == b) = decide (a = b) := by cases a <;> cases b <;> rfl
      have h' : PV ca E Hi H (.ok (.bool (!(a == b)))) Q := h
      rw [e] at h'
      exact h' _ _ _ (.refl s) (.bl _)
    | _ => exact PV.no h
  | _ => exact PV.no h
end
end PD
/-! text P5 -/
set_option maxHeartbeats 5000000
namespace PD
open PySem.Spec PySem PyProof.Rows L2

/-! ### None is in no dict of cuttings -/
section
variable {prog : Program} {w : World} {A : Around} {E : Value → Shared → Prop} {s : Shared}
theorem eq_ref_none {q : Addr} {k : CK} {as : List Addr} {Q : Bool → Shared → Prop} (hu : A.units < cLine) (r : Reads s.heap (.ref q) (ckD k) as) (h : Q false s) : wpAny (model prog w) A (eqBool (.ref q) .none) Q E s := by
  refine SeqAt.eqAt_reads _ _ A s _ _ _ _ r .none (lay_ck _) (by simp [PyData.canLay0]) ?_ _ _ E Q ?_
  · simp [PyData.depth]
    exact hu
  · simp [ckD, PyData.eqv]
    exact h
theorem hash_none {Q : Int → Shared → Prop} (h : Q (reduceHash 0xFCA86420) { s with toks := s.toks + 1 }) : wpAny (model prog w) A (pyHash .none) Q E s :=
  W.pyHash_slot (T := "NoneType") rfl F.slot_NoneType_hash F.entry_NoneType_hash (F.args_NoneType_hash_1 _) (beq_builtin_none _) (.inl rfl) (wpAny_bind (wpAny_pure (wpAny_bind (wpAny_mkInt (wpAny_pure ⟨_, _, rfl, h⟩)))))
/-- what stands in the dict: references to cuttings -/
def AtCk (h : Heap) (v : Value) : Prop := ∃ (k : CK) (b : Addr) (as : List Addr), v = .ref b ∧ Reads h (.ref b) (ckD k) as
theorem quiet_none {st : List Value} {Q : Bool → Shared → Prop} (all : ∀ v ∈ st, AtCk s.heap v) (fin : Q false s) : wpAny (model prog w) A (tableMayTell .none st) Q E s := by
  unfold tableMayTell
  split
  case isTrue => exact wpAny_pure fin
  case isFalse =>
    refine wpAny_bind ?_
    rw [eqIsQuiet_byValue 8 (by rfl)]
    refine wpAny_pure (show wpAny _ _ (if (!true) = true then _ else _) Q E s from ?_)
    rw [if_neg (by decide)]
    refine wpAny_bind (wpAny_forIn_list _ (fun rest r z => z = s ∧ r = (none, ()) ∧ ∀ v ∈ rest, AtCk s.heap v) _ (fun v rest r z ⟨ez, er, h⟩ => ?_) (fun r z ⟨ez, er, _⟩ => ?_) _ _ ⟨rfl, rfl, all⟩)
    · subst ez er
      obtain ⟨k, b, as, ev, rb⟩ := h v List.mem_cons_self
      subst ev
      refine wpAny_bind (quiet_ck (d := 5) rb ?_)
      simp only [Bool.false_eq_true, ↓reduceIte, Bool.not_true]
      exact wpAny_pure ⟨rfl, rfl, fun u m => h u (List.mem_cons_of_mem _ m)⟩
    · subst ez er
      exact wpAny_pure fin
theorem find_none {d : Addr} {o : Obj} {es : Array DictEntry} {ep : Nat} {xs : List (CK × Addr × Value)} {hh : Int} {Q : Option Nat → Shared → Prop} (hu : A.units < cLine) (ho : s.heap.get? d = some o) (hd : o.data = .dict es ep) (he : es.toList = xs.map entC)
    (his : ∀ x ∈ xs, ∃ as, Reads s.heap (.ref x.2.1) (ckD x.1) as) (fin : Q none s) : wpAny (model prog w) A (dictFind d .none hh) Q E s := by
  have entry : ∀ {i : Nat} {e : DictEntry}, es[i]? = some e → ∃ x as, e = entC x ∧ Reads s.heap (.ref x.2.1) (ckD x.1) as := fun {i e} g => by
    have m : e ∈ xs.map entC := by rw [← he]; exact Array.mem_toList_iff.mpr (Array.mem_of_getElem? g)
    obtain ⟨x, mx, ex⟩ := List.mem_map.mp m
    exact ⟨x, (his x mx).elim fun as r => ⟨as, ex.symm, r⟩⟩
  have keys : ∀ v ∈ (placesWithHash es.size (fun i => es[i]?.map (·.hash)) hh).filterMap (fun i => es[i]?.map (·.key)), AtCk s.heap v := fun v m => by
    obtain ⟨i, _, g⟩ := List.mem_filterMap.mp m
    obtain ⟨e, ge, ek⟩ := Option.map_eq_some_iff.mp g
    obtain ⟨x, as, ex, r⟩ := entry ge
    exact ⟨x.1, x.2.1, as, by rw [← ek, ex] <;> rfl, r⟩
  unfold dictFind
  try with_reducible apply wpAny_holding
  refine wpAny_bind (wpAny_dictEntries ho hd (show wpAny _ _ (if (Value.none :: (placesWithHash es.size (fun i => es[i]?.map (·.hash)) hh).filterMap (fun i => es[i]?.map (·.key))).all carriedByValue = true then _ else _) _ _ _ from ?_))
  generalize hS : (placesWithHash es.size (fun i => es[i]?.map (·.hash)) hh).filterMap (fun i => es[i]?.map (·.key)) = st at keys ⊢
  by_cases plain : (Value.none :: st).all carriedByValue = true
  · -- no reference is carried by value: nothing of that hash stands there
    have empty : st = [] := List.eq_nil_iff_forall_not_mem.mpr fun v m => by
      obtain ⟨_, b, _, ev, _⟩ := keys v m
      have c := List.all_eq_true.mp plain v (List.mem_cons_of_mem _ m)
      rw [ev] at c
      cases c
    have bare : ∀ i ∈ placesWithHash es.size (fun i => es[i]?.map (·.hash)) hh, es[i]? = none := fun i m => Option.eq_none_iff_forall_not_mem.mpr fun e g => by
      have z : e.key ∈ st := by
        rw [← hS]
        exact List.mem_filterMap.mpr ⟨i, m, by rw [Option.mem_def.mp g] <;> rfl⟩
      rw [empty] at z
      cases z
    rw [if_pos plain]
    refine wpAny_bind (wpAny_forIn_list _ (fun rest r z => z = s ∧ r = (none, ()) ∧ ∀ i ∈ rest, es[i]? = none) _ (fun i rest r z ⟨ez, er, h⟩ => ?_) (fun r z ⟨ez, er, _⟩ => ?_) _ _ ⟨rfl, rfl, bare⟩)
    · subst ez er
      rw [h i List.mem_cons_self]
      exact wpAny_pure ⟨rfl, rfl, fun j m => h j (List.mem_cons_of_mem i m)⟩
    · subst ez er
      exact wpAny_pure fin
  · rw [if_neg plain]
    by_cases only : (st == [Value.none]) = true <;>
    (first | rw [if_pos only] | rw [if_neg only]) <;> (first | refine wpAny_bind (wpAny_pure (wpAny_bind ?_)) | refine wpAny_bind (quiet_none keys (wpAny_bind ?_))) <;> (
      refine wpAny_forIn_list _ (fun _ b z => z = s ∧ b = (none, none)) _ (fun i rest b z ⟨ez, eb⟩ => ?_) (fun b z ⟨ez, eb⟩ => by
        subst ez eb
        exact wpAny_pure fin) _ _ ⟨rfl, rfl⟩
      subst ez eb
      cases g : es[i]? with
      | none => exact wpAny_pure ⟨rfl, rfl⟩
      | some e =>
        obtain ⟨x, as, ex, r⟩ := entry g
        subst ex
        dsimp only
        split
        · refine wpAny_bind (wpAny_dictEpoch ho hd (wpAny_bind (eq_ref_none hu r (wpAny_bind (wpAny_dictEpoch ho hd ?_)))))
          rw [if_neg (by simp)]
          simp only [↓reduceIte, Bool.false_eq_true]
          first
            | exact wpAny_bind (wpAny_rule (wpAny_pure ⟨rfl, rfl⟩))
            | exact wpAny_bind (wpAny_rule (wpAny_bind (wpAny_pure (wpAny_pure ⟨rfl, rfl⟩))))
            | (refine wpAny_bind (wpAny_rule ?_)
               rw [if_neg (by simp)]
               first
                 | exact wpAny_pure ⟨rfl, rfl⟩
                 | exact wpAny_bind (wpAny_pure (wpAny_pure ⟨rfl, rfl⟩)))
        · exact wpAny_pure ⟨rfl, rfl⟩)
end
end PD
/-! text P6 -/
set_option maxHeartbeats 5000000
namespace PD
open PySem.Spec PySem PyProof.Rows L2

/-! ### a dict of cuttings over the heap -/
section
variable {X : Cx} {pins : List (Addr × Obj)} {σ : St} {H Hi : Hp} {s : Shared} {a : Addr} {o : Obj} {xs : List (CK × Addr × Value)} {kvs : List (PyData × PyData)}
theorem RpC.mem : ∀ {H : Hp} {xs : List (CK × Addr × Value)} {kvs : List (PyData × PyData)}, RpC H xs kvs → ∀ x ∈ xs, Rp H (.ref x.2.1) (ckD x.1)
  | _, _, _, .nil, x, h => by cases h
  | _, _, _, .cons k e r t, x, h => by
    rcases List.mem_cons.mp h with rfl | h
    · exact k
    · exact RpC.mem t x h
theorem ck_reads {q : Addr} {k : CK} (I : Inv X pins σ H s) (r : Rp H (.ref q) (ckD k)) : ∃ as, Reads s.heap (.ref q) (ckD k) as :=
  Dp.reads I (ckD k) (.ref q) (.ref q) (r.dp (K := X.K) (.refl H) (lay_ck k)) rfl
theorem dictAt (I : Inv X pins σ H s) (h : H a = some (dO a o xs)) (r : RpC H xs kvs) : s.heap.DictOfH (ckKind X.prog X.w) a xs ∧ (a == sysModules) = false ∧ xs.length ≤ sizeLine ∧ s.heap.get? a = some o := by
  obtain ⟨h1, h2, h3, h4, h5, es, ep, h6, h7⟩ := (show ObjOk X.prog X.w H s.heap a (dO a o xs) from I.hok a _ h).1
  exact ⟨⟨o, es, ep, h4, h5, h6, h7, fun x hx => ck_reads I (r.mem x hx), h3⟩, h1, h2, h4⟩
theorem dO_new {P : Program} {w : World} {H' : Hp} {h : Heap} (hd : (a == sysModules) = false) (hz : xs.length ≤ sizeLine) (hn : h.DictOfH (ckKind P w) a xs) : ∃ o, h.get? a = some o ∧ ObjOk P w H' h a (dO a o xs) := by
  obtain ⟨o, es, ep, h4, h5, h6, h7, _, h3⟩ := hn
  exact ⟨o, h4, ⟨hd, hz, h3, h4, h5, es, ep, h6, h7⟩, ⟨o, h4⟩, fun h1 h2 p k => ⟨p.1, p.2.1, p.2.2.1, k o p.2.2.2.1, p.2.2.2.2⟩⟩
/-- looked up by data -/
def ckPairs : List PyData → Option (List (Int × Int))
  | [] => some []
  | .tuple [.int i, .int j] :: r => match ckPairs r with
    | some l => some ((i, j) :: l)
    | none => none
  | _ => none
def ckOf : PyData → Option CK
  | .tuple [.int n, .tuple ps] => match ckPairs ps with
    | some l => some ⟨n, l⟩
    | none => none
  | _ => none
theorem ckPairs_eq : ∀ {ps : List PyData} {l : List (Int × Int)}, ckPairs ps = some l → ps = l.map pairD := by
  intro ps
  induction ps with
  | nil => intro l h; simp [ckPairs] at h; subst h; rfl
  | cons p r ih =>
    intro l h
    unfold ckPairs at h
    split at h
    · cases h
      rename_i e
      cases e
    · rename_i i j r' e
      cases e
      cases e2 : ckPairs r with
      | none => rw [e2] at h; cases h
      | some m =>
        rw [e2] at h
        cases h
        rw [List.map_cons, ← ih e2]
        rfl
    · cases h
theorem ckOf_eq {d : PyData} {k : CK} (h : ckOf d = some k) : d = ckD k := by
  unfold ckOf at h
  split at h
  · rename_i n ps
    cases e : ckPairs ps with
    | none => rw [e] at h; cases h
    | some l =>
      rw [e] at h
      cases h
      rw [ckPairs_eq e]
      rfl
  · cases h
def dFind (kvs : List (PyData × PyData)) (kd : PyData) : Option PyData := match kvs with
  | [] => none
  | (k, d) :: r => match eqF 9 k kd with
    | true => some d
    | false => dFind r kd
def dPut (kvs : List (PyData × PyData)) (kd d : PyData) : List (PyData × PyData) := match kvs with
  | [] => [(kd, d)]
  | (k, e) :: r => match eqF 9 k kd with
    | true => (k, d) :: r
    | false => (k, e) :: dPut r kd d
theorem find_at {k : CK} : ∀ {H : Hp} {xs : List (CK × Addr × Value)} {kvs : List (PyData × PyData)}, RpC H xs kvs →
    (dFind kvs (ckD k) = none ∧ atKey xs k = none) ∨ ∃ d q v u, dFind kvs (ckD k) = some d ∧ atKey xs k = some (q, u) ∧ RelV v u ∧ Rp H v d
  | _, _, _, .nil => .inl ⟨rfl, rfl⟩
  | H, _, _, @RpC.cons _ k' q v u d xs kvs hk e r t => by
    have e0 : eqF 9 (ckD k') (ckD k) = decide (k' = k) := by rw [eqF_ok, eqv_ck]
    by_cases hkk : k' = k
    · subst hkk
      refine .inr ⟨d, q, v, u, ?_, ?_, e, r⟩
      · unfold dFind
        rw [e0]
        simp
      · simp [atKey]
    · have e1 : atKey ((k', q, u) :: xs) k = atKey xs k := by
        unfold atKey
        rw [List.find?_cons]
        simp [hkk]
      have e2 : dFind ((ckD k', d) :: kvs) (ckD k) = dFind kvs (ckD k) := by
        rw [dFind, e0]
        simp [hkk]
      rw [e1, e2]
      exact find_at t
theorem find_some {k : CK} {H : Hp} {xs : List (CK × Addr × Value)} {kvs : List (PyData × PyData)} (r : RpC H xs kvs) : (atKey xs k).isSome = (dFind kvs (ckD k)).isSome := by
  rcases find_at (k := k) r with ⟨h1, h2⟩ | ⟨d, q, v, u, h1, h2, _⟩
  · rw [h1, h2] <;> rfl
  · rw [h1, h2] <;> rfl

/-! ### rules by values -/
def rInC (neg : Bool) : R2 := fun x y H Q => ∃ a o xs kvs, y = .ref a ∧ H a = some (dO a o xs) ∧ RpC H xs kvs ∧
  ((x = .non ∧ Q (.bl neg) H) ∨ ∃ q k, x = .ref q ∧ Rp H (.ref q) (ckD k) ∧ Q (.bl (if neg then !(dFind kvs (ckD k)).isSome else (dFind kvs (ckD k)).isSome)) H)
theorem get_none {prog : Program} {w : World} {A : Around} {E : Value → Shared → Prop} {s : Shared} {d : Addr} {xs : List (CK × Addr × Value)} {Q : Option Value → Shared → Prop} (hu : A.units < cLine) (hm : s.heap.DictOfH (ckKind prog w) d xs)
    (h : ∀ tk, Q none { s with toks := tk }) : wpAny (model prog w) A (dictGet d .none) Q E s := by
  obtain ⟨o, es, ep, ho, _, hd, he, his, hn⟩ := hm
  unfold dictGet
  try with_reducible refine wpAny_holding ?_
  refine wpAny_bind (hash_none (wpAny_bind (find_none (s := { s with toks := s.toks + 1 }) hu ho hd he his ?_)))
  exact wpAny_pure (h _)
theorem has_none {prog : Program} {w : World} {A : Around} {E : Value → Shared → Prop} {s : Shared} {d : Addr} {xs : List (CK × Addr × Value)} {Q : Bool → Shared → Prop} (hu : A.units + 1 < cLine) (hd : (d == sysModules) = false) (hm : s.heap.DictOfH (ckKind prog w) d xs)
    (h : ∀ tk, Q false { s with toks := tk }) : wpAny (model prog w) A (contains (.ref d) .none) Q E s := by
  refine wpAny_contains_slot hm.typeIs F.slot_dict_contains ?_
  refine wpAny_call_entry F.slot_dict_contains hm.typeIs F.entry_dict_contains ?_ (F.args_dict_contains_2 _ _)
  show wpAny _ _ (dictGet d .none >>= _) _ _ _
  refine wpAny_bind (get_none (A := A.in1) (by show A.units + 1 < cLine; exact hu) hm fun tk => ?_)
  show wpAny _ _ (Builtin.Dict.pendingKey? d .none >>= _) _ _ _
  exact wpAny_bind (wpAny_pendingKey_other hd (wpAny_pure ⟨_, rfl, wpAny_truthy_bool (h _)⟩))
theorem op_inC (hu : X.A.units + 64 < cLine) : OpR X (compareOp .In) (rInC false) := by
  intro pins s σ H x y v u Q I rx ry h
  obtain ⟨a, o, xs, kvs, rfl, ha, r, h⟩ := h
  cases ry
  obtain ⟨hm, hd, hz, _⟩ := dictAt I ha r
  rcases h with ⟨rfl, q⟩ | ⟨q0, k, rfl, hk, q⟩
  · cases rx
    show wpAny _ _ (do return Value.bool (← contains (.ref a) .none)) _ _ s
    exact wpAny_bind (has_none (by omega) hd hm fun tk => wpAny_pure ⟨.bl false, H, I.tok _, rfl, q⟩)
  · cases rx
    have hk' := ck_reads I hk
    have hroom : (ckKind X.prog X.w).room X.A.in1 := by
      show X.A.units + 1 + 4 < cLine
      omega
    refine wpAny_in_heap hroom hk' hd hm ?_
    refine ⟨.bl (dFind kvs (ckD k)).isSome, H, I.tok _, ?_, q⟩
    rw [find_some r] <;> rfl
theorem op_notInC (hu : X.A.units + 64 < cLine) : OpR X (compareOp .NotIn) (rInC true) := by
  intro pins s σ H x y v u Q I rx ry h
  obtain ⟨a, o, xs, kvs, rfl, ha, r, h⟩ := h
  cases ry
  obtain ⟨hm, hd, hz, _⟩ := dictAt I ha r
  rcases h with ⟨rfl, q⟩ | ⟨q0, k, rfl, hk, q⟩
  · cases rx
    show wpAny _ _ (do return Value.bool (!(← contains (.ref a) .none))) _ _ s
    exact wpAny_bind (has_none (by omega) hd hm fun tk => wpAny_pure ⟨.bl true, H, I.tok _, rfl, q⟩)
  · cases rx
    have hk' := ck_reads I hk
    have hroom : (ckKind X.prog X.w).room X.A.in1 := by
      show X.A.units + 1 + 4 < cLine
      omega
    refine wpAny_notIn_heap hroom hk' hd hm ?_
    refine ⟨.bl (!(dFind kvs (ckD k)).isSome), H, I.tok _, ?_, q⟩
    rw [find_some r] <;> rfl
/-- d[k] -/
def rIxC : R2 := fun x y H Q => ∃ a o xs kvs q k d, x = .ref a ∧ y = .ref q ∧ H a = some (dO a o xs) ∧ RpC H xs kvs ∧ Rp H (.ref q) (ckD k) ∧ dFind kvs (ckD k) = some d ∧ ∀ v, (∀ H0, RpC H0 xs kvs → Rp H0 v d) → Q v H
theorem find_val {k : CK} {d : PyData} : ∀ {H : Hp} {xs : List (CK × Addr × Value)} {kvs : List (PyData × PyData)}, RpC H xs kvs → dFind kvs (ckD k) = some d →
    ∃ q v u, atKey xs k = some (q, u) ∧ RelV v u ∧ ∀ H0, RpC H0 xs kvs → Rp H0 v d
  | _, _, _, .nil, h => by cases h
  | H, _, _, @RpC.cons _ k' q v u d' xs kvs hk e r t, h => by
    have e0 : eqF 9 (ckD k') (ckD k) = decide (k' = k) := by rw [eqF_ok, eqv_ck]
    by_cases hkk : k' = k
    · subst hkk
      have e2 : dFind ((ckD k', d') :: kvs) (ckD k') = some d' := by
        rw [dFind, e0]
        simp
      rw [e2] at h
      cases h
      refine ⟨q, v, u, by simp [atKey], e, fun H0 r0 => ?_⟩
      cases r0 with
      | cons hk0 e0 r0 t0 =>
        rename_i v0
        have : v0 = v := RelV.inj e0 e
        rw [← this]
        exact r0
    · have e1 : atKey ((k', q, u) :: xs) k = atKey xs k := by
        unfold atKey
        rw [List.find?_cons]
        simp [hkk]
      have e2 : dFind ((ckD k', d') :: kvs) (ckD k) = dFind kvs (ckD k) := by
        rw [dFind, e0]
        simp [hkk]
      rw [e2] at h
      obtain ⟨q', v', u', h1, h2, h3⟩ := find_val t h
      refine ⟨q', v', u', by rw [e1]; exact h1, h2, fun H0 r0 => ?_⟩
      cases r0 with
      | cons _ _ _ t0 => exact h3 H0 t0
theorem ix_C (hu : X.A.units + 64 < cLine) : IxR X rIxC := by
  intro value slice pins s σ H x y v u Q I rx ry h hs
  obtain ⟨a, o, xs, kvs, q, k, d, rfl, rfl, ha, r, hk, hf, h⟩ := h
  cases rx
  cases ry
  obtain ⟨hm, hd, hz, _⟩ := dictAt I ha r
  obtain ⟨q', v, u, h1, h2, h3⟩ := find_val r hf
  have hroom : (ckKind X.prog X.w).room X.A.in1 := by
    show X.A.units + 1 + 4 < cLine
    omega
  exact tail_any hm.typeIs F.slot_dict_getitem.lookup (wpAny_getItem_heap hroom (ck_reads I hk) hm h1 ⟨v, H, I.tok _, h2, h v h3⟩) hs
/-- d[k] of an int -/
def rIxI : R2 := fun x y H Q => ∃ a v, x = .ref a ∧ DGet H a y (some v) ∧ Q v H
theorem ix_I (hu : X.A.units + 64 < cLine) : IxR X rIxI := by
  intro value slice pins s σ H x y v u Q I rx ry h hs
  obtain ⟨a, v, rfl, g, h⟩ := h
  cases rx
  exact tail_any (dict_typeIs I g) F.slot_dict_getitem.lookup (d_getItem (by omega) I g ry fun w' s' I' r => ⟨v, H, I', r, h⟩) hs
def rInI (neg : Bool) : R2 := fun x y H Q => ∃ a o, y = .ref a ∧ DGet H a x o ∧ Q (.bl (if neg then !o.isSome else o.isSome)) H
theorem op_inI (hu : X.A.units + 64 < cLine) : OpR X (compareOp .In) (rInI false) := by
  intro pins s σ H x y v u Q I rx ry h
  obtain ⟨a, o, rfl, g, h⟩ := h
  cases ry
  exact d_in (by omega) I g rx fun s' I' => ⟨.bl o.isSome, H, I', rfl, h⟩
theorem op_notInI (hu : X.A.units + 64 < cLine) : OpR X (compareOp .NotIn) (rInI true) := by
  intro pins s σ H x y v u Q I rx ry h
  obtain ⟨a, o, rfl, g, h⟩ := h
  cases ry
  exact d_notIn (by omega) I g rx fun s' I' => ⟨.bl (!o.isSome), H, I', rfl, h⟩
/-- x in t, t a tuple of data of any depth -/
def rInTD (K : PySem.W.Frag) (neg : Bool) : R2 := fun x y H Q => ∃ d ds, Dp K H x d ∧ Dp K H y (.tuple ds) ∧ SeqAt.shaped d = true ∧ SeqAt.shaped (.tuple ds) = true ∧ Q (.bl (if neg then !ds.any fun z => PyData.eqv z d else ds.any fun z => PyData.eqv z d)) H
theorem roomT {A : Around} {d : PyData} {ds : List PyData} (h : SeqAt.shaped d = true) (hu : A.units + 65 < cLine) : A.units + 1 + min (PyData.depthAll ds) d.depth < cLine := by
  have h1 := SeqAt.depth_of_shaped h
  have h2 : min (PyData.depthAll ds) d.depth ≤ d.depth := Nat.min_le_right _ _
  omega
theorem op_inTD (hu : X.A.units + 65 < cLine) : OpR X (compareOp .In) (rInTD X.K false) := by
  intro pins s σ H x y v u Q I rx ry h
  obtain ⟨d, ds, hd, he, sd, se, q⟩ := h
  obtain ⟨as, r1⟩ := Dp.reads I d x v hd rx
  obtain ⟨bs, r2⟩ := Dp.reads I (.tuple ds) y u he ry
  have hl : PyData.canLayAll0 ds = true := by
    have := SeqAt.canLay_of_shaped se
    simpa [PyData.canLay0] using this
  exact SeqAt.in_tuple_reads r2 r1 hl (SeqAt.canLay_of_shaped sd) (roomT sd hu) ⟨.bl _, H, I, rfl, q⟩
theorem op_notInTD (hu : X.A.units + 65 < cLine) : OpR X (compareOp .NotIn) (rInTD X.K true) := by
  intro pins s σ H x y v u Q I rx ry h
  obtain ⟨d, ds, hd, he, sd, se, q⟩ := h
  obtain ⟨as, r1⟩ := Dp.reads I d x v hd rx
  obtain ⟨bs, r2⟩ := Dp.reads I (.tuple ds) y u he ry
  have hl : PyData.canLayAll0 ds = true := by
    have := SeqAt.canLay_of_shaped se
    simpa [PyData.canLay0] using this
  exact SeqAt.notIn_tuple_reads r2 r1 hl (SeqAt.canLay_of_shaped sd) (roomT sd hu) ⟨.bl _, H, I, rfl, q⟩
end
end PD
/-! text P7 -/
set_option maxHeartbeats 5000000
namespace PD
open PySem.Spec PySem PyProof.Rows L2

section
variable {ca : Nat → Addr} {E : XK} {X : Cx} {pos : Pos}
/-! ### in, not in -/
def iFind (kvs : List (PyData × PyData)) (i : Int) : Option PyData := match kvs with
  | [] => none
  | (k, d) :: r => match k with
    | .int j => match decide (j = i) with
      | true => some d
      | false => iFind r i
    | _ => none
theorem iFind_val {i : Int} : ∀ {H : Hp} {ks : List (Key × V)} {kvs : List (PyData × PyData)}, RpI H ks kvs → (iFind kvs i = none ∧ valV ks (.inl i) = none) ∨ ∃ d v, iFind kvs i = some d ∧ valV ks (.inl i) = some v ∧ Rp H v d
  | _, _, _, .nil => .inl ⟨rfl, rfl⟩
  | H, _, _, @RpI.cons _ j v d ks kvs r t => by
    by_cases h : j = i
    · subst h
      refine .inr ⟨d, v, ?_, valV_pos rfl, r⟩
      simp [iFind]
    · have e1 : valV ((Sum.inl j, v) :: ks) (Sum.inl i : Key) = valV ks (.inl i) := valV_neg fun z => h (Sum.inl.inj z)
      have e2 : iFind ((.int j, d) :: kvs) i = iFind kvs i := by simp [iFind, h]
      rw [e1, e2]
      exact iFind_val t
def anyEq (ds : List PyData) (x : PyData) : Bool := match ds with
  | [] => false
  | d :: r => match eqF 9 d x with
    | true => true
    | false => anyEq r x
theorem anyEq_ok (x : PyData) : ∀ ds : List PyData, anyEq ds x = ds.any fun z => PyData.eqv z x
  | [] => rfl
  | d :: r => by
    rw [anyEq, eqF_ok, List.any_cons, anyEq_ok x r]
    cases PyData.eqv d x <;> rfl
/-- x in y: a bool -/
def isIn (x y : PyData) : R Bool := match y with
  | .list ds => match shp 9 x && shp 9 (.list ds) with
    | true => .ok (anyEq ds x)
    | false => .stuck
  | .tuple ds => match shp 9 x && shp 9 (.tuple ds) with
    | true => .ok (anyEq ds x)
    | false => .stuck
  | .dict ((.none, .none) :: kvs) => match x with
    | .int i => .ok (iFind kvs i).isSome
    | _ => .stuck
  | .dict kvs => match x with
    | .none => .ok false
    | _ => match ckOf x with
      | some _ => .ok (dFind kvs x).isSome
      | none => .stuck
  | _ => .stuck
def gIn (neg : Bool) (x y : PyData) : R PyData := (isIn x y).bind fun b => .ok (.bool (if neg then !b else b))
def rInU (K : PySem.W.Frag) (neg : Bool) : R2 := fun x y H Q => (if neg then rNotInD K else rInD K) x y H Q ∨ rInTD K neg x y H Q ∨ rInC neg x y H Q ∨ rInI neg x y H Q
theorem op_inU (hu : X.A.units + 65 < cLine) : OpR X (compareOp .In) (rInU X.K false) := (op_inD hu).or ((op_inTD hu).or ((op_inC (by omega)).or (op_inI (by omega))))
theorem op_notInU (hu : X.A.units + 65 < cLine) : OpR X (compareOp .NotIn) (rInU X.K true) := (op_notInD hu).or ((op_notInTD hu).or ((op_notInC (by omega)).or (op_notInI (by omega))))
theorem gv_in {K : PySem.W.Frag} {neg : Bool} : Gv ca E (rInU K neg) (gIn neg) := by
  intro x y v u Hi H Q rx ry s h
  have dnn : ∀ {a : Addr} {o : Obj} {xs : List (CK × Addr × Value)} {kvs : List (PyData × PyData)}, Hi a = some (dO a o xs) → RpC Hi xs kvs → (∀ r, kvs ≠ (.none, .none) :: r) → u = .ref a → y = .dict kvs → rInU K neg v u H Q := by
    intro a o xs kvs ea ra hne eu ey
    subst eu ey
    have h' : PV ca E Hi H (((match (generalizing := false) x with
      | .none => .ok false
      | _ => match ckOf x with
        | some _ => .ok (dFind kvs x).isSome
        | none => .stuck) : R Bool).bind fun b => .ok (.bool (if neg then !b else b))) Q := by
      unfold gIn isIn at h
      split at h
      · rename_i e; cases e
      · rename_i e; cases e
      · rename_i r e
        exact absurd (PyData.dict.inj e) (hne _)
      · rename_i e
        cases e
        exact h
      · rename_i hh
        exact absurd rfl (hh _)
    refine .inr (.inr (.inl ⟨a, o, xs, kvs, rfl, s _ _ ea, ra.sub s, ?_⟩))
    cases rx with
    | non =>
      refine .inl ⟨rfl, ?_⟩
      have := h' (.bl (if neg then !false else false)) Hi H (.refl s) (.bl _)
      cases neg <;> exact this
    | @tup b ys es eb rb =>
      refine .inr ?_
      cases ek : ckOf (.tuple es) with
      | none =>
        have h2 := h'
        dsimp only at h2
        rw [ek] at h2
        exact PV.no h2
      | some k =>
        have h2 := h'
        dsimp only at h2
        rw [ek] at h2
        have e := ckOf_eq ek
        refine ⟨b, k, rfl, ?_, ?_⟩
        · rw [← e]
          exact .tup (s _ _ eb) (rb.sub s)
        · rw [← e]
          exact h2 _ Hi H (.refl s) (.bl _)
    | _ => exact PV.no h'
  cases ry with
  | @lst a ys es ea ra =>
    unfold gIn isIn at h
    dsimp only at h
    split at h
    · rename_i hz
      obtain ⟨h1, h2⟩ := shp2 hz
      rw [anyEq_ok] at h
      have hd : Dp K H v x := rx.dp s (SeqAt.canLay_of_shaped h1)
      have he : Dp K H (.ref a) (.list es) := (Rp.lst ea ra).dp s (SeqAt.canLay_of_shaped h2)
      refine .inl ?_
      cases neg with
      | false => exact ⟨x, es, hd, he, h1, h2, h _ Hi H (.refl s) (.bl _)⟩
      | true => exact ⟨x, es, hd, he, h1, h2, h _ Hi H (.refl s) (.bl _)⟩
    · exact PV.no h
  | @tup a ys es ea ra =>
    unfold gIn isIn at h
    dsimp only at h
    split at h
    · rename_i hz
      obtain ⟨h1, h2⟩ := shp2 hz
      rw [anyEq_ok] at h
      have hd : Dp K H v x := rx.dp s (SeqAt.canLay_of_shaped h1)
      have he : Dp K H (.ref a) (.tuple es) := (Rp.tup ea ra).dp s (SeqAt.canLay_of_shaped h2)
      exact .inr (.inl ⟨x, es, hd, he, h1, h2, h _ Hi H (.refl s) (.bl _)⟩)
    · exact PV.no h
  | @dct a o xs kvs ea ra =>
    refine dnn ea ra (fun r e => ?_) rfl rfl
    subst e
    cases ra
  | @dci a ks kvs ea ra =>
    cases rx with
    | int i =>
      refine .inr (.inr (.inr ?_))
      have h2 : PV ca E Hi H (.ok (.bool (if neg then !(iFind kvs i).isSome else (iFind kvs i).isSome))) Q := h
      refine ⟨a, valV ks (.inl i), rfl, DGet.k (k := .inl i) (s _ _ ea), ?_⟩
      have e : (valV ks (.inl i)).isSome = (iFind kvs i).isSome := by
        rcases iFind_val (i := i) ra with ⟨h1, h2⟩ | ⟨d, v, h1, h2, _⟩
        · rw [h1, h2] <;> rfl
        · rw [h1, h2] <;> rfl
      rw [e]
      exact h2 _ Hi H (.refl s) (.bl _)
    | _ => exact PV.no h
  | _ => exact PV.no h

/-! ### a[b] -/
def gIx (x y : PyData) : R PyData := match x with
  | .list ds => match y with
    | .int i => match atI ds i with
      | some d => .ok d
      | none => .stuck
    | _ => .stuck
  | .tuple ds => match y with
    | .int i => match atI ds i with
      | some d => .ok d
      | none => .stuck
    | _ => .stuck
  | .dict ((.none, .none) :: kvs) => match y with
    | .int i => match iFind kvs i with
      | some d => .ok d
      | none => .stuck
    | _ => .stuck
  | .dict kvs => match ckOf y with
    | some _ => match dFind kvs y with
      | some d => .ok d
      | none => .stuck
    | none => .stuck
  | _ => .stuck
theorem RpAll.atI {H : Hp} {vs : List V} {ds : List PyData} {i : Int} {d : PyData} (r : RpAll H vs ds) (h : L2.atI ds i = some d) : ∃ v, L2.atI vs i = some v ∧ Rp H v d := by
  unfold L2.atI at h ⊢
  rw [r.length]
  cases e : ixN ds.length i with
  | none => rw [e] at h; cases h
  | some j =>
    rw [e] at h
    exact r.get h
def rIxU (K : PySem.W.Frag) : R2 := fun x y H Q => rIx K x y H Q ∨ rIxC x y H Q ∨ rIxI x y H Q
theorem ix_U (hu : X.A.units + 64 < cLine) : IxR X (rIxU X.K) := ix_seq.or ((ix_C hu).or (ix_I hu))
theorem gv_ix {K : PySem.W.Frag} : Gv ca E (rIxU K) gIx := by
  intro x y v u Hi H Q rx ry s h
  cases rx with
  | @lst a ys es ea ra =>
    cases ry with
    | int i =>
      dsimp only [gIx] at h
      split at h
      · rename_i d hd
        obtain ⟨w, hw, rw'⟩ := ra.atI hd
        exact .inl (.inl ⟨a, ys, i, w, rfl, rfl, .of (s _ _ ea), hw, h _ Hi H (.refl s) rw'⟩)
      · exact PV.no h
    | _ => exact PV.no h
  | @tup a ys es ea ra =>
    cases ry with
    | int i =>
      dsimp only [gIx] at h
      split at h
      · rename_i d hd
        obtain ⟨w, hw, rw'⟩ := ra.atI hd
        exact .inl (.inr (.inl ⟨a, ys, i, w, rfl, rfl, .inl (.inl (s _ _ ea)), hw, h _ Hi H (.refl s) rw'⟩))
      · exact PV.no h
    | _ => exact PV.no h
  | @dct a o xs kvs ea ra =>
    have h' : PV ca E Hi H (match ckOf y with
      | some _ => match dFind kvs y with
        | some d => .ok d
        | none => .stuck
      | none => .stuck) Q := by
      unfold gIx at h
      split at h
      · rename_i e; cases e
      · rename_i e; cases e
      · rename_i r e
        cases e
        cases ra
      · rename_i e
        cases e
        exact h
      · rename_i hh
        exact absurd rfl (hh _)
    split at h'
    · rename_i k hk
      split at h'
      · rename_i d hd
        have e := ckOf_eq hk
        subst e
        cases ry with
        | @tup b zs fs eb rb =>
          exact .inr (.inl ⟨a, o, xs, kvs, b, k, d, rfl, rfl, s _ _ ea, ra.sub s, .tup (s _ _ eb) (rb.sub s), hd, fun w hw => h' _ Hi H (.refl s) (hw Hi ra)⟩)
      · exact PV.no h'
    · exact PV.no h'
  | @dci a ks kvs ea ra =>
    cases ry with
    | int i =>
      have h2 : PV ca E Hi H (match iFind kvs i with
        | some d => .ok d
        | none => .stuck) Q := h
      rcases iFind_val (i := i) ra with ⟨h3, h4⟩ | ⟨d, w, h3, h4, rw'⟩
      · rw [h3] at h2
        exact PV.no h2
      · rw [h3] at h2
        refine .inr (.inr ⟨a, w, rfl, ?_, h2 _ Hi H (.refl s) rw'⟩)
        rw [← h4]
        exact DGet.k (k := .inl i) (s _ _ ea)
    | _ => exact PV.no h
  | _ => exact PV.no h
theorem okE_ix {a b : Expr} {fa fb : Ev → R PyData} (hu : X.A.units + 64 < cLine) (ha : OkE ca E X a fa) (hb : OkE ca E X b fb) (hs : PlainIx b := by exact fun _ _ => rfl) : OkE ca E X (.Subscript a b pos) (e2 gIx fa fb) := by
  obtain ⟨ta, pa, qa⟩ := ha
  obtain ⟨tb, pb, qb⟩ := hb
  exact ⟨_, pe_ix (ix_U hu) pa pb hs, two qa qb gv_ix⟩

/-! ### slices: a[n:], a[:n], a[::-1] -/
def cutD {α : Type} (xs : List α) (lo hi : Option Int) : List α := (xs.drop (HT.sIx xs.length 0 lo)).take (HT.sIx xs.length xs.length hi - HT.sIx xs.length 0 lo)
def gSl (lo hi : Option Int) (x : PyData) : R PyData := match x with
  | .list ds => .ok (.list (cutD ds lo hi))
  | .tuple ds => .ok (.tuple (cutD ds lo hi))
  | _ => .stuck
def e1 (g : PyData → R PyData) (fa : Ev → R PyData) : Ev → R PyData := fun env => (fa env).bind g
theorem cut_all {α : Type} {xs : List α} {lo hi : Option Int} (h : HT.sIx xs.length 0 lo = 0 ∧ HT.sIx xs.length xs.length hi = xs.length) : cutD xs lo hi = xs := by
  unfold cutD
  rw [h.1, h.2]
  simp
theorem okE_sl {a : Expr} {fa : Ev → R PyData} {lo hi : Option Expr} {l u : Option Int} {tl th : TO} {p2 : Pos} (hl : PO X lo tl) (hh : PO X hi th) (kl : ∀ σ H Q, Q l H → tl σ H Q) (kh : ∀ σ H Q, Q u H → th σ H Q) (ha : OkE ca E X a fa) :
    OkE ca E X (.Subscript a (.Slice lo hi none p2) pos) (e1 (gSl l u) fa) := by
  obtain ⟨ta, pa, qa⟩ := ha
  refine ⟨_, pe_slice (sl_list.or sl_tupA) pa hl hh, fun He env σ Hi H Q S s h => qa He env σ Hi H _ S s ?_⟩
  have h1 := PV.bind h
  cases ea : fa env with
  | stuck => rw [ea] at h1; exact h1.elim
  | exc c => rw [ea] at h1; exact h1
  | ok x =>
    rw [ea] at h1
    intro v Hi1 H1 x1 r1
    obtain ⟨d, Hi', e, x1, r1, h2⟩ := h1 v Hi1 H1 x1 r1
    cases e
    refine kl σ H1 _ (kh σ H1 _ ?_)
    cases r1 with
    | @lst b ys es eb rb =>
      refine .inl ⟨b, ys, rfl, .of (x1.le _ _ eb), fun p hp => h2 _ _ _ (.new x1.le hp) (.lst upd_same ?_)⟩
      have e : cutV ys l u = cutD ys l u := rfl
      rw [e]
      unfold cutD
      rw [rb.length]
      exact ((rb.drop _).take _).sub (Sub.up (x1.le.nn hp))
    | @tup b ys es eb rb =>
      refine .inr ⟨b, ys, rfl, .inl (.inl (x1.le _ _ eb)), fun hw => ?_, fun hw p hp => h2 _ _ _ (.new x1.le hp) (.tup upd_same ?_)⟩
      · have e : cutD es l u = es := cut_all (by rw [← rb.length]; exact hw)
        have h3 : PV ca E Hi' H1 (.ok (.tuple (cutD es l u))) Q := h2
        rw [e] at h3
        exact h3 _ _ _ (.refl x1.le) (.tup eb rb)
      · have e : cutV ys l u = cutD ys l u := rfl
        rw [e]
        unfold cutD
        rw [rb.length]
        exact ((rb.drop _).take _).sub (Sub.up (x1.le.nn hp))
    | _ => exact PV.no h2
theorem okE_from {a : Expr} {fa : Ev → R PyData} {i : Int} {j p1 p2} (ha : OkE ca E X a fa) : OkE ca E X (.Subscript a (.Slice (some (.Constant (.int i) j p1)) none none p2) pos) (e1 (gSl (some i) none) fa) :=
  okE_sl (po_some pe_int) po_none (fun _ _ _ q => ⟨i, rfl, q⟩) (fun _ _ _ q => q) ha
theorem okE_to {a : Expr} {fa : Ev → R PyData} {i : Int} {j p1 p2} (ha : OkE ca E X a fa) : OkE ca E X (.Subscript a (.Slice none (some (.Constant (.int i) j p1)) none p2) pos) (e1 (gSl none (some i)) fa) :=
  okE_sl po_none (po_some pe_int) (fun _ _ _ q => q) (fun _ _ _ q => ⟨i, rfl, q⟩) ha
end
end PD
/-! text P8 -/
set_option maxHeartbeats 5000000
namespace PD
open PySem.Spec PySem PyProof.Rows L2

/-! ### sorting -/
section
variable {α : Type} {le : α → α → Bool}
def ins (le : α → α → Bool) (x : α) : List α → List α
  | [] => [x]
  | y :: r => match le x y with
    | true => x :: y :: r
    | false => y :: ins le x r
def isort (le : α → α → Bool) : List α → List α
  | [] => []
  | x :: r => ins le x (isort le r)
theorem mem_ins {x z : α} : ∀ {l : List α}, z ∈ ins le x l → z = x ∨ z ∈ l
  | [], h => by simp [ins] at h; exact .inl h
  | y :: r, h => by
    unfold ins at h
    split at h
    · rcases List.mem_cons.mp h with h | h
      · exact .inl h
      · exact .inr h
    · rcases List.mem_cons.mp h with h | h
      · exact .inr (List.mem_cons.mpr (.inl h))
      · rcases mem_ins h with h | h
        · exact .inl h
        · exact .inr (List.mem_cons_of_mem _ h)
theorem ins_sorted (T : W.TotalLe le) {x : α} : ∀ {l : List α}, l.Pairwise (fun a b => le a b = true) → (ins le x l).Pairwise fun a b => le a b = true
  | [], _ => List.pairwise_singleton _ _
  | y :: r, h => by
    obtain ⟨h1, h2⟩ := List.pairwise_cons.mp h
    unfold ins
    split
    · rename_i hxy
      refine List.pairwise_cons.mpr ⟨fun z hz => ?_, h⟩
      rcases List.mem_cons.mp hz with rfl | hz
      · exact hxy
      · exact T.trans _ _ _ hxy (h1 z hz)
    · rename_i hxy
      have hyx : le y x = true := (T.total x y).resolve_left (by rw [hxy]; exact Bool.false_ne_true)
      refine List.pairwise_cons.mpr ⟨fun z hz => ?_, ins_sorted T h2⟩
      rcases mem_ins hz with rfl | hz
      · exact hyx
      · exact h1 z hz
theorem ins_filter (T : W.TotalLe le) (c : α) {x : α} : ∀ {l : List α}, (ins le x l).filter (W.sameRank le c) = (x :: l).filter (W.sameRank le c)
  | [] => rfl
  | y :: r => by
    unfold ins
    split
    · rfl
    · rename_i hxy
      have ih := ins_filter T c (x := x) (l := r)
      rw [List.filter_cons, ih]
      rw [List.filter_cons, List.filter_cons, List.filter_cons]
      by_cases hx : W.sameRank le c x = true
      · by_cases hy : W.sameRank le c y = true
        · unfold W.sameRank at hx hy
          simp only [Bool.and_eq_true] at hx hy
          have := T.trans _ _ _ hx.2 hy.1
          rw [hxy] at this
          cases this
        · simp [hx, hy]
      · by_cases hy : W.sameRank le c y = true
        · simp [hx, hy]
        · simp [hx, hy]
theorem isort_sorted (T : W.TotalLe le) : ∀ l : List α, (isort le l).Pairwise fun a b => le a b = true
  | [] => List.Pairwise.nil
  | x :: r => ins_sorted T (isort_sorted T r)
theorem isort_filter (T : W.TotalLe le) (c : α) : ∀ l : List α, (isort le l).filter (W.sameRank le c) = l.filter (W.sameRank le c)
  | [] => rfl
  | x :: r => by
    show (ins le x (isort le r)).filter _ = _
    rw [ins_filter T c, List.filter_cons, List.filter_cons, isort_filter T c r]
theorem isort_merge (T : W.TotalLe le) (l : List α) : isort le l = l.mergeSort le := W.sort_unique T (isort_sorted T l) fun c => isort_filter T c l
theorem isort_map {β : Type} {f : α → β} {le' : β → β → Bool} (h : ∀ a b, le a b = le' (f a) (f b)) : ∀ l : List α, (isort le l).map f = isort le' (l.map f)
  | [] => rfl
  | x :: r => by
    have hi : ∀ (x : α) (l : List α), (ins le x l).map f = ins le' (f x) (l.map f) := by
      intro x l
      induction l with
      | nil => rfl
      | cons y r ih =>
        unfold ins
        rw [List.map_cons]
        simp only
        rw [← h x y]
        cases le x y with
        | true => rfl
        | false => rw [List.map_cons, ih]
    show (ins le x (isort le r)).map f = ins le' (f x) (isort le' (r.map f))
    rw [hi, isort_map h r]
end
/-- rows of ints in order -/
def leRow : List Int → List Int → Bool
  | [], _ => true
  | _ :: _, [] => false
  | x :: r, y :: t => match decide (x < y) with
    | true => true
    | false => match decide (y < x) with
      | true => false
      | false => leRow r t
theorem leRow_iff : ∀ (x y : List Int), leRow x y = !decide (y < x)
  | [], y => by
    have : ¬ y < [] := List.not_lt_nil y
    simp [leRow, this]
  | x :: r, [] => by
    have : ([] : List Int) < x :: r := List.nil_lt_cons x r
    simp [leRow, this]
  | x :: r, y :: t => by
    have ih := leRow_iff r t
    have e : (y :: t < x :: r) ↔ (y < x ∨ (y = x ∧ t < r)) := List.cons_lt_cons_iff
    by_cases h1 : x < y
    · have : ¬ (y :: t < x :: r) := fun h => by
        rcases e.mp h with h | h
        · omega
        · omega
      simp [leRow, h1, this]
    · by_cases h2 : y < x
      · have : y :: t < x :: r := e.mpr (.inl h2)
        simp [leRow, h1, h2, this]
      · have hxy : y = x := by omega
        subst hxy
        by_cases h3 : t < r
        · have : y :: t < y :: r := e.mpr (.inr ⟨rfl, h3⟩)
          simp only [leRow, ih]
          simp [this, h3]
        · have : ¬ (y :: t < y :: r) := fun h => by
            rcases e.mp h with h | h
            · omega
            · exact h3 h.2
          simp only [leRow, ih]
          simp [this, h3]
def encRow (ns : List Int) : PyData := .tuple (ns.map .int)
theorem rowLe : W.dataLe false encRow = fun a b => leRow a b := by
  funext a b
  rw [W.dataLe_eq]
  show (!W.dataLt (encRow b) (encRow a)) = leRow a b
  have e : W.dataLt (encRow b) (encRow a) = decide (b < a) := W.dataLt_ints b a
  rw [e, leRow_iff]
theorem intLe : W.dataLe false PyData.int = fun a b => decide (a ≤ b) := W.dataLe_int (fun i : Int => i)
theorem tot_row : W.TotalLe (fun a b : List Int => leRow a b) := by
  rw [← rowLe]
  exact W.sortLe_total _ false _
theorem tot_int : W.TotalLe (fun a b : Int => decide (a ≤ b)) := by
  rw [← intLe]
  exact W.sortLe_total _ false _

theorem lay_ints : ∀ ns : List Int, PyData.canLayAll0 (ns.map .int) = true
  | [] => by simp [PyData.canLayAll0]
  | n :: ns => by simp [PyData.canLayAll0, PyData.canLay0, lay_ints ns]
/-! ### sorted(xs) -/
/-- rows of ints at addresses -/
inductive RowsAt (H : Hp) : List V → List (List Int) → Prop
  | nil : RowsAt H [] []
  | cons {t : Addr} {ns : List Int} {xs : List V} {rs : List (List Int)} : H t = some (.tup (ns.map V.int)) → RowsAt H xs rs → RowsAt H (.ref t :: xs) (ns :: rs)
theorem RowsAt.each {H : Hp} : ∀ {xs : List V} {rs : List (List Int)} {us : List Value}, RowsAt H xs rs → Vals xs us → W.EachIs (fun u ns => ∃ t, u = Value.ref t ∧ H t = some (.tup (ns.map V.int))) us rs
  | _, _, _, .nil, .nil => .nil
  | _, _, _, .cons e r, .cons q t => by
    cases q
    exact .cons ⟨_, rfl, e⟩ (r.each t)
theorem each_rows {H : Hp} : ∀ {us : List Value} {rs : List (List Int)}, W.EachIs (fun u ns => ∃ t, u = Value.ref t ∧ H t = some (.tup (ns.map V.int))) us rs → ∃ xs, Vals xs us ∧ RowsAt H xs rs
  | _, _, .nil => ⟨[], .nil, .nil⟩
  | _, _, .cons ⟨t, e, h⟩ r => by
    obtain ⟨xs, h1, h2⟩ := each_rows r
    subst e
    exact ⟨.ref t :: xs, .cons rfl h1, .cons h h2⟩
theorem RowsAt.len {H : Hp} : ∀ {xs : List V} {rs : List (List Int)}, RowsAt H xs rs → xs.length = rs.length
  | _, _, .nil => rfl
  | _, _, .cons _ r => by rw [List.length_cons, List.length_cons, r.len]
theorem len_ins {α : Type} {le : α → α → Bool} (x : α) : ∀ l : List α, (ins le x l).length = l.length + 1
  | [] => rfl
  | y :: r => by
    unfold ins
    split
    · rfl
    · rw [List.length_cons, len_ins x r, List.length_cons]
theorem len_isort {α : Type} {le : α → α → Bool} : ∀ l : List α, (isort le l).length = l.length
  | [] => rfl
  | x :: r => by
    show (ins le x (isort le r)).length = _
    rw [len_ins, len_isort r, List.length_cons]
def rSortU (K : PySem.W.Frag) : List V → Hp → VK → Prop := fun vs H Q => ∃ a, vs = [V.ref a] ∧
  ((∃ ns : List Int, SqL K H a (ns.map V.int) ∧ ∀ p, H p = none → Q (.ref p) (upd H p (.lst ((isort (fun a b => decide (a ≤ b)) ns).map V.int)))) ∨
   (∃ (G : Hp) (xs : List V) (rs : List (List Int)), (∀ b o, G b = some o → H b = some o) ∧ SqL K H a xs ∧ RowsAt G xs rs ∧ (∀ r ∈ rs, r ≠ []) ∧ ∀ ys p, RowsAt G ys (isort (fun a b => leRow a b) rs) → H p = none → Q (.ref p) (upd H p (.lst ys))))
section
variable {X : Cx}
theorem each_int : ∀ {us : List Value} {ns : List Int}, Vals (ns.map V.int) us → W.EachIs (fun u n => ∃ t, u = Value.int n t) us ns
  | [], [], _ => .nil
  | u :: us, n :: ns, h => by
    rw [List.map_cons] at h
    cases h with
    | cons r t => exact .cons r (each_int t)
  | _ :: _, [], h => by cases h
  | [], _ :: _, h => by
    rw [List.map_cons] at h
    cases h
theorem int_each : ∀ {us : List Value} {ns : List Int}, W.EachIs (fun u n => ∃ t, u = Value.int n t) us ns → Vals (ns.map V.int) us
  | _, _, .nil => .nil
  | _, _, .cons r t => .cons r (int_each t)
theorem cr_sortU (hu : X.A.units + 64 < cLine) : CallR X (.builtin "sorted") (rSortU X.K) := by
  intro pins s σ H vs us Q I r h
  obtain ⟨a, rfl, h⟩ := h
  rw [Vals.ref1 r]
  rcases h with ⟨ns, hs, q⟩ | ⟨G, xs, rs, hG, hs, hr, hne, q⟩
  · obtain ⟨its, rv, hl, hz⟩ := I.list hs
    have e := each_int rv
    refine W.sorted_data (bs := ns) (enc := PyData.int) hl.isList e (e.mono fun u n ⟨t, h⟩ => ⟨[], by subst h; exact .int _ _⟩) ?_ ?_ ?_ ?_ fun out hlen ho => ?_
    · exact .of fun b b' => rfl
    · exact .others fun b => ⟨(fun z => nomatch z), (fun xs z => nomatch z)⟩
    · rw [List.length_map] at hz; exact hz
    · intro b _
      simp only [PyData.depth]
      omega
    · rw [intLe, ← isort_merge tot_int] at ho
      obtain ⟨ep, he'⟩ := PyProof.Rows.sortedAll_at s.heap its out.toArray
      have hlen2 : ((isort (fun a b : Int => decide (a ≤ b)) ns).map V.int).length ≤ sizeLine := by
        rw [List.length_map, len_isort]
        rw [List.length_map] at hz
        exact hz
      exact ⟨.ref _, upd H (s.heap.objs.size + 1) (.lst ((isort (fun a b : Int => decide (a ≤ b)) ns).map V.int)), I.laid (t' := s.toks) (fun _ _ => PyProof.Rows.sortedAll_old) (Nat.le_succ _) ⟨hlen2, out, ep, int_each ho, he'⟩, rfl, q _ (I.hok.fresh (Nat.le_succ _))⟩
  · obtain ⟨its, rv, hl, hz⟩ := I.list hs
    have e := hr.each rv
    have er : W.EachIs (fun v b => ∃ as, Reads s.heap v (encRow b) as) its rs := e.mono fun u n h => by
      obtain ⟨t, h, ht⟩ := h
      subst h
      have hd : Dp X.K H (.ref t) (encRow n) := Rp.dp (.refl H) (by simp [encRow, PyData.canLay0, lay_ints n]) (.tup (hG _ _ ht) RpAll.ints)
      exact Dp.reads I _ _ _ hd rfl
    refine W.sorted_data (bs := rs) (enc := encRow) hl.isList e er ?_ ?_ ?_ ?_ fun out hlen ho => ?_
    · exact .of fun b b' => by
        show W.alikeAll _ _ = true
        exact W.alike_ints b b'
    · refine .inl fun d hd => ?_
      obtain ⟨b, hb, rfl⟩ := List.mem_map.mp hd
      cases b with
      | nil => exact absurd rfl (hne [] hb)
      | cons x r => exact ⟨.int x, r.map .int, rfl⟩
    · rw [← hr.len]; exact hz
    · intro b _
      have : PyData.depthAll (b.map .int) = 0 := W.depth_ints b
      simp only [encRow, PyData.depth]
      omega
    · rw [rowLe, ← isort_merge tot_row] at ho
      obtain ⟨ys, hv, hy⟩ := each_rows ho
      obtain ⟨ep, he'⟩ := PyProof.Rows.sortedAll_at s.heap its out.toArray
      have hlen2 : ys.length ≤ sizeLine := by
        rw [hy.len, len_isort, ← hr.len]
        exact hz
      exact ⟨.ref _, upd H (s.heap.objs.size + 1) (.lst ys), I.laid (t' := s.toks) (fun _ _ => PyProof.Rows.sortedAll_old) (Nat.le_succ _) ⟨hlen2, out, ep, hv, he'⟩, rfl, q _ _ hy (I.hok.fresh (Nat.le_succ _))⟩
end
end PD
/-! text P9 -/
set_option maxHeartbeats 5000000
namespace PD
open PySem.Spec PySem PyProof.Rows L2

section
variable {ca : Nat → Addr} {E : XK} {X : Cx} {pos p : Pos} {x : Str}

/-! ### calls of built-ins by their values -/
def GvA (ca : Nat → Addr) (E : XK) (r : List V → Hp → VK → Prop) (g : List PyData → R PyData) : Prop := ∀ (ds : List PyData) (vs : List V) (Hi H : Hp) (Q : VK), RpAll Hi vs ds → Sub Hi H → PV ca E Hi H (g ds) Q → r vs H Q
def eA (g : List PyData → R PyData) (fs : Ev → R (List PyData)) : Ev → R PyData := fun env => (fs env).bind g
theorem app_ok {r : List V → Hp → VK → Prop} {g : List PyData → R PyData} {fs : Ev → R (List PyData)} {t : TA} (hg : GvA ca E r g)
    (q : ∀ (He : Hp) (env : Ev) (σ : St) (Hi H : Hp) (Q : List V → Hp → Prop), Slots He env σ Hi H → Sub Hi H → PL ca E Hi H (fs env) Q → t σ H Q) :
    ∀ (He : Hp) (env : Ev) (σ : St) (Hi H : Hp) (Q : VK), Slots He env σ Hi H → Sub Hi H → PV ca E Hi H (eA g fs env) Q → t σ H fun vs H1 => r vs H1 Q := fun He env σ Hi H Q S s h => by
  refine q He env σ Hi H _ S s ?_
  have h1 := PV.bindL h
  cases ea : fs env with
  | stuck => rw [ea] at h1; exact h1.elim
  | exc c => rw [ea] at h1; exact h1
  | ok ds =>
    rw [ea] at h1
    intro vs Hi1 H1 x1 r1
    obtain ⟨d, Hi', e, x1, r1, h2⟩ := h1 vs Hi1 H1 x1 r1
    cases e
    exact hg _ _ _ _ Q r1 x1.le h2
theorem okE_callB {id : String} {r : List V → Hp → VK → Prop} {g : List PyData → R PyData} {e : Expr} {es : List Expr} {fs : Ev → R (List PyData)} (hc : CallR X (.builtin id) r) (hg' : GvA ca E r g) (hg : Gl X x) (hm : X.mg x = none) (hv : bootBuiltins x = some (.builtin id))
    (ha : OkA ca E X (e :: es) fs) (hn : x ≠ "__name__" := by decide) (hdb : (x == ("__debug__" : Str)) = false := by decide) (he : starEach (e :: es) X.env = (false, eval e X.env) :: starEach es X.env := by rfl) (hpl : (backTo pos (starEach es X.env)).any (·.1) = false := by rfl) :
    OkE ca E X (.Call (.Name x p) (e :: es) [] pos) (eA g fs) := by
  obtain ⟨t, pt, q⟩ := ha
  exact ⟨_, pe_callB hc hg hm hv pt hn hdb he hpl, app_ok hg' q⟩
theorem okE_callTy {T : String} {r : List V → Hp → VK → Prop} {g : List PyData → R PyData} {e : Expr} {es : List Expr} {fs : Ev → R (List PyData)} (hc : CallR X (.type T) r) (hg' : GvA ca E r g) (hg : Gl X x) (hm : X.mg x = none) (hv : bootBuiltins x = some (.type T))
    (ha : OkA ca E X (e :: es) fs) (hn : x ≠ "__name__" := by decide) (hdb : (x == ("__debug__" : Str)) = false := by decide) (he : starEach (e :: es) X.env = (false, eval e X.env) :: starEach es X.env := by rfl) (hpl : (backTo pos (starEach es X.env)).any (·.1) = false := by rfl) :
    OkE ca E X (.Call (.Name x p) (e :: es) [] pos) (eA g fs) := by
  obtain ⟨t, pt, q⟩ := ha
  exact ⟨_, pe_callTy hc hg hm hv pt hn hdb he hpl, app_ok hg' q⟩
/-- len(x) -/
def gLen : List PyData → R PyData := fun xs => match xs with
  | [.list ds] => .ok (.int ds.length)
  | [.tuple ds] => .ok (.int ds.length)
  | _ => .stuck
theorem RpAll.one {Hi : Hp} {vs : List V} {d : PyData} (r : RpAll Hi vs [d]) : ∃ v, vs = [v] ∧ Rp Hi v d := by
  cases r with
  | cons r t => cases t; exact ⟨_, rfl, r⟩
theorem RpAll.two {Hi : Hp} {vs : List V} {d e : PyData} (r : RpAll Hi vs [d, e]) : ∃ v u, vs = [v, u] ∧ Rp Hi v d ∧ Rp Hi u e := by
  cases r with
  | cons r t =>
    obtain ⟨u, rfl, r'⟩ := t.one
    exact ⟨_, u, rfl, r, r'⟩
theorem gv_len {K : PySem.W.Frag} : GvA ca E (fun xs H Q => ∃ x n, xs = [x] ∧ LenV K x H n ∧ Q (.int n) H) gLen := by
  intro ds vs Hi H Q r s h
  unfold gLen at h
  split at h
  · rename_i es
    obtain ⟨v, rfl, r1⟩ := r.one
    cases r1 with
    | @lst a xs _ ea ra => exact ⟨.ref a, xs.length, rfl, .inl ⟨xs, .of (s _ _ ea), rfl⟩, by rw [ra.length]; exact h _ _ _ (.refl s) (.int _)⟩
  · rename_i es
    obtain ⟨v, rfl, r1⟩ := r.one
    cases r1 with
    | @tup a xs _ ea ra => exact ⟨.ref a, xs.length, rfl, .inr ⟨xs, .inl (.inl (s _ _ ea)), rfl⟩, by rw [ra.length]; exact h _ _ _ (.refl s) (.int _)⟩
  · exact PV.no h
/-- all(xs), any(xs) -/
def boolsOf : List PyData → Option (List Bool)
  | [] => some []
  | .bool b :: r => match boolsOf r with
    | some l => some (b :: l)
    | none => none
  | _ :: _ => none
theorem vals_bools : ∀ {H : Hp} {vs : List V} {ds : List PyData} {bs : List Bool}, boolsOf ds = some bs → RpAll H vs ds → vs = bs.map V.bl
  | _, _, [], bs, h, r => by
    cases r
    simp [boolsOf] at h
    subst h
    rfl
  | H, _, .bool b :: ds, bs, h, r => by
    unfold boolsOf at h
    cases e : boolsOf ds with
    | none => rw [e] at h; cases h
    | some l =>
      rw [e] at h
      cases h
      cases r with
      | cons r t =>
        cases r
        rw [vals_bools e t]
        rfl
  | _, _, .none :: _, _, h, _ => by cases h
  | _, _, .int _ :: _, _, h, _ => by cases h
  | _, _, .str _ :: _, _, h, _ => by cases h
  | _, _, .list _ :: _, _, h, _ => by cases h
  | _, _, .tuple _ :: _, _, h, _ => by cases h
  | _, _, .dict _ :: _, _, h, _ => by cases h
def gAll : List PyData → R PyData := fun xs => match xs with
  | [.list ds] => match boolsOf ds with
    | some bs => .ok (.bool (bs.all id))
    | none => .stuck
  | _ => .stuck
def gAny : List PyData → R PyData := fun xs => match xs with
  | [.list ds] => match boolsOf ds with
    | some bs => .ok (.bool (bs.any id))
    | none => .stuck
  | _ => .stuck
theorem gv_all {K : PySem.W.Frag} : GvA ca E (rAll K) gAll := by
  intro ds vs Hi H Q r s h
  unfold gAll at h
  split at h
  · rename_i es
    split at h
    · rename_i bs hb
      obtain ⟨v, rfl, r1⟩ := r.one
      cases r1 with
      | @lst a xs _ ea ra =>
        have e := vals_bools hb ra
        subst e
        exact ⟨a, bs, rfl, .of (s _ _ ea), h _ _ _ (.refl s) (.bl _)⟩
    · exact PV.no h
  · exact PV.no h
theorem gv_any {K : PySem.W.Frag} : GvA ca E (rAny K) gAny := by
  intro ds vs Hi H Q r s h
  unfold gAny at h
  split at h
  · rename_i es
    split at h
    · rename_i bs hb
      obtain ⟨v, rfl, r1⟩ := r.one
      cases r1 with
      | @lst a xs _ ea ra =>
        have e := vals_bools hb ra
        subst e
        exact ⟨a, bs, rfl, .of (s _ _ ea), h _ _ _ (.refl s) (.bl _)⟩
    · exact PV.no h
  · exact PV.no h
/-- sorted(xs) -/
def rowsOf : List PyData → Option (List (List Int))
  | [] => some []
  | .tuple (d :: ds) :: r => match intsOf (d :: ds) with
    | some ns => match rowsOf r with
      | some l => some (ns :: l)
      | none => none
    | none => none
  | _ :: _ => none
def gSorted : List PyData → R PyData := fun xs => match xs with
  | [.list ds] => match intsOf ds with
    | some ns => .ok (.list ((isort (fun a b => decide (a ≤ b)) ns).map .int))
    | none => match rowsOf ds with
      | some rs => .ok (.list ((isort (fun a b => leRow a b) rs).map encRow))
      | none => .stuck
  | _ => .stuck
theorem rows_at {H Hi : Hp} (s : Sub Hi H) : ∀ {vs : List V} {ds : List PyData} {rs : List (List Int)}, rowsOf ds = some rs → RpAll Hi vs ds → RowsAt Hi vs rs ∧ ∀ r ∈ rs, r ≠ []
  | _, [], rs, h, r => by
    cases r
    simp [rowsOf] at h
    subst h
    exact ⟨.nil, fun _ h => by cases h⟩
  | _, .tuple (d :: ds) :: rest, rs, h, r => by
    unfold rowsOf at h
    cases e : intsOf (d :: ds) with
    | none => rw [e] at h; cases h
    | some ns =>
      rw [e] at h
      cases e2 : rowsOf rest with
      | none => simp only [e2] at h; cases h
      | some l =>
        simp only [e2] at h
        cases h
        cases r with
        | cons r t =>
          obtain ⟨h1, h2⟩ := rows_at s e2 t
          cases r with
          | tup ea ra =>
            rw [intsOf_eq e] at ra
            have e3 := vals_ints ra
            subst e3
            refine ⟨.cons ea h1, fun r hr => ?_⟩
            rcases List.mem_cons.mp hr with rfl | hr
            · intro z
              subst z
              have := intsOf_eq e
              cases this
            · exact h2 r hr
  | _, .tuple [] :: _, _, h, _ => by cases h
  | _, .none :: _, _, h, _ => by cases h
  | _, .bool _ :: _, _, h, _ => by cases h
  | _, .int _ :: _, _, h, _ => by cases h
  | _, .str _ :: _, _, h, _ => by cases h
  | _, .list _ :: _, _, h, _ => by cases h
  | _, .dict _ :: _, _, h, _ => by cases h
theorem RowsAt.sub {H H' : Hp} (s : Sub H H') : ∀ {xs : List V} {rs : List (List Int)}, RowsAt H xs rs → RowsAt H' xs rs
  | _, _, .nil => .nil
  | _, _, .cons e r => .cons (s _ _ e) (r.sub s)
theorem RowsAt.rp {H : Hp} : ∀ {xs : List V} {rs : List (List Int)}, RowsAt H xs rs → RpAll H xs (rs.map encRow)
  | _, _, .nil => .nil
  | _, _, .cons e r => .cons (.tup e RpAll.ints) r.rp
end
end PD
/-! text P10 -/
set_option maxHeartbeats 5000000
namespace PD
open PySem.Spec PySem PyProof.Rows L2

section
variable {ca : Nat → Addr} {E : XK} {X : Cx} {pos p : Pos} {x : Str}
theorem gv_sorted {K : PySem.W.Frag} : GvA ca E (rSortU K) gSorted := by
  intro ds vs Hi H Q r s h
  unfold gSorted at h
  split at h
  · rename_i es
    obtain ⟨v, rfl, r1⟩ := r.one
    cases r1 with
    | @lst a xs _ ea ra =>
      refine ⟨a, rfl, ?_⟩
      split at h
      · rename_i ns hns
        rw [intsOf_eq hns] at ra
        have e := vals_ints ra
        subst e
        exact .inl ⟨ns, .of (s _ _ ea), fun q hq => h _ _ _ (.new s hq) (.lst upd_same RpAll.ints)⟩
      · split at h
        · rename_i rs hrs
          obtain ⟨h1, h2⟩ := rows_at s hrs ra
          have h3 : ∀ (q : Addr) (ys : List V), H q = none → RowsAt Hi ys (isort (fun a b => leRow a b) rs) → Q (.ref q) (upd H q (.lst ys)) := fun q ys hq hy =>
            h _ _ _ (.new s hq) (.lst upd_same (hy.rp.sub (Sub.up (s.nn hq))))
          exact .inr ⟨Hi, xs, rs, s, .of (s _ _ ea), h1, h2, fun ys q hy hq => h3 q ys hq hy⟩
        · exact PV.no h
  · exact PV.no h
/-- list(x), tuple(x) -/
def gList : List PyData → R PyData := fun xs => match xs with
  | [.list ds] => .ok (.list ds)
  | [.tuple ds] => .ok (.list ds)
  | _ => .stuck
def gTuple : List PyData → R PyData := fun xs => match xs with
  | [.list ds] => .ok (.tuple ds)
  | [.tuple ds] => .ok (.tuple ds)
  | _ => .stuck
theorem gv_list {K : PySem.W.Frag} : GvA ca E (fun xs H Q => ∃ p ys, xs = [.ref p] ∧ (SqL K H p ys ∨ SqT K H p ys) ∧ ∀ l, H l = none → Q (.ref l) (upd H l (.lst ys))) gList := by
  intro ds vs Hi H Q r s h
  unfold gList at h
  split at h
  · rename_i es
    obtain ⟨v, rfl, r1⟩ := r.one
    cases r1 with
    | @lst a xs _ ea ra => exact ⟨a, xs, rfl, .inl (.of (s _ _ ea)), fun l hl => h _ _ _ (.new s hl) (.lst upd_same (ra.sub (Sub.up (s.nn hl))))⟩
  · rename_i es
    obtain ⟨v, rfl, r1⟩ := r.one
    cases r1 with
    | @tup a xs _ ea ra => exact ⟨a, xs, rfl, .inr (.inl (.inl (s _ _ ea))), fun l hl => h _ _ _ (.new s hl) (.lst upd_same (ra.sub (Sub.up (s.nn hl))))⟩
  · exact PV.no h
theorem gv_tuple {K : PySem.W.Frag} : GvA ca E (fun xs H Q => ∃ p ys, xs = [.ref p] ∧ ((SqL K H p ys ∧ ∀ l, H l = none → Q (.ref l) (upd H l (.tup ys))) ∨ (SqT K H p ys ∧ Q (.ref p) H))) gTuple := by
  intro ds vs Hi H Q r s h
  unfold gTuple at h
  split at h
  · rename_i es
    obtain ⟨v, rfl, r1⟩ := r.one
    cases r1 with
    | @lst a xs _ ea ra => exact ⟨a, xs, rfl, .inl ⟨.of (s _ _ ea), fun l hl => h _ _ _ (.new s hl) (.tup upd_same (ra.sub (Sub.up (s.nn hl))))⟩⟩
  · rename_i es
    obtain ⟨v, rfl, r1⟩ := r.one
    cases r1 with
    | @tup a xs _ ea ra => exact ⟨a, xs, rfl, .inr ⟨.inl (.inl (s _ _ ea)), h _ _ _ (.refl s) (.tup ea ra)⟩⟩
  · exact PV.no h
/-- max, min of a list or tuple of ints, or of two ints -/
def maxI (n : Int) (ns : List Int) : Int := ns.foldl max n
def minI (n : Int) (ns : List Int) : Int := ns.foldl min n
def gMM (f : Int → List Int → Int) (g : Int → Int → Int) : List PyData → R PyData := fun xs => match xs with
  | [.list ds] => match intsOf ds with
    | some (n :: ns) => .ok (.int (f n ns))
    | _ => .stuck
  | [.tuple ds] => match intsOf ds with
    | some (n :: ns) => .ok (.int (f n ns))
    | _ => .stuck
  | [.int i, .int j] => .ok (.int (g i j))
  | _ => .stuck
def rMM (K : PySem.W.Frag) (f : Int → List Int → Int) (g : Int → Int → Int) : List V → Hp → VK → Prop := fun vs H Q =>
  (∃ (a : Addr) (n : Int) (ns : List Int), vs = [.ref a] ∧ (SqL K H a ((n :: ns).map V.int) ∨ SqT K H a ((n :: ns).map V.int)) ∧ Q (.int (f n ns)) H) ∨ ∃ i j, vs = [.int i, .int j] ∧ Q (.int (g i j)) H
theorem gv_mm {K : PySem.W.Frag} {f : Int → List Int → Int} {g : Int → Int → Int} : GvA ca E (rMM K f g) (gMM f g) := by
  intro ds vs Hi H Q r s h
  unfold gMM at h
  split at h
  · rename_i es
    split at h
    · rename_i n ns hns
      obtain ⟨v, rfl, r1⟩ := r.one
      cases r1 with
      | @lst a xs _ ea ra =>
        rw [intsOf_eq hns] at ra
        have e := vals_ints ra
        subst e
        exact .inl ⟨a, n, ns, rfl, .inl (.of (s _ _ ea)), h _ _ _ (.refl s) (.int _)⟩
    · exact PV.no h
  · rename_i es
    split at h
    · rename_i n ns hns
      obtain ⟨v, rfl, r1⟩ := r.one
      cases r1 with
      | @tup a xs _ ea ra =>
        rw [intsOf_eq hns] at ra
        have e := vals_ints ra
        subst e
        exact .inl ⟨a, n, ns, rfl, .inr (.inl (.inl (s _ _ ea))), h _ _ _ (.refl s) (.int _)⟩
    · exact PV.no h
  · rename_i i j
    obtain ⟨v, u, rfl, r1, r2⟩ := r.two
    cases r1
    cases r2
    exact .inr ⟨i, j, rfl, h _ _ _ (.refl s) (.int _)⟩
  · exact PV.no h
theorem alike_all (n : Int) (ns : List Int) : W.AlikeAll (.int n :: ns.map .int) := by
  have q : ∀ x ∈ (PyData.int n :: ns.map .int), ∃ i, x = PyData.int i := fun x hx => by
    rcases List.mem_cons.mp hx with rfl | hx
    · exact ⟨n, rfl⟩
    · obtain ⟨i, _, rfl⟩ := List.mem_map.mp hx
      exact ⟨i, rfl⟩
  refine ⟨fun x hx y hy => ?_, fun x hx => ?_⟩
  · obtain ⟨i, rfl⟩ := q x hx
    obtain ⟨j, rfl⟩ := q y hy
    rfl
  · obtain ⟨i, rfl⟩ := q x hx
    intro z
    cases z
theorem reads_ints {h : Heap} : ∀ {us : List Value} {ns : List Int}, Vals (ns.map V.int) us → ∃ as, ReadsAll h us (ns.map .int) as
  | [], [], _ => ⟨_, .nil⟩
  | u :: us, n :: ns, r => by
    rw [List.map_cons] at r
    cases r with
    | cons r t =>
      obtain ⟨t', rfl⟩ := r
      obtain ⟨as, q⟩ := reads_ints (h := h) t
      exact ⟨_, .cons (.int _ _) q⟩
  | _ :: _, [], r => by cases r
  | [], _ :: _, r => by
    rw [List.map_cons] at r
    cases r
theorem depth_mm (n : Int) (ns : List Int) : PyData.depthAll (.int n :: ns.map .int) = 0 := W.depth_ints (n :: ns)
theorem cr_max2 (hc : X.calm = true) (hu : X.A.units + 64 < cLine) : CallR X (.builtin "max") (rMM X.K maxI fun i j => if j > i then j else i) := by
  intro pins s σ H vs us Q I r h
  rcases h with ⟨a, n, ns, rfl, hs, q⟩ | ⟨i, j, rfl, q⟩
  · rw [Vals.ref1 r]
    rcases hs with hs | hs
    · obtain ⟨its, rv, hl, _⟩ := I.list hs
      obtain ⟨as, hr⟩ := reads_ints (h := s.heap) rv
      refine W.max_list_data (I.ok.hd hc) hl.isList (x := .int n) (xs := ns.map .int) (by simpa using hr) (alike_all n ns) (by rw [depth_mm]; omega) fun i v h' tk bs hv hr hk => ?_
      rw [W.maxD_ints] at hr
      obtain ⟨t, rfl⟩ := reads_int hr
      exact ⟨.int _, H, I.kept hk, ⟨t, rfl⟩, q⟩
    · obtain ⟨its, rv, hl, _⟩ := I.tuple hs
      obtain ⟨as, hr⟩ := reads_ints (h := s.heap) rv
      refine W.max_tuple_data (I.ok.hd hc) (show s.heap.IsTuple a its.toArray from hl) (x := .int n) (xs := ns.map .int) (by simpa using hr) (alike_all n ns) (by rw [depth_mm]; omega) fun i v h' tk bs hv hr hk => ?_
      rw [W.maxD_ints] at hr
      obtain ⟨t, rfl⟩ := reads_int hr
      exact ⟨.int _, H, I.kept hk, ⟨t, rfl⟩, q⟩
  · exact call_max2 hc pins s σ H _ us Q I r ⟨i, j, rfl, q⟩
theorem cr_min2 (hc : X.calm = true) (hu : X.A.units + 64 < cLine) : CallR X (.builtin "min") (rMM X.K minI fun i j => if j < i then j else i) := by
  intro pins s σ H vs us Q I r h
  rcases h with ⟨a, n, ns, rfl, hs, q⟩ | ⟨i, j, rfl, q⟩
  · rw [Vals.ref1 r]
    rcases hs with hs | hs
    · obtain ⟨its, rv, hl, _⟩ := I.list hs
      obtain ⟨as, hr⟩ := reads_ints (h := s.heap) rv
      refine W.min_list_data (I.ok.hd hc) hl.isList (x := .int n) (xs := ns.map .int) (by simpa using hr) (alike_all n ns) (by rw [depth_mm]; omega) fun i v h' tk bs hv hr hk => ?_
      rw [W.minD_ints] at hr
      obtain ⟨t, rfl⟩ := reads_int hr
      exact ⟨.int _, H, I.kept hk, ⟨t, rfl⟩, q⟩
    · obtain ⟨its, rv, hl, _⟩ := I.tuple hs
      obtain ⟨as, hr⟩ := reads_ints (h := s.heap) rv
      refine W.min_tuple_data (I.ok.hd hc) (show s.heap.IsTuple a its.toArray from hl) (x := .int n) (xs := ns.map .int) (by simpa using hr) (alike_all n ns) (by rw [depth_mm]; omega) fun i v h' tk bs hv hr hk => ?_
      rw [W.minD_ints] at hr
      obtain ⟨t, rfl⟩ := reads_int hr
      exact ⟨.int _, H, I.kept hk, ⟨t, rfl⟩, q⟩
  · exact call_min2 hc pins s σ H _ us Q I r ⟨i, j, rfl, q⟩

/-! ### isinstance(x, T), isinstance(x, (T, U)) -/
inductive Ty5 where
  | int | bool | str | list | tuple
def Ty5.nm : Ty5 → String
  | .int => "int"
  | .bool => "bool"
  | .str => "str"
  | .list => "list"
  | .tuple => "tuple"
def isT (T : Ty5) (d : PyData) : R Bool := match d with
  | .none => .ok false
  | .bool _ => match T with
    | .int => .ok true
    | .bool => .ok true
    | _ => .ok false
  | .int _ => match T with
    | .int => .ok true
    | _ => .ok false
  | .str _ => match T with
    | .str => .ok true
    | _ => .ok false
  | .list _ => match T with
    | .list => .ok true
    | _ => .ok false
  | .tuple _ => match T with
    | .tuple => .ok true
    | _ => .ok false
  | .dict _ => .stuck
def gIsi (T : Ty5) (d : PyData) : R PyData := (isT T d).bind fun b => .ok (.bool b)
def tyD : PyData → String
  | .none => "NoneType"
  | .bool _ => "bool"
  | .int _ => "int"
  | .str _ => "str"
  | .list _ => "list"
  | .tuple _ => "tuple"
  | .dict _ => "dict"
theorem isT_kit {K : PySem.W.Frag} {T : Ty5} {d : PyData} {b : Bool} (h : isT T d = .ok b) : PySem.W.kitOne K (.type (tyD d)) (.type T.nm) = some b := by
  refine kit_ty ?_
  cases d with
  | none => cases T <;> (cases h; decide +kernel)
  | bool _ => cases T <;> (cases h; show kitB "bool" _ = _; decide +kernel)
  | int _ => cases T <;> (cases h; show kitB "int" _ = _; decide +kernel)
  | str _ => cases T <;> (cases h; show kitB "str" _ = _; decide +kernel)
  | list _ => cases T <;> (cases h; show kitB "list" _ = _; decide +kernel)
  | tuple _ => cases T <;> (cases h; show kitB "tuple" _ = _; decide +kernel)
  | dict _ => cases h
theorem ty_of {K : PySem.W.Frag} {Hi H : Hp} {v : V} {d : PyData} {T : Ty5} {b : Bool} (s : Sub Hi H) (r : Rp Hi v d) (h : isT T d = .ok b) : TyX K H v (.type (tyD d)) := by
  cases r with
  | non => exact .base .non
  | bl _ => exact .base (.bl _)
  | int _ => exact .base (.int _)
  | str _ => exact .base (.str _)
  | lst e _ => exact .base (.lst (s _ _ e))
  | tup e _ => exact .base (.tup (s _ _ e))
  | dct _ _ => cases h
  | dci _ _ => cases h
theorem okE_isi {a : Expr} {fa : Ev → R PyData} (T : Ty5) {y : Str} {p2 : Pos} (hg : Gl X "isinstance") (hm : X.mg "isinstance" = none) (hgT : Gl X y) (hmT : X.mg y = none) (hvT : bootBuiltins y = some (.type T.nm)) (ha : OkE ca E X a fa)
    (hn : y ≠ "__name__" := by decide) (hdb : (y == ("__debug__" : Str)) = false := by decide) (hs : starEach [a, .Name y p2] X.env = (false, eval a X.env) :: starEach [.Name y p2] X.env := by rfl) (hpl : (backTo pos (starEach [.Name y p2] X.env)).any (·.1) = false := by rfl) :
    OkE ca E X (.Call (.Name "isinstance" p) [a, .Name y p2] [] pos) (e1 (gIsi T) fa) := by
  obtain ⟨ta, pa, qa⟩ := ha
  refine ⟨_, pe_callB call_isi hg hm boot_isinstance (pa_cons pa (pa_cons (pe_bltn (v := .ty T.nm) hgT hmT hvT rfl hn hdb) pa_nil) hs) (by decide) (by decide) hs hpl, fun He env σ Hi H Q S s h => qa He env σ Hi H _ S s ?_⟩
  have h1 := PV.bind h
  cases ea : fa env with
  | stuck => rw [ea] at h1; exact h1.elim
  | exc c => rw [ea] at h1; exact h1
  | ok d =>
    rw [ea] at h1
    intro v Hi1 H1 x1 r1
    obtain ⟨d', Hi', e, x1, r1, h2⟩ := h1 v Hi1 H1 x1 r1
    cases e
    unfold gIsi at h2
    cases et : isT T d with
    | stuck => rw [et] at h2; exact PV.no h2
    | exc c =>
      cases d <;> cases T <;> cases et
    | ok b =>
      rw [et] at h2
      exact ⟨v, .ty T.nm, .type (tyD d), .type T.nm, b, rfl, .ty _, ty_of x1.le r1 et, isT_kit et, h2 _ _ _ (.refl x1.le) (.bl _)⟩
end
end PD
/-! text P11 -/
set_option maxHeartbeats 5000000
namespace PD
open PySem.Spec PySem PyProof.Rows L2

section
variable (ca : Nat → Addr) (E : XK)
/-! ### the readings, whatever the context -/
def tE (f : Ev → R PyData) : TE := fun σ H Q => ∃ He env Hi, Slots He env σ Hi H ∧ Sub Hi H ∧ PV ca E Hi H (f env) Q
def tT' (f : Ev → R PyData) : TT := fun σ H Q => ∃ He env Hi, Slots He env σ Hi H ∧ Sub Hi H ∧ PB ca E Hi H (asB (f env)) Q
theorem OkE.can {X : Cx} {e : Expr} {f : Ev → R PyData} (h : OkE ca E X e f) : PE X e (tE ca E f) := by
  obtain ⟨t, p, q⟩ := h
  exact ⟨fun pins s σ H Q I ⟨He, env, Hi, S, sb, h⟩ => p.run pins s σ H Q I (q He env σ Hi H Q S sb h)⟩
theorem OkT.can {X : Cx} {e : Expr} {f : Ev → R PyData} (h : OkT ca E X e f) : PT X e (tT' ca E f) := by
  obtain ⟨t, p, q⟩ := h
  exact ⟨fun pins s σ H Q I ⟨He, env, Hi, S, sb, h⟩ => p.run pins s σ H Q I (q He env σ Hi H Q S sb h)⟩
/-! ### what is walked -/
structure WalksD (J : It) (ds : List PyData) (Hi0 : Hp) : Prop where
  goes : ∀ (i : Nat) (Hi H : Hp), i < ds.length → Sub Hi0 Hi → Sub Hi H → J.go i H
  stops : ∀ (Hi H : Hp), Sub Hi0 Hi → Sub Hi H → J.stop ds.length H
  yields : ∀ (i : Nat) (Hi H : Hp) (x : V) (H' : Hp) (d : PyData), ds[i]? = some d → Sub Hi0 Hi → Sub Hi H → J.yld i H x H' → ∃ Hi', Ex Hi H Hi' H' ∧ Rp Hi' x d
/-- what is asked of what is walked -/
def PW' (Hi H : Hp) (r : R (List PyData)) (Rr : It → Hp → Prop) : Prop := match r with
  | .stuck => False
  | .ok ds => ∀ J Hi' H', Ex Hi H Hi' H' → WalksD J ds Hi' → Rr J H'
  | .exc c => ∀ Hi' H' dx, Ex Hi H Hi' H' → E (.ref (ca c)) dx H'
def OkI (X : Cx) (tg e : Expr) (f : Ev → R (List PyData)) : Prop := ∃ wi, PI X tg e wi ∧ ∀ (He : Hp) (env : Ev) (σ : St) (Hi H : Hp) (Rr : It → Hp → Prop), Slots He env σ Hi H → Sub Hi H → PW' ca E Hi H (f env) Rr → wi σ H Rr
/-! ### targets; us: the slots that are stored -/
def tG (us : List Nat) (g : PyData → Ev → R Ev) : TG := fun v σ H Q => ∃ He env Hi d, Slots He env σ Hi H ∧ Sub Hi H ∧ Rp Hi v d ∧ (match g d env with
  | .ok env' => ∀ σ' Hi' H', Ex Hi H Hi' H' → Slots He env' σ' Hi' H' → σ'.length = σ.length → (∀ j, j ∉ us → σ'[j]? = σ[j]?) → Q σ' H'
  | _ => False)
def tGs (us : List Nat) (g : List PyData → Ev → R Ev) : TGs := fun vs σ H Q => ∃ He env Hi ds, Slots He env σ Hi H ∧ Sub Hi H ∧ RpAll Hi vs ds ∧ (match g ds env with
  | .ok env' => ∀ σ' Hi' H', Ex Hi H Hi' H' → Slots He env' σ' Hi' H' → σ'.length = σ.length → (∀ j, j ∉ us → σ'[j]? = σ[j]?) → Q σ' H'
  | _ => False)
end
def OkG (X : Cx) (tg : Expr) (us : List Nat) (g : PyData → Ev → R Ev) : Prop := PG X tg (tG us g)
def OkGs (X : Cx) (tgs : List Expr) (us : List Nat) (g : List PyData → Ev → R Ev) : Prop := PGs X tgs (tGs us g)
theorem pg_weak {X : Cx} {tg : Expr} {t t' : TG} (h : PG X tg t) (w : ∀ v σ H Q, t' v σ H Q → t v σ H Q) : PG X tg t' := ⟨fun pins s σ H v u Q I r q => h.run pins s σ H v u Q I r (w _ _ _ _ q)⟩
theorem pgs_weak {X : Cx} {tg : List Expr} {t t' : TGs} (h : PGs X tg t) (w : ∀ v σ H Q, t' v σ H Q → t v σ H Q) : PGs X tg t' := ⟨fun pins s σ H v u Q I r q => h.run pins s σ H v u Q I r (w _ _ _ _ q)⟩
section
variable {X : Cx} {pos : Pos}
def gN (i : Nat) : PyData → Ev → R Ev := fun d env => match Nat.blt i env.length with
  | true => .ok (env.set i (some (.imm d)))
  | false => .stuck
theorem okG_name (i : Nat) {x : Str} (hN : X.N.Nodup) (hi : X.N[i]? = some x := by rfl) (hx : Loc X.env.scope x := by first | exact Or.inl rfl | exact Or.inr rfl) (hf : X.fn x = true ∨ X.env.scope.names.lookup x = some .local := by first | exact .inl rfl | exact .inr rfl) :
    OkG X (.Name x pos) [i] (gN i) := by
  refine pg_weak (pg_name hN hi hx hf) fun v σ H Q ⟨He, env, Hi, d, S, s, r, h⟩ => ?_
  unfold gN at h
  split at h
  · rename_i e hh
    split at hh
    · rename_i hl
      cases hh
      have hl' := Nat.le_of_ble_eq_true hl
      refine h _ Hi H (.refl s) (S.set r hl') (by rw [List.length_set]) fun j hj => ?_
      exact List.getElem?_set_ne (by intro z; exact hj (by simp [z]))
    · cases hh
  · exact h.elim
def gsNil : List PyData → Ev → R Ev := fun ds env => match ds with
  | [] => .ok env
  | _ => .stuck
def gsCons (g : PyData → Ev → R Ev) (gs : List PyData → Ev → R Ev) : List PyData → Ev → R Ev := fun ds env => match ds with
  | d :: r => (g d env).bind fun env' => gs r env'
  | [] => .stuck
theorem okGs_nil : OkGs X [] [] gsNil := by
  refine pgs_weak pgs_nil fun v σ H Q ⟨He, env, Hi, d, S, s, r, h⟩ => ?_
  cases r with
  | nil => exact ⟨rfl, h _ Hi H (.refl s) S rfl fun _ _ => rfl⟩
  | cons r t => exact h.elim
theorem okGs_cons {e : Expr} {es : List Expr} {us us' : List Nat} {g : PyData → Ev → R Ev} {gs : List PyData → Ev → R Ev} (h1 : OkG X e us g) (h2 : OkGs X es us' gs)
    (hs : (assignEach (e :: es) X.env).map (·.2) = assign e X.env :: (assignEach es X.env).map (·.2) := by rfl) : OkGs X (e :: es) (us ++ us') (gsCons g gs) := by
  refine pgs_weak (pgs_cons h1 h2 hs) fun vs σ H Q ⟨He, env, Hi, ds, S, s, r, h⟩ => ?_
  cases r with
  | nil => exact h.elim
  | @cons v vs d ds r t =>
    refine ⟨v, vs, rfl, He, env, Hi, d, S, s, r, ?_⟩
    have h' : (match (g d env).bind fun env' => gs ds env' with
      | .ok env' => ∀ σ' Hi' H', Ex Hi H Hi' H' → Slots He env' σ' Hi' H' → σ'.length = σ.length → (∀ j, j ∉ us ++ us' → σ'[j]? = σ[j]?) → Q σ' H'
      | _ => False) := h
    cases eg : g d env with
    | stuck => rw [eg] at h'; exact h'.elim
    | exc c => rw [eg] at h'; exact h'.elim
    | ok env1 =>
      rw [eg] at h'
      intro σ1 Hi1 H1 x1 S1 l1 n1
      refine ⟨He, env1, Hi1, ds, S1, x1.le, t.sub x1.im, ?_⟩
      have h2 : (match gs ds env1 with
        | .ok env' => ∀ σ' Hi' H', Ex Hi H Hi' H' → Slots He env' σ' Hi' H' → σ'.length = σ.length → (∀ j, j ∉ us ++ us' → σ'[j]? = σ[j]?) → Q σ' H'
        | _ => False) := h'
      cases eg2 : gs ds env1 with
      | stuck => rw [eg2] at h2; exact h2.elim
      | exc c => rw [eg2] at h2; exact h2.elim
      | ok env2 =>
        rw [eg2] at h2
        intro σ2 Hi2 H2 x2 S2 l2 n2
        refine h2 σ2 Hi2 H2 (x1.trans x2) S2 (l2.trans l1) fun j hj => ?_
        rw [n2 j fun z => hj (List.mem_append_right _ z), n1 j fun z => hj (List.mem_append_left _ z)]
def gT (gs : List PyData → Ev → R Ev) : PyData → Ev → R Ev := fun d env => match d with
  | .tuple ds => gs ds env
  | _ => .stuck
def gL (gs : List PyData → Ev → R Ev) : PyData → Ev → R Ev := fun d env => match d with
  | .list ds => gs ds env
  | _ => .stuck
/-- gs takes n items -/
def Takes' (n : Nat) (gs : List PyData → Ev → R Ev) : Prop := ∀ ds env env', gs ds env = .ok env' → ds.length = n
theorem takes_nil : Takes' 0 gsNil := by
  intro ds env env' h
  cases ds with
  | nil => rfl
  | cons d r => cases h
theorem takes_cons {n : Nat} {g : PyData → Ev → R Ev} {gs : List PyData → Ev → R Ev} (t : Takes' n gs) : Takes' (n + 1) (gsCons g gs) := by
  intro ds env env' h
  cases ds with
  | nil => cases h
  | cons d r =>
    replace h : (g d env).bind (fun env' => gs r env') = .ok env' := h
    cases e : g d env with
    | stuck => rw [e] at h; cases h
    | exc c => rw [e] at h; cases h
    | ok env1 =>
      rw [e] at h
      rw [List.length_cons, t r env1 env' h]
theorem okG_tup {es : List Expr} {k : Nat} {us : List Nat} {gs : List PyData → Ev → R Ev} {n : Nat} (hc : X.calm = true) (h : OkGs X es us gs) (tk : Takes' n gs) (hn : (assignEach es X.env).length = n := by rfl) (hst : (assignEach es X.env).findIdx? (·.1) = none := by rfl) :
    OkG X (.Tuple es k pos) us (gT gs) := by
  refine pg_weak (pg_tup (n := n) hc h hn hst) fun v σ H Q ⟨He, env, Hi, d, S, s, r, h⟩ => ?_
  cases r with
  | @tup a xs ds ea ra =>
    have h' : (match gs ds env with
      | .ok env' => ∀ σ' Hi' H', Ex Hi H Hi' H' → Slots He env' σ' Hi' H' → σ'.length = σ.length → (∀ j, j ∉ us → σ'[j]? = σ[j]?) → Q σ' H'
      | _ => False) := h
    refine ⟨a, xs, rfl, .inl (.inl (s _ _ ea)), ?_, He, env, Hi, ds, S, s, ra, h'⟩
    cases eg : gs ds env with
    | stuck => rw [eg] at h'; exact h'.elim
    | exc c => rw [eg] at h'; exact h'.elim
    | ok env' => rw [ra.length, tk ds env env' eg]
  | _ => exact h.elim
theorem okG_lst {es : List Expr} {k : Nat} {us : List Nat} {gs : List PyData → Ev → R Ev} {n : Nat} (hc : X.calm = true) (h : OkGs X es us gs) (tk : Takes' n gs) (hn : (assignEach es X.env).length = n := by rfl) (hst : (assignEach es X.env).findIdx? (·.1) = none := by rfl) :
    OkG X (.Tuple es k pos) us (gL gs) := by
  refine pg_weak (pg_lst (n := n) hc h hn hst) fun v σ H Q ⟨He, env, Hi, d, S, s, r, h⟩ => ?_
  cases r with
  | @lst a xs ds ea ra =>
    have h' : (match gs ds env with
      | .ok env' => ∀ σ' Hi' H', Ex Hi H Hi' H' → Slots He env' σ' Hi' H' → σ'.length = σ.length → (∀ j, j ∉ us → σ'[j]? = σ[j]?) → Q σ' H'
      | _ => False) := h
    refine ⟨a, xs, rfl, .of (s _ _ ea), ?_, He, env, Hi, ds, S, s, ra, h'⟩
    cases eg : gs ds env with
    | stuck => rw [eg] at h'; exact h'.elim
    | exc c => rw [eg] at h'; exact h'.elim
    | ok env' => rw [ra.length, tk ds env env' eg]
  | _ => exact h.elim
end
end PD
/-! text P12 -/
set_option maxHeartbeats 5000000
namespace PD
open PySem.Spec PySem PyProof.Rows L2

/-! ### list comprehensions -/
def R.bindN {α β : Type} (r : R α) (f : α → R β) : R β := match r with
  | .ok a => f a
  | _ => .stuck
def compGo (g : PyData → Ev → R Ev) (tt te : Ev → R PyData) (env : Ev) : List PyData → R (List PyData)
  | [] => .ok []
  | d :: r => (g d env).bindN fun env1 => (asB (tt env1)).bindN fun b => match b with
    | true => (te env1).bindN fun y => (compGo g tt te env r).bindN fun ys => .ok (y :: ys)
    | false => compGo g tt te env r
theorem R.bindN_ok {α β : Type} {r : R α} {f : α → R β} {b : β} (h : r.bindN f = .ok b) : ∃ a, r = .ok a ∧ f a = .ok b := by
  cases r with
  | ok a => exact ⟨a, rfl, h⟩
  | stuck => cases h
  | exc c => cases h
theorem compGo_cons {g : PyData → Ev → R Ev} {tt te : Ev → R PyData} {env : Ev} {d : PyData} {r all : List PyData} (h : compGo g tt te env (d :: r) = .ok all) :
    ∃ env1 b, g d env = .ok env1 ∧ asB (tt env1) = .ok b ∧ ((b = true ∧ ∃ y ys, te env1 = .ok y ∧ compGo g tt te env r = .ok ys ∧ all = y :: ys) ∨ (b = false ∧ compGo g tt te env r = .ok all)) := by
  replace h : ((g d env).bindN fun env1 => (asB (tt env1)).bindN fun b => match b with
    | true => (te env1).bindN fun y => (compGo g tt te env r).bindN fun ys => .ok (y :: ys)
    | false => compGo g tt te env r) = .ok all := h
  obtain ⟨env1, e1, h⟩ := R.bindN_ok h
  obtain ⟨b, e2, h⟩ := R.bindN_ok h
  refine ⟨env1, b, e1, e2, ?_⟩
  cases b with
  | true =>
    obtain ⟨y, e3, h⟩ := R.bindN_ok h
    obtain ⟨ys, e4, h⟩ := R.bindN_ok h
    cases h
    exact .inl ⟨rfl, y, ys, e3, e4, rfl⟩
  | false => exact .inr ⟨rfl, h⟩
def eComp (vs : List Nat) (fi : Ev → R (List PyData)) (g : PyData → Ev → R Ev) (tt te : Ev → R PyData) : Ev → R PyData := fun env => (fi env).bind fun ds => match Nat.ble ds.length 4000 with
  | true => (compGo g tt te (wipeE env vs) ds).bindN fun ys => .ok (.list ys)
  | false => .stuck
theorem wipe_same {σ σ' : St} {us : List Nat} : ∀ {vs : List Nat}, (∀ j ∈ us, j ∈ vs) → σ'.length = σ.length → (∀ j, j ∉ us → σ'[j]? = σ[j]?) → L2.wipe σ' vs = L2.wipe σ vs := by
  intro vs hs hl hn
  refine List.ext_getElem? fun j => ?_
  by_cases hj : j ∈ vs
  · have q : ∀ (ρ : St) (vs : List Nat), j ∈ vs → (L2.wipe ρ vs)[j]? = if j < ρ.length then some none else none := by
      intro ρ vs
      induction vs with
      | nil => intro h; cases h
      | cons v vs ih =>
        intro h
        show ((L2.wipe ρ vs).set v none)[j]? = _
        by_cases hv : v = j
        · subst hv
          by_cases hlt : v < ρ.length
          · rw [List.getElem?_set_self (by rw [wipe_length]; exact hlt), if_pos hlt]
          · rw [if_neg hlt, List.getElem?_eq_none]
            rw [List.length_set, wipe_length]
            omega
        · rw [List.getElem?_set_ne hv]
          rcases List.mem_cons.mp h with h | h
          · exact absurd h.symm hv
          · exact ih h
    rw [q σ' vs hj, q σ vs hj, hl]
  · rw [wipe_out hj, wipe_out hj]
    exact hn j fun z => hj (hs j z)
theorem wipe_wipe (σ : St) (vs : List Nat) : L2.wipe (L2.wipe σ vs) vs = L2.wipe σ vs :=
  wipe_same (us := vs) (fun _ h => h) (by rw [wipe_length]) fun j hj => wipe_out hj
section
variable {ca : Nat → Addr} {E : XK} {X : Cx} {pos : Pos}
def tTrue : Ev → R PyData := eC (.bool true)
theorem okTs_nil {X' : Cx} : PTs X' [] (tT' ca E0 tTrue) := ⟨fun pins s σ H Q I ⟨He, env, Hi, S, sb, h⟩ => pts_nil.run pins s σ H Q I (h _ _ (.refl sb))⟩
theorem okTs_one {X' : Cx} {c : Expr} {f : Ev → R PyData} (h : OkT ca E0 X' c f) : PTs X' [c] (tT' ca E0 f) := pts_one (OkT.can ca E0 h)
/-- what stands at the head of a drop -/
theorem drop_at {α : Type} {l : List α} {i : Nat} (h : i < l.length) : ∃ d, l[i]? = some d ∧ l.drop i = d :: l.drop (i + 1) :=
  ⟨l[i], List.getElem?_eq_getElem h, List.drop_eq_getElem_cons h⟩
theorem comp_read {vs us : List Nat} {fi : Ev → R (List PyData)} {g : PyData → Ev → R Ev} {tt te : Ev → R PyData} {wi : TI} (hus : ∀ j ∈ us, j ∈ vs)
    (qi : ∀ (He : Hp) (env : Ev) (σ : St) (Hi H : Hp) (Rr : It → Hp → Prop), Slots He env σ Hi H → Sub Hi H → PW' ca E Hi H (fi env) Rr → wi σ H Rr) :
    ∀ (He : Hp) (env : Ev) (σ : St) (Hi H : Hp) (Q : VK), Slots He env σ Hi H → Sub Hi H → PV ca E Hi H (eComp vs fi g tt te env) Q → tLc wi (tG us g) (tT' ca E0 tt) (tE ca E0 te) vs σ H Q := by
  intro He env σ Hi H Q S s h
  refine qi He env σ Hi H _ S s ?_
  unfold eComp at h
  cases ei : fi env with
  | stuck => rw [ei] at h; exact h.elim
  | exc c => rw [ei] at h; exact h
  | ok ds =>
    rw [ei] at h
    replace h : PV ca E Hi H (match Nat.ble ds.length 4000 with
      | true => (compGo g tt te (wipeE env vs) ds).bindN fun ys => .ok (.list ys)
      | false => .stuck) Q := h
    split at h
    case h_2 => exact PV.no h
    rename_i hz
    have hz' := Nat.le_of_ble_eq_true hz
    cases ec : compGo g tt te (wipeE env vs) ds with
    | stuck => rw [ec] at h; exact PV.no h
    | exc c => rw [ec] at h; exact PV.no h
    | ok all =>
      rw [ec] at h
      replace h : PV ca E Hi H (.ok (.list all)) Q := h
      intro J Hi1 H1 x1 wk D hD
      have hiD : Hi1 D = none := x1.le.nn hD
      refine ⟨fun i m H' => m = ds.length - i ∧ i ≤ ds.length ∧ ∃ Hi' xs dn rest, Ex Hi1 H1 Hi' H' ∧ H' D = some (.lst xs) ∧ Hi' D = none ∧ RpAll Hi' xs dn ∧ xs.length ≤ i ∧ compGo g tt te (wipeE env vs) (ds.drop i) = .ok rest ∧ dn ++ rest = all,
        ⟨ds.length, by simp, Nat.zero_le _, Hi1, [], [], all, .skip x1.le hD, upd_same, hiD, .nil, Nat.le_refl _, ec, rfl⟩, ?_⟩
      rintro i m H' ⟨rfl, hil, Hi', xs, dn, rest, x2, hxs, hnD, hr, hxl, hgo, hall⟩
      by_cases hlt : i < ds.length
      · refine .inr ⟨wk.goes i Hi' H' hlt x2.im x2.le, fun H3 => i + 1 ≤ ds.length ∧ ∃ Hi' xs dn rest, Ex Hi1 H1 Hi' H3 ∧ H3 D = some (.lst xs) ∧ Hi' D = none ∧ RpAll Hi' xs dn ∧ xs.length ≤ i + 1 ∧ compGo g tt te (wipeE env vs) (ds.drop (i + 1)) = .ok rest ∧ dn ++ rest = all,
          fun H3 q => ⟨ds.length - (i + 1), by omega, rfl, q⟩, fun x H3 y => ?_⟩
        obtain ⟨d, hd, hdr⟩ := drop_at hlt
        rw [hdr] at hgo
        obtain ⟨env1, b, eg, et, hgo2⟩ := compGo_cons hgo
        obtain ⟨Hi3, x3, rx⟩ := wk.yields i Hi' H' x H3 d hd x2.im x2.le y
        have S3 : Slots He (wipeE env vs) (L2.wipe σ vs) Hi3 H3 := (((S.ex x1).ex x2).ex x3).wipe _
        refine ⟨He, _, Hi3, d, S3, x3.le, rx, ?_⟩
        rw [eg]
        intro σ4 Hi4 H4 x4 S4 hl4 hn4
        refine ⟨(wipe_same hus hl4 hn4).trans (wipe_wipe _ _), He, env1, Hi4, S4, x4.le, ?_⟩
        rw [et]
        intro Hi5 H5 x5
        have x35 := (x3.trans x4).trans x5
        have hD5 : H5 D = some (.lst xs) := x35.al _ _ hxs
        have hnD5 : Hi5 D = none := by
          cases q : Hi5 D with
          | none => rfl
          | some o =>
            rcases x35.nw D o q with z | z
            · rw [hnD] at z; cases z
            · rw [hxs] at z; cases z
        rcases hgo2 with ⟨rfl, y', ys, ey, hgo3, rfl⟩ | ⟨rfl, hgo3⟩
        · rw [if_pos rfl]
          refine ⟨He, env1, Hi5, S4.ex x5, x5.le, ?_⟩
          rw [ey]
          intro v Hi6 H6 x6 rv
          have hD6 : H6 D = some (.lst xs) := x6.al _ _ hD5
          have hnD6 : Hi6 D = none := by
            cases q : Hi6 D with
            | none => rfl
            | some o =>
              rcases x6.nw D o q with z | z
              · rw [hnD5] at z; cases z
              · rw [hD5] at z; cases z
          have x26 := (x2.trans x35).trans x6
          refine ⟨xs, hD6, by rw [sizeLine_eq]; omega, hlt, Hi6, xs ++ [v], dn ++ [y'], ys, ⟨x26.im, fun a o e => ?_, fun a o e => ?_, x26.nw⟩, upd_same, hnD6, ?_, ?_, hgo3, ?_⟩
          · rw [upd_ne (ne_of_none e hD)]
            exact x26.al a o e
          · rw [upd_ne (ne_of_none e hnD6)]
            exact x26.le a o e
          · exact (hr.sub (x35.im.trans x6.im)).append (.cons rv .nil)
          · rw [List.length_append]
            simp
            exact hxl
          · rw [List.append_assoc]
            exact hall
        · rw [if_neg Bool.false_ne_true]
          exact ⟨hlt, Hi5, xs, dn, rest, x2.trans x35, hD5, hnD5, hr.sub x35.im, Nat.le_succ_of_le hxl, hgo3, hall⟩
      · have e : i = ds.length := by omega
        subst e
        rw [List.drop_length] at hgo
        cases hgo
        rw [List.append_nil] at hall
        subst hall
        refine .inl ⟨wk.stops Hi' H' x2.im x2.le, h (.ref D) (upd Hi' D (.lst xs)) H' ?_ (.lst upd_same (hr.sub (Sub.up hnD)))⟩
        refine x1.trans ⟨x2.im.trans (Sub.up hnD), x2.al, fun a o e => ?_, fun a o e => ?_⟩
        · by_cases ha : a = D
          · subst ha
            rw [upd_same] at e
            cases e
            exact hxs
          · rw [upd_ne ha] at e
            exact x2.le a o e
        · by_cases ha : a = D
          · subst ha
            exact .inr hD
          · rw [upd_ne ha] at e
            exact x2.nw a o e
theorem okE_comp {elt tg iter : Expr} {ifs : List Expr} {scope : Scope} {own : List (Str × Nat)} {us : List Nat} {fi : Ev → R (List PyData)} {g : PyData → Ev → R Ev} {tt te : Ev → R PyData} (hc : X.calm = true) (hN : X.N.Nodup) (hi : OkI ca E X tg iter fi)
    (ok : BlkOk X.N X.env.scope scope own) (hus : ∀ j ∈ us, j ∈ own.map (·.2))
    (hg : ∀ (s : Shared) (H : Hp) (C : Addr) (cl : List (Str × Addr)) (fp : List Addr), OkG (X.blk s H scope (compEnvC scope cl C X.env) fp) tg us g)
    (ht : ∀ (s : Shared) (H : Hp) (C : Addr) (cl : List (Str × Addr)) (fp : List Addr), PTs (X.blk s H scope (compEnvC scope cl C X.env) fp) ifs (tT' ca E0 tt))
    (he : ∀ (s : Shared) (H : Hp) (C : Addr) (cl : List (Str × Addr)) (fp : List Addr), OkE ca E0 (X.blk s H scope (compEnvC scope cl C X.env) fp) elt te)
    (hs : ∀ x, foldedSetIterable iter X.env x = pure x := by intro _; rfl) : OkE ca E X (.ListComp elt [⟨tg, iter, ifs, 0⟩] scope pos) (eComp (own.map (·.2)) fi g tt te) := by
  obtain ⟨wi, pi, qi⟩ := hi
  exact ⟨_, pe_lc hc hN pi ok hg ht (fun s H C cl fp => OkE.can ca E0 (he s H C cl fp)) hs, comp_read hus qi⟩
end
end PD
/-! text P13 -/
set_option maxHeartbeats 5000000
namespace PD
open PySem.Spec PySem PyProof.Rows L2

/-! ### the keys of a dict of cuttings, in their order -/
def ItC (a : Addr) (o : Obj) (xs : List (CK × Addr × Value)) : It :=
  ⟨fun i H => H a = some (dO a o xs) ∧ i < xs.length, fun i H x H' => H' = H ∧ ∃ e, xs[i]? = some e ∧ x = .ref e.2.1, fun i H => H a = some (dO a o xs) ∧ xs.length ≤ i⟩
theorem dO_at {X : Cx} {pins : List (Addr × Obj)} {σ : St} {H : Hp} {s : Shared} {a : Addr} {o : Obj} {xs : List (CK × Addr × Value)} (I : Inv X pins σ H s) (h : H a = some (dO a o xs)) :
    (a == sysModules) = false ∧ s.heap.get? a = some o ∧ o.ExactDict ∧ ∃ es ep, o.data = .dict es ep ∧ es.toList = xs.map entC := by
  obtain ⟨h1, h2, h3, h4, h5, es, ep, h6, h7⟩ := (show ObjOk X.prog X.w H s.heap a (dO a o xs) from I.hok a _ h).1
  exact ⟨h1, h4, h5, es, ep, h6, h7⟩
theorem turn_C {P : Program} {w : World} {K : PySem.W.Frag} {tg : Expr} {a : Addr} {o : Obj} {xs : List (CK × Addr × Value)} {es : Array DictEntry} {ep : Nat} (it : Addr) (hod : o.data = .dict es ep) (hes : es.toList = xs.map entC) :
    Turn P w K tg (ItC a o xs) [it] it (fun i h => h.IsKeyIter it a i es.size ep) := by
  have one : ∀ {p : Addr → Prop}, p it → ∀ b ∈ [it], p b := fun h b m => by rw [List.mem_singleton.mp m]; exact h
  have num : es.size = xs.length := by rw [← Array.length_toList, hes, List.length_map]
  refine ⟨List.mem_singleton_self it, fun i h ⟨u, g, _, d⟩ => one ⟨u, g, fun v no => by rw [no] at d; cases d⟩, fun i h h' st k => st.at fun u => k it (List.mem_singleton_self it) u, ?_, ?_, fun A i z Q E st => wpAny_pyIter_keyiter st⟩
  · intro X eP ew eK calm i pins z σ G E I fp st ⟨hd, lt⟩
    subst eP ew eK
    have f := fp it (List.mem_singleton_self it)
    have gx : xs[i]? = some xs[i] := List.getElem?_eq_getElem lt
    refine next_key_item st (dO_at I hd).2.1 hod rfl (show es[i]? = some (entC xs[i]) by rw [← Array.getElem?_toList, hes, List.getElem?_map, gx] <;> rfl) fun h1 st1 same => ?_
    obtain ⟨u, gu, c, d⟩ := id st1
    exact ⟨_, rfl, go_of (s := { z with heap := h1 }) gu c d (by decide) ⟨.ref xs[i].2.1, G, I.turned (t' := z.toks) (fun b ob n => (same.2 b n).trans) f.1 f.2.1 f.2.2.2.1 f.2.2.2.2.1 f.2.2.2.2.2, rfl, ⟨rfl, xs[i], gx, rfl⟩, st1, fun b m => (fp b m).1⟩⟩
  · intro X eP ew eK calm i pins z σ G E I fp st ⟨hd, le⟩
    subst eP ew eK
    have f := fp it (List.mem_singleton_self it)
    exact next_key_end (I.ok.hd calm) st (dO_at I hd).2.1 hod rfl (by rw [num]; exact le) fun h1 eb => ⟨rfl, I.turned (t' := z.toks) (fun b ob n e => eb b ob n e) f.1 f.2.1 f.2.2.2.1 f.2.2.2.2.1 f.2.2.2.2.2⟩

section
variable {ca : Nat → Addr} {E : XK} {X : Cx} {pos p : Pos} {tg : Expr}
/-! ### a list, a tuple, a dict's keys -/
def iSeq (K : PySem.W.Frag) (tl : TE) : TI := fun σ H R => tl σ H fun x H1 => ∃ a, x = .ref a ∧ ((∃ xs, SqL K H1 a xs ∧ R (Itl K a) H1) ∨ (∃ xs, SqT K H1 a xs ∧ R (Itt K a) H1) ∨ ∃ o xs, H1 a = some (dO a o xs) ∧ R (ItC a o xs) H1)
theorem pi_seq {l : Expr} {tl : TE} (hl : PE X l tl) : PI X tg l (iSeq X.K tl) := by
  refine ⟨fun pins s σ H R I h => ?_⟩
  refine thn (hl.run pins s σ H _ I h) fun v s1 ⟨x, H1, I1, r1, a, e, q⟩ => ?_
  subst e
  cases r1
  rcases q with ⟨xs, hq, q⟩ | ⟨xs, hq, q⟩ | ⟨o, xs, hq, q⟩
  · obtain ⟨its, rv, pl, hz⟩ := I1.list hq
    exact wpAny_pyIter_list pl.isList (pi_one (tk := s1.toks) I1 _ (turn_list a _) ⟨_, Heap.get?_push_size _ rfl, rfl, rfl⟩ q)
  · obtain ⟨its, rv, pl, hz⟩ := I1.tuple hq
    exact wpAny_pyIter_tuple (show s1.heap.IsTuple a its.toArray from pl) (pi_one (tk := s1.toks) I1 _ (turn_tuple a _) ⟨_, Heap.get?_push_size _ rfl, rfl, rfl⟩ q)
  · obtain ⟨h1, h2, h3, es, ep, h4, h5⟩ := dO_at I1 hq
    exact iter_keys h1 h2 h3 h4 (pi_one (tk := s1.toks) I1 _ (turn_C _ h4 h5) ⟨_, Heap.get?_push_size _ rfl, rfl, rfl⟩ q)
def keysD : List (PyData × PyData) → List PyData
  | [] => []
  | (k, _) :: r => k :: keysD r
def seqD (d : PyData) : R (List PyData) := match d with
  | .list ds => .ok ds
  | .tuple ds => .ok ds
  | .dict ((.none, .none) :: _) => .stuck
  | .dict kvs => .ok (keysD kvs)
  | _ => .stuck
def iS (fa : Ev → R PyData) : Ev → R (List PyData) := fun env => (fa env).bind seqD
theorem keys_at : ∀ {H : Hp} {xs : List (CK × Addr × Value)} {kvs : List (PyData × PyData)}, RpC H xs kvs → xs.length = (keysD kvs).length ∧ ∀ (i : Nat) (d : PyData) (e : CK × Addr × Value), (keysD kvs)[i]? = some d → xs[i]? = some e → Rp H (.ref e.2.1) d
  | _, _, _, .nil => ⟨rfl, fun i d e h => by simp [keysD] at h⟩
  | H, _, _, @RpC.cons _ k q v u d xs kvs hk he r t => by
    obtain ⟨h1, h2⟩ := keys_at t
    refine ⟨by show xs.length + 1 = (keysD kvs).length + 1; rw [h1], fun i d' e h h' => ?_⟩
    cases i with
    | zero =>
      have h3 : ckD k = d' := by simpa [keysD] using h
      have h4 : (k, q, u) = e := by simpa using h'
      subst h3 h4
      exact hk
    | succ j => exact h2 j d' e (by simpa [keysD] using h) (by simpa using h')
theorem PW'.bind {Hi H : Hp} {r : R PyData} {f : PyData → R (List PyData)} {Rr : It → Hp → Prop} (h : PW' ca E Hi H (r.bind f) Rr) : PV ca E Hi H r fun v H' => ∃ d Hi', r = .ok d ∧ Ex Hi H Hi' H' ∧ Rp Hi' v d ∧ PW' ca E Hi' H' (f d) Rr := by
  cases r with
  | stuck => exact h
  | ok d =>
    intro v Hi' H' x q
    refine ⟨d, Hi', rfl, x, q, ?_⟩
    have h' : PW' ca E Hi H (f d) Rr := h
    cases e : f d with
    | stuck => rw [e] at h'; exact h'
    | ok ds =>
      rw [e] at h'
      exact fun J Hi2 H2 x2 w => h' J Hi2 H2 (x.trans x2) w
    | exc c =>
      rw [e] at h'
      exact fun Hi2 H2 dx x2 => h' Hi2 H2 dx (x.trans x2)
  | exc c => exact h
theorem okI_seq {e : Expr} {fa : Ev → R PyData} (ha : OkE ca E X e fa) : OkI ca E X tg e (iS fa) := by
  obtain ⟨ta, pa, qa⟩ := ha
  refine ⟨_, pi_seq pa, fun He env σ Hi H Rr S s h => qa He env σ Hi H _ S s ?_⟩
  have h1 := PW'.bind h
  cases qea : fa env with
  | stuck => rw [qea] at h1; exact h1.elim
  | exc c => rw [qea] at h1; exact h1
  | ok d =>
    rw [qea] at h1
    intro v Hi1 H1 x1 r1
    obtain ⟨d', Hi', e, x1, r1, h2⟩ := h1 v Hi1 H1 x1 r1
    cases e
    cases r1 with
    | @lst a xs ds ea ra =>
      refine ⟨a, rfl, .inl ⟨xs, .of (x1.le _ _ ea), h2 _ _ _ (.refl x1.le) ⟨fun i Hi2 H2 hi s1 s2 => ⟨xs, xs[i]'(by rw [ra.length]; exact hi), .of (s2 _ _ (s1 _ _ ea)), by simp⟩, fun Hi2 H2 s1 s2 => ⟨xs, .of (s2 _ _ (s1 _ _ ea)), by rw [ra.length]; exact Nat.le_refl _⟩, fun i Hi2 H2 x H3 d hd s1 s2 y => ?_⟩⟩⟩
      obtain ⟨y1, y2⟩ := y
      have hx := y2 xs (.of (s2 _ _ (s1 _ _ ea)))
      subst y1
      exact ⟨Hi2, .refl s2, (ra.at hd hx).sub s1⟩
    | @tup a xs ds ea ra =>
      refine ⟨a, rfl, .inr (.inl ⟨xs, .inl (.inl (x1.le _ _ ea)), h2 _ _ _ (.refl x1.le) ⟨fun i Hi2 H2 hi s1 s2 => ⟨xs, xs[i]'(by rw [ra.length]; exact hi), .inl (.inl (s2 _ _ (s1 _ _ ea))), by simp⟩, fun Hi2 H2 s1 s2 => ⟨xs, .inl (.inl (s2 _ _ (s1 _ _ ea))), by rw [ra.length]; exact Nat.le_refl _⟩, fun i Hi2 H2 x H3 d hd s1 s2 y => ?_⟩⟩)⟩
      obtain ⟨y1, y2⟩ := y
      have hx := y2 xs (.inl (.inl (s2 _ _ (s1 _ _ ea))))
      subst y1
      exact ⟨Hi2, .refl s2, (ra.at hd hx).sub s1⟩
    | @dct a o xs kvs ea ra =>
      have h3 : PW' ca E Hi' H1 (.ok (keysD kvs)) Rr := by
        unfold seqD at h2
        split at h2
        · rename_i e; cases e
        · rename_i e; cases e
        · rename_i r e
          cases e
          cases ra
        · rename_i e
          cases e
          exact h2
        · exact h2.elim
      obtain ⟨hl, hk⟩ := keys_at ra
      refine ⟨a, rfl, .inr (.inr ⟨o, xs, x1.le _ _ ea, h3 _ _ _ (.refl x1.le) ⟨fun i Hi2 H2 hi s1 s2 => ⟨s2 _ _ (s1 _ _ ea), by rw [hl]; exact hi⟩, fun Hi2 H2 s1 s2 => ⟨s2 _ _ (s1 _ _ ea), by rw [hl]; exact Nat.le_refl _⟩, fun i Hi2 H2 x H3 d hd s1 s2 y => ?_⟩⟩)⟩
      obtain ⟨y1, e, he, rfl⟩ := y
      subst y1
      exact ⟨Hi2, .refl s2, (hk i d e hd he).sub s1⟩
    | _ => exact h2.elim

/-! ### range(n) -/
def rangeD : Nat → Nat → List PyData
  | 0, _ => []
  | n + 1, i => .int i :: rangeD n (i + 1)
theorem rangeD_len : ∀ n i : Nat, (rangeD n i).length = n
  | 0, _ => rfl
  | n + 1, i => by show (rangeD n (i + 1)).length + 1 = n + 1; rw [rangeD_len n (i + 1)]
theorem rangeD_at : ∀ (n i j : Nat) (d : PyData), (rangeD n i)[j]? = some d → d = .int ((i + j : Nat) : Int)
  | 0, _, _, d, h => by simp [rangeD] at h
  | n + 1, i, 0, d, h => by
    have h' : PyData.int (i : Int) = d := by simpa [rangeD] using h
    exact h'.symm
  | n + 1, i, j + 1, d, h => by
    have h' : (rangeD n (i + 1))[j]? = some d := by simpa [rangeD] using h
    rw [rangeD_at n (i + 1) j d h']
    congr 2
    omega
def rngD (d : PyData) : R (List PyData) := match d with
  | .int j => match smallI j with
    | true => .ok (rangeD j.toNat 0)
    | false => .stuck
  | _ => .stuck
def iR (fa : Ev → R PyData) : Ev → R (List PyData) := fun env => (fa env).bind rngD
theorem okI_range {a : Expr} {fa : Ev → R PyData} (hg : Gl X "range") (hm : X.mg "range" = none) (ha : OkE ca E X a fa) (hs : starEach [a] X.env = [(false, eval a X.env)] := by rfl) : OkI ca E X tg (.Call (.Name "range" p) [a] [] pos) (iR fa) := by
  obtain ⟨ta, pa, qa⟩ := ha
  refine ⟨_, pi_range1 hg hm (pa_cons pa pa_nil hs) hs, fun He env σ Hi H Rr S s h => qa He env σ Hi H _ S s ?_⟩
  have h1 := PW'.bind h
  cases qea : fa env with
  | stuck => rw [qea] at h1; exact h1.elim
  | exc c => rw [qea] at h1; exact h1
  | ok d =>
    rw [qea] at h1
    intro v Hi1 H1 x1 r1
    obtain ⟨d', Hi', e, x1, r1, h2⟩ := h1 v Hi1 H1 x1 r1
    cases e
    cases r1 with
    | int j =>
      replace h2 : PW' ca E Hi' H1 (match smallI j with
        | true => .ok (rangeD j.toNat 0)
        | false => .stuck) Rr := h2
      split at h2
      · rename_i hz
        have := Nat.le_of_ble_eq_true hz
        refine ⟨j, rfl, by omega, by omega, h2 _ _ _ (.refl x1.le) ⟨fun i Hi2 H2 hi _ _ => ?_, fun Hi2 H2 _ _ => ?_, fun i Hi2 H2 x H3 d hd s1 s2 y => ?_⟩⟩
        · rw [rangeD_len] at hi
          exact hi
        · show j.toNat ≤ (rangeD j.toNat 0).length
          rw [rangeD_len]
          exact Nat.le_refl _
        · obtain ⟨y1, rfl⟩ := y
          subst y1
          rw [rangeD_at _ _ _ _ hd]
          refine ⟨Hi2, .refl s2, ?_⟩
          have e : (0 : Int) + (i : Int) = ((0 + i : Nat) : Int) := by omega
          rw [e]
          exact .int _
      · exact h2.elim
    | _ => exact h2.elim

/-! ### zip(a, b) -/
def zipD : List PyData → List PyData → List PyData
  | x :: xs, y :: ys => .tuple [x, y] :: zipD xs ys
  | _, _ => []
theorem zipD_len : ∀ xs ys : List PyData, (zipD xs ys).length = min xs.length ys.length
  | [], _ => by simp [zipD]
  | _ :: _, [] => by simp [zipD]
  | x :: xs, y :: ys => by
    show (zipD xs ys).length + 1 = _
    rw [zipD_len xs ys, List.length_cons, List.length_cons]
    omega
theorem zipD_at : ∀ (xs ys : List PyData) (i : Nat) (d : PyData), (zipD xs ys)[i]? = some d → ∃ x y, xs[i]? = some x ∧ ys[i]? = some y ∧ d = .tuple [x, y]
  | [], _, i, d, h => by simp [zipD] at h
  | _ :: _, [], i, d, h => by simp [zipD] at h
  | x :: xs, y :: ys, 0, d, h => by
    have h' : PyData.tuple [x, y] = d := by simpa [zipD] using h
    exact ⟨x, y, rfl, rfl, h'.symm⟩
  | x :: xs, y :: ys, i + 1, d, h => by
    obtain ⟨a, b, h1, h2, h3⟩ := zipD_at xs ys i d (by simpa [zipD] using h)
    exact ⟨a, b, by simpa using h1, by simpa using h2, h3⟩
def zpD (a b : PyData) : R (List PyData) := match a, b with
  | .list xs, .list ys => .ok (zipD xs ys)
  | .tuple xs, .tuple ys => .ok (zipD xs ys)
  | _, _ => .stuck
def iZ (fa fb : Ev → R PyData) : Ev → R (List PyData) := fun env => (fa env).bind fun x => (fb env).bind fun y => zpD x y
theorem okI_zip {a b : Expr} {fa fb : Ev → R PyData} {elts : List Expr} {kk : Nat} {tpos : Pos} (hg : Gl X "zip") (hm : X.mg "zip" = none) (ha : OkE ca E X a fa) (hb : OkE ca E X b fb)
    (hs : starEach [a, b] X.env = (false, eval a X.env) :: starEach [b] X.env := by rfl) (hs2 : starEach [b] X.env = (false, eval b X.env) :: starEach [] X.env := by rfl) (hpl : (backTo pos (starEach [b] X.env)).any (·.1) = false := by rfl) :
    OkI ca E X (.Tuple elts kk tpos) (.Call (.Name "zip" p) [a, b] [] pos) (iZ fa fb) := by
  obtain ⟨ta, pa, qa⟩ := ha
  obtain ⟨tb, pb, qb⟩ := hb
  refine ⟨_, RZ.pi_zipA hg hm (pa_cons pa (pa_cons pb pa_nil hs2) hs) hs hpl, fun He env σ Hi H Rr S s h => qa He env σ Hi H _ S s ?_⟩
  have h1 := PW'.bind h
  cases qea : fa env with
  | stuck => rw [qea] at h1; exact h1.elim
  | exc c => rw [qea] at h1; exact h1
  | ok x =>
    rw [qea] at h1
    intro v Hi1 H1 x1 r1
    obtain ⟨d', Hi', e, x1, r1, h2⟩ := h1 v Hi1 H1 x1 r1
    cases e
    refine qb He env σ Hi' H1 _ (S.ex x1) x1.le ?_
    have h3 := PW'.bind h2
    cases qeb : fb env with
    | stuck => rw [qeb] at h3; exact h3.elim
    | exc c => rw [qeb] at h3; exact h3
    | ok y =>
      rw [qeb] at h3
      intro u Hi2 H2 x2 r2
      obtain ⟨d', Hi'', e, x2, r2, h4⟩ := h3 u Hi2 H2 x2 r2
      cases e
      have r1' := r1.sub x2.im
      have yl : ∀ {T : Addr} {Hi3 H3 : Hp} {xv yv : V} {x y : PyData}, Sub Hi3 H3 → H3 T = none → Rp Hi3 xv x → Rp Hi3 yv y → ∃ Hi', Ex Hi3 H3 Hi' (upd H3 T (.tup [xv, yv])) ∧ Rp Hi' (.ref T) (.tuple [x, y]) := fun {T Hi3 H3 xv yv x y} sb hT rx ry =>
        ⟨_, .new sb hT, .tup upd_same (.cons (rx.sub (Sub.up (sb.nn hT))) (.cons (ry.sub (Sub.up (sb.nn hT))) .nil))⟩
      cases r1' with
      | @lst a xs ds ea ra =>
        cases r2 with
        | @lst b ys es eb rb =>
          refine ⟨a, b, xs, ys, rfl, .inl ⟨.of (x2.le _ _ ea), .of (x2.le _ _ eb), h4 _ _ _ (.refl x2.le) ⟨fun i Hi2 H2 hi s1 s2 => ?_, fun Hi2 H2 s1 s2 => ?_, fun i Hi2 H2 x H3 d hd s1 s2 y => ?_⟩⟩⟩
          · rw [zipD_len] at hi
            exact ⟨xs, ys, xs[i]'(by rw [ra.length]; omega), ys[i]'(by rw [rb.length]; omega), .of (s2 _ _ (s1 _ _ ea)), .of (s2 _ _ (s1 _ _ eb)), by simp, by simp⟩
          · refine ⟨xs, ys, .of (s2 _ _ (s1 _ _ ea)), .of (s2 _ _ (s1 _ _ eb)), ?_⟩
            rw [zipD_len, ra.length, rb.length]
            omega
          · obtain ⟨T, xv, yv, rfl, hT, rfl, f1, f2⟩ := y
            obtain ⟨x', y', h5, h6, rfl⟩ := zipD_at _ _ _ _ hd
            exact yl s2 hT ((ra.at h5 (f1 xs (.of (s2 _ _ (s1 _ _ ea))))).sub s1) ((rb.at h6 (f2 ys (.of (s2 _ _ (s1 _ _ eb))))).sub s1)
        | _ => exact h4.elim
      | @tup a xs ds ea ra =>
        cases r2 with
        | @tup b ys es eb rb =>
          refine ⟨a, b, xs, ys, rfl, .inr ⟨.inl (.inl (x2.le _ _ ea)), .inl (.inl (x2.le _ _ eb)), h4 _ _ _ (.refl x2.le) ⟨fun i Hi2 H2 hi s1 s2 => ?_, fun Hi2 H2 s1 s2 => ?_, fun i Hi2 H2 x H3 d hd s1 s2 y => ?_⟩⟩⟩
          · rw [zipD_len] at hi
            exact ⟨xs, ys, xs[i]'(by rw [ra.length]; omega), ys[i]'(by rw [rb.length]; omega), .inl (.inl (s2 _ _ (s1 _ _ ea))), .inl (.inl (s2 _ _ (s1 _ _ eb))), by simp, by simp⟩
          · refine ⟨xs, ys, .inl (.inl (s2 _ _ (s1 _ _ ea))), .inl (.inl (s2 _ _ (s1 _ _ eb))), ?_⟩
            rw [zipD_len, ra.length, rb.length]
            omega
          · obtain ⟨T, xv, yv, rfl, hT, rfl, f1, f2⟩ := y
            obtain ⟨x', y', h5, h6, rfl⟩ := zipD_at _ _ _ _ hd
            exact yl s2 hT ((ra.at h5 (f1 xs (.inl (.inl (s2 _ _ (s1 _ _ ea)))))).sub s1) ((rb.at h6 (f2 ys (.inl (.inl (s2 _ _ (s1 _ _ eb)))))).sub s1)
        | _ => exact h4.elim
      | _ => exact h4.elim
end
end PD
/-! text P14 -/
set_option maxHeartbeats 5000000
namespace PD
open PySem.Spec PySem PyProof.Rows L2

/-! ### enumerate(t), t a tuple -/
/-- the enumerate object over the iterator at it, at its start -/
abbrev enumO (it : Addr) : Obj := { cls := .type "enumerate", data := .fields #[.none, .bool false, .ref it, rawInt 0, .none, .none] }
theorem enum_new {v : Value} {o : Obj} {Z : Heap → Prop} (B : Begins v o Z) : Meets (Builtin.«enumerate.__new__» ⟨[.type "enumerate", v], []⟩) fun _ R z => Z z.heap ∧ R (.ok (.ret (.ref (z.heap.push o).objs.size))) { z with heap := (z.heap.push o).push (enumO z.heap.objs.size) } := .of_wp fun prog w A R z ⟨h0, fin⟩ => by
  obtain ⟨hp, gs, dr, tk, oss⟩ := z
  have sub := sub_enumerate
  have go : ∀ {A1 : Around} {E1 : Value → Shared → Prop} {Q1 : Value → Shared → Prop}, Q1 (.ref hp.objs.size) ⟨hp.push o, gs, dr, tk, oss⟩ → wpAny (model prog w) A1 (pyIter v) Q1 E1 ⟨hp, gs, dr, tk, oss⟩ := fun q1 => B.iter prog w _ _ ⟨hp, gs, dr, tk, oss⟩ _ h0 q1
  wp_walk using go
  refine wpAny_stack_any fun _ => wpAny_pure (by
    split
    case h_1 c _ _ _ _ _ => cases (c == Value.type "enumerate") <;> (wp_walk using go; exact ⟨_, rfl, fin⟩)
    case h_2 =>
      wp_walk using go
      exact ⟨_, rfl, fin⟩)
theorem enum_call {prog : Program} {w : World} {A : Around} {E : Value → Shared → Prop} {z : Shared} {v : Value} {o : Obj} {Z : Heap → Prop} {Q : Value → Shared → Prop} (B : Begins v o Z) (h0 : Z z.heap)
    (fin : ∀ h', h'.get? (z.heap.objs.size + 1) = some (enumO z.heap.objs.size) → h'.get? z.heap.objs.size = some o → (∀ b u, z.heap.get? b = some u → h'.get? b = some u) → Q (.ref (z.heap.objs.size + 1)) { z with heap := h' }) : wpAny (model prog w) A (call (.type "enumerate") [v]) Q E z := by
  have sz : (z.heap.push o).objs.size = z.heap.objs.size + 1 := by rw [Heap.size_push]
  have at1 : ((z.heap.push o).push (enumO z.heap.objs.size)).get? (z.heap.objs.size + 1) = some (enumO z.heap.objs.size) := Heap.get?_push_at sz.symm rfl
  refine callType_new F.called_enumerate (by decide) (F.typeCall_enumerate_1 _) (F.newCall_enumerate_1 _) (fun obj => F.args_object_init_2 obj _) F.entry_enumerate_new (enum_new B) ⟨h0, ?_⟩
  simp only [sz]
  exact ⟨⟨_, at1, rfl⟩, fin _ at1 (Heap.get?_push_of_some _ (Heap.get?_push_at rfl B.free)) fun b u g => Heap.get?_push_of_some _ (Heap.get?_push_of_some _ g)⟩
/-- the tuple at a, in new pairs with their places -/
def IteT (K : PySem.W.Frag) (a : Addr) : It :=
  ⟨fun i H => ∃ (xs : List V) (x : V), SqT K H a xs ∧ xs[i]? = some x, fun i H v H' => ∃ T x, v = .ref T ∧ H T = none ∧ H' = upd H T (.tup [.int (i : Nat), x]) ∧ ∀ xs, SqT K H a xs → xs[i]? = some x, fun i H => ∃ xs : List V, SqT K H a xs ∧ xs.length ≤ i⟩
/-- the enumerate object at e over the tuple's iterator at it, i turns in -/
def EnT (a e it : Addr) (i : Nat) (h : Heap) : Prop := (∃ old, IsEnum h e it ((i : Nat) : Int) old) ∧ h.IsTupleIter it a i ∧ e ≠ it ∧ a ≠ it ∧ e ≠ a
theorem turn_enumT {P : Program} {w : World} {K : PySem.W.Frag} {elts : List Expr} {kk : Nat} {tpos : Pos} (a e it : Addr) : Turn P w K (.Tuple elts kk tpos) (IteT K a) [e, it] e (EnT a e it) := by
  have me : e ∈ [e, it] := List.mem_cons_self
  have mi : it ∈ [e, it] := List.mem_cons_of_mem _ (List.mem_singleton_self it)
  have out : ∀ {b : Addr}, b ∉ [e, it] → b ≠ e ∧ b ≠ it := fun n => ⟨fun z => n (z ▸ me), fun z => n (z ▸ mi)⟩
  have two : ∀ {p : Addr → Prop}, p e → p it → ∀ b ∈ [e, it], p b := fun pe pi b m => by
    rcases List.mem_cons.mp m with z | m
    · rw [z]; exact pe
    · rw [List.mem_singleton.mp m]; exact pi
  refine ⟨me, fun i h ⟨⟨old, ge⟩, ⟨o, gi, _, d⟩, _⟩ => two ⟨_, ge, fun v no => nomatch no⟩ ⟨o, gi, fun v no => by rw [no] at d; cases d⟩, fun i h h' ⟨⟨old, ge⟩, gi, ne⟩ k => ⟨⟨old, k e me _ ge⟩, gi.at fun o => k it mi o, ne⟩, ?_, ?_, fun A i z Q E ⟨⟨_, ge⟩, _⟩ => wpAny_pyIter_enum ge⟩
  · intro X eP ew eK calm i pins z σ G E I fp st ⟨xs, x, sq, at_⟩
    subst eP ew eK
    obtain ⟨⟨old, ge⟩, gi, ne, nai, nea⟩ := st
    obtain ⟨els, vals, tup, _⟩ := I.tuple sq
    obtain ⟨u, gu, ru⟩ := vals.get at_
    have ga : els.toArray[i]? = some u := by simpa using gu
    refine wpAny_pyNext_enum_itemC (.tuple (A := X.A.in1) (I.ok.hd calm) it a nai els.toArray) ge ⟨gi, tup⟩ (Array.getElem?_eq_some_iff.mp ga).1 ne (by simp [ne, nea]) fun v h1 tk gv ge1 gi1 gt sz k1 => ?_
    cases ga.symm.trans gv
    refine ⟨_, rfl, wpAny_letOwnedTupleGo_enum (s := { z with heap := h1, toks := tk + 1 }) ge1 fun h2 ge2 same => ?_⟩
    have gt2 := (same.2 _ (Nat.ne_of_gt (Heap.lt_size ge))).trans gt
    have I1 : Inv X pins σ (upd G z.heap.objs.size (.tup [.int (i : Nat), x])) { z with heap := h2, toks := tk + 1 } := I.turnedNew (ch := [e, it]) (fun b ob n g => (same.2 b (out n).1).trans (k1 b ob (out n).1 (out n).2 g)) fp (Nat.le_refl _)
      ⟨few (n := 2) rfl, [.int i tk, u], .cons ⟨_, rfl⟩ (.cons ru .nil), ⟨_, gt2, rfl, _, rfl⟩⟩
    have below : ∀ b ∈ [e, it], b < z.heap.objs.size := two (Heap.lt_size ge) (gi.elim fun o g => Heap.lt_size g.1)
    refine ⟨.ref z.heap.objs.size, _, I1, rfl, ⟨_, x, rfl, I.hok.fresh (Nat.le_refl _), rfl, fun ys sy => by rw [I.tuple_inj sy sq, at_]⟩, ⟨⟨u, ?_⟩, gi1.1.at fun o => (same.2 it (Ne.symm ne)).trans, ne, nai, nea⟩, fun b m => by rw [upd_ne (Nat.ne_of_lt (below b m))]; exact (fp b m).1⟩
    rw [Int.natCast_succ]
    exact ge2
  · intro X eP ew eK calm i pins z σ G E I fp st ⟨xs, sq, past⟩
    subst eP ew eK
    obtain ⟨⟨old, ge⟩, gi, ne, nai, nea⟩ := st
    obtain ⟨els, vals, tup, _⟩ := I.tuple sq
    have len := vals.length
    have f := (fp it mi).2
    have ty : z.TypeIs (.ref e) "enumerate" := ⟨_, ge, rfl⟩
    unfold pyNext
    refine wpAny_bind (wpAny_attempt (wpAny_callSpecial?_slot (name := "__next__") ty F.slot_enumerate_next (wpAny_call_entry F.slot_enumerate_next ty F.entry_enumerate_next (show wpAny _ _ (field (.ref e) 2 >>= fun _ => _) _ _ _ from wpAny_bind (wpAny_field ge rfl (x := .ref it) rfl ?_)) (F.args_enumerate_next_1 _))))
    exact wpAny_bind (wpAny_nextOf_tuple_end (I.ok.hd calm) gi tup (Array.getElem?_eq_none (by simp; omega)) fun h1 u eb ⟨o, g, c⟩ => wpAny_bind (wpAny_isInstance (T := "StopIteration") (b := true) ⟨o, g, c⟩ isSubtype_stop
      (wpAny_pure ⟨rfl, I.turned (t' := z.toks) (fun b o n => eb b o n) (fp it mi).1 f.1 f.2.2.1 f.2.2.2.1 f.2.2.2.2⟩)))
section
variable {ca : Nat → Addr} {E : XK} {X : Cx} {pos p : Pos}
def iEnumA (K : PySem.W.Frag) (ta : TA) : TI := fun σ H R => ta σ H fun vs H1 => ∃ a xs, vs = [.ref a] ∧ ((SqL K H1 a xs ∧ R (Ite K a) H1) ∨ (SqT K H1 a xs ∧ R (IteT K a) H1))
theorem pi_enumA {e : Expr} {ta : TA} {tpos : Pos} {elts : List Expr} {kk : Nat} (hg : Gl X "enumerate") (hm : X.mg "enumerate" = none) (ha : PA X [e] ta) (hs : starEach [e] X.env = [(false, eval e X.env)] := by rfl) :
    PI X (.Tuple elts kk tpos) (.Call (.Name "enumerate" p) [e] [] pos) (iEnumA X.K ta) := ⟨fun pins z σ G R I ask => by
  refine Call_ (ld_blt I hg hm boot_enumerate (PyProof.Rows.callWith_type1 (thn (ha.run pos pins z σ G _ I ask) fun us z1 ⟨vs, G1, I1, rv, a, xs, ev, want⟩ => ?_) hs rfl))
  rw [ev] at rv
  rw [Vals.ref1 rv]
  have new : ∀ b ∈ [z1.heap.objs.size + 1, z1.heap.objs.size], FpOk X pins G1 b := fun b m => by
    have le : z1.heap.objs.size ≤ b := by
      rcases List.mem_cons.mp m with q | m
      · rw [q]; exact Nat.le_succ _
      · rw [List.mem_singleton.mp m]; exact Nat.le_refl _
    exact I1.fpOk le (I1.hok.fresh le)
  rcases want with ⟨sq, want⟩ | ⟨sq, want⟩
  · obtain ⟨els, _, pl, _⟩ := I1.list sq
    exact call_enumerate_list pl.isList fun h1 ge gi _ k => wpAny_pyIter_enum ge ⟨_, [z1.heap.objs.size + 1, z1.heap.objs.size], _, _, G1, rfl, I1.kept (t' := z1.toks) k, turn_enum a (z1.heap.objs.size + 1) z1.heap.objs.size, ⟨⟨.none, ge⟩, gi, Nat.succ_ne_self _⟩, new, want⟩
  · obtain ⟨els, _, tup, _⟩ := I1.tuple sq
    have lt : a < z1.heap.objs.size := tup.elim fun o g => Heap.lt_size g.1
    exact enum_call (begins_tuple a els.toArray) tup fun h1 ge gi k => wpAny_pyIter_enum ge ⟨_, [z1.heap.objs.size + 1, z1.heap.objs.size], _, _, G1, rfl, I1.kept (t' := z1.toks) k, turn_enumT a (z1.heap.objs.size + 1) z1.heap.objs.size,
      ⟨⟨.none, ge⟩, ⟨_, gi, rfl, rfl⟩, Nat.succ_ne_self _, Nat.ne_of_lt lt, Nat.ne_of_gt (Nat.lt_succ_of_lt lt)⟩, new, want⟩⟩
def enumD : Nat → List PyData → List PyData
  | _, [] => []
  | i, d :: r => .tuple [.int i, d] :: enumD (i + 1) r
theorem enumD_len : ∀ (i : Nat) (ds : List PyData), (enumD i ds).length = ds.length
  | _, [] => rfl
  | i, d :: r => by show (enumD (i + 1) r).length + 1 = r.length + 1; rw [enumD_len]
theorem enumD_at : ∀ (i : Nat) (ds : List PyData) (j : Nat) (d : PyData), (enumD i ds)[j]? = some d → ∃ x, ds[j]? = some x ∧ d = .tuple [.int ((i + j : Nat) : Int), x]
  | _, [], j, d, h => by simp [enumD] at h
  | i, x :: r, 0, d, h => by
    have h' : PyData.tuple [.int (i : Int), x] = d := by simpa [enumD] using h
    exact ⟨x, rfl, h'.symm⟩
  | i, x :: r, j + 1, d, h => by
    obtain ⟨y, h1, h2⟩ := enumD_at (i + 1) r j d (by simpa [enumD] using h)
    refine ⟨y, by simpa using h1, ?_⟩
    rw [h2]
    congr 4
    omega
def enmD (d : PyData) : R (List PyData) := match d with
  | .list ds => .ok (enumD 0 ds)
  | .tuple ds => .ok (enumD 0 ds)
  | _ => .stuck
def iE (fa : Ev → R PyData) : Ev → R (List PyData) := fun env => (fa env).bind enmD
theorem okI_enum {a : Expr} {fa : Ev → R PyData} {elts : List Expr} {kk : Nat} {tpos : Pos} (hg : Gl X "enumerate") (hm : X.mg "enumerate" = none) (ha : OkE ca E X a fa) (hs : starEach [a] X.env = [(false, eval a X.env)] := by rfl) :
    OkI ca E X (.Tuple elts kk tpos) (.Call (.Name "enumerate" p) [a] [] pos) (iE fa) := by
  obtain ⟨ta, pa, qa⟩ := ha
  refine ⟨_, pi_enumA hg hm (pa_cons pa pa_nil hs) hs, fun He env σ Hi H Rr S s h => qa He env σ Hi H _ S s ?_⟩
  have h1 := PW'.bind h
  cases qea : fa env with
  | stuck => rw [qea] at h1; exact h1.elim
  | exc c => rw [qea] at h1; exact h1
  | ok d =>
    rw [qea] at h1
    intro v Hi1 H1 x1 r1
    obtain ⟨d', Hi', e, x1, r1, h2⟩ := h1 v Hi1 H1 x1 r1
    cases e
    have yl : ∀ {T : Addr} {Hi3 H3 : Hp} {i : Nat} {yv : V} {y : PyData}, Sub Hi3 H3 → H3 T = none → Rp Hi3 yv y → ∃ Hi', Ex Hi3 H3 Hi' (upd H3 T (.tup [.int (i : Int), yv])) ∧ Rp Hi' (.ref T) (.tuple [.int ((0 + i : Nat) : Int), y]) := fun {T Hi3 H3 i yv y} sb hT ry => by
      refine ⟨_, .new sb hT, .tup upd_same (.cons ?_ (.cons (ry.sub (Sub.up (sb.nn hT))) .nil))⟩
      rw [Nat.zero_add]
      exact .int _
    cases r1 with
    | @lst a xs ds ea ra =>
      refine ⟨a, xs, rfl, .inl ⟨.of (x1.le _ _ ea), h2 _ _ _ (.refl x1.le) ⟨fun i Hi2 H2 hi s1 s2 => ?_, fun Hi2 H2 s1 s2 => ?_, fun i Hi2 H2 x H3 d hd s1 s2 y => ?_⟩⟩⟩
      · rw [enumD_len] at hi
        exact ⟨xs, xs[i]'(by rw [ra.length]; exact hi), .of (s2 _ _ (s1 _ _ ea)), by simp⟩
      · refine ⟨xs, .of (s2 _ _ (s1 _ _ ea)), ?_⟩
        rw [enumD_len, ra.length]
        exact Nat.le_refl _
      · obtain ⟨T, xv, rfl, hT, rfl, f1⟩ := y
        obtain ⟨x', h5, rfl⟩ := enumD_at _ _ _ _ hd
        exact yl s2 hT ((ra.at h5 (f1 xs (.of (s2 _ _ (s1 _ _ ea))))).sub s1)
    | @tup a xs ds ea ra =>
      refine ⟨a, xs, rfl, .inr ⟨.inl (.inl (x1.le _ _ ea)), h2 _ _ _ (.refl x1.le) ⟨fun i Hi2 H2 hi s1 s2 => ?_, fun Hi2 H2 s1 s2 => ?_, fun i Hi2 H2 x H3 d hd s1 s2 y => ?_⟩⟩⟩
      · rw [enumD_len] at hi
        exact ⟨xs, xs[i]'(by rw [ra.length]; exact hi), .inl (.inl (s2 _ _ (s1 _ _ ea))), by simp⟩
      · refine ⟨xs, .inl (.inl (s2 _ _ (s1 _ _ ea))), ?_⟩
        rw [enumD_len, ra.length]
        exact Nat.le_refl _
      · obtain ⟨T, xv, rfl, hT, rfl, f1⟩ := y
        obtain ⟨x', h5, rfl⟩ := enumD_at _ _ _ _ hd
        exact yl s2 hT ((ra.at h5 (f1 xs (.inl (.inl (s2 _ _ (s1 _ _ ea)))))).sub s1)
    | _ => exact h2.elim
end
end PD
/-! text P15 -/
set_option maxHeartbeats 5000000
namespace PD
open PySem.Spec PySem PyProof.Rows L2

/-! ### statements -/
inductive Out where
  | stuck
  | next (env : Ev)
  | ret (d : PyData)
  | exc (c : Nat)
section
variable (ca : Nat → Addr) (E : XK)
def PO (Hi0 He : Hp) (o : Out) (D : Ends) : Prop := match o with
  | .stuck => False
  | .next env' => ∀ σ' Hi' H', Slots He env' σ' Hi' H' → Ex Hi0 He Hi' H' → D.nx σ' H'
  | .ret d => ∀ v Hi' H', Ex Hi0 He Hi' H' → Rp Hi' v d → D.rt v H'
  | .exc c => ∀ Hi' H' dx, Ex Hi0 He Hi' H' → E (.ref (ca c)) dx H'
def RdS (t : TS) (F : Ev → Out) : Prop := ∀ (Hi0 He : Hp) (env : Ev) (σ : St) (Hi H : Hp) (D : Ends), Slots He env σ Hi H → Ex Hi0 He Hi H → PO ca E Hi0 He (F env) D → t D σ H
def OkS (X : Cx) (st : Stmt) (F : Ev → Out) : Prop := ∃ t, PS X st t ∧ RdS ca E t F
def OkSs (X : Cx) (sts : List Stmt) (F : Ev → Out) : Prop := ∃ t, PSs X sts t ∧ RdS ca E t F
end
/-- the start moves up -/
theorem Ex.base {Hi0 He Hi H : Hp} (x : Ex Hi0 He Hi H) : Ex Hi He Hi H := ⟨.refl _, x.al, x.le, fun _ _ e => .inl e⟩
theorem Ex.up {Hi0 He Hi H Hi' H' : Hp} (x : Ex Hi0 He Hi H) (y : Ex Hi He Hi' H') : Ex Hi0 He Hi' H' := ⟨x.im.trans y.im, y.al, y.le, fun a o e => (y.nw a o e).elim (x.nw a o) .inr⟩
theorem Ex.on {Hi0 He Hi H Hi' H' : Hp} (x : Ex Hi0 He Hi H) (y : Ex Hi H Hi' H') : Ex Hi0 He Hi' H' := ⟨x.im.trans y.im, x.al.trans y.al, y.le, fun a o e => (y.nw a o e).elim (x.nw a o) fun z => .inr (x.al.nn z)⟩
section
variable {ca : Nat → Addr} {E : XK} {X : Cx} {pos : Pos} {Hi0 He Hi H : Hp}
theorem PO.up {o : Out} {D : Ends} (x : Ex Hi0 He Hi H) (h : PO ca E Hi0 He o D) : PO ca E Hi He o D := by
  cases o with
  | stuck => exact h
  | next env => exact fun σ' Hi' H' S y => h σ' Hi' H' S (x.up y)
  | ret d => exact fun v Hi' H' y r => h v Hi' H' (x.up y) r
  | exc c => exact fun Hi' H' dx y => h Hi' H' dx (x.up y)
def sNil : Ev → Out := fun env => .next env
def sSeq (f g : Ev → Out) : Ev → Out := fun env => match f env with
  | .next e => g e
  | o => o
theorem okSs_nil : OkSs ca E X [] sNil := ⟨_, pss_nil, fun Hi0 He env σ Hi H D S x h => h σ Hi H S x⟩
theorem okSs_one {st : Stmt} {f : Ev → Out} (h : OkS ca E X st f) : OkSs ca E X [st] f := by
  obtain ⟨t, p, q⟩ := h
  exact ⟨t, pss_one p, q⟩
theorem okSs_cons {st : Stmt} {rest : List Stmt} {f g : Ev → Out} (h : OkS ca E X st f) (h' : OkSs ca E X rest g) : OkSs ca E X (st :: rest) (sSeq f g) := by
  obtain ⟨t, p, q⟩ := h
  obtain ⟨t', p', q'⟩ := h'
  refine ⟨_, pss_cons p p', fun Hi0 He env σ Hi H D S x h => q Hi0 He env σ Hi H _ S x ?_⟩
  unfold sSeq at h
  cases e : f env with
  | stuck => rw [e] at h; exact h
  | next env' =>
    rw [e] at h
    exact fun σ' Hi' H' S' x' => q' Hi0 He env' σ' Hi' H' D S' x' h
  | ret d => rw [e] at h; exact h
  | exc c => rw [e] at h; exact h
/-- an expression's outcome, and what is done with its value -/
def thenV (r : R PyData) (k : PyData → Out) : Out := match r with
  | .ok d => k d
  | .stuck => .stuck
  | .exc c => .exc c
theorem PO.thenV {r : R PyData} {k : PyData → Out} {D : Ends} (x : Ex Hi0 He Hi H) (h : PO ca E Hi0 He (thenV r k) D) : PV ca E Hi H r fun v H' => ∃ d Hi', r = .ok d ∧ Ex Hi H Hi' H' ∧ Ex Hi0 He Hi' H' ∧ Rp Hi' v d ∧ PO ca E Hi0 He (k d) D := by
  cases r with
  | stuck => exact h
  | ok d => exact fun v Hi' H' y q => ⟨d, Hi', rfl, y, x.on y, q, h⟩
  | exc c => exact fun Hi' H' dx y => h Hi' H' dx (x.on y)
/-- a value stored by a target -/
def stG (g : PyData → Ev → R Ev) (env : Ev) (d : PyData) : Out := match g d env with
  | .ok e => .next e
  | _ => .stuck
def sAsg (g : PyData → Ev → R Ev) (f : Ev → R PyData) : Ev → Out := fun env => thenV (f env) (stG g env)
theorem asg_ok {us : List Nat} {g : PyData → Ev → R Ev} {f : Ev → R PyData} {t : TE} (q : ∀ (He : Hp) (env : Ev) (σ : St) (Hi H : Hp) (Q : VK), Slots He env σ Hi H → Sub Hi H → PV ca E Hi H (f env) Q → t σ H Q) :
    RdS ca E (tAsg t (tG us g)) (sAsg g f) := fun Hi0 He env σ Hi H D S x h => by
  refine q He env σ Hi H _ S x.le ?_
  have h1 := PO.thenV x h
  cases e : f env with
  | stuck => rw [e] at h1; exact h1
  | exc c => rw [e] at h1; exact h1
  | ok d =>
    rw [e] at h1
    intro v Hi1 H1 x1 r1
    obtain ⟨d', Hi', e', x1, x2, r1, h2⟩ := h1 v Hi1 H1 x1 r1
    cases e'
    refine ⟨He, env, Hi', d, S.ex x1, x1.le, r1, ?_⟩
    unfold stG at h2
    cases eg : g d env with
    | stuck => rw [eg] at h2; exact h2
    | exc c => rw [eg] at h2; exact h2
    | ok env' =>
      rw [eg] at h2
      exact fun σ' Hi2 H2 x3 S3 _ _ => h2 σ' Hi2 H2 S3 (x2.on x3)
theorem okS_asg {tg e : Expr} {us : List Nat} {g : PyData → Ev → R Ev} {f : Ev → R PyData} (he : OkE ca E X e f) (hg : OkG X tg us g) (hs : swapsWithSole [tg] e pos.line X.env = pure false := by rfl) (hw : swappedStores [tg] e X.env = pure none := by rfl)
    (h1 : (assignEach [tg] X.env).map (·.2) = [assign tg X.env] := by rfl) : OkS ca E X (.Assign [tg] e pos) (sAsg g f) := by
  obtain ⟨t, p, q⟩ := he
  exact ⟨_, ps_asg p hg hs hw h1, asg_ok q⟩
theorem gName_tG (i : Nat) {v : V} {σ : St} {H : Hp} {Q : St → Hp → Prop} (h : tG [i] (gN i) v σ H Q) : gName i v σ H Q := by
  obtain ⟨He, env, Hi, d, S, s, r, h⟩ := h
  unfold gN at h
  split at h
  · rename_i e hh
    split at hh
    · rename_i hl
      cases hh
      have hl' := Nat.le_of_ble_eq_true hl
      refine h _ Hi H (.refl s) (S.set r hl') (by rw [List.length_set]) fun j hj => ?_
      exact List.getElem?_set_ne (by intro z; exact hj (by simp [z]))
    · cases hh
  · exact h.elim
theorem okS_set (i : Nat) {x : Str} {e : Expr} {f : Ev → R PyData} {pos' : Pos} (hN : X.N.Nodup) (he : OkE ca E X e f) (hi : X.N[i]? = some x := by rfl) (hx : Loc X.env.scope x := by first | exact Or.inl rfl | exact Or.inr rfl)
    (hs : swapsWith e (some (.Name x pos')) pos.line X.env = pure false := by rfl) (hf : X.fn x = true ∨ X.env.scope.names.lookup x = some .local := by first | exact .inl rfl | exact .inr rfl) : OkS ca E X (.Assign [.Name x pos'] e pos) (sAsg (gN i) f) := by
  obtain ⟨t, p, q⟩ := he
  refine ⟨tAsg t (gName i), ps_set hN hi hx p hs hf, fun Hi0 He env σ Hi H D S x h => ?_⟩
  have h2 : t σ H fun y H1 => tG [i] (gN i) y σ H1 D.nx := asg_ok (us := [i]) q Hi0 He env σ Hi H D S x h
  exact (by
    have w : ∀ (Q Q' : VK), (∀ v H, Q v H → Q' v H) → PV ca E Hi H (f env) Q → PV ca E Hi H (f env) Q' := fun Q Q' hw hp => by
      cases e : f env with
      | stuck => rw [e] at hp; exact hp
      | exc c => rw [e] at hp; exact hp
      | ok d => rw [e] at hp; exact fun v Hi' H' a b => hw _ _ (hp v Hi' H' a b)
    refine q He env σ Hi H _ S x.le ?_
    have h1 := PO.thenV x h
    refine w _ _ (fun v H' hv => ?_) h1
    obtain ⟨d, Hi', e', x1, x2, r1, h2⟩ := hv
    refine gName_tG i ⟨He, env, Hi', d, S.ex x1, x1.le, r1, ?_⟩
    unfold stG at h2
    cases eg : gN i d env with
    | stuck => rw [eg] at h2; exact h2
    | exc c => rw [eg] at h2; exact h2
    | ok env' =>
      rw [eg] at h2
      exact fun σ' Hi2 H2 x3 S3 _ _ => h2 σ' Hi2 H2 S3 (x2.on x3))
/-- name = [.. for ..] on one line, the name a local -/
theorem okS_setComp (i : Nat) {y : Str} {py : Pos} {elt tg iter : Expr} {ifs : List Expr} {scope : Scope} {own : List (Str × Nat)} {us : List Nat} {fi : Ev → R (List PyData)} {g : PyData → Ev → R Ev} {tt te : Ev → R PyData} {spos : Pos} (hc : X.calm = true) (hN : X.N.Nodup)
    (hi : OkI ca E X tg iter fi) (ok : BlkOk X.N X.env.scope scope own) (hus : ∀ j ∈ us, j ∈ own.map (·.2))
    (hg : ∀ (s : Shared) (H : Hp) (C : Addr) (cl : List (Str × Addr)) (fp : List Addr), OkG (X.blk s H scope (compEnvC scope cl C X.env) fp) tg us g)
    (ht : ∀ (s : Shared) (H : Hp) (C : Addr) (cl : List (Str × Addr)) (fp : List Addr), PTs (X.blk s H scope (compEnvC scope cl C X.env) fp) ifs (tT' ca E0 tt))
    (he : ∀ (s : Shared) (H : Hp) (C : Addr) (cl : List (Str × Addr)) (fp : List Addr), OkE ca E0 (X.blk s H scope (compEnvC scope cl C X.env) fp) elt te)
    (hy : X.N[i]? = some y := by rfl) (hyl : X.env.scope.names.lookup y = some .local := by rfl)
    (hk : X.env.scope.kind = .function := by rfl) (hl : (py.line == pos.line) = true := by rfl) (hsc : (scope.names.any fun (n, k) => n == y && (k == .local || k == .cell)) = false := by decide +kernel)
    (hs : ∀ x, foldedSetIterable iter X.env x = pure x := by intro _; rfl) : OkS ca E X (.Assign [.Name y py] (.ListComp elt [⟨tg, iter, ifs, 0⟩] scope pos) spos) (sAsg (gN i) (eComp (own.map (·.2)) fi g tt te)) := by
  obtain ⟨wi, pi, qi⟩ := hi
  have q := comp_read (tt := tt) (te := te) (g := g) hus qi
  refine ⟨_, ps_setLc hc hN hy hyl (sw_true hk hyl hl hsc) pi ok hg ht (fun s H C cl fp => OkE.can ca E0 (he s H C cl fp)) hs, fun Hi0 He env σ Hi H D S x h => ?_⟩
  refine q He env σ Hi H _ S x.le ?_
  have h1 := PO.thenV x h
  have w : ∀ (r : R PyData) (Q Q' : VK), (∀ v H, Q v H → Q' v H) → PV ca E Hi H r Q → PV ca E Hi H r Q' := fun r Q Q' hw hp => by
    cases r with
    | stuck => exact hp
    | exc c => exact hp
    | ok d => exact fun v Hi' H' a b => hw _ _ (hp v Hi' H' a b)
  refine w _ _ _ (fun v H' hv => ?_) h1
  obtain ⟨d, Hi', e', x1, x2, r1, h2⟩ := hv
  refine gName_tG i ⟨He, env, Hi', d, S.ex x1, x1.le, r1, ?_⟩
  unfold stG at h2
  cases eg : gN i d env with
  | stuck => rw [eg] at h2; exact h2
  | exc c => rw [eg] at h2; exact h2
  | ok env' =>
    rw [eg] at h2
    exact fun σ' Hi2 H2 x3 S3 _ _ => h2 σ' Hi2 H2 S3 (x2.on x3)
/-- return e -/
def sRet (f : Ev → R PyData) : Ev → Out := fun env => thenV (f env) .ret
theorem okS_ret {e : Expr} {f : Ev → R PyData} (he : OkE ca E X e f) : OkS ca E X (.Return (some e) pos) (sRet f) := by
  obtain ⟨t, p, q⟩ := he
  refine ⟨_, ps_ret p, fun Hi0 He env σ Hi H D S x h => q He env σ Hi H _ S x.le ?_⟩
  have h1 := PO.thenV x h
  cases e : f env with
  | stuck => rw [e] at h1; exact h1
  | exc c => rw [e] at h1; exact h1
  | ok d =>
    rw [e] at h1
    intro v Hi1 H1 x1 r1
    obtain ⟨d', Hi', e', x1, x2, r1, h2⟩ := h1 v Hi1 H1 x1 r1
    cases e'
    exact h2 v Hi' H1 x2 r1
/-- e alone -/
def sExpr (f : Ev → R PyData) : Ev → Out := fun env => thenV (f env) fun _ => .next env
theorem okS_expr {e : Expr} {f : Ev → R PyData} (he : OkE ca E X e f) (hs : swapsWith e none pos.line X.env = pure false := by rfl) : OkS ca E X (.Expr e pos) (sExpr f) := by
  obtain ⟨t, p, q⟩ := he
  refine ⟨_, ps_expr p hs, fun Hi0 He env σ Hi H D S x h => q He env σ Hi H _ S x.le ?_⟩
  have h1 := PO.thenV x h
  cases e : f env with
  | stuck => rw [e] at h1; exact h1
  | exc c => rw [e] at h1; exact h1
  | ok d =>
    rw [e] at h1
    intro v Hi1 H1 x1 r1
    obtain ⟨d', Hi', e', x1, x2, r1, h2⟩ := h1 v Hi1 H1 x1 r1
    cases e'
    exact h2 σ Hi' H1 (S.ex x1) x2
/-- if -/
def thenB (r : R Bool) (k : Bool → Out) : Out := match r with
  | .ok b => k b
  | .stuck => .stuck
  | .exc c => .exc c
def sIf (c : Ev → R PyData) (f g : Ev → Out) : Ev → Out := fun env => thenB (asB (c env)) fun b => match b with
  | true => f env
  | false => g env
theorem PO.thenB {r : R Bool} {k : Bool → Out} {D : Ends} (x : Ex Hi0 He Hi H) (h : PO ca E Hi0 He (thenB r k) D) : PB ca E Hi H r fun b H' => ∃ Hi', r = .ok b ∧ Ex Hi H Hi' H' ∧ Ex Hi0 He Hi' H' ∧ PO ca E Hi0 He (k b) D := by
  cases r with
  | stuck => exact h
  | ok d => exact fun Hi' H' y => ⟨Hi', rfl, y, x.on y, h⟩
  | exc c => exact fun Hi' H' dx y => h Hi' H' dx (x.on y)
theorem okS_if {c : Expr} {a b : List Stmt} {fc : Ev → R PyData} {f g : Ev → Out} (hc : OkT ca E X c fc) (ha : OkSs ca E X a f) (hb : OkSs ca E X b g) : OkS ca E X (.If c a b pos) (sIf fc f g) := by
  obtain ⟨t, p, q⟩ := hc
  obtain ⟨ta, pa, qa⟩ := ha
  obtain ⟨tb, pb, qb⟩ := hb
  refine ⟨_, ps_if p pa pb, fun Hi0 He env σ Hi H D S x h => q He env σ Hi H _ S x.le ?_⟩
  have h1 := PO.thenB x h
  cases e : asB (fc env) with
  | stuck => rw [e] at h1; exact h1
  | exc c => rw [e] at h1; exact h1
  | ok k =>
    rw [e] at h1
    intro Hi1 H1 x1
    obtain ⟨Hi', e', x1, x2, h2⟩ := h1 Hi1 H1 x1
    cases k with
    | true => exact qa Hi0 He env σ Hi' H1 D (S.ex x1) x2 h2
    | false => exact qb Hi0 He env σ Hi' H1 D (S.ex x1) x2 h2
/-- for -/
def forGo (g : PyData → Ev → R Ev) (b : Ev → Out) : List PyData → Ev → Out
  | [], env => .next env
  | d :: r, env => match g d env with
    | .ok env1 => match b env1 with
      | .next e => forGo g b r e
      | o => o
    | _ => .stuck
def sFor (fi : Ev → R (List PyData)) (g : PyData → Ev → R Ev) (b : Ev → Out) : Ev → Out := fun env => match fi env with
  | .ok ds => forGo g b ds env
  | .stuck => .stuck
  | .exc c => .exc c
theorem okS_for {tg iter : Expr} {body : List Stmt} {us : List Nat} {fi : Ev → R (List PyData)} {g : PyData → Ev → R Ev} {b : Ev → Out} (hp : PassesOwn (model X.prog X.w) X.A X.env X.xe) (hc : X.calm = true) (hi : OkI ca E X tg iter fi) (hg : OkG X tg us g) (hb : OkSs ca E X body b)
    (hs : ∀ x, foldedSetIterable iter X.env x = pure x := by intro _; rfl) : OkS ca E X (.For tg iter body [] pos) (sFor fi g b) := by
  obtain ⟨wi, pi, qi⟩ := hi
  obtain ⟨tb, pb, qb⟩ := hb
  refine ⟨_, ps_for hp hc pi hg pb hs, fun Hi0 He env σ Hi H D S x h => qi He env σ Hi H _ S x.le ?_⟩
  unfold sFor at h
  cases ei : fi env with
  | stuck => rw [ei] at h; exact h
  | exc c => rw [ei] at h; exact fun Hi' H' dx y => h Hi' H' dx (x.on y)
  | ok ds =>
    rw [ei] at h
    intro J Hi1 H1 x1 wk
    have h' : PO ca E Hi0 He (forGo g b ds env) D := h
    refine ⟨fun i m σ H => m = ds.length - i ∧ i ≤ ds.length ∧ ∃ env Hi, Slots He env σ Hi H ∧ Ex Hi1 He Hi H ∧ PO ca E Hi0 He (forGo g b (ds.drop i) env) D, ⟨ds.length, by simp, Nat.zero_le _, env, Hi1, S.ex x1, (x.on x1).base, h'⟩, ?_⟩
    rintro i m σ2 H2 ⟨rfl, hil, env2, Hi2, S2, x2, h2⟩
    have x02 : Ex Hi0 He Hi2 H2 := (x.on x1).up x2
    by_cases hlt : i < ds.length
    · refine .inr ⟨wk.goes i Hi2 H2 hlt x2.im x2.le, fun σ H => i + 1 ≤ ds.length ∧ ∃ env Hi, Slots He env σ Hi H ∧ Ex Hi1 He Hi H ∧ PO ca E Hi0 He (forGo g b (ds.drop (i + 1)) env) D, fun σ' H' q => ⟨ds.length - (i + 1), by omega, rfl, q⟩, fun y H3 yl => ?_⟩
      obtain ⟨d, hd, hdr⟩ := drop_at hlt
      rw [hdr] at h2
      obtain ⟨Hi3, x3, r3⟩ := wk.yields i Hi2 H2 y H3 d hd x2.im x2.le yl
      refine ⟨He, env2, Hi3, d, S2.ex x3, x3.le, r3, ?_⟩
      have h3 : PO ca E Hi0 He (match g d env2 with
        | .ok env1 => match b env1 with
          | .next e => forGo g b (ds.drop (i + 1)) e
          | o => o
        | _ => .stuck) D := h2
      cases eg : g d env2 with
      | stuck => rw [eg] at h3; exact h3
      | exc c => rw [eg] at h3; exact h3
      | ok env4 =>
        rw [eg] at h3
        intro σ4 Hi4 H4 x4 S4 _ _
        have x14 : Ex Hi1 He Hi4 H4 := (x2.on x3).on x4
        refine qb Hi1 He env4 σ4 Hi4 H4 _ S4 x14 ?_
        have h4 : PO ca E Hi0 He (match b env4 with
          | .next e => forGo g b (ds.drop (i + 1)) e
          | o => o) D := h3
        cases eb : b env4 with
        | stuck => rw [eb] at h4; exact h4
        | exc c => rw [eb] at h4; exact fun Hi' H' dx y => h4 Hi' H' dx ((x.on x1).up y)
        | ret v => rw [eb] at h4; exact fun v Hi' H' y r => h4 v Hi' H' ((x.on x1).up y) r
        | next env5 =>
          rw [eb] at h4
          exact fun σ5 Hi5 H5 S5 x5 => ⟨hlt, env5, Hi5, S5, x5, h4⟩
    · have e : i = ds.length := by omega
      subst e
      rw [List.drop_length] at h2
      exact .inl ⟨wk.stops Hi2 H2 x2.im x2.le, h2 σ2 Hi2 H2 S2 x02⟩
/-- while, at most n turns -/
def sWhile (n : Nat) (c : Ev → R PyData) (b : Ev → Out) : Ev → Out := match n with
  | 0 => fun _ => .stuck
  | n + 1 => fun env => thenB (asB (c env)) fun k => match k with
    | true => match b env with
      | .next e => sWhile n c b e
      | o => o
    | false => .next env
theorem okS_while (n : Nat) {c : Expr} {body : List Stmt} {fc : Ev → R PyData} {b : Ev → Out} (hp : PassesOwn (model X.prog X.w) X.A X.env X.xe) (hc : OkT ca E X c fc) (hb : OkSs ca E X body b) : OkS ca E X (.While c body [] pos) (sWhile n fc b) := by
  obtain ⟨t, p, q⟩ := hc
  obtain ⟨tb, pb, qb⟩ := hb
  refine ⟨_, ps_while hp p pb, fun Hi0 He env σ Hi H D S x h => ?_⟩
  refine ⟨fun m σ H => ∃ env Hi, Slots He env σ Hi H ∧ Ex Hi0 He Hi H ∧ PO ca E Hi0 He (sWhile m fc b env) D, ⟨n, env, Hi, S, x, h⟩, ?_⟩
  rintro m σ2 H2 ⟨env2, Hi2, S2, x2, h2⟩
  cases m with
  | zero => exact h2.elim
  | succ m =>
    refine q He env2 σ2 Hi2 H2 _ S2 x2.le ?_
    have h1 := PO.thenB x2 h2
    cases e : asB (fc env2) with
    | stuck => rw [e] at h1; exact h1
    | exc c => rw [e] at h1; exact h1
    | ok k =>
      rw [e] at h1
      intro Hi3 H3 x3
      obtain ⟨Hi', e', x3, x4, h3⟩ := h1 Hi3 H3 x3
      cases k with
      | false =>
        rw [if_neg Bool.false_ne_true]
        exact h3 σ2 Hi' H3 (S2.ex x3) x4
      | true =>
        rw [if_pos rfl]
        refine ⟨fun σ H => ∃ env Hi, Slots He env σ Hi H ∧ Ex Hi0 He Hi H ∧ PO ca E Hi0 He (sWhile m fc b env) D, fun σ' H' q => ⟨m, Nat.lt_succ_self m, q⟩, ?_⟩
        refine qb Hi0 He env2 σ2 Hi' H3 _ (S2.ex x3) x4 ?_
        have h4 : PO ca E Hi0 He (match b env2 with
          | .next e => sWhile m fc b e
          | o => o) D := h3
        cases eb : b env2 with
        | stuck => rw [eb] at h4; exact h4
        | exc c => rw [eb] at h4; exact h4
        | ret v => rw [eb] at h4; exact h4
        | next env5 =>
          rw [eb] at h4
          exact fun σ5 Hi5 H5 S5 x5 => ⟨env5, Hi5, S5, x5, h4⟩
end
end PD
/-! text P16 -/
set_option maxHeartbeats 5000000
namespace PD
open PySem.Spec PySem PyProof.Rows L2

/-! ### what a slot owns -/
theorem OwnAt.subI {Hi Hi' H : Hp} {a : Addr} (s : Sub Hi Hi') : ∀ {d : PyData}, OwnAt Hi H a d → OwnAt Hi' H a d
  | .list ds, ⟨xs, h, r⟩ => ⟨xs, h, r.sub s⟩
  | .dict kvs, ⟨o, xs, h, r⟩ => ⟨o, xs, h, r.sub s⟩
  | .none, h => h
  | .bool _, h => h
  | .int _, h => h
  | .str _, h => h
  | .tuple _, h => h
theorem OwnAt.rp {Hi H : Hp} {a : Addr} (s : Sub Hi H) : ∀ {d : PyData}, OwnAt Hi H a d → Rp H (.ref a) d
  | .list ds, ⟨xs, h, r⟩ => .lst h (r.sub s)
  | .dict kvs, ⟨o, xs, h, r⟩ => .dct h (r.sub s)
  | .none, h => h.elim
  | .bool _, h => h.elim
  | .int _, h => h.elim
  | .str _, h => h.elim
  | .tuple _, h => h.elim
theorem OwnAt.frz {Hi H : Hp} {a : Addr} (n : Hi a = none) : ∀ {d : PyData}, OwnAt Hi H a d → ∃ o, H a = some o ∧ Rp (upd Hi a o) (.ref a) d
  | .list ds, ⟨xs, h, r⟩ => ⟨_, h, .lst upd_same (r.sub (Sub.up n))⟩
  | .dict kvs, ⟨o, xs, h, r⟩ => ⟨_, h, .dct upd_same (r.sub (Sub.up n))⟩
  | .none, h => h.elim
  | .bool _, h => h.elim
  | .int _, h => h.elim
  | .str _, h => h.elim
  | .tuple _, h => h.elim
theorem Ex.frz {Hi0 He Hi H : Hp} {a : Addr} {o : HO} (x : Ex Hi0 He Hi H) (n : Hi a = none) (m : He a = none) (h : H a = some o) : Ex Hi0 He (upd Hi a o) H :=
  ⟨x.im.trans (Sub.up n), x.al, fun b u e => by
    by_cases hb : b = a
    · subst hb
      rw [upd_same] at e
      cases e
      exact h
    · rw [upd_ne hb] at e
      exact x.le b u e, fun b u e => by
    by_cases hb : b = a
    · subst hb
      exact .inr m
    · rw [upd_ne hb] at e
      exact x.nw b u e⟩
theorem Slots.frz {He : Hp} {env : Ev} {σ : St} {Hi H : Hp} {i : Nat} {d : PyData} (S : Slots He env σ Hi H) (e : env[i]? = some (some (.own d))) :
    ∃ a o, H a = some o ∧ Hi a = none ∧ He a = none ∧ Slots He (env.set i (some (.imm d))) σ (upd Hi a o) H := by
  obtain ⟨a, h, h1, h2, h3⟩ := S.own i d e
  obtain ⟨o, h4, h5⟩ := h3.frz h1
  have hi : i < env.length := (List.getElem?_eq_some_iff.mp e).1
  refine ⟨a, o, h4, h1, h2, ?_, fun j c q => ?_, fun j c q => ?_, fun j c q => by
    by_cases hj : i = j
    · subst hj
      rw [List.getElem?_set_self hi] at q
      cases q
    · rw [List.getElem?_set_ne hj] at q
      exact S.raw j c q, fun j k c c' b q1 q2 q3 q4 => ?_⟩
  · rw [List.length_set]; exact S.len
  · by_cases hj : i = j
    · subst hj
      rw [List.getElem?_set_self hi] at q
      cases q
      exact ⟨_, h, h5⟩
    · rw [List.getElem?_set_ne hj] at q
      obtain ⟨v, z1, z2⟩ := S.imm j c q
      exact ⟨v, z1, z2.sub (Sub.up h1)⟩
  · by_cases hj : i = j
    · subst hj
      rw [List.getElem?_set_self hi] at q
      cases q
    · rw [List.getElem?_set_ne hj] at q
      obtain ⟨b, z1, z2, z3, z4⟩ := S.own j c q
      refine ⟨b, z1, ?_, z3, z4.subI (Sub.up h1)⟩
      have hb : b ≠ a := by
        intro z
        subst z
        exact hj (S.dis i j d c b e q h z1)
      rw [upd_ne hb]
      exact z2
  · by_cases hj : i = j
    · subst hj
      rw [List.getElem?_set_self hi] at q1
      cases q1
    · by_cases hk : i = k
      · subst hk
        rw [List.getElem?_set_self hi] at q2
        cases q2
      · rw [List.getElem?_set_ne hj] at q1
        rw [List.getElem?_set_ne hk] at q2
        exact S.dis j k c c' b q1 q2 q3 q4
/-- the own object changes -/
theorem Slots.mut {He : Hp} {env : Ev} {σ : St} {Hi H : Hp} {i : Nat} {d d' : PyData} {a : Addr} {ob : HO} (S : Slots He env σ Hi H) (e : env[i]? = some (some (.own d))) (h : σ[i]? = some (some (.ref a))) (h1 : Hi a = none) (h2 : He a = none) (h3 : OwnAt Hi (upd H a ob) a d') :
    Slots He (env.set i (some (.own d'))) σ Hi (upd H a ob) := by
  have hi : i < env.length := (List.getElem?_eq_some_iff.mp e).1
  refine ⟨by rw [List.length_set]; exact S.len, fun j c q => ?_, fun j c q => ?_, fun j c q => by
    by_cases hj : i = j
    · subst hj
      rw [List.getElem?_set_self hi] at q
      cases q
    · rw [List.getElem?_set_ne hj] at q
      exact S.raw j c q, fun j k c c' b q1 q2 q3 q4 => ?_⟩
  · by_cases hj : i = j
    · subst hj
      rw [List.getElem?_set_self hi] at q
      cases q
    · rw [List.getElem?_set_ne hj] at q
      exact S.imm j c q
  · by_cases hj : i = j
    · subst hj
      rw [List.getElem?_set_self hi] at q
      cases q
      exact ⟨a, h, h1, h2, h3⟩
    · rw [List.getElem?_set_ne hj] at q
      obtain ⟨b, z1, z2, z3, z4⟩ := S.own j c q
      have hb : b ≠ a := by
        intro z
        subst z
        exact hj (S.dis i j d c b e q h z1)
      refine ⟨b, z1, z2, z3, ?_⟩
      cases c with
      | list ds =>
        obtain ⟨xs, w1, w2⟩ := z4
        exact ⟨xs, by rw [upd_ne hb]; exact w1, w2⟩
      | dict kvs =>
        obtain ⟨o, xs, w1, w2⟩ := z4
        exact ⟨o, xs, by rw [upd_ne hb]; exact w1, w2⟩
      | none => exact z4
      | bool _ => exact z4
      | int _ => exact z4
      | str _ => exact z4
      | tuple _ => exact z4
  · have g : ∀ (m : Nat) (c : PyData), (env.set i (some (.own d')))[m]? = some (some (.own c)) → ∃ c0 : PyData, env[m]? = some (some (.own c0)) := fun m c q => by
      by_cases hm : i = m
      · subst hm
        exact ⟨d, e⟩
      · rw [List.getElem?_set_ne hm] at q
        exact ⟨c, q⟩
    obtain ⟨c0, w1⟩ := g j c q1
    obtain ⟨c1, w2⟩ := g k c' q2
    exact S.dis j k c0 c1 b w1 w2 q3 q4
theorem Ex.mut {Hi0 He Hi H : Hp} {a : Addr} {ob : HO} (x : Ex Hi0 He Hi H) (h1 : Hi a = none) (h2 : He a = none) : Ex Hi0 He Hi (upd H a ob) :=
  ⟨x.im, fun b u e => by rw [upd_ne (ne_of_none e h2)]; exact x.al b u e, fun b u e => by rw [upd_ne (ne_of_none e h1)]; exact x.le b u e, x.nw⟩

/-! ### a component that may be fresh -/
def SlV (b : Bool) (Hs Hi H : Hp) (v : V) (d : PyData) : Prop := match b with
  | false => Rp Hi v d
  | true => ∃ a, v = .ref a ∧ Hs a = none ∧ Hi a = none ∧ OwnAt Hi H a d
def mkSl (b : Bool) (d : PyData) : Sl := match b with
  | false => .imm d
  | true => .own d
def PC (ca : Nat → Addr) (E : XK) (b : Bool) (Hi H : Hp) (r : R PyData) (Q : VK) : Prop := match r with
  | .stuck => False
  | .ok d => ∀ v Hi' H', Ex Hi H Hi' H' → SlV b H Hi' H' v d → Q v H'
  | .exc c => ∀ Hi' H' dx, Ex Hi H Hi' H' → E (.ref (ca c)) dx H'
def OkC (ca : Nat → Addr) (E : XK) (b : Bool) (X : Cx) (e : Expr) (f : Ev → R PyData) : Prop := ∃ t, PE X e t ∧ ∀ (He : Hp) (env : Ev) (σ : St) (Hi H : Hp) (Q : VK), Slots He env σ Hi H → Sub Hi H → PC ca E b Hi H (f env) Q → t σ H Q
theorem OkE.c {ca : Nat → Addr} {E : XK} {X : Cx} {e : Expr} {f : Ev → R PyData} (h : OkE ca E X e f) : OkC ca E false X e f := by
  obtain ⟨t, p, q⟩ := h
  refine ⟨t, p, fun He env σ Hi H Q S s h => q He env σ Hi H Q S s ?_⟩
  cases e : f env with
  | stuck => rw [e] at h; exact h
  | ok d => rw [e] at h; exact h
  | exc c => rw [e] at h; exact h
theorem SlV.ex {b : Bool} {Hs Hi H Hi' H' : Hp} {v : V} {d : PyData} (x : Ex Hi H Hi' H') (h : SlV b Hs Hi H v d) : SlV b Hs Hi' H' v d := by
  cases b with
  | false => exact Rp.sub x.im h
  | true =>
    obtain ⟨a, e, h0, h1, h2⟩ := h
    refine ⟨a, e, h0, ?_, h2.ex x⟩
    cases q : Hi' a with
    | none => rfl
    | some o =>
      rcases x.nw a o q with z | z
      · rw [h1] at z; cases z
      · obtain ⟨o', z'⟩ := h2.there
        rw [z] at z'; cases z'
def OwnIn (env : Ev) (σ : St) (Hs : Hp) : Prop := ∀ (j : Nat) (d : PyData) (b : Addr), env[j]? = some (some (.own d)) → σ[j]? = some (some (.ref b)) → ∃ o, Hs b = some o
theorem Slots.ownIn {He : Hp} {env : Ev} {σ : St} {Hi H : Hp} (S : Slots He env σ Hi H) : OwnIn env σ H := fun j d b e h => by
  obtain ⟨a, z1, _, _, z4⟩ := S.own j d e
  rw [h] at z1
  cases z1
  exact z4.there
theorem OwnIn.ex {env : Ev} {σ : St} {Hi H Hi' H' : Hp} (x : Ex Hi H Hi' H') (o : OwnIn env σ H) : OwnIn env σ H' := fun j d b e h => by
  obtain ⟨u, z⟩ := o j d b e h
  exact ⟨u, x.al _ _ z⟩
theorem Slots.setC {b : Bool} {Hs He : Hp} {env : Ev} {σ : St} {Hi H : Hp} {i : Nat} {v : V} {d : PyData} (S : Slots He env σ Hi H) (r : SlV b Hs Hi H v d) (hi : i < env.length) (hs : Sub He Hs) (ho : OwnIn env σ Hs) :
    Slots He (env.set i (some (mkSl b d))) (σ.set i (some v)) Hi H := by
  cases b with
  | false => exact S.set r hi
  | true =>
    obtain ⟨a, rfl, h0, h1, h2⟩ := r
    have hi' : i < σ.length := by rw [S.len]; exact hi
    refine ⟨by rw [List.length_set, List.length_set]; exact S.len, fun j c q => ?_, fun j c q => ?_, fun j c q => by
      by_cases hj : i = j
      · subst hj
        rw [List.getElem?_set_self hi] at q
        cases q
      · rw [List.getElem?_set_ne hj] at q ⊢
        exact S.raw j c q, fun j k c c' b q1 q2 q3 q4 => ?_⟩
    · by_cases hj : i = j
      · subst hj
        rw [List.getElem?_set_self hi] at q
        cases q
      · rw [List.getElem?_set_ne hj] at q ⊢
        exact S.imm j c q
    · by_cases hj : i = j
      · subst hj
        rw [List.getElem?_set_self hi] at q
        cases q
        exact ⟨a, List.getElem?_set_self hi', h1, hs.nn h0, h2⟩
      · rw [List.getElem?_set_ne hj] at q ⊢
        exact S.own j c q
    · have no : ∀ m c, i ≠ m → (env.set i (some (mkSl true d)))[m]? = some (some (.own c)) → (σ.set i (some (.ref a)))[m]? = some (some (.ref a)) → False := fun m c hm z1 z2 => by
        rw [List.getElem?_set_ne hm] at z1 z2
        obtain ⟨o, z⟩ := ho m c a z1 z2
        rw [h0] at z
        cases z
      by_cases hj : i = j
      · subst hj
        rw [List.getElem?_set_self hi'] at q3
        cases q3
        by_cases hk : i = k
        · exact hk
        · exact (no k c' hk q2 q4).elim
      · by_cases hk : i = k
        · subst hk
          rw [List.getElem?_set_self hi'] at q4
          cases q4
          exact (no j c hj q1 q3).elim
        · rw [List.getElem?_set_ne hj] at q1 q3
          rw [List.getElem?_set_ne hk] at q2 q4
          exact S.dis j k c c' b q1 q2 q3 q4
theorem OwnIn.set {b : Bool} {Hs Hs' : Hp} {env : Ev} {σ : St} {Hi H : Hp} {i : Nat} {v : V} {d : PyData} (o : OwnIn env σ H) (r : SlV b Hs Hi H v d) (hl : σ.length = env.length) : OwnIn (env.set i (some (mkSl b d))) (σ.set i (some v)) H := fun j c a z1 z2 => by
  by_cases hj : i = j
  · subst hj
    have hi : i < env.length := by
      have := (List.getElem?_eq_some_iff.mp z1).1
      rwa [List.length_set] at this
    rw [List.getElem?_set_self hi] at z1
    rw [List.getElem?_set_self (by rw [hl]; exact hi)] at z2
    cases z2
    cases b with
    | false => cases z1
    | true =>
      obtain ⟨a', e, _, _, h2⟩ := r
      cases e
      exact h2.there
  · rw [List.getElem?_set_ne hj] at z1 z2
    exact o j c a z1 z2
section
variable {ca : Nat → Addr} {E : XK} {X : Cx} {pos : Pos} {Hi0 He Hi H : Hp}
theorem PC.mono {b : Bool} {r : R PyData} {Q Q' : VK} (h : PC ca E b Hi H r Q) (w : ∀ v H, Q v H → Q' v H) : PC ca E b Hi H r Q' := by
  cases r with
  | stuck => exact h
  | exc c => exact h
  | ok d => exact fun v Hi' H' x q => w _ _ (h v Hi' H' x q)
theorem PO.thenC {b : Bool} {r : R PyData} {k : PyData → Out} {D : Ends} (x : Ex Hi0 He Hi H) (h : PO ca E Hi0 He (PD.thenV r k) D) : PC ca E b Hi H r fun v H' => ∃ d Hi', r = .ok d ∧ Ex Hi H Hi' H' ∧ Ex Hi0 He Hi' H' ∧ SlV b H Hi' H' v d ∧ PO ca E Hi0 He (k d) D := by
  cases r with
  | stuck => exact h
  | ok d => exact fun v Hi' H' y q => ⟨d, Hi', rfl, y, x.on y, q, h⟩
  | exc c => exact fun Hi' H' dx y => h Hi' H' dx (x.on y)

/-! ### fresh: displays, comprehensions -/
variable {e : Expr} {es : List Expr} {f : Ev → R PyData} {fs : Ev → R (List PyData)}
theorem okF_lst (h : OkA ca E X es fs) : OkC ca E true X (.List es pos) (eLst fs) := by
  obtain ⟨ta, pa, qa⟩ := h
  refine ⟨_, pe_lst pa, fun He env σ Hi H Q S s h => qa He env σ Hi H _ S s ?_⟩
  unfold eLst at h
  cases ea : fs env with
  | stuck => rw [ea] at h; exact h.elim
  | exc c => rw [ea] at h; exact h
  | ok ds =>
    rw [ea] at h
    intro vs Hi1 H1 x1 r1
    have hl := r1.length
    have h2 : PC ca E true Hi H (if Nat.ble ds.length 4000 then .ok (.list ds) else .stuck) Q := h
    split at h2
    · rename_i hz
      refine ⟨by rw [hl]; exact few hz, fun p hp => h2 _ Hi1 _ ?_ ⟨p, rfl, x1.al.nn hp, x1.le.nn hp, vs, upd_same, r1⟩⟩
      exact x1.trans (.skip x1.le hp)
    · exact h2.elim
/-- a statement that a slot is frozen ahead of -/
def sFrz (i : Nat) (F : Ev → Out) : Ev → Out := fun env => match env[i]? with
  | some (some (.own d)) => F (env.set i (some (.imm d)))
  | _ => .stuck
theorem frz_ok {i : Nat} {F : Ev → Out} {t : TS} (q : RdS ca E t F) : RdS ca E t (sFrz i F) := fun Hi0 He env σ Hi H D S x h => by
  unfold sFrz at h
  split at h
  · rename_i d e
    obtain ⟨a, o, h1, h2, h3, S'⟩ := S.frz e
    exact q Hi0 He _ σ _ H D S' (x.frz h2 h3 h1) h
  · exact h.elim
theorem okS_frz (i : Nat) {st : Stmt} {F : Ev → Out} (h : OkS ca E X st F) : OkS ca E X st (sFrz i F) := by
  obtain ⟨t, p, q⟩ := h
  exact ⟨t, p, frz_ok q⟩

/-! ### stores of components -/
def putC (b : Bool) (i : Nat) (d : PyData) (k : Ev → Out) (env : Ev) : Out := match Nat.blt i env.length with
  | true => k (env.set i (some (mkSl b d)))
  | false => .stuck
def sSetC (b : Bool) (i : Nat) (f : Ev → R PyData) : Ev → Out := fun env => thenV (f env) fun d => putC b i d .next env
theorem PO.putC {b : Bool} {i : Nat} {d : PyData} {k : Ev → Out} {env : Ev} {D : Ends} (h : PO ca E Hi0 He (putC b i d k env) D) : i < env.length ∧ PO ca E Hi0 He (k (env.set i (some (mkSl b d)))) D := by
  unfold PD.putC at h
  split at h
  · rename_i z
    exact ⟨Nat.le_of_ble_eq_true z, h⟩
  · exact h.elim
theorem okS_setC (b : Bool) (i : Nat) {x : Str} {e : Expr} {f : Ev → R PyData} {pos' : Pos} (hN : X.N.Nodup) (he : OkC ca E b X e f) (hi : X.N[i]? = some x := by rfl) (hx : Loc X.env.scope x := by first | exact Or.inl rfl | exact Or.inr rfl)
    (hs : swapsWith e (some (.Name x pos')) pos.line X.env = pure false := by rfl) (hf : X.fn x = true ∨ X.env.scope.names.lookup x = some .local := by first | exact .inl rfl | exact .inr rfl) : OkS ca E X (.Assign [.Name x pos'] e pos) (sSetC b i f) := by
  obtain ⟨t, p, q⟩ := he
  refine ⟨tAsg t (gName i), ps_set hN hi hx p hs hf, fun Hi0 He env σ Hi H D S x h => ?_⟩
  refine q He env σ Hi H _ S x.le ?_
  refine (PO.thenC (b := b) x h).mono fun v H' hv => ?_
  obtain ⟨d, Hi', e', x1, x2, r1, h2⟩ := hv
  obtain ⟨hl, h3⟩ := h2.putC
  exact h3 _ _ _ ((S.ex x1).setC r1 hl x.al S.ownIn) x2
def sPar (b1 b2 : Bool) (i j : Nat) (f g : Ev → R PyData) : Ev → Out := fun env => thenV (f env) fun d1 => thenV (g env) fun d2 => putC b1 i d1 (putC b2 j d2 .next) env
theorem okS_par (b1 b2 : Bool) (i j : Nat) {x y : Str} {a b : Expr} {f g : Ev → R PyData} {px py pt : Pos} {kt k2 pt2} (hc : X.calm = true) (hN : X.N.Nodup) (ha : OkC ca E b1 X a f) (hb : OkC ca E b2 X b g) (hi : X.N[i]? = some x := by rfl) (hj : X.N[j]? = some y := by rfl) (hij : i ≠ j := by decide)
    (hx : X.env.scope.names.lookup x = some .local := by rfl) (hy : X.env.scope.names.lookup y = some .local := by rfl)
    (hw : swappedStores [.Tuple [.Name x px, .Name y py] kt pt] (.Tuple [a, b] k2 pt2) X.env = pure (some [x, y]) := by rfl)
    (hs : swapsWithSole [.Tuple [.Name x px, .Name y py] kt pt] (.Tuple [a, b] k2 pt2) pos.line X.env = pure false := by rfl)
    (e1 : starEach [a, b] X.env = (false, eval a X.env) :: starEach [b] X.env := by rfl) (e2 : starEach [b] X.env = (false, eval b X.env) :: starEach [] X.env := by rfl) :
    OkS ca E X (.Assign [.Tuple [.Name x px, .Name y py] kt pt] (.Tuple [a, b] k2 pt2) pos) (sPar b1 b2 i j f g) := by
  obtain ⟨ta, pa, qa⟩ := ha
  obtain ⟨tb, pb, qb⟩ := hb
  refine ⟨_, ps_par hc hN hi hj hij hx hy (pa_cons pa (pa_cons pb pa_nil e2) e1) hw hs, fun Hi0 He env σ Hi H D S x h => ?_⟩
  refine qa He env σ Hi H _ S x.le ?_
  refine (PO.thenC (b := b1) x h).mono fun v H1 hv => ?_
  obtain ⟨d1, Hi1, _, x1, x01, r1, h1⟩ := hv
  refine qb He env σ Hi1 H1 _ (S.ex x1) x1.le ?_
  refine (PO.thenC (b := b2) x01 h1).mono fun u H2 hu => ?_
  obtain ⟨d2, Hi2, _, x2, x02, r2, h2⟩ := hu
  obtain ⟨hl1, h3⟩ := h2.putC
  obtain ⟨hl2, h4⟩ := h3.putC
  refine ⟨v, u, rfl, h4 _ _ _ ?_ x02⟩
  have S2 : Slots He env σ Hi2 H2 := (S.ex x1).ex x2
  have T1 := S2.setC (i := i) (r1.ex x2) hl1 x.al S.ownIn
  exact T1.setC r2 hl2 x01.al (OwnIn.set (Hs' := H) (S.ex x1).ownIn r1 S.len)
def sPar3 (b1 b2 b3 : Bool) (i j l : Nat) (f g k : Ev → R PyData) : Ev → Out := fun env => thenV (f env) fun d1 => thenV (g env) fun d2 => thenV (k env) fun d3 => putC b1 i d1 (putC b2 j d2 (putC b3 l d3 .next)) env
theorem okS_par3 (b1 b2 b3 : Bool) (i j l : Nat) {x y z : Str} {a b c : Expr} {f g k : Ev → R PyData} {px py pz pt : Pos} {kt k2 pt2} (hc : X.calm = true) (hN : X.N.Nodup) (ha : OkC ca E b1 X a f) (hb : OkC ca E b2 X b g) (hcc : OkC ca E b3 X c k)
    (hi : X.N[i]? = some x := by rfl) (hj : X.N[j]? = some y := by rfl) (hl : X.N[l]? = some z := by rfl) (hij : i ≠ j := by decide) (hil : i ≠ l := by decide) (hjl : j ≠ l := by decide)
    (hx : X.env.scope.names.lookup x = some .local := by rfl) (hy : X.env.scope.names.lookup y = some .local := by rfl) (hz : X.env.scope.names.lookup z = some .local := by rfl)
    (hw : swappedStores [.Tuple [.Name x px, .Name y py, .Name z pz] kt pt] (.Tuple [a, b, c] k2 pt2) X.env = pure (some [x, y, z]) := by rfl)
    (hs : swapsWithSole [.Tuple [.Name x px, .Name y py, .Name z pz] kt pt] (.Tuple [a, b, c] k2 pt2) pos.line X.env = pure false := by rfl)
    (e1 : starEach [a, b, c] X.env = (false, eval a X.env) :: starEach [b, c] X.env := by rfl) (e2 : starEach [b, c] X.env = (false, eval b X.env) :: starEach [c] X.env := by rfl) (e3 : starEach [c] X.env = (false, eval c X.env) :: starEach [] X.env := by rfl) :
    OkS ca E X (.Assign [.Tuple [.Name x px, .Name y py, .Name z pz] kt pt] (.Tuple [a, b, c] k2 pt2) pos) (sPar3 b1 b2 b3 i j l f g k) := by
  obtain ⟨ta, pa, qa⟩ := ha
  obtain ⟨tb, pb, qb⟩ := hb
  obtain ⟨tc, pc, qc⟩ := hcc
  refine ⟨_, ps_par3 hc hN hi hj hl hij hil hjl hx hy hz (pa_cons pa (pa_cons pb (pa_cons pc pa_nil e3) e2) e1) hw hs, fun Hi0 He env σ Hi H D S x h => ?_⟩
  refine qa He env σ Hi H _ S x.le ?_
  refine (PO.thenC (b := b1) x h).mono fun v H1 hv => ?_
  obtain ⟨d1, Hi1, _, x1, x01, r1, h1⟩ := hv
  refine qb He env σ Hi1 H1 _ (S.ex x1) x1.le ?_
  refine (PO.thenC (b := b2) x01 h1).mono fun u H2 hu => ?_
  obtain ⟨d2, Hi2, _, x2, x02, r2, h2⟩ := hu
  refine qc He env σ Hi2 H2 _ ((S.ex x1).ex x2) x2.le ?_
  refine (PO.thenC (b := b3) x02 h2).mono fun w' H3 hw' => ?_
  obtain ⟨d3, Hi3, _, x3, x03, r3, h3⟩ := hw'
  obtain ⟨hl1, h4⟩ := h3.putC
  obtain ⟨hl2, h5⟩ := h4.putC
  obtain ⟨hl3, h6⟩ := h5.putC
  refine ⟨v, u, w', rfl, h6 _ _ _ ?_ x03⟩
  have S3 : Slots He env σ Hi3 H3 := ((S.ex x1).ex x2).ex x3
  have T1 := S3.setC (i := i) ((r1.ex x2).ex x3) hl1 x.al S.ownIn
  have O1 := OwnIn.set (i := i) (Hs' := H) (S.ex x1).ownIn r1 S.len
  have T2 := T1.setC (i := j) (r2.ex x3) hl2 x01.al O1
  have O2 := OwnIn.set (i := j) (Hs' := H) (O1.ex x2) r2 (by rw [List.length_set, List.length_set]; exact S.len)
  exact T2.setC r3 hl3 x02.al O2
end
end PD
/-! text P17 -/
set_option maxHeartbeats 5000000
namespace PD
open PySem.Spec PySem PyProof.Rows L2

def ownD (i : Nat) (env : Ev) : Option PyData := match env[i]? with
  | some (some (.own d)) => some d
  | _ => none
theorem ownD_eq {i : Nat} {env : Ev} {d : PyData} (h : ownD i env = some d) : env[i]? = some (some (.own d)) := by
  unfold ownD at h
  split at h
  · rename_i e
    cases h
    exact e
  · cases h
section
variable {ca : Nat → Addr} {E : XK} {X : Cx} {pos : Pos} {Hi0 He Hi H : Hp}
/-- a bool is had over any frozen part -/
theorem PV.bool_up {r : R PyData} {Q : VK} (hr : ∀ d, r = .ok d → ∃ b, d = .bool b) (s : Sub Hi H) (h : PV ca E Hi H r Q) : PV ca E H H r Q := by
  have up : ∀ {Hi' H'}, Ex H H Hi' H' → Ex Hi H Hi H' := fun {Hi' H'} x => ⟨.refl _, x.al, s.trans x.al, fun _ _ e => .inl e⟩
  cases r with
  | stuck => exact h
  | exc c => exact fun Hi' H' dx x => h Hi H' dx (up x)
  | ok d =>
    obtain ⟨b, rfl⟩ := hr d rfl
    intro v Hi' H' x q
    cases q
    exact h _ Hi H' (up x) (.bl b)
theorem gIn_bool {neg : Bool} {x y : PyData} : ∀ d, gIn neg x y = .ok d → ∃ b, d = .bool b := fun d h => by
  unfold gIn at h
  cases e : isIn x y with
  | stuck => rw [e] at h; cases h
  | exc c => rw [e] at h; cases h
  | ok b => rw [e] at h; cases h; exact ⟨_, rfl⟩

/-! ### x in own, own[k] -/
def eInO (neg : Bool) (i : Nat) (fa : Ev → R PyData) : Ev → R PyData := fun env => (fa env).bind fun x => match ownD i env with
  | some d => gIn neg x d
  | none => .stuck
theorem inO_ok {neg : Bool} {i : Nat} {fa : Ev → R PyData} {ta : TE} {K : PySem.W.Frag} (qa : ∀ (He : Hp) (env : Ev) (σ : St) (Hi H : Hp) (Q : VK), Slots He env σ Hi H → Sub Hi H → PV ca E Hi H (fa env) Q → ta σ H Q) :
    ∀ (He : Hp) (env : Ev) (σ : St) (Hi H : Hp) (Q : VK), Slots He env σ Hi H → Sub Hi H → PV ca E Hi H (eInO neg i fa env) Q → tOp (rInU K neg) ta (tVar i) σ H Q := fun He env σ Hi H Q S s h => by
  refine qa He env σ Hi H _ S s ?_
  have h1 := PV.bind h
  cases ea : fa env with
  | stuck => rw [ea] at h1; exact h1.elim
  | exc c => rw [ea] at h1; exact h1
  | ok x =>
    rw [ea] at h1
    intro v Hi1 H1 x1 r1
    obtain ⟨d, Hi', e, x1, r1, h2⟩ := h1 v Hi1 H1 x1 r1
    cases e
    cases eo : ownD i env with
    | none => rw [eo] at h2; exact PV.no h2
    | some y =>
      rw [eo] at h2
      obtain ⟨a, z1, z2, z3, z4⟩ := (S.ex x1).own i y (ownD_eq eo)
      exact ⟨_, z1, gv_in (ca := ca) (E := E) x y v (.ref a) H1 H1 Q (r1.sub x1.le) (z4.rp x1.le) (.refl _) (PV.bool_up gIn_bool x1.le h2)⟩
theorem okE_inO (i : Nat) {a : Expr} {x : Str} {p : Pos} {fa : Ev → R PyData} (hu : X.A.units + 65 < cLine) (ha : OkE ca E X a fa) (hN : X.N[i]? = some x := by rfl) (hv : Vis X.env.scope x := by first | exact Or.inl rfl | exact Or.inr (Or.inl rfl) | exact Or.inr (Or.inr rfl))
    (hd : (x == ("__debug__" : Str)) = false := by decide) (hcd : (x == ("__classdict__" : Str)) = false := by decide) : OkE ca E X (.Compare a [.In] [.Name x p] pos) (eInO false i fa) := by
  obtain ⟨ta, pa, qa⟩ := ha
  exact ⟨_, pe_cmpR (op_inU hu) pa (pe_var hN hv hd hcd) rfl, inO_ok qa⟩
theorem okE_ninO (i : Nat) {a : Expr} {x : Str} {p : Pos} {fa : Ev → R PyData} (hu : X.A.units + 65 < cLine) (ha : OkE ca E X a fa) (hN : X.N[i]? = some x := by rfl) (hv : Vis X.env.scope x := by first | exact Or.inl rfl | exact Or.inr (Or.inl rfl) | exact Or.inr (Or.inr rfl))
    (hd : (x == ("__debug__" : Str)) = false := by decide) (hcd : (x == ("__classdict__" : Str)) = false := by decide) : OkE ca E X (.Compare a [.NotIn] [.Name x p] pos) (eInO true i fa) := by
  obtain ⟨ta, pa, qa⟩ := ha
  exact ⟨_, pe_cmpR (op_notInU hu) pa (pe_var hN hv hd hcd) rfl, inO_ok qa⟩
theorem okT_inO (i : Nat) {a : Expr} {x : Str} {p : Pos} {fa : Ev → R PyData} (hu : X.A.units + 65 < cLine) (ha : OkE ca E X a fa) (hN : X.N[i]? = some x := by rfl) (hv : Vis X.env.scope x := by first | exact Or.inl rfl | exact Or.inr (Or.inl rfl) | exact Or.inr (Or.inr rfl))
    (hd : (x == ("__debug__" : Str)) = false := by decide) (hcd : (x == ("__classdict__" : Str)) = false := by decide) : OkT ca E X (.Compare a [.In] [.Name x p] pos) (eInO false i fa) := by
  obtain ⟨ta, pa, qa⟩ := ha
  exact ⟨_, pt_cmpR (op_inU hu) pa (pe_var hN hv hd hcd) rfl, tTest_of (inO_ok qa)⟩
theorem okT_ninO (i : Nat) {a : Expr} {x : Str} {p : Pos} {fa : Ev → R PyData} (hu : X.A.units + 65 < cLine) (ha : OkE ca E X a fa) (hN : X.N[i]? = some x := by rfl) (hv : Vis X.env.scope x := by first | exact Or.inl rfl | exact Or.inr (Or.inl rfl) | exact Or.inr (Or.inr rfl))
    (hd : (x == ("__debug__" : Str)) = false := by decide) (hcd : (x == ("__classdict__" : Str)) = false := by decide) : OkT ca E X (.Compare a [.NotIn] [.Name x p] pos) (eInO true i fa) := by
  obtain ⟨ta, pa, qa⟩ := ha
  exact ⟨_, pt_cmpR (op_notInU hu) pa (pe_var hN hv hd hcd) rfl, tTest_of (inO_ok qa)⟩
def eIxO (i : Nat) (fb : Ev → R PyData) : Ev → R PyData := fun env => match ownD i env with
  | some d => (fb env).bind fun y => gIx d y
  | none => .stuck
theorem okE_ixO (i : Nat) {b : Expr} {x : Str} {p : Pos} {fb : Ev → R PyData} (hu : X.A.units + 64 < cLine) (hb : OkE ca E X b fb) (hs : PlainIx b := by exact fun _ _ => rfl) (hN : X.N[i]? = some x := by rfl) (hv : Vis X.env.scope x := by first | exact Or.inl rfl | exact Or.inr (Or.inl rfl) | exact Or.inr (Or.inr rfl))
    (hd : (x == ("__debug__" : Str)) = false := by decide) (hcd : (x == ("__classdict__" : Str)) = false := by decide) : OkE ca E X (.Subscript (.Name x p) b pos) (eIxO i fb) := by
  obtain ⟨tb, pb, qb⟩ := hb
  refine ⟨_, pe_ix (ix_U hu) (pe_var hN hv hd hcd) pb hs, fun He env σ Hi H Q S s h => ?_⟩
  unfold eIxO at h
  cases eo : ownD i env with
  | none => rw [eo] at h; exact PV.no h
  | some d0 =>
    rw [eo] at h
    obtain ⟨a, z1, z2, z3, z4⟩ := S.own i d0 (ownD_eq eo)
    refine ⟨_, z1, qb He env σ Hi H _ S s ?_⟩
    have h1 := PV.bind h
    cases ea : fb env with
    | stuck => rw [ea] at h1; exact h1.elim
    | exc c => rw [ea] at h1; exact h1
    | ok y0 =>
      rw [ea] at h1
      intro v Hi1 H1 x1 r1
      obtain ⟨y, Hi', e, x1, r1, h2⟩ := h1 v Hi1 H1 x1 r1
      cases e
      have z5 := z4.ex x1
      cases d0 with
      | list ds =>
        obtain ⟨xs, w1, w2⟩ := z5
        cases r1 with
        | int k =>
          dsimp only [gIx] at h2
          split at h2
          · rename_i d hd
            obtain ⟨w, hw, rw'⟩ := w2.atI hd
            exact .inl (.inl ⟨a, xs, k, w, rfl, rfl, .of w1, hw, h2 _ Hi' H1 (.refl x1.le) rw'⟩)
          · exact PV.no h2
        | _ => exact PV.no h2
      | dict kvs =>
        obtain ⟨o, xs, w1, w2⟩ := z5
        have h' : PV ca E Hi' H1 (match ckOf y0 with
          | some _ => match dFind kvs y0 with
            | some d => .ok d
            | none => .stuck
          | none => .stuck) Q := by
          unfold gIx at h2
          split at h2
          · rename_i e; cases e
          · rename_i e; cases e
          · rename_i r e
            cases e
            cases w2
          · rename_i e
            cases e
            exact h2
          · rename_i hh
            exact absurd rfl (hh _)
        split at h'
        · rename_i k hk
          split at h'
          · rename_i d hd
            have e := ckOf_eq hk
            subst e
            cases r1 with
            | @tup b zs fs eb rb =>
              exact .inr (.inl ⟨a, o, xs, kvs, b, k, d, rfl, rfl, w1, w2.sub x1.le, .tup (x1.le _ _ eb) (rb.sub x1.le), hd, fun w hw => h' _ Hi' H1 (.refl x1.le) (hw Hi' w2)⟩)
          · exact PV.no h'
        · exact PV.no h'
      | none => exact z5.elim
      | bool _ => exact z5.elim
      | int _ => exact z5.elim
      | str _ => exact z5.elim
      | tuple _ => exact z5.elim

/-! ### own.append(e) -/
def sApp (i : Nat) (f : Ev → R PyData) : Ev → Out := fun env => match ownD i env with
  | some (.list ds) => thenV (f env) fun d => match Nat.ble ds.length 4000 with
    | true => .next (env.set i (some (.own (.list (ds ++ [d])))))
    | false => .stuck
  | _ => .stuck
theorem okS_app (i : Nat) {x : Str} {p apos cpos : Pos} {e : Expr} {f : Ev → R PyData} (he : OkE ca E X e f) (hN : X.N[i]? = some x := by rfl) (hv : Vis X.env.scope x := by first | exact Or.inl rfl | exact Or.inr (Or.inl rfl) | exact Or.inr (Or.inr rfl))
    (hd : (x == ("__debug__" : Str)) = false := by decide) (hcd : (x == ("__classdict__" : Str)) = false := by decide)
    (hbase : attributeBase (.Name x p) "append" X.env (eval (.Name x p) X.env) = eval (.Name x p) X.env := by rfl)
    (hfew : ((backTo cpos (starEach [e] X.env)).all (fun x => !x.1) && (backToKw cpos (keywordEach [] X.env)).all (fun x => x.1.isSome)
      && decide (([e] : List Expr).length + ([] : List Keyword).length + (if ([] : List Keyword).isEmpty then 0 else 1) < 30)) = true := by rfl)
    (hline : (apos.endLine == cpos.line) = true := by rfl) (hs : starEach [e] X.env = (false, eval e X.env) :: starEach [] X.env := by rfl) (hplain : (backTo cpos (starEach ([] : List Expr) X.env)).any (·.1) = false := by rfl)
    (hsw : swapsWith (.Call (.Attribute (.Name x p) "append" apos) [e] [] cpos) none pos.line X.env = pure false := by rfl) : OkS ca E X (.Expr (.Call (.Attribute (.Name x p) "append" apos) [e] [] cpos) pos) (sApp i f) := by
  obtain ⟨t, pt, q⟩ := he
  refine ⟨_, ps_expr (pe_bm PySem.F.plainAttrs_list PySem.F.slot_list_append PySem.F.type_list_append mt_append (pe_var hN hv hd hcd) (pa_cons pt pa_nil hs) hbase hfew hline hs hplain) hsw, fun Hi0 He env σ Hi H D S x h => ?_⟩
  unfold sApp at h
  cases eo : ownD i env with
  | none => rw [eo] at h; exact h.elim
  | some d0 =>
    rw [eo] at h
    obtain ⟨a, z1, z2, z3, z4⟩ := S.own i d0 (ownD_eq eo)
    cases d0 with
    | list ds =>
      have z5 := z4
      obtain ⟨xs, w1, w2⟩ := z4
      refine ⟨_, z1, .inl ⟨rfl, xs, .of w1⟩, q He env σ Hi H _ S x.le ?_⟩
      have h0 : PO ca E Hi0 He (thenV (f env) fun d => match Nat.ble ds.length 4000 with
        | true => .next (env.set i (some (.own (.list (ds ++ [d])))))
        | false => .stuck) D := h
      have h1 := PO.thenV x h0
      cases e : f env with
      | stuck => rw [e] at h1; exact h1
      | exc c => rw [e] at h1; exact h1
      | ok d =>
        rw [e] at h1
        intro v Hi1 H1 x1 r1
        obtain ⟨d', Hi', e', x1, x2, r1, h2⟩ := h1 v Hi1 H1 x1 r1
        cases e'
        split at h2
        · rename_i hz
          have hz := Nat.le_of_ble_eq_true hz
          have S1 := S.ex x1
          obtain ⟨a', y1, y2, y3, y4⟩ := S1.own i _ (ownD_eq eo)
          rw [z1] at y1
          cases y1
          obtain ⟨ys, w3, w4⟩ := y4
          have hlen := w4.length
          refine ⟨a, ys, v, rfl, rfl, w3, by rw [hlen, sizeLine_eq]; omega, ?_⟩
          exact h2 _ _ _ (S1.mut (ownD_eq eo) z1 y2 y3 ⟨_, upd_same, w4.append (.cons r1 .nil)⟩) (x2.mut y2 y3)
        · exact h2.elim
    | dict kvs => exact h.elim
    | none => exact h.elim
    | bool _ => exact h.elim
    | int _ => exact h.elim
    | str _ => exact h.elim
    | tuple _ => exact h.elim

/-! ### own[k] = e -/
def rSetC : V → V → V → Hp → (Hp → Prop) → Prop := fun o i v H Q => ∃ a ob xs kvs q k, o = .ref a ∧ i = .ref q ∧ H a = some (dO a ob xs) ∧ RpC H xs kvs ∧ Rp H (.ref q) (ckD k) ∧ xs.length ≤ 4000 ∧ ∀ ob' u, RelV v u → Q (upd H a (dO a ob' (storedH xs k q u)))
theorem set_C (hu : X.A.units + 64 < cLine) : PSet X rSetC := by
  intro pins s σ H o i v ov iv u Q I ro ri rv h
  obtain ⟨a, ob, xs, kvs, q, k, rfl, rfl, ha, r, hk, hz, h⟩ := h
  cases ro
  cases ri
  obtain ⟨hm, hd, hz', _⟩ := dictAt I ha r
  have hroom : (ckKind X.prog X.w).room X.A.in1 := by
    show X.A.units + 1 + 4 < cLine
    omega
  refine wpAny_setItem_heap (hsz := hz') hroom (ck_reads I hk) hm fun h' hm' hs => ?_
  have hl := storedH_length xs k q u
  obtain ⟨ob', e', _⟩ := dO_new (P := X.prog) (w := X.w) (H' := H) hd (by rw [sizeLine_eq]; omega) hm'
  obtain ⟨ob2, e2, new⟩ := dO_new (P := X.prog) (w := X.w) (H' := upd H a (dO a ob' (storedH xs k q u))) hd (by rw [sizeLine_eq]; omega) hm'
  rw [e'] at e2
  cases e2
  exact ⟨_, d_write I (by rw [ha]; trivial) hs ⟨_, e'⟩ new, h ob' u rv⟩
def rSetU : V → V → V → Hp → (Hp → Prop) → Prop := fun o i v H Q => rSetL o i v H Q ∨ rSetC o i v H Q
theorem set_U (hu : X.A.units + 64 < cLine) : PSet X rSetU := by
  intro pins s σ H o i v ov iv u Q I ro ri rv h
  rcases h with h | h
  · exact set_list pins s σ H o i v ov iv u Q I ro ri rv h
  · exact set_C hu pins s σ H o i v ov iv u Q I ro ri rv h
def dMap (kvs : List (PyData × PyData)) (kd d : PyData) : List (PyData × PyData) := match kvs with
  | [] => []
  | (k, e) :: r => match eqF 9 k kd with
    | true => (k, d) :: dMap r kd d
    | false => (k, e) :: dMap r kd d
def dSto (kvs : List (PyData × PyData)) (kd d : PyData) : List (PyData × PyData) := match dFind kvs kd with
  | some _ => dMap kvs kd d
  | none => kvs ++ [(kd, d)]
theorem RpC.length : ∀ {H : Hp} {xs : List (CK × Addr × Value)} {kvs : List (PyData × PyData)}, RpC H xs kvs → xs.length = kvs.length
  | _, _, _, .nil => rfl
  | _, _, _, .cons _ _ _ t => by rw [List.length_cons, List.length_cons, RpC.length t]
theorem RpC.append {H : Hp} : ∀ {xs ys : List (CK × Addr × Value)} {kvs lvs : List (PyData × PyData)}, RpC H xs kvs → RpC H ys lvs → RpC H (xs ++ ys) (kvs ++ lvs)
  | _, _, _, _, .nil, s => s
  | _, _, _, _, .cons a b c t, s => .cons a b c (RpC.append t s)
theorem RpC.mapped {k : CK} {v : V} {u : Value} {d : PyData} {H : Hp} (hr : RelV v u) (hv : Rp H v d) : ∀ {xs : List (CK × Addr × Value)} {kvs : List (PyData × PyData)}, RpC H xs kvs → RpC H (xs.map (putAt k u)) (dMap kvs (ckD k) d)
  | _, _, .nil => .nil
  | _, _, @RpC.cons _ k' q' v' u' d' xs kvs hk e r t => by
    have e0 : eqF 9 (ckD k') (ckD k) = decide (k' = k) := by rw [eqF_ok, eqv_ck]
    by_cases hkk : k' = k
    · subst hkk
      have e1 : dMap ((ckD k', d') :: kvs) (ckD k') d = (ckD k', d) :: dMap kvs (ckD k') d := by
        rw [dMap, e0]
        simp
      have e2 : putAt k' u (k', q', u') = (k', q', u) := by simp [putAt]
      rw [List.map_cons, e1, e2]
      exact .cons hk hr hv (RpC.mapped hr hv t)
    · have e1 : dMap ((ckD k', d') :: kvs) (ckD k) d = (ckD k', d') :: dMap kvs (ckD k) d := by
        rw [dMap, e0]
        simp [hkk]
      have e2 : putAt k u (k', q', u') = (k', q', u') := by simp [putAt, hkk]
      rw [List.map_cons, e1, e2]
      exact .cons hk e r (RpC.mapped hr hv t)
theorem RpC.stored {k : CK} {q : Addr} {v : V} {u : Value} {d : PyData} {H : Hp} (hk : Rp H (.ref q) (ckD k)) (hr : RelV v u) (hv : Rp H v d) {xs : List (CK × Addr × Value)} {kvs : List (PyData × PyData)} (r : RpC H xs kvs) : RpC H (storedH xs k q u) (dSto kvs (ckD k) d) := by
  rcases find_at (k := k) r with ⟨h1, h2⟩ | ⟨d', q', v', u', h1, h2, _⟩
  · rw [storedH_new h2]
    unfold dSto
    rw [h1]
    exact r.append (.cons hk hr hv .nil)
  · rw [storedH_old h2]
    unfold dSto
    rw [h1]
    exact RpC.mapped hr hv r
/-- a list or a dict of cuttings, with an item stored -/
def gSet (o k d : PyData) : R PyData := match o with
  | .list ds => match k with
    | .int i => match ixN ds.length i with
      | some j => .ok (.list (ds.set j d))
      | none => .stuck
    | _ => .stuck
  | .dict kvs => match ckOf k with
    | some _ => match Nat.ble kvs.length 4000 with
      | true => .ok (.dict (dSto kvs k d))
      | false => .stuck
    | none => .stuck
  | _ => .stuck
def sSetI (i : Nat) (fi f : Ev → R PyData) : Ev → Out := fun env => match ownD i env with
  | some o => thenV (f env) fun d => thenV (fi env) fun k => match gSet o k d with
    | .ok o' => .next (env.set i (some (.own o')))
    | _ => .stuck
  | none => .stuck
theorem okS_setI (i : Nat) {x : Str} {p tpos : Pos} {b e : Expr} {fi f : Ev → R PyData} (hu : X.A.units + 64 < cLine) (he : OkE ca E X e f) (hb : OkE ca E X b fi) (hN : X.N[i]? = some x := by rfl) (hv : Vis X.env.scope x := by first | exact Or.inl rfl | exact Or.inr (Or.inl rfl) | exact Or.inr (Or.inr rfl))
    (hd : (x == ("__debug__" : Str)) = false := by decide) (hcd : (x == ("__classdict__" : Str)) = false := by decide)
    (ha : ∀ v, assign (.Subscript (.Name x p) b tpos) X.env v = (do
      let ov ← holding [v] (eval (.Name x p) X.env)
      let iv ← holding [v, ov] (eval b X.env)
      standAt tpos
      holding [v, ov, iv] (setItem ov iv v)
      release [v, ov, iv] []) := by intro _; rfl)
    (hs : swapsWithSole [.Subscript (.Name x p) b tpos] e pos.line X.env = pure false := by rfl) (hw : swappedStores [.Subscript (.Name x p) b tpos] e X.env = pure none := by rfl)
    (h1 : (assignEach [.Subscript (.Name x p) b tpos] X.env).map (·.2) = [assign (.Subscript (.Name x p) b tpos) X.env] := by rfl) : OkS ca E X (.Assign [.Subscript (.Name x p) b tpos] e pos) (sSetI i fi f) := by
  obtain ⟨t, pt, q⟩ := he
  obtain ⟨tb, pb, qb⟩ := hb
  refine ⟨_, ps_asg pt (pg_sub (pe_var hN hv hd hcd) pb (set_U hu) ha) hs hw h1, fun Hi0 He env σ Hi H D S x h => ?_⟩
  unfold sSetI at h
  cases eo : ownD i env with
  | none => rw [eo] at h; exact h.elim
  | some o0 =>
    rw [eo] at h
    refine q He env σ Hi H _ S x.le ?_
    have k1 := PO.thenV x h
    cases e : f env with
    | stuck => rw [e] at k1; exact k1
    | exc c => rw [e] at k1; exact k1
    | ok d =>
      rw [e] at k1
      intro v Hi1 H1 x1 r1
      obtain ⟨d', Hi2, e', x1, x01, r1, k2⟩ := k1 v Hi1 H1 x1 r1
      cases e'
      have S1 := S.ex x1
      obtain ⟨a, z1, z2, z3, z4⟩ := S1.own i o0 (ownD_eq eo)
      refine ⟨_, z1, qb He env σ Hi2 H1 _ S1 x1.le ?_⟩
      have k3 := PO.thenV x01 k2
      cases e2 : fi env with
      | stuck => rw [e2] at k3; exact k3
      | exc c => rw [e2] at k3; exact k3
      | ok k0 =>
        rw [e2] at k3
        intro w Hi3 H3 x3 r3
        obtain ⟨d3, Hi4, e3, x3, x03, r3, k4⟩ := k3 w Hi3 H3 x3 r3
        cases e3
        have S3 := S1.ex x3
        obtain ⟨a', y1, y2, y3, y4⟩ := S3.own i o0 (ownD_eq eo)
        rw [z1] at y1
        cases y1
        have r1' := r1.sub x3.im
        cases eg : gSet o0 k0 d with
        | stuck => rw [eg] at k4; exact k4.elim
        | exc c => rw [eg] at k4; exact k4.elim
        | ok o' =>
          rw [eg] at k4
          unfold gSet at eg
          cases o0 with
          | list ds =>
            obtain ⟨xs, w3, w4⟩ := y4
            cases r3 with
            | int n =>
              dsimp only at eg
              split at eg
              · rename_i j hj
                cases eg
                refine .inl ⟨a, xs, n, j, rfl, rfl, w3, by rw [w4.length]; exact hj, ?_⟩
                exact k4 _ _ _ (S3.mut (ownD_eq eo) z1 y2 y3 ⟨_, upd_same, RpAll.set r1' j w4⟩) (x03.mut y2 y3)
              · cases eg
            | _ => cases eg
          | dict kvs =>
            obtain ⟨ob, xs, w3, w4⟩ := y4
            dsimp only at eg
            split at eg
            · rename_i ck hck
              have ee := ckOf_eq hck
              subst ee
              split at eg
              · rename_i hz
                have hz := Nat.le_of_ble_eq_true hz
                cases eg
                cases r3 with
                | @tup b zs fs eb rb =>
                  refine .inr ⟨a, ob, xs, kvs, b, ck, rfl, rfl, w3, w4.sub x3.le, .tup (x3.le _ _ eb) (rb.sub x3.le), by rw [w4.length]; exact hz, fun ob' u ru => ?_⟩
                  exact k4 _ _ _ (S3.mut (ownD_eq eo) z1 y2 y3 ⟨_, _, upd_same, RpC.stored (.tup eb rb) ru r1' w4⟩) (x03.mut y2 y3)
              · cases eg
            · cases eg
          | none => cases eg
          | bool _ => cases eg
          | int _ => cases eg
          | str _ => cases eg
          | tuple _ => cases eg
end
end PD
/-! text P18 -/
set_option maxHeartbeats 5000000
namespace PD
open PySem.Spec PySem PyProof.Rows L2

section
variable {ca : Nat → Addr} {E : XK} {X : Cx} {pos : Pos} {Hi0 He Hi H : Hp}
/-! ### {cutting: v} -/
def tDispC (tk tv : TE) : TE := fun σ H Q => ∀ p, H p = none → tk σ (upd H p (.dK [])) fun x H1 => tv σ H1 fun y H2 => H2 p = some (.dK []) ∧ ∃ q k, x = .ref q ∧ Rp H2 (.ref q) (ckD k) ∧ ∀ o u, RelV y u → Q (.ref p) (upd H2 p (dO p o [(k, q, u)]))
theorem pe_dispC {k v : Expr} {tk tv : TE} (hu : X.A.units + 64 < cLine) (hk : PE X k tk) (hv : PE X v tv) : PE X (.Dict [some k] [v] pos) (tDispC tk tv) := by
  refine ⟨fun pins s σ H Q I q => ?_⟩
  have hn := I.hok.fresh (Nat.le_refl s.heap.objs.size)
  have I1 := I.laid (a := s.heap.objs.size) (o := .dK []) (h' := s.heap.push { cls := .type "dict", data := .dict #[] }) (t' := s.toks) (fun _ _ q => Heap.get?_push_of_some _ q) (Nat.le_refl _) (dk_empty s.heap I.big)
  have hroom : (ckKind X.prog X.w).room X.A := by
    show X.A.units + 4 < cLine
    omega
  rw [arm_eval_Dict]
  show wpAny _ _ (standAt pos >>= fun _ => dictDisplay _) _ _ _
  rw [PySem.zip_pairTrees [some k] [v] X.env pos rfl rfl, dictDisplay_pairs (pairTrees [some k] [v] X.env pos) (by intro z; cases z) (by show 1 < 17; decide)]
  refine wpAny_bind (wpAny_standAt (wpAny_bind (wpAny_subDictH (knd := ckKind X.prog X.w) (Q := fun d s' => wpAny (model X.prog X.w) X.A (pure (Value.ref d)) _ _ s') hroom (by show 1 ≤ 15; decide) ?_)))
  refine pairTrees_cons_walk (thn (hk.run pins _ σ _ _ I1 (q _ hn)) fun u s1 ⟨x, H1, I2, rx, q1⟩ => thn (hv.run pins s1 σ H1 _ I2 q1) fun w2 s2 ⟨y, H2, I3, ry, q2⟩ => pairTrees_nil_walk ?_)
  obtain ⟨e, qa, ck, rfl, hkk, q3⟩ := q2
  cases rx
  obtain ⟨z, hd, vs0, r0, dd⟩ := dk_of I3.hok e
  cases r0
  obtain ⟨od, es, ep, g1, g2, g3, g0, g4, _⟩ := id dd
  have g5 : es.toList = [] := by
    have := g4.length
    exact List.eq_nil_of_length_eq_zero this
  have hm : s2.heap.DictOfH (ckKind X.prog X.w) s.heap.objs.size [] := ⟨od, es, ep, g1, g2, g3, by rw [g5]; rfl, (fun x hx => by cases hx), List.nodup_nil⟩
  refine ⟨[(ck, qa, w2)], ⟨rfl, rfl, ck_reads I3 hkk, trivial⟩, hm, fun h' tk' hm' hs => wpAny_pure ?_⟩
  have hm2 : h'.DictOfH (ckKind X.prog X.w) s.heap.objs.size [(ck, qa, w2)] := hm'
  obtain ⟨ob', e', _⟩ := dO_new (P := X.prog) (w := X.w) (H' := H) hd (by rw [sizeLine_eq]; simp) hm2
  obtain ⟨ob2, e2, new⟩ := dO_new (P := X.prog) (w := X.w) (H' := upd H2 s.heap.objs.size (dO s.heap.objs.size ob' [(ck, qa, w2)])) hd (by rw [sizeLine_eq]; simp) hm2
  rw [e'] at e2
  cases e2
  exact ⟨.ref s.heap.objs.size, _, d_write I3 (by rw [e]; trivial) hs ⟨_, e'⟩ new, rfl, q3 ob' w2 ry⟩
def eDisp (fk fv : Ev → R PyData) : Ev → R PyData := fun env => (fk env).bind fun k => (fv env).bind fun d => match ckOf k with
  | some _ => .ok (.dict [(k, d)])
  | none => .stuck
theorem okF_disp {k v : Expr} {fk fv : Ev → R PyData} (hu : X.A.units + 64 < cLine) (hk : OkE ca E X k fk) (hv : OkE ca E X v fv) : OkC ca E true X (.Dict [some k] [v] pos) (eDisp fk fv) := by
  obtain ⟨tk, pk, qk⟩ := hk
  obtain ⟨tv, pv, qv⟩ := hv
  refine ⟨_, pe_dispC hu pk pv, fun He env σ Hi H Q S s h p hp => ?_⟩
  have x0 : Ex Hi H Hi (upd H p (.dK [])) := .skip s hp
  refine qk He env σ Hi _ _ (S.ex x0) x0.le ?_
  unfold eDisp at h
  cases ek : fk env with
  | stuck => rw [ek] at h; exact h.elim
  | exc c => rw [ek] at h; exact fun Hi' H' dx x => h Hi' H' dx (x0.trans x)
  | ok kd =>
    rw [ek] at h
    intro x H1i H1 x1 r1
    refine qv He env σ _ _ _ ((S.ex x0).ex x1) x1.le ?_
    cases ev : fv env with
    | stuck => rw [ev] at h; exact h.elim
    | exc c => rw [ev] at h; exact fun Hi' H' dx x => h Hi' H' dx ((x0.trans x1).trans x)
    | ok d =>
      rw [ev] at h
      intro y H2i H2 x2 r2
      have h2 : PC ca E true Hi H (match ckOf kd with
        | some _ => .ok (.dict [(kd, d)])
        | none => .stuck) Q := h
      have hp2 : H2 p = some (.dK []) := x2.al _ _ (x1.al _ _ upd_same)
      refine ⟨hp2, ?_⟩
      split at h2
      · rename_i ck hck
        have ee := ckOf_eq hck
        subst ee
        have hpi : H2i p = none := by
          cases z : H2i p with
          | none => rfl
          | some o =>
            rcases x2.nw p o z with w | w
            · rcases x1.nw p o w with w' | w'
              · rw [s.nn hp] at w'; cases w'
              · rw [upd_same] at w'; cases w'
            · rw [x1.al _ _ upd_same] at w; cases w
        cases r1 with
        | @tup b zs fs eb rb =>
          have rk : Rp H2i (.ref b) (ckD ck) := (Rp.tup eb rb).sub x2.im
          refine ⟨b, ck, rfl, rk.sub x2.le, fun o u ru => h2 _ H2i _ ?_ ⟨p, rfl, hp, hpi, o, _, upd_same, .cons rk ru r2 .nil⟩⟩
          have x3 := (x0.trans x1).trans x2
          exact ⟨x3.im, fun a q e => by rw [upd_ne (ne_of_none e hp)]; exact x3.al a q e, fun a q e => by rw [upd_ne (ne_of_none e hpi)]; exact x3.le a q e, x3.nw⟩
      · exact h2.elim
end
end PD
/-! text P19 -/
set_option maxHeartbeats 5000000
namespace PD
open PySem.Spec PySem PyProof.Rows L2

/-! ### t[::-1] -/
theorem rev_places (n : Nat) : Builtin.Slice.sliceAdjust none none (-1) (n : Int) = ((n : Int) - 1, -1) ∧ Builtin.Slice.slicePlaces ((n : Int) - 1) (-1) (-1) = n := by
  constructor
  · unfold Builtin.Slice.sliceAdjust
    simp
  · unfold Builtin.Slice.slicePlaces
    rw [if_neg (show ¬ ((-1 : Int) > 0) by decide)]
    split
    · rw [show (- -1 : Int) = 1 by decide, Int.ediv_one]
      omega
    · omega
theorem fm_congr {α β : Type} {f g : α → Option β} : ∀ {l : List α}, (∀ x ∈ l, f x = g x) → l.filterMap f = l.filterMap g
  | [], _ => rfl
  | x :: l, h => by
    rw [List.filterMap_cons, List.filterMap_cons, h x List.mem_cons_self, fm_congr fun y hy => h y (List.mem_cons_of_mem _ hy)]
theorem rev_pick (xs : Array Value) : ((List.range xs.size).filterMap fun (k : Nat) => xs[((xs.size : Int) - 1 + (k : Int) * (-1)).toNat]?).toArray = xs.toList.reverse.toArray := by
  have e : (List.range xs.size).filterMap (fun (k : Nat) => xs[((xs.size : Int) - 1 + (k : Int) * (-1)).toNat]?) = ((List.range xs.size).map fun k => xs.size - 1 - k).filterMap (xs[·]?) := by
    rw [List.filterMap_map]
    refine fm_congr fun k hk => ?_
    have := List.mem_range.mp hk
    have e : ((xs.size : Int) - 1 + (k : Int) * (-1)).toNat = xs.size - 1 - k := by omega
    show xs[((xs.size : Int) - 1 + (k : Int) * (-1)).toNat]? = xs[xs.size - 1 - k]?
    rw [e]
  rw [e, PySem.W.krv_range, List.filterMap_reverse, PySem.W.krv_all]
/-- the slice [::-1] over n items: its start, its step, how many -/
theorem slice_rev {prog : Program} {w : World} {A : Around} {Ex : Value → Shared → Prop} {z : Shared} {sl : Addr} {o : Obj} {vs : Value} {n : Nat} {Q : Int × Int × Nat → Shared → Prop} (g : z.heap.get? sl = some o) (d : o.data = .fields #[.none, .none, vs]) (ps : IsPart vs (some (-1))) (fin : Q ((n : Int) - 1, -1, n) z) :
    wpAny (model prog w) A (Builtin.Slice.sliceApplied (.ref sl) (pure (n : Int))) Q Ex z := by
  have rp := rev_places n
  unfold Builtin.Slice.sliceApplied
  refine wpAny_bind (show wpAny _ _ (Builtin.Slice.sliceFields (.ref sl)) _ _ _ from ?_)
  unfold Builtin.Slice.sliceFields
  refine wpAny_bind (wpAny_field g d (x := .none) rfl (wpAny_bind (wpAny_field g d (x := .none) rfl (wpAny_bind (wpAny_field g d (x := vs) rfl (wpAny_pure (wpAny_bind (HT.slicePart_ ps (show wpAny _ _ (if ((-1 : Int) == 0) = true then _ else _) _ _ _ from ?_)))))))))
  rw [if_neg (show ¬ ((-1 : Int) == 0) = true by decide)]
  refine wpAny_bind (slicePart_none (wpAny_bind (slicePart_none (wpAny_bind (wpAny_pure (show wpAny _ _ (match Builtin.Slice.sliceAdjust none none (-1) (n : Int) with | (lo, hi) => pure (lo, (-1 : Int), Builtin.Slice.slicePlaces lo hi (-1))) _ _ _ from ?_))))))
  rw [rp.1]
  refine (show wpAny _ _ (pure ((n : Int) - 1, (-1 : Int), Builtin.Slice.slicePlaces ((n : Int) - 1) (-1) (-1))) _ _ _ from wpAny_pure ?_)
  rw [rp.2]
  exact fin
theorem item_rev {prog : Program} {w : World} {A : Around} {Ex : Value → Shared → Prop} {z : Shared} {t sl : Addr} {items : Array Value} {vl vu vs : Value} {Q : Value → Shared → Prop} (tup : IsTup z.heap t items) (sli : z.heap.IsSliceOf sl vl vu vs) (pl : IsPart vl none) (pu : IsPart vu none) (ps : IsPart vs (some (-1))) (small : items.size ≤ sizeLine)
    (fin : Q (.ref z.heap.objs.size) { z with heap := z.heap.push { cls := .type "tuple", data := .seq items.toList.reverse.toArray } }) : wpAny (model prog w) A (getItem (.ref t) (.ref sl)) Q Ex z := by
  have fits : sizeOk (.seq items.toList.reverse.toArray) := by
    simpa [sizeOk] using small
  obtain ⟨o, g, c, d⟩ := id sli
  cases pl
  cases pu
  have one : ¬ (((items.size : Int) - 1 == 0 && (-1 : Int) == 1 && items.size == items.size) = true) := fun q => by
    simp at q
  unfold getItem
  try with_reducible apply wpAny_holding
  first
    | refine wpAny_bind (wpAny_pure (wpAny_bind (wpAny_sequenceKey tup.typeIs (by decide) ?_)))
    | refine wpAny_bind (wpAny_sequenceKey tup.typeIs (by decide) ?_)
  refine wpAny_bind (wpAny_callSpecial?_slot (name := "__getitem__") tup.typeIs PyProof.Rows.slot_tuple_getitem (wpAny_call_entry PyProof.Rows.slot_tuple_getitem tup.typeIs entry_tuple_getitem (show wpAny _ _ (Builtin.Tuple.tupleItemsOf (.ref t) >>= fun _ => _) _ _ _ from
    wpAny_bind (tupleItemsOf_ tup (wpAny_bind (wpAny_typeOf (T := "slice") ⟨o, g, c⟩ ?_)))) (args_tuple_getitem _ _)))
  rw [if_pos (by decide)]
  refine wpAny_bind (slice_rev g d ps (show wpAny _ _ (if ((items.size : Int) - 1 == 0 && (-1 : Int) == 1 && items.size == items.size) = true then _ else _) _ _ _ from ?_))
  rw [rev_pick, if_neg one]
  have done := wpAny_pure (M := model prog w) (A := A) (E := Ex) fin
  first
    | exact wpAny_bind (m := Builtin.Tuple.tupleExact _) (wpAny_newObj_type (wpAny_pure ⟨_, rfl, done⟩) fits)
    | exact wpAny_bind (m := Builtin.Tuple.tupleExact _) (wpAny_newObj_type (wpAny_bind (wpAny_pure (wpAny_pure ⟨_, rfl, done⟩))) fits)
    | exact wpAny_bind (wpAny_bind (m := Builtin.Tuple.tupleExact _) (wpAny_newObj_type (wpAny_pure (wpAny_pure ⟨_, rfl, done⟩)) fits))
    | exact wpAny_bind (wpAny_bind (m := Builtin.Tuple.tupleExact _) (wpAny_newObj_type (wpAny_pure ⟨_, rfl, done⟩) fits))
section
variable {ca : Nat → Addr} {E : XK} {X : Cx} {pos : Pos} {Hi0 He Hi H : Hp}
def tRevT (K : PySem.W.Frag) (te : TE) : TE := fun σ H Q => te σ H fun x H1 => ∃ a xs, x = .ref a ∧ SqT K H1 a xs ∧ ∀ p, H1 p = none → Q (.ref p) (upd H1 p (.tup xs.reverse))
theorem pe_revT {e : Expr} {te : TE} {k : Nat} {p1 p2 p3 pos : Pos} (he : PE X e te) : PE X (.Subscript e (.Slice none none (some (.UnaryOp .USub (.Constant (.int 1) k p1) p2)) p3) pos) (tRevT X.K te) := ⟨fun pins z σ G Q I ask => by
  have step : L2.PO X (some (.UnaryOp .USub (.Constant (.int 1) k p1) p2)) (tPart (tUn (rU fun i => .int (-i)) (tC (.int 1)))) := po_some (pe_un un_neg pe_int)
  refine Subscript_ (thn (he.run pins z σ G _ I ask) fun v z1 ⟨x, G1, I1, rx, a, xs, ex, sq, want⟩ => wpAny_Slice (thn (po_none.run pins z1 σ G1 (fun o G' => o = none ∧ G' = G1) I1 ⟨rfl, rfl⟩) fun vl z2 ⟨l, G2, I2, pl, el, e2⟩ =>
    thn (po_none.run pins z2 σ G2 (fun o G' => o = none ∧ G' = G2) I2 ⟨rfl, rfl⟩) fun vu z3 ⟨u, G3, I3, pu, eu, e3⟩ => thn (step.run pins z3 σ G3 (fun o G' => o = some (-1) ∧ G' = G3) I3 ⟨1, rfl, -1, rfl, rfl, rfl⟩) fun vs z4 ⟨o, G4, I4, ps, eo, e4⟩ => ?_))
  subst ex el eu eo e2 e3 e4
  cases rx
  have I5 := I4.kept (h' := z4.heap.push { cls := .type "slice", data := .fields #[vl, vu, vs] }) (t' := z4.toks) fun b ob g => Heap.get?_push_of_some _ g
  obtain ⟨els, vals, tup, big⟩ := I5.tuple sq
  have len := vals.length
  refine (show wpAny (model X.prog X.w) X.A (subscriptTail e _ (.ref a) (.ref z4.heap.objs.size)) (EP X pins σ Q) X.xe { z4 with heap := z4.heap.push { cls := .type "slice", data := .fields #[vl, vu, vs] } } from
    tail_any (ops := [.ref a, .ref z4.heap.objs.size]) tup.typeIs PyProof.Rows.slot_tuple_getitem.lookup (item_rev tup (Heap.IsSliceOf.new _ vl vu vs) pl pu ps (by rw [List.size_toArray]; omega) ?_) (by with_unfolding_all rfl))
  exact ⟨.ref _, _, I5.laid (t' := z4.toks) (o := .tup xs.reverse) (fun b ob g => Heap.get?_push_of_some _ g) (Nat.le_refl _) ⟨by rw [List.length_reverse]; exact big, _, vals.reverse, IsTup.new _ _⟩, rfl, want _ (I5.hok.fresh (Nat.le_refl _))⟩⟩
def gRevT (x : PyData) : R PyData := match x with
  | .tuple ds => .ok (.tuple ds.reverse)
  | _ => .stuck
/-- one operand -/
theorem e1_ok {fa : Ev → R PyData} {g : PyData → R PyData} {ta : TE} {k : V → Hp → VK → Prop} (qa : ∀ (He : Hp) (env : Ev) (σ : St) (Hi H : Hp) (Q : VK), Slots He env σ Hi H → Sub Hi H → PV ca E Hi H (fa env) Q → ta σ H Q)
    (hk : ∀ (d : PyData) (v : V) (Hi H : Hp) (Q : VK), Rp Hi v d → Sub Hi H → PV ca E Hi H (g d) Q → k v H Q) :
    ∀ (He : Hp) (env : Ev) (σ : St) (Hi H : Hp) (Q : VK), Slots He env σ Hi H → Sub Hi H → PV ca E Hi H (e1 g fa env) Q → ta σ H fun v H1 => k v H1 Q := fun He env σ Hi H Q S s h => by
  refine qa He env σ Hi H _ S s ?_
  have h1 := PV.bind h
  cases ea : fa env with
  | stuck => rw [ea] at h1; exact h1.elim
  | exc c => rw [ea] at h1; exact h1
  | ok x =>
    rw [ea] at h1
    intro v Hi1 H1 x1 r1
    obtain ⟨d, Hi', e, x1, r1, h2⟩ := h1 v Hi1 H1 x1 r1
    cases e
    exact hk _ _ _ _ Q r1 x1.le h2
theorem okE_revT {a : Expr} {fa : Ev → R PyData} {k : Nat} {p1 p2 p3 : Pos} (ha : OkE ca E X a fa) : OkE ca E X (.Subscript a (.Slice none none (some (.UnaryOp .USub (.Constant (.int 1) k p1) p2)) p3) pos) (e1 gRevT fa) := by
  obtain ⟨ta, pa, qa⟩ := ha
  refine ⟨_, pe_revT pa, e1_ok (k := fun x H1 Q => ∃ a xs, x = .ref a ∧ SqT X.K H1 a xs ∧ ∀ p, H1 p = none → Q (.ref p) (upd H1 p (.tup xs.reverse))) qa fun d v Hi H Q r s h => ?_⟩
  cases r with
  | @tup b ys es eb rb => exact ⟨b, ys, rfl, .inl (.inl (s _ _ eb)), fun p hp => h _ _ _ (.new s hp) (.tup upd_same (rb.reverse.sub (Sub.up (s.nn hp))))⟩
  | _ => exact PV.no h

/-! ### tuple(range(n)) -/
def rgD (n : Nat) : List PyData := (List.range n).map fun i => PyData.int (i : Nat)
def gTupRg (x : PyData) : R PyData := match x with
  | .int i => match i with
    | .ofNat n => match Nat.ble n 4000 with
      | true => .ok (.tuple (rgD n))
      | false => .stuck
    | _ => .stuck
  | _ => .stuck
theorem rg_at {H : Hp} (n : Nat) : RpAll H (rgV 0 (n : Int)) (rgD n) := by
  have e : rgV 0 (n : Int) = (List.range n).map fun i => V.int ((i : Nat) : Int) := by
    unfold rgV
    have : ((n : Int) - 0).toNat = n := by omega
    rw [this]
    exact List.map_congr_left fun i _ => (by rw [Int.zero_add])
  rw [e]
  unfold rgD
  induction List.range n with
  | nil => exact .nil
  | cons i l ih => exact .cons (.int _) ih
theorem okE_tupRg {a : Expr} {fa : Ev → R PyData} {p p2 pos2 : Pos} (hc : X.calm = true) (hg : Gl X "tuple") (hm : X.mg "tuple" = none) (hg2 : Gl X "range") (hm2 : X.mg "range" = none) (ha : OkE ca E X a fa)
    (na : starEach [.Call (.Name "range" p2) [a] [] pos2] X.env = (false, eval (.Call (.Name "range" p2) [a] [] pos2) X.env) :: starEach [] X.env := by rfl) (na2 : starEach [a] X.env = (false, eval a X.env) :: starEach [] X.env := by rfl) :
    OkE ca E X (.Call (.Name "tuple" p) [.Call (.Name "range" p2) [a] [] pos2] [] pos) (e1 gTupRg fa) := by
  obtain ⟨ta, pa, qa⟩ := ha
  refine ⟨_, pe_tupRg hc hg hm (prg_1 hg2 hm2 pa na2) na, e1_ok (k := fun x H1 Q => ∃ n, x = .int n ∧ RgOk 0 n ∧ ∀ q, H1 q = none → Q (.ref q) (upd H1 q (.tup (rgV 0 n)))) qa fun d v Hi H Q r s h => ?_⟩
  cases r with
  | int i =>
    unfold gTupRg at h
    dsimp only at h
    split at h
    · rename_i n
      split at h
      · rename_i hz
        have hz := Nat.le_of_ble_eq_true hz
        refine ⟨_, rfl, .of_le (Int.le_refl _) (by show (n : Int) ≤ _; omega) (by decide) (by show (0 : Int) ≤ (n : Int); omega), fun q hq => h _ _ _ (.new s hq) (.tup upd_same (rg_at n))⟩
      · exact PV.no h
    · exact PV.no h
  | _ => exact PV.no h

/-! ### row.count(n) -/
def cntI (n : Int) : List Int → Nat
  | [] => 0
  | i :: r => match decide (i = n) with
    | true => cntI n r + 1
    | false => cntI n r
theorem cnt_ok (n : Int) : ∀ ns : List Int, cntI n ns = ns.count n
  | [] => rfl
  | i :: r => by
    by_cases h : i = n
    · subst h
      simp [cntI, cnt_ok i r]
    · simp [cntI, cnt_ok n r, h, List.count_cons]
def gCnt (x y : PyData) : R PyData := match x with
  | .list ds => match y with
    | .int i => match intsOf ds with
      | some ns => .ok (.int (cntI i ns : Nat))
      | none => .stuck
    | _ => .stuck
  | _ => .stuck
def eCnt (fa fb : Ev → R PyData) : Ev → R PyData := fun env => (fa env).bind fun x => match x with
  | .list ds => (fb env).bind fun y => gCnt (.list ds) y
  | _ => .stuck
theorem okE_cnt {a b : Expr} {fa fb : Ev → R PyData} {apos cpos : Pos} (ha : OkE ca E X a fa) (hb : OkE ca E X b fb)
    (hbase : attributeBase a "count" X.env (eval a X.env) = eval a X.env := by rfl)
    (hfew : ((backTo cpos (starEach [b] X.env)).all (fun x => !x.1) && (backToKw cpos (keywordEach [] X.env)).all (fun x => x.1.isSome)
      && decide (([b] : List Expr).length + ([] : List Keyword).length + (if ([] : List Keyword).isEmpty then 0 else 1) < 30)) = true := by rfl)
    (hline : (apos.endLine == cpos.line) = true := by rfl) (hs : starEach [b] X.env = (false, eval b X.env) :: starEach [] X.env := by rfl) (hplain : (backTo cpos (starEach ([] : List Expr) X.env)).any (·.1) = false := by rfl) :
    OkE ca E X (.Call (.Attribute a "count" apos) [b] [] cpos) (eCnt fa fb) := by
  obtain ⟨ta, pa, qa⟩ := ha
  obtain ⟨tb, pb, qb⟩ := hb
  refine ⟨_, pe_bm PySem.F.plainAttrs_list PySem.F.slot_list_count PySem.F.type_list_count mt_lcount pa (pa_cons pb pa_nil hs) hbase hfew hline hs hplain, fun He env σ Hi H Q S s h => qa He env σ Hi H _ S s ?_⟩
  have h1 := PV.bind h
  cases ea : fa env with
  | stuck => rw [ea] at h1; exact h1.elim
  | exc c => rw [ea] at h1; exact h1
  | ok x =>
    rw [ea] at h1
    intro v Hi1 H1 x1 r1
    obtain ⟨d, Hi', e, x1, r1, h2⟩ := h1 v Hi1 H1 x1 r1
    cases e
    cases r1 with
    | @lst a xs ds e r =>
      refine ⟨.inl ⟨rfl, xs, .of (x1.le _ _ e)⟩, qb He env σ Hi' H1 _ (S.ex x1) x1.le ?_⟩
      have h3 := PV.bind h2
      cases eb : fb env with
      | stuck => rw [eb] at h3; exact h3.elim
      | exc c => rw [eb] at h3; exact h3
      | ok y =>
        rw [eb] at h3
        intro u Hi2 H2 x2 r2
        obtain ⟨d', Hi'', e0, x2, r2, h4⟩ := h3 u Hi2 H2 x2 r2
        cases e0
        cases r2 with
        | int i =>
          dsimp only [gCnt] at h4
          split at h4
          · rename_i ns hns
            rw [intsOf_eq hns] at r
            have e3 := vals_ints r
            subst e3
            rw [cnt_ok] at h4
            exact ⟨a, ns, i, rfl, rfl, .of (x2.al _ _ (x1.le _ _ e)), h4 _ _ _ (.refl x2.le) (.int _)⟩
          · exact PV.no h4
        | _ => exact PV.no h4
    | _ => exact PV.no h2
end
end PD
/-! text P20 -/
set_option maxHeartbeats 5000000
namespace PD
open PySem.Spec PySem PyProof.Rows L2

section
variable {ca : Nat → Addr} {E : XK} {X : Cx} {pos : Pos} {Hi0 He Hi H : Hp}
theorem PV.step {r : R PyData} {f : PyData → R PyData} {Q Q' : VK} (h : PV ca E Hi H (r.bind f) Q) (k : ∀ d v Hi' H', r = .ok d → Ex Hi H Hi' H' → Rp Hi' v d → PV ca E Hi' H' (f d) Q → Q' v H') : PV ca E Hi H r Q' := by
  have h1 := PV.bind h
  cases r with
  | stuck => exact h1
  | exc c => exact h1
  | ok d0 =>
    intro v Hi1 H1 x1 r1
    obtain ⟨d, Hi', e, x1, r1, h2⟩ := h1 v Hi1 H1 x1 r1
    exact k d v Hi' H1 e x1 r1 h2

/-! ### a < b < c < d -/
def tChain3 (r : R2) (ta tb tc td : TE) : TE := fun σ H Q => ta σ H fun x H1 => tb σ H1 fun y H2 => r x y H2 fun z H3 => ∃ k, z = .bl k ∧
  (if k = true then tc σ H3 fun w' H4 => r y w' H4 fun z' H5 => ∃ k', z' = .bl k' ∧ (if k' = true then td σ H5 fun u' H6 => r w' u' H6 Q else Q (.bl false) H5) else Q (.bl false) H3)
theorem pe_chain3 {a b c d : Expr} {ta tb tc td : TE} {op : CmpOp} {r : R2} (ho : OpR X (compareOp op) r) (ha : PE X a ta) (hb : PE X b tb) (hc : PE X c tc) (hd : PE X d td)
    (hm : lastMarks [op, op, op] [b, c, d] = false := by with_unfolding_all rfl) : PE X (.Compare a [op, op, op] [b, c, d] pos) (tChain3 r ta tb tc td) := by
  refine ⟨fun pins z σ G Q I ask => Compare_chain (thn (ha.run pins z σ G _ I ask) fun va z1 ⟨x, G1, I1, rx, ask1⟩ => chain_link (thn (hb.run pins z1 σ G1 _ I1 ask1) fun vb z2 ⟨y, G2, I2, ry, ask2⟩ => thn (ho pins z2 σ G2 x y va vb _ I2 rx ry ask2) fun vk z3 ⟨k, G3, I3, rk, b, eb, ask3⟩ => ?_)) hm⟩
  subst eb
  cases rk
  cases b with
  | false => exact wpAny_truthy_bool (ite_ff ⟨.bl false, G3, I3, rfl, ask3⟩)
  | true =>
    refine wpAny_truthy_bool (ite_tt (chain_link (thn (hc.run pins z3 σ G3 _ I3 ask3) fun vc z4 ⟨u, G4, I4, ru, ask4⟩ => thn (ho pins z4 σ G4 y u vb vc _ I4 ry ru ask4) fun vk2 z5 ⟨k2, G5, I5, rk2, b2, eb2, ask5⟩ => ?_)))
    subst eb2
    cases rk2
    cases b2 with
    | false => exact wpAny_truthy_bool (ite_ff ⟨.bl false, G5, I5, rfl, ask5⟩)
    | true => exact wpAny_truthy_bool (ite_tt (chain_last (thn (hd.run pins z5 σ G5 _ I5 ask5) fun vd z6 ⟨t, G6, I6, rt, ask6⟩ => ho pins z6 σ G6 u t vc vd Q I6 ru rt ask6)))
def bnd (z : R PyData) (f : R PyData) : R PyData := z.bind fun b => match b with
  | .bool true => f
  | .bool false => .ok (.bool false)
  | _ => .stuck
theorem PV.bnd {z f : R PyData} {Q : VK} (h : PV ca E Hi H (bnd z f) Q) : PV ca E Hi H z fun v H' => ∃ k, v = .bl k ∧ ∃ Hi', Ex Hi H Hi' H' ∧ (if k = true then PV ca E Hi' H' f Q else Q (.bl false) H') := by
  refine PV.step h fun d v Hi' H' e x r h2 => ?_
  cases d with
  | bool k =>
    cases r
    refine ⟨k, rfl, Hi', x, ?_⟩
    cases k with
    | true => rw [if_pos rfl]; exact h2
    | false =>
      rw [if_neg Bool.false_ne_true]
      exact h2 _ _ _ (.refl x.le) (.bl false)
  | none => exact PV.no h2
  | int _ => exact PV.no h2
  | str _ => exact PV.no h2
  | list _ => exact PV.no h2
  | tuple _ => exact PV.no h2
  | dict _ => exact PV.no h2
def eChain3 (g : PyData → PyData → R PyData) (fa fb fc fd : Ev → R PyData) : Ev → R PyData := fun env => (fa env).bind fun x => (fb env).bind fun y => bnd (g x y) ((fc env).bind fun w => bnd (g y w) ((fd env).bind fun u => g w u))
theorem okE_chain3 {a b c d : Expr} {fa fb fc fd : Ev → R PyData} {op : CmpOp} {r : R2} {g : PyData → PyData → R PyData} (ho : OpR X (compareOp op) r) (hg : Gv ca E r g) (ha : OkE ca E X a fa) (hb : OkE ca E X b fb) (hc : OkE ca E X c fc) (hd : OkE ca E X d fd)
    (hm : lastMarks [op, op, op] [b, c, d] = false := by with_unfolding_all rfl) : OkE ca E X (.Compare a [op, op, op] [b, c, d] pos) (eChain3 g fa fb fc fd) := by
  obtain ⟨ta, pa, qa⟩ := ha
  obtain ⟨tb, pb, qb⟩ := hb
  obtain ⟨tc, pc, qc⟩ := hc
  obtain ⟨td, pd, qd⟩ := hd
  refine ⟨_, pe_chain3 ho pa pb pc pd hm, fun He env σ Hi H Q S s h => ?_⟩
  refine qa He env σ Hi H _ S s (PV.step h fun x v Hi1 H1 _ x1 r1 h1 => ?_)
  refine qb He env σ Hi1 H1 _ (S.ex x1) x1.le (PV.step h1 fun y u Hi2 H2 _ x2 r2 h2 => ?_)
  refine hg x y v u Hi2 H2 _ (r1.sub x2.im) r2 x2.le ?_
  have h3 := PV.bnd h2
  cases eg : g x y with
  | stuck => rw [eg] at h3; exact h3
  | exc c => rw [eg] at h3; exact h3
  | ok b1 =>
    rw [eg] at h3
    intro z Hi3 H3 x3 r3
    obtain ⟨k, e, Hi4, x4, h4⟩ := h3 z Hi3 H3 x3 r3
    refine ⟨k, e, ?_⟩
    cases k with
    | false =>
      rw [if_neg Bool.false_ne_true] at h4 ⊢
      exact h4
    | true =>
      rw [if_pos rfl] at h4 ⊢
      have S4 := ((S.ex x1).ex x2).ex x4
      refine qc He env σ Hi4 H3 _ S4 x4.le (PV.step h4 fun w' wv Hi5 H5 _ x5 r5 h5 => ?_)
      refine hg y w' u wv Hi5 H5 _ ((r2.sub x4.im).sub x5.im) r5 x5.le ?_
      have h6 := PV.bnd h5
      cases eg2 : g y w' with
      | stuck => rw [eg2] at h6; exact h6
      | exc c => rw [eg2] at h6; exact h6
      | ok b2 =>
        rw [eg2] at h6
        intro z6 Hi6 H6 x6 r6
        obtain ⟨k6, e6, Hi7, x7, h7⟩ := h6 z6 Hi6 H6 x6 r6
        refine ⟨k6, e6, ?_⟩
        cases k6 with
        | false =>
          rw [if_neg Bool.false_ne_true] at h7 ⊢
          exact h7
        | true =>
          rw [if_pos rfl] at h7 ⊢
          refine qd He env σ Hi7 H6 _ ((S4.ex x5).ex x7) x7.le (PV.step h7 fun u' uv Hi8 H8 _ x8 r8 h8 => ?_)
          exact hg w' u' wv uv Hi8 H8 Q ((r5.sub x7.im).sub x8.im) r8 x8.le h8

/-! ### isinstance(x, (T, U)) -/
def gIsi2 (T U : Ty5) (d : PyData) : R PyData := (isT T d).bind fun a => (isT U d).bind fun b => .ok (.bool (a || b))
theorem okE_isi2 {a : Expr} {fa : Ev → R PyData} (T U : Ty5) {y z : Str} {p p2 p3 p4 : Pos} {kk : Nat} (hg : Gl X "isinstance") (hm : X.mg "isinstance" = none) (hgT : Gl X y) (hmT : X.mg y = none) (hvT : bootBuiltins y = some (.type T.nm)) (hgU : Gl X z) (hmU : X.mg z = none) (hvU : bootBuiltins z = some (.type U.nm)) (ha : OkE ca E X a fa)
    (hn : y ≠ "__name__" := by decide) (hdb : (y == ("__debug__" : Str)) = false := by decide) (hn2 : z ≠ "__name__" := by decide) (hdb2 : (z == ("__debug__" : Str)) = false := by decide)
    (hs : starEach [a, .Tuple [.Name y p2, .Name z p3] kk p4] X.env = (false, eval a X.env) :: starEach [.Tuple [.Name y p2, .Name z p3] kk p4] X.env := by rfl)
    (hs1 : starEach [.Tuple [.Name y p2, .Name z p3] kk p4] X.env = (false, eval (.Tuple [.Name y p2, .Name z p3] kk p4) X.env) :: starEach [] X.env := by rfl)
    (hs2 : starEach [.Name y p2, .Name z p3] X.env = (false, eval (.Name y p2) X.env) :: starEach [.Name z p3] X.env := by rfl)
    (hs3 : starEach [.Name z p3] X.env = (false, eval (.Name z p3) X.env) :: starEach [] X.env := by rfl)
    (hpl : (backTo pos (starEach [.Tuple [.Name y p2, .Name z p3] kk p4] X.env)).any (·.1) = false := by rfl) :
    OkE ca E X (.Call (.Name "isinstance" p) [a, .Tuple [.Name y p2, .Name z p3] kk p4] [] pos) (e1 (gIsi2 T U) fa) := by
  obtain ⟨ta, pa, qa⟩ := ha
  refine ⟨_, pe_callB call_isiT hg hm boot_isinstance (pa_cons pa (pa_cons (pe_tup (pa_cons (pe_bltn (v := .ty T.nm) hgT hmT hvT rfl hn hdb) (pa_cons (pe_bltn (v := .ty U.nm) hgU hmU hvU rfl hn2 hdb2) pa_nil hs3) hs2)) pa_nil hs1) hs) (by decide) (by decide) hs hpl, fun He env σ Hi H Q S s h => qa He env σ Hi H _ S s ?_⟩
  refine PV.step h fun d v Hi1 H1 _ x1 r1 h2 => ?_
  unfold gIsi2 at h2
  have bad : ∀ T c, isT T d ≠ .exc c := fun T c e => by cases d <;> cases T <;> cases e
  refine ⟨by show 2 ≤ sizeLine; decide, fun q hq => ?_⟩
  cases et : isT T d with
  | stuck => rw [et] at h2; exact PV.no h2
  | exc c => exact absurd et (bad _ _)
  | ok b =>
    cases eu : isT U d with
    | stuck => rw [et, eu] at h2; exact PV.no h2
    | exc c => exact absurd eu (bad _ _)
    | ok b' =>
      rw [et, eu] at h2
      refine ⟨v, q, [.ty T.nm, .ty U.nm], .type (tyD d), [.type T.nm, .type U.nm], b || b', rfl, upd_same, .cons (.ty _) (.cons (.ty _) .nil), ty_of (x1.le.trans (Sub.up hq)) r1 et, ?_, h2 _ Hi1 _ (.skip x1.le hq) (.bl _)⟩
      refine kitAny_cons (isT_kit et) (fun e => ?_) (fun e => by rw [e]; rfl)
      subst e
      exact kitAny_cons (isT_kit eu) (fun e => by subst e; rfl) (fun e => by rw [e]; rfl)

/-! ### t * n -/
def repD (n : Nat) (ds : List PyData) : List PyData := match n with
  | 0 => []
  | n + 1 => ds ++ repD n ds
def gRepT (x y : PyData) : R PyData := match x with
  | .tuple (d :: ds) => match y with
    | .int i => match i with
      | .ofNat n => if Nat.ble 2 n && (Nat.ble n 1000 && Nat.ble (d :: ds).length 1000) then .ok (.tuple (repD n (d :: ds))) else .stuck
      | _ => .stuck
    | _ => .stuck
  | _ => .stuck
theorem rep_at {H : Hp} {vs : List V} {ds : List PyData} (r : RpAll H vs ds) : ∀ n, RpAll H (List.replicate n vs).flatten (repD n ds)
  | 0 => .nil
  | n + 1 => by
    rw [List.replicate_succ, List.flatten_cons]
    exact r.append (rep_at r n)
theorem gv_repT {K : PySem.W.Frag} : Gv ca E (rRepT K) gRepT := by
  intro x y v u Hi H Q rx ry s h
  cases rx with
  | @tup a xs ds ea ra =>
    cases ds with
    | nil => exact PV.no h
    | cons d ds =>
      cases ry with
      | int i =>
        dsimp only [gRepT] at h
        split at h
        · rename_i n
          split at h
          · rename_i hz
            simp only [Bool.and_eq_true] at hz
            have h1 := Nat.le_of_ble_eq_true hz.1
            have h2 := Nat.le_of_ble_eq_true hz.2.1
            have h3 := Nat.le_of_ble_eq_true hz.2.2
            refine ⟨a, _, xs, rfl, rfl, .inl (.inl (s _ _ ea)), ?_, ?_, ?_, by rw [ra.length]; exact h3, fun p hp => h _ _ _ (.new s hp) (.tup upd_same ((rep_at ra n).sub (Sub.up (s.nn hp))))⟩
            · intro z
              subst z
              have := ra.length
              simp at this
            · show (2 : Int) ≤ (n : Int)
              omega
            · show (n : Int) ≤ 1000
              omega
          · exact PV.no h
        · exact PV.no h
      | _ => exact PV.no h
  | _ => cases ry <;> exact PV.no h

/-! ### list(d.values()) -/
def tListVals (te : TE) : TE := fun σ H Q => te σ H fun x H1 => ∃ a o xs vs, x = .ref a ∧ H1 a = some (dO a o xs) ∧ xs.length ≤ 4000 ∧ Vals vs (xs.map (·.2.2)) ∧ ∀ p, H1 p = none → Q (.ref p) (upd H1 p (.lst vs))
theorem pe_listVals {e : Expr} {te : TE} {p apos cpos : Pos} (hc : X.calm = true) (hg : Gl X "list") (hm : X.mg "list" = none) (he : PE X e te)
    (hbase : attributeBase e "values" X.env (eval e X.env) = eval e X.env := by rfl) (hline : (apos.endLine == cpos.line) = true := by rfl)
    (na : starEach [.Call (.Attribute e "values" apos) [] [] cpos] X.env = (false, eval (.Call (.Attribute e "values" apos) [] [] cpos) X.env) :: starEach [] X.env := by rfl) :
    PE X (.Call (.Name "list" p) [.Call (.Attribute e "values" apos) [] [] cpos] [] pos) (tListVals te) := by
  refine ⟨fun pins s σ H Q I h => ?_⟩
  refine Call_ (ld_blt I hg hm boot_list (PyProof.Rows.callWith_type1 (args_cons (wpAny_Call_method0_late hbase hline (thn (he.run pins s σ H _ I h) fun v s1 ⟨x, H1, I1, r1, a, o, xs, vs, ex, ha, hz, hv, q⟩ => ?_)) na) na))
  subst ex
  cases r1
  obtain ⟨h1, h2, h3, es, ep, h4, h5⟩ := dO_at I1 ha
  have hraw : s1.heap.DictRaw a es ep := ⟨o, h2, h3, h4⟩
  refine ⟨"dict", "dict.values", PySem.F.plainAttrs_dict, PySem.F.slot_dict_values, PySem.F.type_dict_values, hraw.typeIs, fun b e => ?_, Calls.callWith_builtin rfl (PySem.evalArgs_none (call_meetsIn PySem.F.slot_dict_values hraw.typeIs PySem.F.entry_dict_values (PySem.F.args_dict_values_1 _) (meets_dict_values_raw a h1) ⟨⟨es, ep, hraw⟩, args_nil ?_⟩))⟩
  · cases e
    exact ⟨o, h2, h3.2.1⟩
  have I2 : Inv X pins σ H1 { s1 with heap := s1.heap.push { cls := .type "dict_values", data := .fields #[.ref a] } } := I1.kept (t' := s1.toks) fun b ob q => Heap.get?_push_of_some _ q
  have hsz : es.size = xs.length := by rw [← Array.length_toList, h5, List.length_map]
  refine PySem.W.kdl_call (PySem.KdlSrc.rawValues (es := es) (ep := ep)) (I2.ok.hd hc) ⟨⟨_, Heap.get?_push_size _ rfl, rfl, rfl⟩, ⟨o, Heap.get?_push_of_some _ h2, h3, h4⟩⟩ (by rw [hsz, sizeLine_eq]; omega) fun h' tk acc' c' hk hD hacc => ?_
  have ev : acc'.toList = xs.map (·.2.2) := by
    refine List.ext_getElem? fun j => ?_
    rw [Array.getElem?_toList]
    cases e1 : acc'[j]? with
    | none =>
      have : acc'.size ≤ j := by
        rw [Array.getElem?_eq_none_iff] at e1
        exact e1
      rw [hacc.1, hsz] at this
      rw [List.getElem?_eq_none]
      rw [List.length_map]
      exact this
    | some u =>
      obtain ⟨hi, rfl⟩ := hacc.2 j u e1
      have e2 : es.toList[j]? = some es[j] := by rw [Array.getElem?_toList]; exact Array.getElem?_eq_getElem hi
      rw [h5, List.getElem?_map] at e2
      rw [List.getElem?_map]
      cases e3 : xs[j]? with
      | none => rw [e3] at e2; cases e2
      | some w3 =>
        rw [e3] at e2
        have e4 : entC w3 = es[j] := Option.some.inj e2
        rw [← e4]
        rfl
  have hvl := hv.length
  refine ⟨.ref _, _, I2.laid hk (Nat.le_refl _) (show ObjOk X.prog X.w _ _ _ (.lst vs) from ⟨?_, acc'.toList, c', by rw [ev]; exact hv, ?_⟩), rfl, q _ (I2.hok.fresh (Nat.le_refl _))⟩
  · rw [hvl, List.length_map, sizeLine_eq]; omega
  · rw [Array.toArray_toList]; exact hD
def valsD : List (PyData × PyData) → List PyData
  | [] => []
  | (_, d) :: r => d :: valsD r
def gListVals (x : PyData) : R PyData := match x with
  | .dict ((.none, .none) :: _) => .stuck
  | .dict kvs => match Nat.ble kvs.length 4000 with
    | true => .ok (.list (valsD kvs))
    | false => .stuck
  | _ => .stuck
theorem vals_at : ∀ {H : Hp} {xs : List (CK × Addr × Value)} {kvs : List (PyData × PyData)}, RpC H xs kvs → ∃ vs, Vals vs (xs.map (·.2.2)) ∧ RpAll H vs (valsD kvs)
  | _, _, _, .nil => ⟨[], .nil, .nil⟩
  | _, _, _, .cons _ e r t => by
    obtain ⟨vs, h1, h2⟩ := vals_at t
    exact ⟨_, .cons e h1, .cons r h2⟩
theorem okE_listVals {a : Expr} {fa : Ev → R PyData} {p apos cpos : Pos} (hc : X.calm = true) (hg : Gl X "list") (hm : X.mg "list" = none) (ha : OkE ca E X a fa)
    (hbase : attributeBase a "values" X.env (eval a X.env) = eval a X.env := by rfl) (hline : (apos.endLine == cpos.line) = true := by rfl)
    (na : starEach [.Call (.Attribute a "values" apos) [] [] cpos] X.env = (false, eval (.Call (.Attribute a "values" apos) [] [] cpos) X.env) :: starEach [] X.env := by rfl) :
    OkE ca E X (.Call (.Name "list" p) [.Call (.Attribute a "values" apos) [] [] cpos] [] pos) (e1 gListVals fa) := by
  obtain ⟨ta, pa, qa⟩ := ha
  refine ⟨_, pe_listVals hc hg hm pa hbase hline na, fun He env σ Hi H Q S s h => qa He env σ Hi H _ S s ?_⟩
  refine PV.step h fun d v Hi1 H1 _ x1 r1 h2 => ?_
  cases r1 with
  | @dct b o xs kvs ea ra =>
    have h3 : PV ca E Hi1 H1 (match Nat.ble kvs.length 4000 with
      | true => .ok (.list (valsD kvs))
      | false => .stuck) Q := by
      unfold gListVals at h2
      split at h2
      · rename_i e
        cases e
        cases ra
      · rename_i e
        cases e
        exact h2
      · rename_i hh
        exact absurd rfl (hh _)
    split at h3
    · rename_i hz
      have hz := Nat.le_of_ble_eq_true hz
      obtain ⟨vs, k1, k2⟩ := vals_at ra
      exact ⟨b, o, xs, vs, rfl, x1.le _ _ ea, by rw [ra.length]; exact hz, k1, fun q hq => h3 _ _ _ (.new x1.le hq) (.lst upd_same (k2.sub (Sub.up (x1.le.nn hq))))⟩
    · exact PV.no h3
  | @dci b ks kvs ea ra => exact PV.no h2
  | _ => exact PV.no h2
end
end PD
/-! text P21 -/
set_option maxHeartbeats 5000000
namespace PD
open PySem.Spec PySem PyProof.Rows L2

/-! ### dict comprehensions -/
def DAt (H : Hp) (D : Addr) (xs : List (CK × Addr × Value)) : Prop := (H D = some (.dK []) ∧ xs = []) ∨ ∃ o, H D = some (dO D o xs)
theorem d_dictSetC {X : Cx} {pins : List (Addr × Obj)} {σ : St} {H : Hp} {s : Shared} {E : Value → Shared → Prop} {D : Addr} {xs : List (CK × Addr × Value)} {kvs : List (PyData × PyData)} {q : Addr} {k : CK} {r : Value} {Q : Unit → Shared → Prop} (hu : X.A.units + 64 < cLine) (I : Inv X pins σ H s) (hD : DAt H D xs)
    (hr : RpC H xs kvs) (hk : Rp H (.ref q) (ckD k)) (hz : xs.length ≤ 4000) (h : ∀ o s', Inv X pins σ (upd H D (dO D o (storedH xs k q r))) s' → Q () s') : wpAny (model X.prog X.w) X.A (dictSet D (.ref q) r) Q E s := by
  have hroom : (ckKind X.prog X.w).room X.A := by
    show X.A.units + 4 < cLine
    omega
  have hm : s.heap.DictOfH (ckKind X.prog X.w) D xs ∧ (D == sysModules) = false ∧ Mut (H D) := by
    rcases hD with ⟨e, rfl⟩ | ⟨o, e⟩
    · obtain ⟨z, hd, vs0, r0, dd⟩ := dk_of I.hok e
      cases r0
      obtain ⟨od, es, ep, g1, g2, g3, g0, g4, _⟩ := id dd
      have g5 : es.toList = [] := List.eq_nil_of_length_eq_zero g4.length
      exact ⟨⟨od, es, ep, g1, g2, g3, by rw [g5]; rfl, (fun x hx => by cases hx), List.nodup_nil⟩, hd, by rw [e]; trivial⟩
    · obtain ⟨hm, hd, _⟩ := dictAt I e hr
      exact ⟨hm, hd, by rw [e]; trivial⟩
  obtain ⟨hm, hd, mu⟩ := hm
  have hl := storedH_length xs k q r
  refine wpAny_dictSet_heap (hsz := by rw [sizeLine_eq]; omega) hroom (ck_reads I hk) hm fun h' hm' hs => ?_
  obtain ⟨ob', e', _⟩ := dO_new (P := X.prog) (w := X.w) (H' := H) hd (by rw [sizeLine_eq]; omega) hm'
  obtain ⟨ob2, e2, new⟩ := dO_new (P := X.prog) (w := X.w) (H' := upd H D (dO D ob' (storedH xs k q r))) hd (by rw [sizeLine_eq]; omega) hm'
  rw [e'] at e2
  cases e2
  exact h ob' _ (d_write I mu hs ⟨_, e'⟩ new)
section
variable {X : Cx}
def tDcC (wi : TI) (g : TG) (tt : TT) (tk tv : TE) (vs : List Nat) : TE := fun σ H Q => wi σ H fun J H1 => ∀ D, H1 D = none → ∃ W : Nat → Nat → Hp → Prop, (∃ m, W 0 m (upd H1 D (.dK []))) ∧ ∀ i m H, W i m H →
  (J.stop i H ∧ Q (.ref D) H) ∨ (J.go i H ∧ ∃ Nx : Hp → Prop, (∀ H', Nx H' → ∃ m', m' < m ∧ W (i + 1) m' H') ∧ ∀ x H', J.yld i H x H' → g x (L2.wipe σ vs) H' fun σ2 H2 => L2.wipe σ2 vs = L2.wipe σ vs ∧ tt σ2 H2 fun b H3 =>
    if b = true then tk σ2 H3 fun y H4 => tv σ2 H4 fun z H5 => ∃ xs kvs q k, y = .ref q ∧ DAt H5 D xs ∧ RpC H5 xs kvs ∧ Rp H5 (.ref q) (ckD k) ∧ xs.length ≤ 4000 ∧ ∀ o u, RelV z u → Nx (upd H5 D (dO D o (storedH xs k q u))) else Nx H3)
/-! a comprehension's block: its iterator, a turn's end, the way out -/
abbrev blkP (X : Cx) (pp : List (Addr × Obj)) (s : Shared) (H : Hp) (scope : Scope) (ce : Env) (fp : List Addr) : Cx := { X.blk s H scope ce fp with pn := pp }
theorem blk_in {pp : List (Addr × Obj)} {fp : List Addr} {s z : Shared} {H G : Hp} {scope : Scope} {ce : Env} {τ : L2.St} (J : Inv (blkP X pp s H scope ce fp) [] τ G z) (no : ∀ b ∈ fp, G b = none) (hp : ∀ p ∈ pp, ∀ b ∈ fp, p.1 ≠ b) :
    ∀ b ∈ fp, FpOk (blkP X pp s H scope ce fp) [] G b := fun b hb =>
  ⟨no b hb, (J.ok.exf b hb).1, J.ok.exfs b hb, Or.inl hb, (J.ok.exf b hb).2, fun p m => hp p (by simpa using m) b hb⟩
theorem blk_out {pp pins : List (Addr × Obj)} {fp : List Addr} {s z : Shared} {H G : Hp} {scope : Scope} {ce : Env} {σ τ : L2.St} (I : Inv X pins σ H s) (f : ∀ b ∈ fp, FpOk X pins H b) (cL : ce.locals = s.heap.objs.size) (J : Inv (blkP X pp s H scope ce fp) [] τ G z) :
    Inv X pins σ G z ∧ (∃ m, z.heap.Ns s.heap.objs.size m) ∧ FpOk X pins G s.heap.objs.size := by
  refine ⟨I.call' (ch := fp) J.os J.base J.hok J.bare fun b hb => ?_, ?_, I.fpOk (Nat.le_refl _) (by rw [← cL]; exact J.free)⟩
  · obtain ⟨_, a, _, c, d, e⟩ := f b hb
    exact ⟨c, a, d, e⟩
  · obtain ⟨m, q, _⟩ := J.loc
    exact ⟨m, by rw [← cL]; exact q⟩
theorem blk_turn {pp : List (Addr × Obj)} {fp : List Addr} {s z z7 : Shared} {H G : Hp} {scope : Scope} {ce : Env} {σ τ : L2.St} {is : List Nat} {tn : Nat → Heap → Prop} {i : Nat} (obj : ∀ i h, tn i h → ∀ b ∈ fp, ∃ o, h.get? b = some o ∧ ∀ v, o.data ≠ .cell v)
    (keep : ∀ i h h', tn i h → (∀ b ∈ fp, ∀ o, h.get? b = some o → h'.get? b = some o) → tn i h') (t : tn i z7.heap) (ew : L2.wipe τ is = L2.wipe σ is) (J : Inv (blkP X pp s H scope ce fp) ([] ++ pinsAt fp z7.heap) τ G z) :
    Inv (blkP X pp s H scope ce fp) [] (L2.wipe σ is) G z ∧ tn i z.heap ∧ ∀ b ∈ fp, G b = none := by
  have held : ∀ b ∈ fp, ∀ o, z7.heap.get? b = some o → z.heap.get? b = some o ∧ G b = none := fun b hb o e => by
    have y := J.pin (b, o) (List.mem_append.mpr (.inr (List.mem_append.mpr (.inr (mem_pinsAt hb e)))))
    exact ⟨y.1, y.2.1⟩
  refine ⟨(J.unpinned (pins := [])).weak (by rw [← ew, wipe_length]) fun j v e => ?_, keep i _ _ t fun b hb o e => (held b hb o e).1, fun b hb => ?_⟩
  · rw [← ew] at e
    exact (wipe_some e).1
  · obtain ⟨o, e, _⟩ := obj i _ t b hb
    exact (held b hb o e).2
theorem fp_up {pins : List (Addr × Obj)} {fp : List Addr} {H : Hp} {a : Addr} {o : HO} (f : ∀ b ∈ fp, FpOk X pins H b) (lt : ∀ b ∈ fp, b < a) : ∀ b ∈ fp, FpOk X pins (upd H a o) b := fun b hb => by
  refine ⟨?_, (f b hb).2⟩
  rw [upd_ne (Nat.ne_of_lt (lt b hb))]
  exact (f b hb).1
/-- the loop, inside the block -/
theorem dcc_loop {pins : List (Addr × Obj)} {fp : List Addr} {s3 s4 : Shared} {H3 : Hp} {ce : Env} {σ : L2.St} {is : List Nat} {Q : VK} {kx vx tg iter : Expr} {ifs : List Expr} {scope : Scope} {pos : Pos} {g : TG} {tt : TT} {tk tv : TE} {use : Option (Value → Sem Unit)} {Qf : Value → Shared → Prop}
    {it D : Addr} {tn : Nat → Heap → Prop} {J : It} {W : Nat → Nat → Hp → Prop} {m0 : Nat} (hc : X.calm = true) (hu : X.A.units + 64 < cLine) (I3 : Inv X pins σ H3 s3) (f3 : ∀ b ∈ fp, FpOk X pins H3 b) (cL : ce.locals = s3.heap.objs.size)
    (pg : PG (blkP X [] s3 H3 scope ce fp) tg g) (pt : PTs (blkP X [] s3 H3 scope ce fp) ifs tt) (pk : PE (blkP X [] s3 H3 scope ce fp) kx tk) (pv : PE (blkP X [] s3 H3 scope ce fp) vx tv) (T : Turn X.prog X.w X.K tg J fp it tn)
    (turn : ∀ i m H, W i m H → (J.stop i H ∧ Q (.ref D) H) ∨ (J.go i H ∧ ∃ Nx : Hp → Prop, (∀ H', Nx H' → ∃ m', m' < m ∧ W (i + 1) m' H') ∧ ∀ x H', J.yld i H x H' → g x (L2.wipe σ is) H' fun σ2 H2 => L2.wipe σ2 is = L2.wipe σ is ∧ tt σ2 H2 fun b H3 =>
      if b = true then tk σ2 H3 fun y H4 => tv σ2 H4 fun z H5 => ∃ xs kvs q k, y = .ref q ∧ DAt H5 D xs ∧ RpC H5 xs kvs ∧ Rp H5 (.ref q) (ckD k) ∧ xs.length ≤ 4000 ∧ ∀ o u, RelV z u → Nx (upd H5 D (dO D o (storedH xs k q u))) else Nx H3))
    (w0 : W 0 m0 H3) (I4 : Inv (blkP X [] s3 H3 scope ce fp) [] (L2.wipe σ is) H3 s4) (t4 : tn 0 s4.heap)
    (hRR : ∀ D C s' m H', Inv X pins σ H' s' → Q (.ref D) H' → s'.heap.Ns C m → FpOk X pins H' C → compPost (model X.prog X.w) X.A X.xe use Qf (.ref D) C (.ok .next) s') :
    codeAny (model X.prog X.w) X.A (.compLoop (.DictComp kx vx [⟨tg, iter, ifs, 0⟩] scope pos) 0 (.ref it) (.ref D) ce) (compPost (model X.prog X.w) X.A X.xe use Qf (.ref D) s3.heap.objs.size) s4 := by
  refine compLoop_anyD (fun n z => ∃ i G, Inv (blkP X [] s3 H3 scope ce fp) [] (L2.wipe σ is) G z ∧ tn i z.heap ∧ (∀ b ∈ fp, G b = none) ∧ W i n G) (fun n z ⟨i, G, Jz, t, no, w⟩ => ?_) m0 ⟨0, H3, I4, t4, fun b hb => (f3 b hb).1, w0⟩
  rcases turn i n G w with ⟨stop, done⟩ | ⟨go, Nx, less, step⟩
  · refine thnF (T.done (blkP X [] s3 H3 scope ce fp) rfl rfl rfl hc i [] z _ G (fun _ _ => False) Jz (blk_in Jz no (by simp)) t stop) fun r z1 ⟨er, J1⟩ => ?_
    obtain ⟨a, ⟨m, b⟩, c⟩ := blk_out I3 f3 cL J1
    rw [er]
    exact hRR D _ z1 m G a done b c
  · refine thnF (T.item (blkP X [] s3 H3 scope ce fp) rfl rfl rfl hc i [] z _ G (fun _ _ => False) Jz (blk_in Jz no (by simp)) t go) fun r z1 ⟨u, er, y1⟩ => ?_
    rw [er]
    refine thnF y1 fun _ z2 ⟨x, G2, J2, ru, y, t2, n2⟩ => ?_
    have last : ∀ {τ : L2.St} {z' : Shared} {G' : Hp}, L2.wipe τ is = L2.wipe σ is → Inv (blkP X [] s3 H3 scope ce fp) ([] ++ pinsAt fp z2.heap) τ G' z' → Nx G' → ∃ m, m < n ∧ ∃ i G, Inv (blkP X [] s3 H3 scope ce fp) [] (L2.wipe σ is) G z' ∧ tn i z'.heap ∧ (∀ b ∈ fp, G b = none) ∧ W i m G := fun ew J' nx => by
      obtain ⟨m', lt, w'⟩ := less _ nx
      obtain ⟨a, b, c⟩ := blk_turn T.obj T.keep t2 ew J'
      exact ⟨m', lt, i + 1, _, a, b, c, w'⟩
    refine thnF (pg.run _ z2 _ G2 x u _ (J2.pinned (blk_in J2 n2 (by simp)) (T.obj _ _ t2)) ru (step x G2 y)) fun _ z3 ⟨σ3, G3, J3, ew, q3⟩ => thnF (pt.run _ z3 σ3 G3 _ J3 q3) fun b z4 ⟨G4, J4, q4⟩ => ?_
    cases b with
    | false => exact last ew J4 q4
    | true =>
      refine thnF (pk.run _ z4 σ3 G4 _ J4 q4) fun kv z5 ⟨yk, G5, J5, rk, q5⟩ => thnF (pv.run _ z5 σ3 G5 _ J5 q5) fun vv z6 ⟨yv, G6, J6, rw6, xs, kvs, q, k, ek, a1, a2, a3, a4, nx⟩ => ?_
      rw [ek] at rk
      cases rk
      exact d_dictSetC (X := blkP X [] s3 H3 scope ce fp) hu J6 a1 a2 a3 a4 fun o z7 J7 => last ew J7 (nx o vv rw6)
/-- {k: v for ..} at its place -/
theorem pe_dcC {kx vx tg iter : Expr} {ifs : List Expr} {scope : Scope} {own : List (Str × Nat)} {pos : Pos} {wi : TI} {g : TG} {tt : TT} {tk tv : TE} (hu : X.A.units + 64 < cLine) (hc : X.calm = true) (hN : X.N.Nodup) (hi : PI X tg iter wi) (ok : BlkOk X.N X.env.scope scope own)
    (hg : ∀ (z : Shared) (G : Hp) (C : Addr) (cl : List (Str × Addr)) (fp : List Addr), PG (X.blk z G scope (compEnvC scope cl C X.env) fp) tg g)
    (ht : ∀ (z : Shared) (G : Hp) (C : Addr) (cl : List (Str × Addr)) (fp : List Addr), PTs (X.blk z G scope (compEnvC scope cl C X.env) fp) ifs tt)
    (hk : ∀ (z : Shared) (G : Hp) (C : Addr) (cl : List (Str × Addr)) (fp : List Addr), PE (X.blk z G scope (compEnvC scope cl C X.env) fp) kx tk)
    (he : ∀ (z : Shared) (G : Hp) (C : Addr) (cl : List (Str × Addr)) (fp : List Addr), PE (X.blk z G scope (compEnvC scope cl C X.env) fp) vx tv) (hs : ∀ x, foldedSetIterable iter X.env x = pure x := by intro _; rfl) :
    PE X (.DictComp kx vx [⟨tg, iter, ifs, 0⟩] scope pos) (tDcC wi g tt tk tv (own.map (·.2))) := by
  refine ⟨fun pins z σ G Q I ask => ?_⟩
  rw [arm_eval_DictComp]
  refine wpAny_comprehension_free rfl hs (closure_ok fun y hy e => I.ok.has _ (ok.free y hy e)) ok.kind (fun y hy e => by rw [ok.uniq y hy, e]) (thn (hi.run pins z σ G _ I ask) fun _ _ y1 => thn y1 fun _ z2 ⟨it, fp, tn, J, G2, ei, I2, T, t2, f2, q⟩ => ?_)
  rw [ei]
  obtain ⟨W, ⟨m0, w0⟩, turn⟩ := q z2.heap.objs.size (I2.hok.fresh (Nat.le_refl _))
  refine wpAny_newObj_type (newEnv_comp ?_)
  have I3 := I2.laid (t' := z2.toks) (h' := z2.heap.push { cls := .type "dict", data := .dict #[] }) (fun b o e => Heap.get?_push_of_some _ e) (Nat.le_refl _) (dk_empty z2.heap I2.big)
  have lt : ∀ b ∈ fp, b < z2.heap.objs.size := fun b hb => (T.obj _ _ t2 b hb).elim fun o e => Heap.lt_size e.1
  have f3 := fp_up (o := .dK []) f2 lt
  have I4 := block_start I3 ok hN fun b hb => ⟨f3 b hb, by rw [Heap.size_push]; exact Nat.lt_succ_of_lt (lt b hb)⟩
  have t4 := T.keep 0 _ (pushCells ((z2.heap.push { cls := .type "dict", data := .dict #[] }).push { cls := .type "dict", data := .dict #[] }) scope.names) t2 fun b _ o e => pushCells_keeps _ _ _ _ (Heap.get?_push_of_some _ (Heap.get?_push_of_some _ e))
  have run := dcc_loop (kx := kx) (vx := vx) (iter := iter) (pos := pos) (use := none) hc hu I3 f3 rfl (hg _ _ _ _ _) (ht _ _ _ _ _) (hk _ _ _ _ _) (he _ _ _ _ _) T turn w0 I4 t4 (Qf := EP X pins σ Q) fun D C z' m G' I' done hn f => ⟨m, hn, fun h'' sb => ?_⟩
  · exact codeAny_compStart_dict run (T.self X.A 0 _ _ _ t4 run)
  · obtain ⟨f0, f1, _, f3, f4, f5⟩ := f
    rename_i f2'
    exact ⟨.ref D, G', I'.turned (t' := z'.toks) (fun b o hb e => (sb.2 b hb).trans e) f0 f1 f3 f4 f5, rfl, done⟩
end

/-! ### what they compute -/
def dcGo (put : List (PyData × PyData) → PyData → PyData → R (List (PyData × PyData))) (g : PyData → Ev → R Ev) (tk tv : Ev → R PyData) (env : Ev) : List PyData → List (PyData × PyData) → R (List (PyData × PyData))
  | [], acc => .ok acc
  | d :: r, acc => (g d env).bindN fun env1 => (tk env1).bindN fun k => (tv env1).bindN fun v => (put acc k v).bindN fun acc' => dcGo put g tk tv env r acc'
def putI (acc : List (PyData × PyData)) (k v : PyData) : R (List (PyData × PyData)) := match k with
  | .int i => match iFind acc i with
    | none => .ok (acc ++ [(k, v)])
    | some _ => .stuck
  | _ => .stuck
def putC' (acc : List (PyData × PyData)) (k v : PyData) : R (List (PyData × PyData)) := match ckOf k with
  | some _ => .ok (dSto acc k v)
  | none => .stuck
theorem dcGo_cons {put : List (PyData × PyData) → PyData → PyData → R (List (PyData × PyData))} {g : PyData → Ev → R Ev} {tk tv : Ev → R PyData} {env : Ev} {d : PyData} {r : List PyData} {acc all : List (PyData × PyData)} (h : dcGo put g tk tv env (d :: r) acc = .ok all) :
    ∃ env1 k v acc', g d env = .ok env1 ∧ tk env1 = .ok k ∧ tv env1 = .ok v ∧ put acc k v = .ok acc' ∧ dcGo put g tk tv env r acc' = .ok all := by
  replace h : ((g d env).bindN fun env1 => (tk env1).bindN fun k => (tv env1).bindN fun v => (put acc k v).bindN fun acc' => dcGo put g tk tv env r acc') = .ok all := h
  obtain ⟨env1, e1, h⟩ := R.bindN_ok h
  obtain ⟨k, e2, h⟩ := R.bindN_ok h
  obtain ⟨v, e3, h⟩ := R.bindN_ok h
  obtain ⟨acc', e4, h⟩ := R.bindN_ok h
  exact ⟨env1, k, v, acc', e1, e2, e3, e4, h⟩
def eDcI (vs : List Nat) (fi : Ev → R (List PyData)) (g : PyData → Ev → R Ev) (tk tv : Ev → R PyData) : Ev → R PyData := fun env => (fi env).bind fun ds => match Nat.ble ds.length 4000 with
  | true => (dcGo putI g tk tv (wipeE env vs) ds []).bindN fun kvs => .ok (.dict ((.none, .none) :: kvs))
  | false => .stuck
def eDcC (vs : List Nat) (fi : Ev → R (List PyData)) (g : PyData → Ev → R Ev) (tk tv : Ev → R PyData) : Ev → R PyData := fun env => (fi env).bind fun ds => match Nat.ble ds.length 4000 with
  | true => (dcGo putC' g tk tv (wipeE env vs) ds []).bindN fun kvs => match kvs with
    | [] => .stuck
    | _ => .ok (.dict kvs)
  | false => .stuck
theorem RpI.append {H : Hp} : ∀ {xs ys : List (Key × V)} {kvs lvs : List (PyData × PyData)}, RpI H xs kvs → RpI H ys lvs → RpI H (xs ++ ys) (kvs ++ lvs)
  | _, _, _, _, .nil, s => s
  | _, _, _, _, .cons a t, s => .cons a (RpI.append t s)
theorem RpI.length : ∀ {H : Hp} {xs : List (Key × V)} {kvs : List (PyData × PyData)}, RpI H xs kvs → xs.length = kvs.length
  | _, _, _, .nil => rfl
  | _, _, _, .cons _ t => by rw [List.length_cons, List.length_cons, RpI.length t]
theorem dSto_len (kvs : List (PyData × PyData)) (k v : PyData) : (dSto kvs k v).length ≤ kvs.length + 1 := by
  have h : ∀ kvs : List (PyData × PyData), (dMap kvs k v).length = kvs.length := by
    intro kvs
    induction kvs with
    | nil => rfl
    | cons p r ih =>
      obtain ⟨a, b⟩ := p
      unfold dMap
      split
      · rw [List.length_cons, List.length_cons, ih]
      · rw [List.length_cons, List.length_cons, ih]
  unfold dSto
  split
  · rw [h]; omega
  · rw [List.length_append]; simp
section
variable {ca : Nat → Addr} {E : XK} {X : Cx} {pos : Pos}
/-- a fresh object stays unfrozen -/
theorem Ex.keepN {Hi H Hi' H' : Hp} {D : Addr} {o : HO} (x : Ex Hi H Hi' H') (h : Hi D = none) (h' : H D = some o) : Hi' D = none := by
  cases q : Hi' D with
  | none => rfl
  | some o =>
    rcases x.nw D o q with z | z
    · rw [h] at z; cases z
    · rw [h'] at z; cases z
theorem Ex.frzD {Hi H Hi1 H1 Hi' H' : Hp} {D : Addr} {o : HO} (x1 : Ex Hi H Hi1 H1) (hD : H1 D = none) (x2 : Ex Hi1 H1 Hi' H') (hnD : Hi' D = none) (hxs : H' D = some o) : Ex Hi H (upd Hi' D o) H' := by
  refine x1.trans ⟨x2.im.trans (Sub.up hnD), x2.al, fun a o' e => ?_, fun a o' e => ?_⟩
  · by_cases ha : a = D
    · subst ha
      rw [upd_same] at e
      cases e
      exact hxs
    · rw [upd_ne ha] at e
      exact x2.le a o' e
  · by_cases ha : a = D
    · subst ha
      exact .inr hD
    · rw [upd_ne ha] at e
      exact x2.nw a o' e
theorem Ex.setD {Hi1 H1 Hi' H' : Hp} {D : Addr} {o : HO} (x2 : Ex Hi1 H1 Hi' H') (hD : H1 D = none) (hnD : Hi' D = none) : Ex Hi1 H1 Hi' (upd H' D o) :=
  ⟨x2.im, fun a o e => by
    rw [upd_ne (ne_of_none e hD)]
    exact x2.al a o e, fun a o e => by
    rw [upd_ne (ne_of_none e hnD)]
    exact x2.le a o e, x2.nw⟩
theorem dcI_read {vs us : List Nat} {fi : Ev → R (List PyData)} {g : PyData → Ev → R Ev} {tk tv : Ev → R PyData} {wi : TI} (hus : ∀ j ∈ us, j ∈ vs)
    (qi : ∀ (He : Hp) (env : Ev) (σ : St) (Hi H : Hp) (Rr : It → Hp → Prop), Slots He env σ Hi H → Sub Hi H → PW' ca E Hi H (fi env) Rr → wi σ H Rr) :
    ∀ (He : Hp) (env : Ev) (σ : St) (Hi H : Hp) (Q : VK), Slots He env σ Hi H → Sub Hi H → PV ca E Hi H (eDcI vs fi g tk tv env) Q → tDc wi (tG us g) (tT' ca E0 tTrue) (tE ca E0 tk) (tE ca E0 tv) vs σ H Q := by
  intro He env σ Hi H Q S s h
  refine qi He env σ Hi H _ S s ?_
  unfold eDcI at h
  cases ei : fi env with
  | stuck => rw [ei] at h; exact h.elim
  | exc c => rw [ei] at h; exact h
  | ok ds =>
    rw [ei] at h
    replace h : PV ca E Hi H (match Nat.ble ds.length 4000 with
      | true => (dcGo putI g tk tv (wipeE env vs) ds []).bindN fun kvs => .ok (.dict ((.none, .none) :: kvs))
      | false => .stuck) Q := h
    split at h
    case h_2 => exact PV.no h
    rename_i hz
    have hz' := Nat.le_of_ble_eq_true hz
    cases ec : dcGo putI g tk tv (wipeE env vs) ds [] with
    | stuck => rw [ec] at h; exact PV.no h
    | exc c => rw [ec] at h; exact PV.no h
    | ok all =>
      rw [ec] at h
      replace h : PV ca E Hi H (.ok (.dict ((.none, .none) :: all))) Q := h
      intro J Hi1 H1 x1 wk D hD
      have hiD : Hi1 D = none := x1.le.nn hD
      refine ⟨fun i m H' => m = ds.length - i ∧ i ≤ ds.length ∧ ∃ Hi' xs acc, Ex Hi1 H1 Hi' H' ∧ H' D = some (.dK xs) ∧ Hi' D = none ∧ RpI Hi' xs acc ∧ xs.length ≤ i ∧ dcGo putI g tk tv (wipeE env vs) (ds.drop i) acc = .ok all,
        ⟨ds.length, by simp, Nat.zero_le _, Hi1, [], [], .skip x1.le hD, upd_same, hiD, .nil, Nat.le_refl _, ec⟩, ?_⟩
      rintro i m H' ⟨rfl, hil, Hi', xs, acc, x2, hxs, hnD, hr, hxl, hgo⟩
      by_cases hlt : i < ds.length
      · refine .inr ⟨wk.goes i Hi' H' hlt x2.im x2.le, fun H3 => i + 1 ≤ ds.length ∧ ∃ Hi' xs acc, Ex Hi1 H1 Hi' H3 ∧ H3 D = some (.dK xs) ∧ Hi' D = none ∧ RpI Hi' xs acc ∧ xs.length ≤ i + 1 ∧ dcGo putI g tk tv (wipeE env vs) (ds.drop (i + 1)) acc = .ok all,
          fun H3 q => ⟨ds.length - (i + 1), by omega, rfl, q⟩, fun x H3 y => ?_⟩
        obtain ⟨d, hd, hdr⟩ := drop_at hlt
        rw [hdr] at hgo
        obtain ⟨env1, k, v, acc', eg, ek, ev, ep, hgo2⟩ := dcGo_cons hgo
        obtain ⟨Hi3, x3, rx⟩ := wk.yields i Hi' H' x H3 d hd x2.im x2.le y
        have S3 : Slots He (wipeE env vs) (L2.wipe σ vs) Hi3 H3 := (((S.ex x1).ex x2).ex x3).wipe _
        refine ⟨He, _, Hi3, d, S3, x3.le, rx, ?_⟩
        rw [eg]
        intro σ4 Hi4 H4 x4 S4 hl4 hn4
        refine ⟨(wipe_same hus hl4 hn4).trans (wipe_wipe _ _), He, env1, Hi4, S4, x4.le, ?_⟩
        intro Hi5 H5 x5
        rw [if_pos rfl]
        refine ⟨He, env1, Hi5, S4.ex x5, x5.le, ?_⟩
        rw [ek]
        intro kv Hi6 H6 x6 rk
        refine ⟨He, env1, Hi6, (S4.ex x5).ex x6, x6.le, ?_⟩
        rw [ev]
        intro vv Hi7 H7 x7 rv
        have x37 := (((x3.trans x4).trans x5).trans x6).trans x7
        have hD7 : H7 D = some (.dK xs) := x37.al _ _ hxs
        have hnD7 : Hi7 D = none := x37.keepN hnD hxs
        unfold putI at ep
        cases rk with
        | int n =>
          dsimp only at ep
          split at ep
          · rename_i hf
            cases ep
            have hr7 := hr.sub x37.im
            refine ⟨xs, .inl n, rfl, hD7, by rw [sizeLine_eq]; omega, hlt, Hi7, xs ++ [(.inl n, vv)], acc ++ [(.int n, v)], (x2.trans x37).setD hD hnD7, ?_, hnD7, hr7.append (.cons rv .nil), by rw [List.length_append]; simpa using hxl, hgo2⟩
            rw [upd_same]
            have hv : valV xs (.inl n) = none := by
              rcases iFind_val (i := n) hr with ⟨_, h4⟩ | ⟨d', w', h3, _⟩
              · exact h4
              · rw [hf] at h3; cases h3
            have : putK xs (.inl n) vv = xs ++ [(.inl n, vv)] := by
              unfold putK
              rw [valV_any, hv]
              rfl
            rw [this]
          · cases ep
        | _ => cases ep
      · have e : i = ds.length := by omega
        subst e
        rw [List.drop_length] at hgo
        cases hgo
        exact .inl ⟨wk.stops Hi' H' x2.im x2.le, h (.ref D) (upd Hi' D (.dK xs)) H' (x1.frzD hD x2 hnD hxs) (.dci upd_same (hr.sub (Sub.up hnD)))⟩
theorem okE_dcI {kx vx tg iter : Expr} {scope : Scope} {own : List (Str × Nat)} {us : List Nat} {fi : Ev → R (List PyData)} {g : PyData → Ev → R Ev} {tk tv : Ev → R PyData} (hc : X.calm = true) (hN : X.N.Nodup) (hi : OkI ca E X tg iter fi)
    (ok : BlkOk X.N X.env.scope scope own) (hus : ∀ j ∈ us, j ∈ own.map (·.2))
    (hg : ∀ (s : Shared) (H : Hp) (C : Addr) (cl : List (Str × Addr)) (fp : List Addr), OkG (X.blk s H scope (compEnvC scope cl C X.env) fp) tg us g)
    (hk : ∀ (s : Shared) (H : Hp) (C : Addr) (cl : List (Str × Addr)) (fp : List Addr), OkE ca E0 (X.blk s H scope (compEnvC scope cl C X.env) fp) kx tk)
    (he : ∀ (s : Shared) (H : Hp) (C : Addr) (cl : List (Str × Addr)) (fp : List Addr), OkE ca E0 (X.blk s H scope (compEnvC scope cl C X.env) fp) vx tv)
    (hs : ∀ x, foldedSetIterable iter X.env x = pure x := by intro _; rfl) : OkE ca E X (.DictComp kx vx [⟨tg, iter, [], 0⟩] scope pos) (eDcI (own.map (·.2)) fi g tk tv) := by
  obtain ⟨wi, pi, qi⟩ := hi
  exact ⟨_, pe_dc hc hN pi ok hg (fun s H C cl fp => okTs_nil) (fun s H C cl fp => OkE.can ca E0 (hk s H C cl fp)) (fun s H C cl fp => OkE.can ca E0 (he s H C cl fp)) hs, dcI_read hus qi⟩
theorem dcC_read {vs us : List Nat} {fi : Ev → R (List PyData)} {g : PyData → Ev → R Ev} {tk tv : Ev → R PyData} {wi : TI} (hus : ∀ j ∈ us, j ∈ vs)
    (qi : ∀ (He : Hp) (env : Ev) (σ : St) (Hi H : Hp) (Rr : It → Hp → Prop), Slots He env σ Hi H → Sub Hi H → PW' ca E Hi H (fi env) Rr → wi σ H Rr) :
    ∀ (He : Hp) (env : Ev) (σ : St) (Hi H : Hp) (Q : VK), Slots He env σ Hi H → Sub Hi H → PV ca E Hi H (eDcC vs fi g tk tv env) Q → tDcC wi (tG us g) (tT' ca E0 tTrue) (tE ca E0 tk) (tE ca E0 tv) vs σ H Q := by
  intro He env σ Hi H Q S s h
  refine qi He env σ Hi H _ S s ?_
  unfold eDcC at h
  cases ei : fi env with
  | stuck => rw [ei] at h; exact h.elim
  | exc c => rw [ei] at h; exact h
  | ok ds =>
    rw [ei] at h
    replace h : PV ca E Hi H (match Nat.ble ds.length 4000 with
      | true => (dcGo putC' g tk tv (wipeE env vs) ds []).bindN fun kvs => match kvs with
        | [] => .stuck
        | _ => .ok (.dict kvs)
      | false => .stuck) Q := h
    split at h
    case h_2 => exact PV.no h
    rename_i hz
    have hz' := Nat.le_of_ble_eq_true hz
    cases ec : dcGo putC' g tk tv (wipeE env vs) ds [] with
    | stuck => rw [ec] at h; exact PV.no h
    | exc c => rw [ec] at h; exact PV.no h
    | ok all =>
      rw [ec] at h
      cases all with
      | nil => exact PV.no h
      | cons p0 all0 =>
      generalize hall : p0 :: all0 = all at h ec
      replace h : PV ca E Hi H (.ok (.dict all)) Q := by rw [← hall] at h ⊢; exact h
      have hne : all ≠ [] := by rw [← hall]; intro z; cases z
      intro J Hi1 H1 x1 wk D hD
      have hiD : Hi1 D = none := x1.le.nn hD
      refine ⟨fun i m H' => m = ds.length - i ∧ i ≤ ds.length ∧ ∃ Hi' xs acc, Ex Hi1 H1 Hi' H' ∧ DAt H' D xs ∧ Hi' D = none ∧ RpC Hi' xs acc ∧ xs.length ≤ i ∧ dcGo putC' g tk tv (wipeE env vs) (ds.drop i) acc = .ok all,
        ⟨ds.length, by simp, Nat.zero_le _, Hi1, [], [], .skip x1.le hD, .inl ⟨upd_same, rfl⟩, hiD, .nil, Nat.le_refl _, ec⟩, ?_⟩
      rintro i m H' ⟨rfl, hil, Hi', xs, acc, x2, hxs, hnD, hr, hxl, hgo⟩
      obtain ⟨oD, hoD⟩ : ∃ o, H' D = some o := by
        rcases hxs with ⟨e, _⟩ | ⟨o, e⟩
        · exact ⟨_, e⟩
        · exact ⟨_, e⟩
      by_cases hlt : i < ds.length
      · refine .inr ⟨wk.goes i Hi' H' hlt x2.im x2.le, fun H3 => i + 1 ≤ ds.length ∧ ∃ Hi' xs acc, Ex Hi1 H1 Hi' H3 ∧ DAt H3 D xs ∧ Hi' D = none ∧ RpC Hi' xs acc ∧ xs.length ≤ i + 1 ∧ dcGo putC' g tk tv (wipeE env vs) (ds.drop (i + 1)) acc = .ok all,
          fun H3 q => ⟨ds.length - (i + 1), by omega, rfl, q⟩, fun x H3 y => ?_⟩
        obtain ⟨d, hd, hdr⟩ := drop_at hlt
        rw [hdr] at hgo
        obtain ⟨env1, k, v, acc', eg, ek, ev, ep, hgo2⟩ := dcGo_cons hgo
        obtain ⟨Hi3, x3, rx⟩ := wk.yields i Hi' H' x H3 d hd x2.im x2.le y
        have S3 : Slots He (wipeE env vs) (L2.wipe σ vs) Hi3 H3 := (((S.ex x1).ex x2).ex x3).wipe _
        refine ⟨He, _, Hi3, d, S3, x3.le, rx, ?_⟩
        rw [eg]
        intro σ4 Hi4 H4 x4 S4 hl4 hn4
        refine ⟨(wipe_same hus hl4 hn4).trans (wipe_wipe _ _), He, env1, Hi4, S4, x4.le, ?_⟩
        intro Hi5 H5 x5
        rw [if_pos rfl]
        refine ⟨He, env1, Hi5, S4.ex x5, x5.le, ?_⟩
        rw [ek]
        intro kv Hi6 H6 x6 rk
        refine ⟨He, env1, Hi6, (S4.ex x5).ex x6, x6.le, ?_⟩
        rw [ev]
        intro vv Hi7 H7 x7 rv
        have x37 := (((x3.trans x4).trans x5).trans x6).trans x7
        have hnD7 : Hi7 D = none := x37.keepN hnD hoD
        have hD7 : DAt H7 D xs := by
          rcases hxs with ⟨e, e2⟩ | ⟨o, e⟩
          · exact .inl ⟨x37.al _ _ e, e2⟩
          · exact .inr ⟨o, x37.al _ _ e⟩
        unfold putC' at ep
        split at ep
        · rename_i ck hck
          have ee := ckOf_eq hck
          subst ee
          cases ep
          have hr7 := hr.sub x37.im
          have rk7 := rk.sub x7.im
          cases rk with
          | @tup b zs fs eb rb =>
            refine ⟨xs, acc, b, ck, rfl, hD7, hr7.sub x7.le, rk7.sub x7.le, by omega, fun o u ru => ⟨hlt, Hi7, _, _, (x2.trans x37).setD hD hnD7, .inr ⟨o, upd_same⟩, hnD7, RpC.stored rk7 ru rv hr7, ?_, hgo2⟩⟩
            have := storedH_length xs ck b u
            omega
        · cases ep
      · have e : i = ds.length := by omega
        subst e
        rw [List.drop_length] at hgo
        cases hgo
        rcases hxs with ⟨e, e2⟩ | ⟨o, e⟩
        · subst e2
          cases hr
          exact absurd rfl hne
        · exact .inl ⟨wk.stops Hi' H' x2.im x2.le, h (.ref D) (upd Hi' D (dO D o xs)) H' (x1.frzD hD x2 hnD e) (.dct upd_same (hr.sub (Sub.up hnD)))⟩
theorem okE_dcC {kx vx tg iter : Expr} {scope : Scope} {own : List (Str × Nat)} {us : List Nat} {fi : Ev → R (List PyData)} {g : PyData → Ev → R Ev} {tk tv : Ev → R PyData} (hu : X.A.units + 64 < cLine) (hc : X.calm = true) (hN : X.N.Nodup) (hi : OkI ca E X tg iter fi)
    (ok : BlkOk X.N X.env.scope scope own) (hus : ∀ j ∈ us, j ∈ own.map (·.2))
    (hg : ∀ (s : Shared) (H : Hp) (C : Addr) (cl : List (Str × Addr)) (fp : List Addr), OkG (X.blk s H scope (compEnvC scope cl C X.env) fp) tg us g)
    (hk : ∀ (s : Shared) (H : Hp) (C : Addr) (cl : List (Str × Addr)) (fp : List Addr), OkE ca E0 (X.blk s H scope (compEnvC scope cl C X.env) fp) kx tk)
    (he : ∀ (s : Shared) (H : Hp) (C : Addr) (cl : List (Str × Addr)) (fp : List Addr), OkE ca E0 (X.blk s H scope (compEnvC scope cl C X.env) fp) vx tv)
    (hs : ∀ x, foldedSetIterable iter X.env x = pure x := by intro _; rfl) : OkE ca E X (.DictComp kx vx [⟨tg, iter, [], 0⟩] scope pos) (eDcC (own.map (·.2)) fi g tk tv) := by
  obtain ⟨wi, pi, qi⟩ := hi
  exact ⟨_, pe_dcC hu hc hN pi ok hg (fun s H C cl fp => okTs_nil) (fun s H C cl fp => OkE.can ca E0 (hk s H C cl fp)) (fun s H C cl fp => OkE.can ca E0 (he s H C cl fp)) hs, dcC_read hus qi⟩
end
end PD
/-! text P22 -/
set_option maxHeartbeats 5000000
namespace PD
open PySem.Spec PySem PyProof.Rows L2
theorem passN {X : Cx} : Passes (L2N.CX X.prog X.w) X E0 := fun _ _ _ _ _ _ _ h => by
  obtain ⟨_, _, _, _, _, _, _, _, _, _, _, _, z⟩ := h
  exact False.elim z

/-! ### defs -/
def outR : Out → R PyData
  | .ret d => .ok d
  | .next _ => .ok .none
  | .exc c => .exc c
  | .stuck => .stuck
def startE (n : Nat) (ds : List PyData) : Ev := ds.map (fun d => some (Sl.imm d)) ++ List.replicate (n - ds.length) none
def spF (ca : Nat → Addr) (n : Nat) (F : List PyData → R PyData) : Sp := fun vs H Q E => ∃ ds Hi, Sub Hi H ∧ RpAll Hi vs ds ∧ ds.length = n ∧ PV ca E Hi H (F ds) Q
theorem spF_len {ca : Nat → Addr} {n : Nat} {F : List PyData → R PyData} : ∀ vs H Q E, spF ca n F vs H Q E → vs.length = n := fun vs H Q E ⟨ds, Hi, s, r, l, h⟩ => by rw [r.length, l]
theorem slots_start {Hi H : Hp} {vs : List V} {ds : List PyData} {N : List Str} (r : RpAll Hi vs ds) : Slots H (startE N.length ds) (L2.start N vs) Hi H := by
  have hl := r.length
  have no : ∀ (i : Nat) (d : PyData), (startE N.length ds)[i]? = some (some (.own d)) → False := fun i d e => by
    unfold startE at e
    by_cases hi : i < ds.length
    · rw [List.getElem?_append_left (by simpa using hi), List.getElem?_map] at e
      cases z : ds[i]? with
      | none => rw [z] at e; cases e
      | some d' => rw [z] at e; cases e
    · rw [List.getElem?_append_right (by simpa using hi), List.getElem?_replicate] at e
      split at e <;> cases e
  refine ⟨?_, fun i d e => ?_, fun i d e => (no i d e).elim, fun i d e => ?_, fun i j d d' a e _ _ _ => (no i d e).elim⟩
  · unfold L2.start startE
    rw [List.length_append, List.length_append, List.length_map, List.length_map, List.length_replicate, List.length_replicate, hl]
  · unfold startE at e
    by_cases hi : i < ds.length
    · rw [List.getElem?_append_left (by simpa using hi), List.getElem?_map] at e
      cases z : ds[i]? with
      | none => rw [z] at e; cases e
      | some d' =>
        rw [z] at e
        cases e
        obtain ⟨v, h1, h2⟩ := r.get z
        refine ⟨v, ?_, h2⟩
        unfold L2.start
        rw [List.getElem?_append_left (by rw [List.length_map, hl]; exact hi), List.getElem?_map, h1]
        rfl
    · rw [List.getElem?_append_right (by simpa using hi), List.getElem?_replicate] at e
      split at e <;> cases e
  · exfalso
    unfold startE at e
    by_cases hi : i < ds.length
    · rw [List.getElem?_append_left (by simpa using hi), List.getElem?_map] at e
      cases z : ds[i]? with
      | none => rw [z] at e; cases e
      | some d' => rw [z] at e; cases e
    · rw [List.getElem?_append_right (by simpa using hi), List.getElem?_replicate] at e
      split at e <;> cases e
section
variable {ca : Nat → Addr} {P : Program} {w : World} {K : PySem.W.Frag} {mg : Str → Option Value} {base : Heap}
theorem fn_ok {x qual : Str} {params : Arguments} {body : List Stmt} {scope : Scope} {dvs : List V} {kws : List (Str × V)} {f : Addr} {fd : FuncData} {N ps : List Str} {k : Nat} (F : FunD K x qual params body scope dvs kws f fd) (S : FnScope N ps scope) (G : Ev → Out)
    (hb : ∀ (cdv : Value) (A : Around) (outer : List Env) (s : Shared) (H : Hp) (E : XK), Room k (A.deeper (envOfC qual scope s.heap.objs.size f cdv)) → OkSs ca E (cxOf (L2N.CX P w) P w K mg base N qual scope f cdv A outer s H E) body G) :
    FnOk P w K mg base (L2N.CX P w) (k + 1) f fd ps (spF ca ps.length fun ds => outR (G (startE N.length ds))) := by
  refine F.ok S spF_len fun cdv A outer s H vs Q E hr hsp => ?_
  obtain ⟨t, p, q⟩ := hb cdv A outer s H E hr
  obtain ⟨ds, Hi, sb, r, l, h⟩ := hsp
  refine ⟨t, p, q Hi H _ _ Hi H _ (slots_start r) (.refl sb) ?_⟩
  replace h : PV ca E Hi H (outR (G (startE N.length ds))) Q := h
  cases e : G (startE N.length ds) with
  | stuck => rw [e] at h; exact h
  | ret d => rw [e] at h; exact h
  | exc c => rw [e] at h; exact h
  | next env => rw [e] at h; exact fun σ' Hi' H' _ x => h _ Hi' H' x .non
/-- a table in place of what was computed -/
theorem FnOk.tab {n k : Nat} {f : Addr} {fd : FuncData} {ps : List Str} {CX : CXT} {F G : List PyData → R PyData} (h : FnOk P w K mg base CX k f fd ps (spF ca n F)) (hg : ∀ ds, ds.length = n → (∀ d, G ds = .ok d → F ds = .ok d) ∧ (∀ c, G ds = .exc c → F ds = .exc c)) : FnOk P w K mg base CX k f fd ps (spF ca n G) := by
  refine h.imp fun vs H Q E ⟨ds, Hi, s, r, l, q⟩ => ⟨ds, Hi, s, r, l, ?_⟩
  obtain ⟨h1, h2⟩ := hg ds l
  cases e : G ds with
  | stuck => rw [e] at q; exact q.elim
  | ok d => rw [e] at q; rw [h1 d e]; exact q
  | exc c => rw [e] at q; rw [h2 c e]; exact q
end
def eCall (n : Nat) (F : List PyData → R PyData) (fs : Ev → R (List PyData)) : Ev → R PyData := fun env => (fs env).bind fun ds => match Nat.beq ds.length n with
  | true => F ds
  | false => .stuck
section
variable {ca : Nat → Addr} {E : XK} {X : Cx} {pos p : Pos} {x : Str} {n k : Nat} {f : Addr} {fd : FuncData} {ps : List Str} {F : List PyData → R PyData} {e : Expr} {es : List Expr} {fs : Ev → R (List PyData)}
theorem okE_call (FN : FnOk X.prog X.w X.K X.mg X.base (L2N.CX X.prog X.w) k f fd ps (spF ca n F)) (hr : Room k X.A) (hg : Gl X x) (hm : X.mg x = some (.ref f)) (hk : PySem.W.keepIn X.K (.ref f) = true) (hb : Binds X.K fd ps []) (hx : Passes (L2N.CX X.prog X.w) X E) (ha : OkA ca E X (e :: es) fs)
    (hdb : (x == ("__debug__" : Str)) = false := by decide) (he : starEach (e :: es) X.env = (false, eval e X.env) :: starEach es X.env := by rfl) (hpl : (backTo pos (starEach es X.env)).any (·.1) = false := by rfl) : OkE ca E X (.Call (.Name x p) (e :: es) [] pos) (eCall n F fs) := by
  obtain ⟨t, pt, q⟩ := ha
  refine ⟨_, pe_call FN hr hg hm hk hb .nil hx pt hdb he hpl, fun He env σ Hi H Q S s h => q He env σ Hi H _ S s ?_⟩
  have h1 := PV.bindL h
  cases ea : fs env with
  | stuck => rw [ea] at h1; exact h1.elim
  | exc c => rw [ea] at h1; exact h1
  | ok ds =>
    rw [ea] at h1
    intro vs Hi1 H1 x1 r1
    obtain ⟨d, Hi', e, x1, r1, h2⟩ := h1 vs Hi1 H1 x1 r1
    cases e
    split at h2
    · rename_i hz
      rw [List.append_nil]
      exact ⟨ds, Hi', x1.le, r1, Nat.eq_of_beq_eq_true hz, h2⟩
    · exact PV.no h2
theorem okE_call0 (FN : FnOk X.prog X.w X.K X.mg X.base (L2N.CX X.prog X.w) k f fd ps (spF ca 0 F)) (hr : Room k X.A) (hg : Gl X x) (hm : X.mg x = some (.ref f)) (hk : PySem.W.keepIn X.K (.ref f) = true) (hb : Binds X.K fd ps []) (hx : Passes (L2N.CX X.prog X.w) X E)
    (hdb : (x == ("__debug__" : Str)) = false := by decide) : OkE ca E X (.Call (.Name x p) [] [] pos) (fun _ => F []) :=
  ⟨_, pe_call0 FN hr hg hm hk hb .nil hx hdb, fun He env σ Hi H Q S s h => ⟨[], Hi, s, .nil, rfl, h⟩⟩

/-! ### raise of an own class -/
def sRaise (c : Nat) : Ev → Out := fun _ => .exc c
theorem okS_raise {W : WX} {c : Nat} {e : Expr} (hc : X.calm = true) (tk : L2N.Takes X W) (hW : ∀ cls d σ H, E cls d H → W cls d σ H) (he : L2N.PMk X e (fun _ H Q => Q (.ref (ca c)) none H)) : OkS ca E X (.Raise (some e) none pos) (sRaise c) :=
  ⟨_, L2N.ps_raise hc tk he, fun Hi0 He env σ Hi H D S x h => hW _ _ _ _ (h Hi H none x)⟩
end
end PD
/-! text P23 -/
set_option maxHeartbeats 5000000
namespace PD
open PySem.Spec PySem PyProof.Rows L2

section
variable {ca : Nat → Addr} {E : XK} {X : Cx} {pos : Pos}
theorem comp_readF {vs us : List Nat} {fi : Ev → R (List PyData)} {g : PyData → Ev → R Ev} {tt te : Ev → R PyData} {wi : TI} (hus : ∀ j ∈ us, j ∈ vs)
    (qi : ∀ (He : Hp) (env : Ev) (σ : St) (Hi H : Hp) (Rr : It → Hp → Prop), Slots He env σ Hi H → Sub Hi H → PW' ca E Hi H (fi env) Rr → wi σ H Rr) :
    ∀ (He : Hp) (env : Ev) (σ : St) (Hi H : Hp) (Q : VK), Slots He env σ Hi H → Sub Hi H → PC ca E true Hi H (eComp vs fi g tt te env) Q → tLc wi (tG us g) (tT' ca E0 tt) (tE ca E0 te) vs σ H Q := by
  intro He env σ Hi H Q S s h
  refine qi He env σ Hi H _ S s ?_
  unfold eComp at h
  cases ei : fi env with
  | stuck => rw [ei] at h; exact h.elim
  | exc c => rw [ei] at h; exact h
  | ok ds =>
    rw [ei] at h
    replace h : PC ca E true Hi H (match Nat.ble ds.length 4000 with
      | true => (compGo g tt te (wipeE env vs) ds).bindN fun ys => .ok (.list ys)
      | false => .stuck) Q := h
    split at h
    case h_2 => exact h.elim
    rename_i hz
    have hz' := Nat.le_of_ble_eq_true hz
    cases ec : compGo g tt te (wipeE env vs) ds with
    | stuck => rw [ec] at h; exact h.elim
    | exc c => rw [ec] at h; exact h.elim
    | ok all =>
      rw [ec] at h
      replace h : PC ca E true Hi H (.ok (.list all)) Q := h
      intro J Hi1 H1 x1 wk D hD
      have hiD : Hi1 D = none := x1.le.nn hD
      refine ⟨fun i m H' => m = ds.length - i ∧ i ≤ ds.length ∧ ∃ Hi' xs dn rest, Ex Hi1 H1 Hi' H' ∧ H' D = some (.lst xs) ∧ Hi' D = none ∧ RpAll Hi' xs dn ∧ xs.length ≤ i ∧ compGo g tt te (wipeE env vs) (ds.drop i) = .ok rest ∧ dn ++ rest = all,
        ⟨ds.length, by simp, Nat.zero_le _, Hi1, [], [], all, .skip x1.le hD, upd_same, hiD, .nil, Nat.le_refl _, ec, rfl⟩, ?_⟩
      rintro i m H' ⟨rfl, hil, Hi', xs, dn, rest, x2, hxs, hnD, hr, hxl, hgo, hall⟩
      by_cases hlt : i < ds.length
      · refine .inr ⟨wk.goes i Hi' H' hlt x2.im x2.le, fun H3 => i + 1 ≤ ds.length ∧ ∃ Hi' xs dn rest, Ex Hi1 H1 Hi' H3 ∧ H3 D = some (.lst xs) ∧ Hi' D = none ∧ RpAll Hi' xs dn ∧ xs.length ≤ i + 1 ∧ compGo g tt te (wipeE env vs) (ds.drop (i + 1)) = .ok rest ∧ dn ++ rest = all,
          fun H3 q => ⟨ds.length - (i + 1), by omega, rfl, q⟩, fun x H3 y => ?_⟩
        obtain ⟨d, hd, hdr⟩ := drop_at hlt
        rw [hdr] at hgo
        obtain ⟨env1, b, eg, et, hgo2⟩ := compGo_cons hgo
        obtain ⟨Hi3, x3, rx⟩ := wk.yields i Hi' H' x H3 d hd x2.im x2.le y
        have S3 : Slots He (wipeE env vs) (L2.wipe σ vs) Hi3 H3 := (((S.ex x1).ex x2).ex x3).wipe _
        refine ⟨He, _, Hi3, d, S3, x3.le, rx, ?_⟩
        rw [eg]
        intro σ4 Hi4 H4 x4 S4 hl4 hn4
        refine ⟨(wipe_same hus hl4 hn4).trans (wipe_wipe _ _), He, env1, Hi4, S4, x4.le, ?_⟩
        rw [et]
        intro Hi5 H5 x5
        have x35 := (x3.trans x4).trans x5
        have hD5 : H5 D = some (.lst xs) := x35.al _ _ hxs
        have hnD5 : Hi5 D = none := by
          cases q : Hi5 D with
          | none => rfl
          | some o =>
            rcases x35.nw D o q with z | z
            · rw [hnD] at z; cases z
            · rw [hxs] at z; cases z
        rcases hgo2 with ⟨rfl, y', ys, ey, hgo3, rfl⟩ | ⟨rfl, hgo3⟩
        · rw [if_pos rfl]
          refine ⟨He, env1, Hi5, S4.ex x5, x5.le, ?_⟩
          rw [ey]
          intro v Hi6 H6 x6 rv
          have hD6 : H6 D = some (.lst xs) := x6.al _ _ hD5
          have hnD6 : Hi6 D = none := by
            cases q : Hi6 D with
            | none => rfl
            | some o =>
              rcases x6.nw D o q with z | z
              · rw [hnD5] at z; cases z
              · rw [hD5] at z; cases z
          have x26 := (x2.trans x35).trans x6
          refine ⟨xs, hD6, by rw [sizeLine_eq]; omega, hlt, Hi6, xs ++ [v], dn ++ [y'], ys, ⟨x26.im, fun a o e => ?_, fun a o e => ?_, x26.nw⟩, upd_same, hnD6, ?_, ?_, hgo3, ?_⟩
          · rw [upd_ne (ne_of_none e hD)]
            exact x26.al a o e
          · rw [upd_ne (ne_of_none e hnD6)]
            exact x26.le a o e
          · exact (hr.sub (x35.im.trans x6.im)).append (.cons rv .nil)
          · rw [List.length_append]
            simp
            exact hxl
          · rw [List.append_assoc]
            exact hall
        · rw [if_neg Bool.false_ne_true]
          exact ⟨hlt, Hi5, xs, dn, rest, x2.trans x35, hD5, hnD5, hr.sub x35.im, Nat.le_succ_of_le hxl, hgo3, hall⟩
      · have e : i = ds.length := by omega
        subst e
        rw [List.drop_length] at hgo
        cases hgo
        rw [List.append_nil] at hall
        subst hall
        exact .inl ⟨wk.stops Hi' H' x2.im x2.le, h (.ref D) Hi' H' (x1.trans x2) ⟨D, rfl, x1.al.nn hD, hnD, xs, hxs, hr⟩⟩
/-- name = [.. for ..] on one line, the name a local -/
theorem okS_setCompF (i : Nat) {y : Str} {py : Pos} {elt tg iter : Expr} {ifs : List Expr} {scope : Scope} {own : List (Str × Nat)} {us : List Nat} {fi : Ev → R (List PyData)} {g : PyData → Ev → R Ev} {tt te : Ev → R PyData} {spos : Pos} (hc : X.calm = true) (hN : X.N.Nodup)
    (hi : OkI ca E X tg iter fi) (ok : BlkOk X.N X.env.scope scope own) (hus : ∀ j ∈ us, j ∈ own.map (·.2))
    (hg : ∀ (s : Shared) (H : Hp) (C : Addr) (cl : List (Str × Addr)) (fp : List Addr), OkG (X.blk s H scope (compEnvC scope cl C X.env) fp) tg us g)
    (ht : ∀ (s : Shared) (H : Hp) (C : Addr) (cl : List (Str × Addr)) (fp : List Addr), PTs (X.blk s H scope (compEnvC scope cl C X.env) fp) ifs (tT' ca E0 tt))
    (he : ∀ (s : Shared) (H : Hp) (C : Addr) (cl : List (Str × Addr)) (fp : List Addr), OkE ca E0 (X.blk s H scope (compEnvC scope cl C X.env) fp) elt te)
    (hy : X.N[i]? = some y := by rfl) (hyl : X.env.scope.names.lookup y = some .local := by rfl)
    (hk : X.env.scope.kind = .function := by rfl) (hl : (py.line == pos.line) = true := by rfl) (hsc : (scope.names.any fun (n, k) => n == y && (k == .local || k == .cell)) = false := by decide +kernel)
    (hs : ∀ x, foldedSetIterable iter X.env x = pure x := by intro _; rfl) : OkS ca E X (.Assign [.Name y py] (.ListComp elt [⟨tg, iter, ifs, 0⟩] scope pos) spos) (sSetC true i (eComp (own.map (·.2)) fi g tt te)) := by
  obtain ⟨wi, pi, qi⟩ := hi
  have q := comp_readF (tt := tt) (te := te) (g := g) hus qi
  refine ⟨_, ps_setLc hc hN hy hyl (sw_true hk hyl hl hsc) pi ok hg ht (fun s H C cl fp => OkE.can ca E0 (he s H C cl fp)) hs, fun Hi0 He env σ Hi H D S x h => ?_⟩
  refine q He env σ Hi H _ S x.le ?_
  refine (PO.thenC (b := true) x h).mono fun v H' hv => ?_
  obtain ⟨d, Hi', e', x1, x2, r1, h2⟩ := hv
  obtain ⟨hl, h3⟩ := h2.putC
  exact h3 _ _ _ ((S.ex x1).setC r1 hl x.al S.ownIn) x2
end

/-! ### the built-in names, the defs by their names -/
structure Bi (mg : Str → Option Value) : Prop where
  len : mg "len" = none
  all : mg "all" = none
  any : mg "any" = none
  sorted : mg "sorted" = none
  list : mg "list" = none
  tuple : mg "tuple" = none
  max : mg "max" = none
  min : mg "min" = none
  range : mg "range" = none
  zip : mg "zip" = none
  enumerate : mg "enumerate" = none
  isinstance : mg "isinstance" = none
  int : mg "int" = none
  bool : mg "bool" = none
  str : mg "str" = none
def Has (ca : Nat → Addr) (P : Program) (w : World) (K : PySem.W.Frag) (mg : Str → Option Value) (base : Heap) (x : Str) (n k : Nat) (F : List PyData → R PyData) : Prop :=
  ∃ f fd ps, FnOk P w K mg base (L2N.CX P w) k f fd ps (spF ca n F) ∧ mg x = some (.ref f) ∧ PySem.W.keepIn K (.ref f) = true ∧ Binds K fd ps []
section
variable {ca : Nat → Addr} {P : Program} {w : World} {K : PySem.W.Frag} {mg : Str → Option Value} {base : Heap} {x : Str} {n k : Nat} {F : List PyData → R PyData}
theorem Has.to (h : Has ca P w K mg base x n k F) (G : List PyData → R PyData) (hg : ∀ ds, (∀ d, G ds = .ok d → F ds = .ok d) ∧ (∀ c, G ds = .exc c → F ds = .exc c)) : Has ca P w K mg base x n k G := by
  obtain ⟨f, fd, ps, h1, h2⟩ := h
  exact ⟨f, fd, ps, FnOk.tab h1 fun ds _ => hg ds, h2⟩
theorem Has.eq (h : Has ca P w K mg base x n k F) {G : List PyData → R PyData} (hg : ∀ ds, G ds = F ds) : Has ca P w K mg base x n k G := h.to G fun ds => by rw [hg ds]; exact ⟨fun _ e => e, fun _ e => e⟩
theorem Has.up (h : Has ca P w K mg base x n k F) {j : Nat} (hj : k ≤ j) : Has ca P w K mg base x n j F := by
  obtain ⟨f, fd, ps, h1, h2⟩ := h
  exact ⟨f, fd, ps, h1.mono hj, h2⟩
theorem has_mk {params : Arguments} {body : List Stmt} {scope : Scope} {qual : Str} {f : Addr} {fd : FuncData} {N ps : List Str} (FN : FunD K x qual params body scope [] [] f fd) (S : FnScope N ps scope) (G : Ev → Out) (hm : mg x = some (.ref f))
    (hbind : ∀ (kV doc pm : Value) (an : Option Addr) (cdv ct : Value) (us : List Value), us.length = ps.length → bindArgs (PySem.W.fnOf x qual params body scope .none kV doc pm an cdv ct) ⟨us, []⟩ = pure (ps.zip us))
    (hb : ∀ (cdv : Value) (A : Around) (outer : List Env) (s : Shared) (H : Hp) (E : XK), Room k (A.deeper (envOfC qual scope s.heap.objs.size f cdv)) → OkSs ca E (cxOf (L2N.CX P w) P w K mg base N qual scope f cdv A outer s H E) body G) :
    Has ca P w K mg base x ps.length (k + 1) fun ds => outR (G (startE N.length ds)) :=
  ⟨f, fd, ps, fn_ok FN S G hb, hm, FN.kp, FN.bindsN hbind⟩
/-- nothing promised -/
theorem has_zero {params : Arguments} {body : List Stmt} {scope : Scope} {qual : Str} {f : Addr} {fd : FuncData} {ps : List Str} (FN : FunD K x qual params body scope [] [] f fd) (hm : mg x = some (.ref f))
    (hbind : ∀ (kV doc pm : Value) (an : Option Addr) (cdv ct : Value) (us : List Value), us.length = ps.length → bindArgs (PySem.W.fnOf x qual params body scope .none kV doc pm an cdv ct) ⟨us, []⟩ = pure (ps.zip us)) :
    Has ca P w K mg base x n k fun _ => .stuck :=
  ⟨f, fd, ps, ⟨fun vs H Q E ⟨ds, Hi, _, _, _, z⟩ => z.elim, fun A outer s H args us vs Q E _ _ _ _ ⟨ds, Hi, _, _, _, z⟩ => z.elim⟩, hm, FN.kp, FN.bindsN hbind⟩
end
theorem nble_refl (n : Nat) : Nat.ble n n = true := by simp
theorem units65 {k : Nat} {A : Around} (hr : Room k A) : A.units + 65 < cLine := by
  have := hr.un
  omega
section
variable {ca : Nat → Addr} {E : XK} {X : Cx} {pos p : Pos} {a b c : Expr} {fa fb fc : Ev → R PyData} {e : Expr} {es : List Expr} {fs : Ev → R (List PyData)}
theorem xCall {x : Str} {n j k : Nat} {F : List PyData → R PyData} (h : Has ca X.prog X.w X.K X.mg X.base x n j F) (hr : Room k X.A) (hx : Passes (L2N.CX X.prog X.w) X E) (ha : OkA ca E X (e :: es) fs) (hjk : Nat.ble j k = true := by rfl) (hg : Gl X x := by rfl)
    (hdb : (x == ("__debug__" : Str)) = false := by decide) (he : starEach (e :: es) X.env = (false, eval e X.env) :: starEach es X.env := by rfl) (hpl : (backTo pos (starEach es X.env)).any (·.1) = false := by rfl) : OkE ca E X (.Call (.Name x p) (e :: es) [] pos) (eCall n F fs) := by
  obtain ⟨f, fd, ps, h1, h2, h3, h4⟩ := h
  exact okE_call (h1.mono (Nat.le_of_ble_eq_true hjk)) hr hg h2 h3 h4 hx ha hdb he hpl
theorem xCall0 {x : Str} {j k : Nat} {F : List PyData → R PyData} (h : Has ca X.prog X.w X.K X.mg X.base x 0 j F) (hr : Room k X.A) (hx : Passes (L2N.CX X.prog X.w) X E) (hjk : Nat.ble j k = true := by rfl) (hg : Gl X x := by rfl)
    (hdb : (x == ("__debug__" : Str)) = false := by decide) : OkE ca E X (.Call (.Name x p) [] [] pos) (fun _ => F []) := by
  obtain ⟨f, fd, ps, h1, h2, h3, h4⟩ := h
  exact okE_call0 (h1.mono (Nat.le_of_ble_eq_true hjk)) hr hg h2 h3 h4 hx hdb
theorem xLen (B : Bi X.mg) (ha : OkA ca E X [a] fs) (hg : Gl X "len" := by rfl) (he : starEach [a] X.env = (false, eval a X.env) :: starEach [] X.env := by rfl) : OkE ca E X (.Call (.Name "len" p) [a] [] pos) (eA gLen fs) := okE_callB call_len gv_len hg B.len boot_len ha (by decide) (by decide) he rfl
theorem xAll (B : Bi X.mg) (hc : X.calm = true) (ha : OkA ca E X [a] fs) (hg : Gl X "all" := by rfl) (he : starEach [a] X.env = (false, eval a X.env) :: starEach [] X.env := by rfl) : OkE ca E X (.Call (.Name "all" p) [a] [] pos) (eA gAll fs) := okE_callB (cr_all hc) gv_all hg B.all boot_all ha (by decide) (by decide) he rfl
theorem xAny (B : Bi X.mg) (hc : X.calm = true) (ha : OkA ca E X [a] fs) (hg : Gl X "any" := by rfl) (he : starEach [a] X.env = (false, eval a X.env) :: starEach [] X.env := by rfl) : OkE ca E X (.Call (.Name "any" p) [a] [] pos) (eA gAny fs) := okE_callB (cr_any hc) gv_any hg B.any boot_any ha (by decide) (by decide) he rfl
theorem xSorted (B : Bi X.mg) (hu : X.A.units + 65 < cLine) (ha : OkA ca E X [a] fs) (hg : Gl X "sorted" := by rfl) (he : starEach [a] X.env = (false, eval a X.env) :: starEach [] X.env := by rfl) : OkE ca E X (.Call (.Name "sorted" p) [a] [] pos) (eA gSorted fs) := okE_callB (cr_sortU (by omega)) gv_sorted hg B.sorted boot_sorted ha (by decide) (by decide) he rfl
theorem xList (B : Bi X.mg) (ha : OkA ca E X [a] fs) (hg : Gl X "list" := by rfl) (he : starEach [a] X.env = (false, eval a X.env) :: starEach [] X.env := by rfl) : OkE ca E X (.Call (.Name "list" p) [a] [] pos) (eA gList fs) := okE_callTy call_list_of gv_list hg B.list PyProof.Rows.boot_list ha (by decide) (by decide) he rfl
theorem xTuple (B : Bi X.mg) (ha : OkA ca E X [a] fs) (hg : Gl X "tuple" := by rfl) (he : starEach [a] X.env = (false, eval a X.env) :: starEach [] X.env := by rfl) : OkE ca E X (.Call (.Name "tuple" p) [a] [] pos) (eA gTuple fs) := okE_callTy call_tuple_of gv_tuple hg B.tuple PyProof.Rows.boot_tuple ha (by decide) (by decide) he rfl
def maxJ (i j : Int) : Int := if j > i then j else i
def minJ (i j : Int) : Int := if j < i then j else i
theorem xMax (B : Bi X.mg) (hc : X.calm = true) (hu : X.A.units + 65 < cLine) (ha : OkA ca E X (e :: es) fs) (hg : Gl X "max" := by rfl) (he : starEach (e :: es) X.env = (false, eval e X.env) :: starEach es X.env := by rfl) (hpl : (backTo pos (starEach es X.env)).any (·.1) = false := by rfl) : OkE ca E X (.Call (.Name "max" p) (e :: es) [] pos) (eA (gMM maxI maxJ) fs) := okE_callB (cr_max2 hc (by omega)) gv_mm hg B.max PyProof.Rows.boot_max ha (by decide) (by decide) he hpl
theorem xMin (B : Bi X.mg) (hc : X.calm = true) (hu : X.A.units + 65 < cLine) (ha : OkA ca E X (e :: es) fs) (hg : Gl X "min" := by rfl) (he : starEach (e :: es) X.env = (false, eval e X.env) :: starEach es X.env := by rfl) (hpl : (backTo pos (starEach es X.env)).any (·.1) = false := by rfl) : OkE ca E X (.Call (.Name "min" p) (e :: es) [] pos) (eA (gMM minI minJ) fs) := okE_callB (cr_min2 hc (by omega)) gv_mm hg B.min PyProof.Rows.boot_min ha (by decide) (by decide) he hpl
def gNeg (x : PyData) : R PyData := match x with
  | .int i => .ok (.int (-i))
  | _ => .stuck
theorem xNeg (ha : OkE ca E X a fa) : OkE ca E X (.UnaryOp .USub a pos) (e1 gNeg fa) := by
  obtain ⟨ta, pa, qa⟩ := ha
  refine ⟨_, pe_un un_neg pa, e1_ok (k := fun v H Q => rU (fun i => .int (-i)) v H Q) qa fun d v Hi H Q r s h => ?_⟩
  cases r with
  | int i => exact ⟨i, rfl, h _ _ _ (.refl s) (.int _)⟩
  | _ => exact PV.no h
def leI (i j : Int) : Bool := decide (i ≤ j)
def gtI (i j : Int) : Bool := decide (j < i)
def geI (i j : Int) : Bool := decide (j ≤ i)
theorem xLe : OpR X (compareOp .LtE) (rI0 fun i j => .bl (leI i j)) := op_le
theorem xGt : OpR X (compareOp .Gt) (rI0 fun i j => .bl (gtI i j)) := op_gt
theorem xGe : OpR X (compareOp .GtE) (rI0 fun i j => .bl (geI i j)) := op_ge
/-- an own exception class -/
structure ExC (K : PySem.W.Frag) (mg : Str → Option Value) (x : Str) (C : Addr) : Prop where
  q : PySem.W.excIn K C He.veBase "ValueError.__new__" = true
  gC : mg x = some (.ref C)
  kC : PySem.W.keepIn K (.ref C) = true
  s1 : PySem.W.subIn K (.ref C) (.type "BaseException") = some true
  s2 : PySem.W.typeIn K (.ref C) = some (.type "type")
theorem xRaise {W : WX} {cn : Nat} {x m : Str} {j : Nat} {p2 p3 : Pos} (C : ExC X.K X.mg x (ca cn)) (hc : X.calm = true) (tk : L2N.Takes X W) (hW : ∀ cls d σ H, E cls d H → W cls d σ H := by exact fun _ _ _ _ h => h) (hg : Gl X x := by rfl) (hdb : (x == ("__debug__" : Str)) = false := by decide) :
    OkS ca E X (.Raise (some (.Call (.Name x p) [.Constant (.str m) j p2] [] p3)) none pos) (sRaise cn) :=
  okS_raise hc tk hW (L2N.pmk_own PySem.F.excBase_ValueError C.q C.gC C.kC (raises_own C.s1 C.s2) hg hdb)
end
end PD
/-! text P24 -/
set_option maxHeartbeats 5000000
namespace PD
open PySem.Spec PySem PyProof.Rows L2

/-! ### the class with its own __init__ -/
section
variable {X : Cx} {e : Expr} {es : List Expr} {ta : TA} {p pos : Pos}
/-- the heap when type.__call__ has laid the arguments and the exception -/
abbrev laidX (hp : Heap) (C : Addr) (us : List Value) : Heap := (hp.push (PySem.W.kdv_tup us)).push (PySem.HandSPX.excO C hp.objs.size)
theorem laidX_old {hp : Heap} {C : Addr} {us : List Value} {b : Addr} {o : Obj} (g : hp.get? b = some o) : (laidX hp C us).get? b = some o := Heap.get?_push_of_some _ (Heap.get?_push_of_some _ g)
/-- C(e, ..), C with its own __init__; the context of what is made is None -/
theorem pmk_oexN {CX : CXT} {x : Str} {C fI : Addr} {k : Nat} {fd : FuncData} {ps : List Str} {sp : Sp} {ds : List Value} {dvs : List V} (T : OexC X.K C) (iC : PySem.W.findIn X.K (.ref C) "__init__" = some (some (.ref fI))) (tI : PySem.W.typeIn X.K (.ref fI) = some (.type "function"))
    (F1 : FnOk X.prog X.w X.K X.mg X.base CX k fI fd ps sp) (room : Room (k + 1) X.A) (bd : Binds X.K fd ps ds) (rd : Vals dvs ds) (never : Passes CX X (fun _ _ _ => False)) (hg : Gl X x) (hm : X.mg x = some (.ref C)) (ha : PA X (e :: es) ta)
    (db : (x == ("__debug__" : Str)) = false := by decide) (first : starEach (e :: es) X.env = (false, eval e X.env) :: starEach es X.env := by rfl) (plain : (backTo pos (starEach es X.env)).any (·.1) = false := by rfl) :
    L2N.PMk X (.Call (.Name x p) (e :: es) [] pos) (tMkO C sp dvs ta) := fun pins z σ G W I ask => by
  obtain ⟨_, _, _, _, bm, _, _, _, _, _, _, _, _, _, _, own, tail⟩ := T.cls
  refine wpAny_Call_Name_kw (ld_glob I hg hm (PySem.W.callWith_K (h₀ := X.base) I.ok.mod.kin T.kC (thn (ha.run pos pins z σ G _ I ask) fun us z1 ⟨vs, G1, I1, rv, few, want⟩ => ⟨I1.kIn, show wpAny _ _ (call (.ref C) us) _ _ _ from ?_⟩) first plain) db)
  obtain ⟨hp, gs, dr, tks, oss⟩ := z1
  have le : hp.objs.size ≤ hp.objs.size + 1 := Nat.le_add_right _ 1
  have ask1 := want (hp.objs.size + 1) (I1.hok.fresh le)
  have J : Inv X pins σ (upd G1 (hp.objs.size + 1) (exo (hp.objs.size + 1) C none)) ⟨laidX hp C us, gs, dr, tks, oss⟩ := I1.laid (t' := tks) (fun _ _ => laidX_old) le (exo_ok (show (laidX hp C us).get? (hp.objs.size + 1) = some (PySem.HandSPX.excO C hp.objs.size) by heap_get))
  have vals : Vals (V.ref (hp.objs.size + 1) :: (vs ++ dvs)) (Value.ref (hp.objs.size + 1) :: us ++ ds) := .cons rfl (rv.append rd)
  have nus : us.length ≤ sizeLine := by
    have e1 := Paired.length rv
    rw [sizeLine_eq]
    omega
  refine wpAny_call (PySem.HandSPX.call_own F.excBase_ValueError (fun Y => PySem.HandSPX.refsVE_contains Y bm tail) (I1.kIn _ _ own) (PySem.W.looks_findIn I1.kIn iC) (fun self => PySem.W.bind_fn I1.kIn self tI) nus (codeAny_mono
    (F1.run _ X.stack _ _ ⟨Value.ref (hp.objs.size + 1) :: us, []⟩ _ _ _ (fun _ _ _ => False) (room.make C us []) (J.env0.make C us []) (bd _ (Value.ref (hp.objs.size + 1) :: us) J.kIn (by rw [← vals.length, F1.len _ _ _ _ ask1])) vals ask1) fun res z2 out => ?_))
  match res, out with
  | .error er, out => exact never pins σ _ _ er z2 J out
  | .ok (.ret u), ⟨v, G2, o2, bare, un, ok2, ru, ⟨ev, d, fs, ea, ed, nd, fin⟩⟩ =>
    rw [ev] at ru
    cases ru
    obtain ⟨h2, gs2, dr2, tk2, os2⟩ := z2
    obtain ⟨t0, hI, J2, sub, gone, at2, na⟩ := mk_end0 (d2 := dr2) (t2 := tk2) I1 le (fun _ _ => laidX_old) un ok2 o2 bare ea ed nd
    exact ⟨rfl, hp.objs.size + 1, _, _, ⟨hI, gs2, dr2, tk2, os2⟩, _, .ref C, some d, rfl, J2, sub, gone, at2, ⟨rfl, rfl, fun _ q => by cases q; rfl⟩, rfl, rfl, na, rfl, bare, raises_own T.exC T.tyC, fin⟩
end
def spTM (C : Addr) : Sp := fun vs H Q _ => ∃ a v, vs = [.ref a, v] ∧ H a = some (exo a C none) ∧ ∀ dx fs, H dx = none → dx ≠ a → Q .non (upd (upd H dx (exd dx fs)) a (exo a C (some dx)))
def TMk (ca : Nat → Addr) (P : Program) (w : World) (K : PySem.W.Frag) (mg : Str → Option Value) (base : Heap) : Prop :=
  mg "TooMany" = some (.ref (ca 10)) ∧ OexC K (ca 10) ∧ ∃ fI fd ps, PySem.W.findIn K (.ref (ca 10)) "__init__" = some (some (.ref fI)) ∧ PySem.W.typeIn K (.ref fI) = some (.type "function") ∧ FnOk P w K mg base (L2N.CX P w) 1 fI fd ps (spTM (ca 10)) ∧ Binds K fd ps []
def sRaiseE (c : Nat) (f : Ev → R PyData) : Ev → Out := fun env => thenV (f env) fun _ => .exc c
section
variable {ca : Nat → Addr} {E : XK} {X : Cx} {pos : Pos}
theorem raiseTM {k : Nat} {W : WX} {a : Expr} {fa : Ev → R PyData} {p p3 : Pos} (M : TMk ca X.prog X.w X.K X.mg X.base) (hr : Room k X.A) (hc : X.calm = true) (tk : L2N.Takes X W) (ha : OkE ca E X a fa) (hW : ∀ cls d σ H, E cls d H → W cls d σ H := by exact fun _ _ _ _ h => h) (hk : Nat.ble 2 k = true := by rfl) (hg : Gl X "TooMany" := by rfl)
    (he : starEach [a] X.env = (false, eval a X.env) :: starEach [] X.env := by rfl) :
    OkS ca E X (.Raise (some (.Call (.Name "TooMany" p) [a] [] p3)) none pos) (sRaiseE 10 fa) := by
  obtain ⟨hm, T, fI, fd, ps, iC, tI, F1, hb⟩ := M
  obtain ⟨t, pt, q⟩ := ha
  refine ⟨_, L2N.ps_raise hc tk (pmk_oexN T iC tI F1 (hr.mono (Nat.le_of_ble_eq_true hk)) hb .nil passN hg hm (pa_cons pt pa_nil he) (by decide) he rfl), fun Hi0 He env σ Hi H D S x h => q He env σ Hi H _ S x.le ?_⟩
  have h1 := PO.thenV x h
  cases e : fa env with
  | stuck => rw [e] at h1; exact h1
  | exc c => rw [e] at h1; exact h1
  | ok d =>
    rw [e] at h1
    intro v Hi1 H1 x1 r1
    obtain ⟨d', Hi', e', x1, x2, r1, h2⟩ := h1 v Hi1 H1 x1 r1
    cases e'
    refine ⟨by show 1 ≤ 1000; decide, fun ad hn => ⟨ad, v, rfl, upd_same, fun dx fs hd hne => ⟨rfl, dx, fs, upd_same, ?_, ?_, ?_⟩⟩⟩
    · rw [upd_ne hne, upd_same]
    · rw [upd_ne hne] at hd
      exact hd
    · rw [upd_ne hne] at hd
      refine hW _ _ _ _ (h2 Hi' _ (some dx) (x2.on ?_))
      have e1 : ∀ b, b ≠ dx → upd (del (upd (upd (upd H1 ad (exo ad (ca 10) none)) dx (exd dx fs)) ad (exo ad (ca 10) (some dx))) ad) dx (.xd fs) b = H1 b := fun b hb => by
        rw [upd_ne hb]
        by_cases hba : b = ad
        · subst hba
          rw [del_same, hn]
        · rw [del_ne hba, upd_ne hba, upd_ne hb, upd_ne hba]
      refine ⟨.refl _, fun b o e => ?_, fun b o e => ?_, fun _ _ e => .inl e⟩
      · rw [e1 b (ne_of_none e hd)]
        exact e
      · rw [e1 b (ne_of_none (x1.le b o e) hd)]
        exact x1.le b o e
end

/-! ### tables -/
mutual
def pdEq : PyData → PyData → Bool
  | .none, .none => true
  | .bool a, .bool b => a == b
  | .int a, .int b => decide (a = b)
  | .list xs, .list ys => pdEqs xs ys
  | .tuple xs, .tuple ys => pdEqs xs ys
  | _, _ => false
def pdEqs : List PyData → List PyData → Bool
  | [], [] => true
  | x :: xs, y :: ys => match pdEq x y with
    | true => pdEqs xs ys
    | false => false
  | _, _ => false
end
mutual
theorem pdEq_ok : ∀ x y : PyData, pdEq x y = true → x = y
  | .none, y, h => by cases y <;> simp [pdEq] at h ⊢
  | .bool a, y, h => by cases y <;> simp [pdEq] at h ⊢; exact h
  | .int a, y, h => by cases y <;> simp [pdEq] at h ⊢; exact h
  | .str a, y, h => by cases y <;> simp [pdEq] at h ⊢
  | .dict a, y, h => by cases y <;> simp [pdEq] at h ⊢
  | .list xs, y, h => by
    cases y with
    | list ys =>
      simp only [pdEq] at h
      rw [pdEqs_ok xs ys h]
    | _ => simp [pdEq] at h
  | .tuple xs, y, h => by
    cases y with
    | tuple ys =>
      simp only [pdEq] at h
      rw [pdEqs_ok xs ys h]
    | _ => simp [pdEq] at h
theorem pdEqs_ok : ∀ xs ys : List PyData, pdEqs xs ys = true → xs = ys
  | [], [], _ => rfl
  | x :: xs, y :: ys, h => by
    simp only [pdEqs] at h
    split at h
    · rename_i e
      rw [pdEq_ok x y e, pdEqs_ok xs ys h]
    · cases h
  | [], _ :: _, h => by simp [pdEqs] at h
  | _ :: _, [], h => by simp [pdEqs] at h
end
/-! data, dicts too (the results) -/
mutual
def pdSame : PyData → PyData → Bool
  | .none, .none => true
  | .bool a, .bool b => a == b
  | .int a, .int b => decide (a = b)
  | .list xs, .list ys => pdSames xs ys
  | .tuple xs, .tuple ys => pdSames xs ys
  | .dict xs, .dict ys => pdSameK xs ys
  | _, _ => false
def pdSames : List PyData → List PyData → Bool
  | [], [] => true
  | x :: xs, y :: ys => match pdSame x y with
    | true => pdSames xs ys
    | false => false
  | _, _ => false
def pdSameK : List (PyData × PyData) → List (PyData × PyData) → Bool
  | [], [] => true
  | (k, x) :: xs, (l, y) :: ys => match pdSame k l && pdSame x y with
    | true => pdSameK xs ys
    | false => false
  | _, _ => false
end
mutual
theorem pdSame_ok : ∀ x y : PyData, pdSame x y = true → x = y
  | .none, y, h => by cases y <;> simp [pdSame] at h ⊢
  | .bool a, y, h => by cases y <;> simp [pdSame] at h ⊢; exact h
  | .int a, y, h => by cases y <;> simp [pdSame] at h ⊢; exact h
  | .str a, y, h => by cases y <;> simp [pdSame] at h ⊢
  | .dict xs, y, h => by
    cases y with
    | dict ys =>
      simp only [pdSame] at h
      rw [pdSameK_ok xs ys h]
    | _ => simp [pdSame] at h
  | .list xs, y, h => by
    cases y with
    | list ys =>
      simp only [pdSame] at h
      rw [pdSames_ok xs ys h]
    | _ => simp [pdSame] at h
  | .tuple xs, y, h => by
    cases y with
    | tuple ys =>
      simp only [pdSame] at h
      rw [pdSames_ok xs ys h]
    | _ => simp [pdSame] at h
theorem pdSames_ok : ∀ xs ys : List PyData, pdSames xs ys = true → xs = ys
  | [], [], _ => rfl
  | x :: xs, y :: ys, h => by
    simp only [pdSames] at h
    split at h
    · rename_i e
      rw [pdSame_ok x y e, pdSames_ok xs ys h]
    · cases h
  | [], _ :: _, h => by simp [pdSames] at h
  | _ :: _, [], h => by simp [pdSames] at h
theorem pdSameK_ok : ∀ xs ys : List (PyData × PyData), pdSameK xs ys = true → xs = ys
  | [], [], _ => rfl
  | (k, x) :: xs, (l, y) :: ys, h => by
    simp only [pdSameK] at h
    split at h
    · rename_i e
      obtain ⟨e1, e2⟩ := Bool.and_eq_true_iff.mp e
      rw [pdSame_ok k l e1, pdSame_ok x y e2, pdSameK_ok xs ys h]
    · cases h
  | [], _ :: _, h => by simp [pdSameK] at h
  | _ :: _, [], h => by simp [pdSameK] at h
end
def okIs (r : R PyData) (d : PyData) : Bool := match r with
  | .ok e => pdSame e d
  | _ => false
theorem okIs_ok {r : R PyData} {d : PyData} (h : okIs r d = true) : r = .ok d := by
  cases r with
  | ok e =>
    have h' : pdSame e d = true := h
    rw [pdSame_ok e d h']
  | stuck => cases h
  | exc c => cases h
def rlook (l : List (List PyData × PyData)) (ds : List PyData) : Option PyData := match l with
  | [] => none
  | (a, d) :: r => match pdEqs a ds with
    | true => some d
    | false => rlook r ds
def tlook (tab : List (PyData × List (List PyData × PyData))) (x : PyData) (ds : List PyData) : Option PyData := match tab with
  | [] => none
  | (a, l) :: r => match pdEq a x with
    | true => rlook l ds
    | false => tlook r x ds
/-- looked up, else computed -/
def tabF (tab : List (PyData × List (List PyData × PyData))) (F : List PyData → R PyData) : List PyData → R PyData := fun ds => match ds with
  | x :: r => match tlook tab x r with
    | some d => .ok d
    | none => F (x :: r)
  | [] => F []
def rowOk (x : PyData) (l : List (List PyData × PyData)) (F : List PyData → R PyData) : Bool := match l with
  | [] => true
  | (a, d) :: r => match okIs (F (x :: a)) d with
    | true => rowOk x r F
    | false => false
def tabOk (tab : List (PyData × List (List PyData × PyData))) (F : List PyData → R PyData) : Bool := match tab with
  | [] => true
  | (x, l) :: r => match rowOk x l F with
    | true => tabOk r F
    | false => false
theorem rlook_ok {F : List PyData → R PyData} {x : PyData} : ∀ {l : List (List PyData × PyData)} {ds : List PyData} {d : PyData}, rowOk x l F = true → rlook l ds = some d → F (x :: ds) = .ok d
  | [], ds, d, _, h => by cases h
  | (a, e) :: r, ds, d, hk, h => by
    unfold rowOk at hk
    split at hk
    · rename_i e1
      unfold rlook at h
      split at h
      · rename_i e2
        cases h
        rw [← pdEqs_ok a ds e2]
        exact okIs_ok e1
      · exact rlook_ok hk h
    · cases hk
theorem tlook_ok {F : List PyData → R PyData} : ∀ {tab : List (PyData × List (List PyData × PyData))} {x : PyData} {ds : List PyData} {d : PyData}, tabOk tab F = true → tlook tab x ds = some d → F (x :: ds) = .ok d
  | [], x, ds, d, _, h => by cases h
  | (a, l) :: r, x, ds, d, hk, h => by
    unfold tabOk at hk
    split at hk
    · rename_i e1
      unfold tlook at h
      split at h
      · rename_i e2
        rw [← pdEq_ok a x e2]
        exact rlook_ok e1 h
      · exact tlook_ok hk h
    · cases hk
theorem tabF_eq {F : List PyData → R PyData} {tab : List (PyData × List (List PyData × PyData))} (h : tabOk tab F = true) : ∀ ds, tabF tab F ds = F ds
  | [] => rfl
  | x :: r => by
    unfold tabF
    dsimp only
    split
    · rename_i d e
      exact (tlook_ok h e).symm
    · rfl
theorem tabOk_app {F : List PyData → R PyData} {t u : List (PyData × List (List PyData × PyData))} (h : tabOk t F = true) (k : tabOk u F = true) : tabOk (t ++ u) F = true := by
  induction t with
  | nil => exact k
  | cons p r ih =>
    obtain ⟨x, l⟩ := p
    unfold tabOk at h
    rw [List.cons_append]
    unfold tabOk
    split at h
    · exact ih h
    · cases h
end PD
/-! text XT -/
set_option maxHeartbeats 0
namespace PD
open PySem.Spec PySem PyProof.Rows L2
def top (i : Nat) : Stmt := PySem.Challenge.pw_eightworlds_k60_whole_rounds_and_all_tha.main.body.getD i (.Pass ⟨0, 0, 0, 0⟩)
abbrev FnP (K : PySem.W.Frag) (x : Str) (st : Stmt) (f : Addr) (fd : FuncData) : Prop := FunD K x x (defArgs st) (defBody st) (defScope st) [] [] f fd
end PD
/-! text TM -/
set_option maxHeartbeats 5000000
namespace PD
open PySem.Spec PySem PyProof.Rows L2

/-! ### TooMany.__init__ -/
abbrev posTM (i j k l : Nat) : Pos := ⟨i, j, k, l⟩
def callTM : Expr := .Call (.Attribute (.Call (.Name "super" ⟨25, 8, 25, 13⟩) [] [] ⟨25, 8, 25, 15⟩) "__init__" ⟨25, 8, 25, 24⟩) [.Constant (.str "too many") 0 ⟨25, 25, 25, 35⟩] [] ⟨25, 8, 25, 36⟩
def setTM : Stmt := .Assign [.Attribute (.Name "self" ⟨26, 8, 26, 12⟩) "limit" ⟨26, 8, 26, 18⟩] (.Name "limit" ⟨26, 21, 26, 26⟩) ⟨26, 8, 26, 26⟩
def bodyTM : List Stmt := [.Expr callTM ⟨25, 8, 25, 36⟩, setTM]
def scTM : Scope := { kind := .function, names := [("self", .local), ("limit", .local), ("__class__", .free), ("super", .globalImplicit)], isGenerator := false, isCoroutine := false, more := [] }
def argTM : Arguments := { posonlyargs := [], args := [{ arg := "self", annotation := none, pos := ⟨24, 17, 24, 21⟩ }, { arg := "limit", annotation := none, pos := ⟨24, 23, 24, 28⟩ }], vararg := none, kwonlyargs := [], kw_defaults := [], kwarg := none, defaults := [] }
def qTM : Str := "TooMany.__init__"
abbrev envTM (L a : Addr) (cd : Value) (cc : Addr) : Env := PySem.W.ksEnv qTM scTM L a cd cc
def cxTM (P : Program) (w : World) (K : PySem.W.Frag) (mg : Str → Option Value) (base : Heap) (f : Addr) (cd : Value) (cc : Addr) (A : Around) (outer : List Env) (s : Shared) (H : Hp) (xe : Value → Shared → Prop) : Cx where
  prog := P
  w := w
  K := K
  mg := mg
  base := base
  A := A.deeper (envTM s.heap.objs.size f cd cc)
  N := ["self", "limit"]
  s_0 := s
  H_0 := H
  env := envTM s.heap.objs.size f cd cc
  outer := outer
  stack := envTM s.heap.objs.size f cd cc :: outer
  ex := []
  calm := true
  fn := fun _ => false
  pn := []
  xe := xe
theorem look1 {x k : Str} {v c : Addr} (h : ([(k, v)] : List (Str × Addr)).lookup x = some c) : x = k ∧ c = v := by
  have h2 : (match x == k with | true => some v | false => none) = some c := h
  cases q : x == k with
  | true =>
    rw [q] at h2
    exact ⟨eq_of_beq q, (Option.some.inj h2).symm⟩
  | false =>
    rw [q] at h2
    cases h2
section
variable {P : Program} {w : World} {K : PySem.W.Frag} {mg : Str → Option Value} {base : Heap} {f : Addr} {cd : Value} {cc : Addr} {A : Around} {outer : List Env} {s : Shared} {H : Hp} {xe : Value → Shared → Prop}
theorem tm_start {h₁ : Heap} {tk : Nat} {x y : V} {u v : Value} {oc : Obj} {cv : Option Value} (hd : A.handled = none) (e0 : Env0 P w K mg base A outer s H) (ru : RelV x u) (rv : RelV y v) (hc : K.lookup cc = some oc) (hcv : oc.data = .cell cv)
    (hns : h₁.Ns s.heap.objs.size fun z => ([("self", u), ("limit", v)] : List (Str × Value)).reverse.lookup z) (kp : ∀ b o, s.heap.get? b = some o → h₁.get? b = some o) :
    Inv (cxTM P w K mg base f cd cc A outer s H xe) [] [some x, some y] H { s with heap := h₁, toks := tk } := by
  have noA : ∀ b : Addr, b ∉ (cxTM P w K mg base f cd cc A outer s H xe).ex := fun b z => absurd (show b ∈ ([] : List Addr) from z) (by simp)
  have hb : base.get? cc = some oc := e0.mod.kin _ _ hc
  have cl : ∀ {z : Str} {c : Addr}, (cxTM P w K mg base f cd cc A outer s H xe).env.cells.lookup z = some c → z = "__class__" ∧ c = cc := fun {z c} e => look1 e
  refine ⟨⟨e0.mod, rfl, rfl, rfl, Nat.le_refl _, fun z z' c e1 e2 => (cl e1).1.trans (cl e2).1.symm, fun z hz => ?_, fun z c z' _ => ?_, fun _ => hd, Around.frames_deeper e0.frames, .inr ⟨rfl, rfl⟩, fun b z => absurd z (noA b), e0.bs, e0.bsz, fun b _ _ => noA b,
      fun b z => absurd z (noA b), e0.funs, e0.frf⟩,
    rfl, e0.bare, Un.kept kp, ⟨_, hns, fun i z v' e1 e2 e3 => ?_⟩, fun z c e => ?_, e0.hok.fresh (Nat.le_refl _), fun z c e => ?_, fun q hq => absurd (show q ∈ ([] : List (Addr × Obj)) ++ [] from hq) (by simp), e0.hok.kept kp, rfl⟩
  · have hz : scTM.names.lookup z = some .cell ∨ scTM.names.lookup z = some .free := hz
    have hm : (z, NameKind.cell) ∈ scTM.names ∨ (z, NameKind.free) ∈ scTM.names := hz.imp PySem.mem_of_lookup PySem.mem_of_lookup
    have e : z = "__class__" := by
      rcases hm with hm | hm <;> simp [scTM] at hm
      exact hm
    subst e
    exact ⟨cc, rfl⟩
  · cases z'
  · match i, e1, e2 with
    | 0, e1, e2 =>
      cases e1
      cases e2
      exact ⟨u, ru, .inl ⟨rfl, rfl⟩⟩
    | 1, e1, e2 =>
      cases e1
      cases e2
      exact ⟨v, rv, .inl ⟨rfl, rfl⟩⟩
    | n + 2, e1, e2 => cases e1
  · obtain ⟨_, rfl⟩ := cl e
    exact ⟨cv, oc, kp _ _ (e0.bs _ _ hb).1, hcv⟩
  · obtain ⟨_, rfl⟩ := cl e
    exact (e0.bs _ _ hb).2
end
section
open PySem.W PySem.Calls
variable {prog : Program} {w : World} {A : Around} {E : Value → Shared → Prop} {h : Heap} {g : Array GenState} {d : Drawn} {t : Nat} {os : OsState}
/-- the bound ValueError.__init__ called -/
theorem call_mwV {C u e t0 : Addr} {nm q : Str} {N : Addr} {bs bm : List Value} {hdct : Bool} {sn : List Str} {sub : List Value} {ab : Bool} {col : Option Bool} {dd : Option Addr} {k0 k1 k2 k3 k5 : Option Value} {us : List Value} {Q : Value → Shared → Prop}
    (hC : h.get? C = some (excClassObj nm q C N bs bm hdct sn sub ab col dd k0 k1 k2 k3 k5 "ValueError.__new__")) (he : h.get? e = some (PySem.HandSPX.excO C t0)) (hu : h.get? u = some (kxs_mw "ValueError.__init__" e)) (hz : us.length ≤ sizeLine)
    (hq : ∀ h' t1, (∀ b o, b ≠ e → h.get? b = some o → h'.get? b = some o) → h'.get? e = some (PySem.HandSPX.excO C t1) → Q .none ⟨h', g, d, t, os⟩) : wpAny (model prog w) A (call (.ref u) us) Q E ⟨h, g, d, t, os⟩ := by
  have b1 : (Value.type "method-wrapper" == Value.type "method" || Value.type "method-wrapper" == Value.type "builtin_function_or_method" || Value.type "method-wrapper" == Value.type "method-wrapper") = true := by decide
  refine wpAny_call (codeAny_of_tree (show wpAny _ A.in1 (callAny (.ref u) ⟨us, []⟩) _ _ _ from ?_))
  simp only [callAny]
  refine wpAny_bind (wpAny_load hu ?_)
  simp only [kxs_mw, b1, if_true]
  refine KFB.if_so (by decide) (wpAny_bind (check_bound_init PySem.F.excBase_ValueError.toExcCallFacts hC he rfl (wpAny_bind (wpAny_pure (wpAny_pure ?_)))))
  exact ⟨plainId_quiet PySem.F.excBase_ValueError.init.plain _, codeAny_builtin PySem.F.excBase_ValueError.initEntry (exc_init_tree (cls := .ref C) (t0 := t0) (dv := none) (c2 := .none) (c3 := .none) (b4 := .bool false) he hz fun h' k e' _ => hq h' _ k e')⟩
end
end PD
/-! text TM2 -/
set_option maxHeartbeats 5000000
namespace PD
open PySem.Spec PySem PyProof.Rows L2
/-- what the written part says of TooMany's __init__ -/
structure TmK (P : Program) (K : PySem.W.Frag) (mg : Str → Option Value) (f C cc : Addr) (fd : FuncData) : Prop where
  T : OexC K C
  fn : ∃ oc od osl dV kV doc pm an cdv ct cda, fd = PySem.W.fnX "__init__" qTM argTM bodyTM scTM [("__class__", cc)] dV kV doc pm an cdv ct ∧ K.lookup f = some ⟨oc, od, .func fd, osl⟩ ∧ PySem.W.codeIn K cdv qTM = true ∧ cdv = .ref cda ∧
    ∃ ccl cdd vs ccs file tf, K.lookup cda = some ⟨ccl, cdd, .fields vs, ccs⟩ ∧ vs[2]? = some (.str file tf) ∧ ((P.main.file : Str) == file) = true
  cell : ∃ cl cld csl, K.lookup cc = some ⟨cl, cld, .cell (some (.ref C)), csl⟩
  gsup : mg "super" = none
  top : (P.main.scope.names.lookup ("super" : Str)).isSome = false
  look : PySem.W.ks_superIn K C C "__init__" = some (some (.builtin "ValueError.__init__"))
  third : PySem.W.nsIn K cStatics "thirdparty.any" = some none
  isV : PySem.W.subIn K (.ref C) (.type "ValueError") = some true
  isC : PySem.W.mroIn K C (.ref C) = some true
  noL : PySem.W.findIn K (.ref C) "limit" = some none
section
variable {P : Program} {w : World} {K : PySem.W.Frag} {mg : Str → Option Value} {base : Heap} {f C cc : Addr} {fd : FuncData}
open PySem.W PySem.Calls in
theorem tm_ok (M : TmK P K mg f C cc fd) : FnOk P w K mg base (L2N.CX P w) 1 f fd ["self", "limit"] (spTM C) := by
  obtain ⟨T, ⟨oc, od, osl, dV, kV, doc, pm, an, cdv, ct, cda, rfl, lk, hcd, rfl, ccl, cdd, vs2, ccs, file, tf, lkc, hv2, hfile⟩, ⟨cl, cld, csl, lkl⟩, gsup, htop, hlook, hthird, hV, hCC, hno⟩ := M
  refine ⟨fun vs H Q E ⟨a, v, e, _⟩ => by rw [e]; rfl, fun A outer s H args us vs Q E hr e0 hb r hsp => ?_⟩
  obtain ⟨a, v, rfl, ha, hq⟩ := hsp
  obtain ⟨u0, u1, rfl, r0, r1⟩ := vals2 r
  obtain rfl : u0 = Value.ref a := r0
  have bk : ∀ b o, base.get? b = some o → s.heap.get? b = some o := fun b o e => (e0.bs b o e).1
  have KX : K.In s.heap := e0.mod.kin.keeps bk
  refine ks_codeAny_call_defAt (fd := fnX "__init__" qTM argTM bodyTM scTM [("__class__", cc)] dV kV doc pm an (.ref cda) ct) (body := bodyTM) (binds := [("self", .ref a), ("limit", u1)]) hr.depth (KX _ _ lk) rfl (e0.mod.nolimit.keeps bk) (codeRec_of KX hcd) rfl hb
    (show ∀ x ∈ scTM.names, x.2 ≠ .cell by decide) (fun x hx => ?ml) (fun h₁ hns kp => ?_) rfl rfl rfl
  case ml =>
    rcases List.mem_cons.mp hx with e | hx
    · subst e
      rfl
    · cases List.mem_singleton.mp hx
      rfl
  let X : Cx := cxTM P w K mg base f (.ref cda) cc A outer s H (fun _ _ => False)
  let D : Ends := { nx := fun _ H' => Q .non H', rt := Q }
  have I : Inv X [] [some (.ref a), some v] H { s with heap := h₁, toks := s.toks + 2 } := tm_start hr.hd e0 (show RelV (.ref a) (.ref a) from rfl) r1 lkl rfl hns kp
  refine ks_wpAt_mono (Q := SP X [] D) (E := fun _ _ => False) ?ma (fun fl s' hs => ?mb) (fun _ _ z => z.elim)
  case mb =>
    have fin : ∀ {σ' : L2.St} {H' : Hp} {v : V} {u : Value}, Inv X [] σ' H' s' → RelV v u → Q v H' → CE outer P w H s Q u s' := fun {σ' H' v u} J rv z => ⟨v, H', J.os, J.bare, J.base, J.hok, rv, z⟩
    cases fl with
    | ret u =>
      obtain ⟨y, σ', H', J, rv, z⟩ := hs
      exact fin J rv z
    | next =>
      obtain ⟨σ', H', J, z⟩ := hs
      exact fin (v := V.non) (u := Value.none) J rfl z
    | brk => exact hs.elim fun _ y => y.elim fun _ z => z.2.elim
    | cont => exact hs.elim fun _ y => y.elim fun _ z => z.2.elim
  show PySem.wpAt (model P w) X.A (.func bodyTM X.env) (execs bodyTM X.env) _ _ _
  refine ks_wpAt_execs_cons (ks_wpAt_Expr_any (ks_wpAt_MethodCall ?_))
  obtain ⟨nm, q, N, bs, bm, sn, sub, ab, col, dd, k0, k1, k2, k3, k5, hC, hbm⟩ := id T.cls
  have kI : K.In h₁ := I.kIn
  have hcl : clsIn K C = some { name := nm, bases := bs, mro := .ref C :: bm, ns := N, qualname := q, hasDict := true, slotNames := sn, subclasses := sub, abstract := ab, collection := col, hasDel := false } := by unfold clsIn; rw [hC] <;> rfl
  obtain ⟨t1, hoe⟩ := exo_at I.hok ha
  obtain ⟨mb, hmb, hbb⟩ := I.ok.mod.blt
  refine ks_wpAt_super_base (env := X.env) rfl rfl (by decide) rfl (kI _ _ lk) rfl rfl rfl (kI _ _ lkc) rfl hv2 hfile htop ?_
  refine ks_loadName_global rfl rfl (loadGlobal_builtin (env := X.env) (I.ok.mod.glob.keeps I.bk) gsup (hmb.keeps I.bk) ((hbb "super" (by decide)).trans (by kernel_rfl)) ⟨rfl, ?_⟩)
  refine wpAny_loadName_free rfl rfl rfl ⟨_, kI _ _ lkl, rfl⟩ ?_
  refine wpAny_loadName_local rfl rfl hns rfl ?_
  refine ks_wpAny_isType_cls (kI _ _ hC) rfl ⟨rfl, ?_⟩
  refine ks_wpAny_call_super (kI _ _ hC) rfl hoe rfl (fun c e => by cases e) (looks_mroIn kI hCC) (fun h' e k => ?_)
  have I2 : Inv X [] [some (.ref a), some v] H { s with heap := h', toks := s.toks + 2 } := I.kept k
  have kI2 : K.In h' := I2.kIn
  have IA : InstAt h' a _ C none := ⟨k _ _ hoe, rfl, rfl, trivial⟩
  have hl2 := hlook
  unfold ks_superIn at hl2
  rw [hcl] at hl2
  refine kxs_getMethod kxs_ValueError e (looks_opaque kI2 hthird) (l₀ := .ref C :: bm) (fun A Q E s k q => wpAny_bind ((looks_clsIn kI2 hcl) A _ E s k (wpAny_pure q))) rfl kI2 hl2 (IA.type.andThen (looks_subIn kI2 hV)) (ks_ne kI2 IA hcl) (by decide) ?_
  have hu : (h'.push (kxs_mw "ValueError.__init__" a)).get? h'.objs.size = some (kxs_mw "ValueError.__init__" a) := Heap.get?_push_at rfl rfl
  have I3 : Inv X [(h'.objs.size, kxs_mw "ValueError.__init__" a)] [some (.ref a), some v] H { s with heap := h'.push (kxs_mw "ValueError.__init__" a), toks := s.toks + 2 + 1 } := (I2.kept (t' := s.toks + 2 + 1) fun b o z => Heap.get?_push_of_some _ z).pins_of fun p hp => by
    cases List.mem_singleton.mp hp
    exact ⟨hu, I2.hok.fresh (Nat.le_refl _), Nat.ne_of_gt I2.lt, I2.nofs (Nat.le_refl _), fun v z => by cases z⟩
  have hpa : PA X [.Constant (.str "too many") 0 ⟨25, 25, 25, 35⟩] (tCons (tC (.str "too many")) tNil) := pa_cons pe_str pa_nil
  have he : starEach [.Constant (.str "too many") 0 ⟨25, 25, 25, 35⟩] X.env = (false, eval (.Constant (.str "too many") 0 ⟨25, 25, 25, 35⟩) X.env) :: starEach [] X.env := rfl
  have run := hpa.run ⟨25, 8, 25, 36⟩ _ _ _ H (fun vs H4 => H4 = H ∧ vs.length = 1) I3 ⟨rfl, rfl⟩
  rw [he] at run
  show wpAny (model P w) X.A (callWith ⟨25, 8, 25, 36⟩ (.ref h'.objs.size) [] (backTo ⟨25, 8, 25, 36⟩ (starEach [.Constant (.str "too many") 0 ⟨25, 25, 25, 35⟩] X.env)) []) _ _ _
  rw [he]
  refine kxs_callWith (i := "ValueError.__init__") (x := a) rfl (evalArgs_plain (thn run fun us4 s4 ⟨vs, H4, I4, r4, eH, hl4⟩ => ⟨(I4.pin _ (List.mem_append_right _ List.mem_cons_self)).1, ?_⟩))
  subst eH
  obtain ⟨t4, ho4⟩ := exo_at I4.hok ha
  have hu4 := (I4.pin _ (List.mem_append_right _ List.mem_cons_self)).1
  have hz4 : us4.length ≤ sizeLine := by
    rw [← r4.length, hl4]
    decide
  have kI4 := I4.kIn _ _ hC
  obtain ⟨hp4, g4, d4, tk4, os4⟩ := s4
  refine call_mwV kI4 ho4 hu4 hz4 fun h5 t5 k5' e5 => ?_
  have J := I4.write (t' := tk4) (x := a) (e := a) (o := exo a C none) (by rw [ha]; exact True.intro) (.inl rfl) k5' ⟨_, e5⟩ (exo_ok e5)
  have eu : upd H4 a (exo a C none) = H4 := by
    funext b
    by_cases hb : b = a
    · rw [hb, upd_same, ha]
    · rw [upd_ne hb]
  rw [eu] at J
  show PySem.wpAt (model P w) X.A _ (execs [setTM] X.env) (SP X [] D) _ _
  refine wpAt_of_wpAny (PSs.run (pss_one (ps_ost (pv 0) (pv 1))) [] _ _ H4 D (J.pins_of fun p hp => absurd hp (by simp)) ?_)
  exact ⟨v, rfl, .ref a, rfl, a, C, rfl, T, hno, .inl ⟨ha, fun dx n ne => hq dx [("limit", v)] n ne⟩⟩
end
end PD
/-! text HD1 -/
set_option maxHeartbeats 0
namespace PD
open PySem.Spec PySem PyProof.Rows L2

/-! ### what the head tells -/
def dfn (x : Str) (i : Nat) : He.DefD := ⟨(x, none), x, x, defArgs (top i), defBody (top i), defScope (top i), [], []⟩
def fnsA0 : List He.DefD := [dfn "is_whole" 14, dfn "are_next" 15, dfn "fits_cut" 16, dfn "cross" 17, dfn "rises" 18, dfn "fits_cutting" 19, dfn "all_ties" 20, dfn "near_of" 21, dfn "thirds_of" 22, dfn "need_cutting" 23, dfn "need_corner" 24, dfn "need_cut" 25, dfn "need_number" 26, dfn "need_few" 27, dfn "cut_for" 29, dfn "with_cut" 30, dfn "swapped_at" 31, dfn "way_to_fan" 32, dfn "comes_for" 33, dfn "exchanged" 34, dfn "fan_way" 35, dfn "way_steps" 38, dfn "type_is_whole" 39, dfn "leads_to" 40, dfn "steps_to_fan" 41, dfn "need_two" 42, dfn "need_way" 43, dfn "behind_way" 44, dfn "way_back" 45, dfn "far_from_fan" 46]
def fnsA1 : List He.DefD := [dfn "way_by_fan" 47, dfn "of_one_piece" 50, dfn "are_loose" 51, dfn "round_behind" 52, dfn "all_loose" 53, dfn "loose_between" 54, dfn "rounds_between" 55, dfn "exchanged_at_once" 56, dfn "most_at_once" 57, dfn "fewest_rounds" 58, dfn "cuts_of_both" 60, dfn "split_by" 61, dfn "fields_by" 62, dfn "fields_of" 63, dfn "piece_within" 64, dfn "shared_cuts" 65, dfn "nexts_of" 68, dfn "reach_from" 69, dfn "back_from" 70, dfn "pairs_within" 71, dfn "bringing" 72, dfn "way_in" 73, dfn "picks_of" 74, dfn "need_fields" 75, dfn "fewest_exchanges" 76, dfn "least_way" 77, dfn "is_least_way" 78, dfn "count_least_ways" 79, dfn "on_least_ways" 80, dfn "moved" 82]
def fnsA2 : List He.DefD := [dfn "turned" 83, dfn "mirrored" 84, dfn "fars_of" 87, dfn "layers" 88, dfn "_law_error" 90, dfn "_law_came" 91, dfn "_law_all_say" 92, dfn "_law_spring" 93, dfn "_law_pick" 94, dfn "_law_chosen" 95, dfn "_law_kind" 96, dfn "_law_twins" 97, dfn "_law_cuts_in" 98, dfn "_law_cutting" 99, dfn "_law_tied" 100, dfn "_law_thirds" 101, dfn "_law_flip" 102, dfn "_law_moved" 103, dfn "_law_known" 104, dfn "_law_bad_cuttings" 105, dfn "_law_rounds" 106, dfn "_law_of_one" 107, dfn "_law_few" 108, dfn "_law_agree" 109, dfn "_law_rounds_right" 110, dfn "_law_refused" 111, dfn "law" 112]
def fnsA : List He.DefD := fnsA0 ++ (fnsA1 ++ (fnsA2))
def fasA0 : List He.Fa := [.glo "is_whole", .glo "are_next", .glo "fits_cut", .glo "cross", .glo "rises", .glo "fits_cutting", .glo "all_ties", .glo "near_of", .glo "thirds_of", .glo "need_cutting", .glo "need_corner", .glo "need_cut", .glo "need_number", .glo "need_few", .glo "cut_for", .glo "with_cut", .glo "swapped_at", .glo "way_to_fan", .glo "comes_for", .glo "exchanged", .glo "fan_way", .glo "way_steps", .glo "type_is_whole", .glo "leads_to", .glo "steps_to_fan", .glo "need_two", .glo "need_way", .glo "behind_way", .glo "way_back", .glo "far_from_fan"]
def fasA1 : List He.Fa := [.glo "way_by_fan", .glo "of_one_piece", .glo "are_loose", .glo "round_behind", .glo "all_loose", .glo "loose_between", .glo "rounds_between", .glo "exchanged_at_once", .glo "most_at_once", .glo "fewest_rounds", .glo "cuts_of_both", .glo "split_by", .glo "fields_by", .glo "fields_of", .glo "piece_within", .glo "shared_cuts", .glo "nexts_of", .glo "reach_from", .glo "back_from", .glo "pairs_within", .glo "bringing", .glo "way_in", .glo "picks_of", .glo "need_fields", .glo "fewest_exchanges", .glo "least_way", .glo "is_least_way", .glo "count_least_ways", .glo "on_least_ways", .glo "moved"]
def fasA2 : List He.Fa := [.glo "turned", .glo "mirrored", .glo "fars_of", .glo "layers", .glo "_law_error", .glo "_law_came", .glo "_law_all_say", .glo "_law_spring", .glo "_law_pick", .glo "_law_chosen", .glo "_law_kind", .glo "_law_twins", .glo "_law_cuts_in", .glo "_law_cutting", .glo "_law_tied", .glo "_law_thirds", .glo "_law_flip", .glo "_law_moved", .glo "_law_known", .glo "_law_bad_cuttings", .glo "_law_rounds", .glo "_law_of_one", .glo "_law_few", .glo "_law_agree", .glo "_law_rounds_right", .glo "_law_refused", .glo "law", .glo "WorldError", .glo "InvalidCutting", .glo "InvalidCorner"]
def fasA3 : List He.Fa := [.glo "InvalidCut", .glo "InvalidCuts", .glo "InvalidSides", .glo "InvalidNumber", .glo "Unlike", .glo "InvalidWay", .glo "InvalidField", .glo "TooMany", .free "len", .free "all", .free "any", .free "sorted", .free "list", .free "tuple", .free "max", .free "min", .free "range", .free "zip", .free "enumerate", .free "isinstance", .free "int", .free "bool", .free "str", .free "abs", .free "ValueError", .free "super", .int "MOST" 40, .int "MOST_STEPS" 80, .int "MOST_ROUNDS" 7, .int "MOST_FIELD" 8]
def fasA4 : List He.Fa := [.int "MOST_LAYERS" 8, .exc "InvalidCutting", .exc "InvalidCorner", .exc "InvalidCut", .exc "InvalidCuts", .exc "InvalidNumber", .exc "Unlike", .exc "InvalidWay", .exm "InvalidCutting" "WorldError" true, .exm "Unlike" "WorldError" true, .exm "TooMany" "WorldError" true]
def fasA : List He.Fa := fasA0 ++ (fasA1 ++ (fasA2 ++ (fasA3 ++ (fasA4))))
abbrev dRef : He.Defn := ("_law_refused", none)
abbrev dIni : He.Defn := ("TooMany", some "__init__")
/-- TooMany's __init__ -/
abbrev InT : Type := Option (Str × Str × Arguments × FuncBody × Scope × Addr × List Str × Addr × Value)
def iniW (K : PySem.W.Frag) : InT := match K.lookup (He.fAd K dIni) with
  | some ⟨_, _, .func fd, _⟩ => some (fd.name, fd.qualname, fd.params, fd.body, fd.scope, fd.globals, fd.closure.map (·.1), fd.builtins, fd.defaults)
  | _ => none
def iniV : InT := some ("__init__", qTM, argTM, .stmts bodyTM, scTM, mainGlobals, ["__class__"], builtinsNs, .none)
/-- its one cell -/
def iniC (K : PySem.W.Frag) : Addr := match K.lookup (He.fAd K dIni) with
  | some ⟨_, _, .func fd, _⟩ => (match fd.closure with
    | p :: _ => p.2
    | [] => 0)
  | _ => 0
def sameO (a b : Option Bool) : Bool := decide (a = b)
abbrev kT (K : PySem.W.Frag) : Addr := He.ga K "TooMany"
/-- an exception class of ours that may have its own __init__ -/
def oexB (K : PySem.W.Frag) (C : Addr) : Bool := match K.lookup C with
  | some ⟨.type c, _, .cls cd, sl⟩ => (match cd.mro, sl.toList with
    | .ref D :: bm, [_, _, _, _, some (.builtin n), _] => decide (c = "type") && (decide (D = C) && (decide (n = "ValueError.__new__") && (!cd.hasDel && (cd.hasDict && PySem.HandSPX.refsVE bm))))
    | _, _ => false)
  | _ => false
def codB (K : PySem.W.Frag) (P : Program) : Bool := match K.lookup (He.fAd K dIni) with
  | some ⟨_, _, .func fd, _⟩ => (match fd.code with
    | .ref c => (match K.lookup c with
      | some ⟨_, _, .fields vs, _⟩ => (match (vs[2]? : Option Value) with
        | some (.str file _) => PySem.W.codeIn K (.ref c) qTM && ((P.main.file : Str) == file)
        | _ => false)
      | _ => false)
    | _ => false)
  | _ => false
def celB (K : PySem.W.Frag) : Bool := match K.lookup (iniC K) with
  | some ⟨_, _, .cell (some (.ref D)), _⟩ => decide (D = kT K)
  | _ => false
def excB (K : PySem.W.Frag) (D : Addr) : Bool :=
  He.eqO (PySem.W.findIn K (.ref D) "__getattribute__") (some (some (.builtin "BaseException.__getattribute__"))) && (He.eqO (PySem.W.findIn K (.ref D) "__getattr__") (some none) && (sameO (PySem.W.subIn K (.ref D) (.type "BaseException")) (some true) && (PySem.W.hasDictIn K D &&
  (He.eqO (PySem.W.findIn K (.ref D) "__class__") (some (some (.builtin "object.__class__"))) && (He.eqO (PySem.W.specialIn K (.builtin "object.__class__") "__get__") (some (some (.builtin "getset_descriptor.__get__"))) && (sameO (PySem.W.takesIn K (.builtin "object.__class__")) (some true) && sameO (PySem.W.mroIn K D (.type "object")) (some true)))))))
def kitB (K : PySem.W.Frag) (D : Addr) (b1 b7 b10 : Bool) : Bool := excB K D && (([("InvalidCutting", b1), ("InvalidCorner", false), ("InvalidCuts", false), ("InvalidSides", false), ("Unlike", b7), ("InvalidWay", false), ("InvalidField", false), ("TooMany", b10)] : List (Str × Bool)).all fun (p : Str × Bool) => sameO (PySem.W.kitOne K (.ref D) (.ref (He.ga K p.1))) (some p.2)) && sameO (PySem.W.kitOne K (.ref D) (.type "ValueError")) (some true)
def tooB (K : PySem.W.Frag) : Bool :=
  oexB K (kT K) && (He.eqO (PySem.W.findIn K (.ref (kT K)) "__setattr__") (some (some (.builtin "object.__setattr__"))) && (sameO (PySem.W.subIn K (.ref (kT K)) (.type "BaseException")) (some true) && (decide (PySem.W.typeIn K (.ref (kT K)) = some (.type "type")) && (PySem.W.keepIn K (.ref (kT K)) &&
  (He.eqO (PySem.W.findIn K (.ref (kT K)) "__init__") (some (some (.ref (He.fAd K dIni)))) && (decide (PySem.W.typeIn K (.ref (He.fAd K dIni)) = some (.type "function")) && (He.eqO (PySem.W.ks_superIn K (kT K) (kT K) "__init__") (some (some (.builtin "ValueError.__init__"))) &&
  (He.eqO (PySem.W.nsIn K cStatics "thirdparty.any") (some none) && (sameO (PySem.W.subIn K (.ref (kT K)) (.type "ValueError")) (some true) && (sameO (PySem.W.mroIn K (kT K) (.ref (kT K))) (some true) && He.eqO (PySem.W.findIn K (.ref (kT K)) "limit") (some none)))))))))))
def exB (P : Program) (K : PySem.W.Frag) : Bool := tooB K && (codB K P && (celB K && (kitB K (He.ga K "InvalidCutting") true false false && (kitB K (He.ga K "Unlike") false true false && kitB K (kT K) false false true))))
/-! ### the Hook: the written part holds the statics too -/
def goV (o : Obj) : List Addr := match o.data with
  | .dict es _ => es.toList.flatMap fun e => He.refV e.val
  | _ => []
def goF (o : Obj) : List Addr := match o.data with
  | .func fd => He.refV fd.code ++ fd.closure.map (·.2)
  | .cls cd => [cd.ns]
  | _ => []
def goA (g : Addr → Option Obj) (f : Obj → List Addr) (as : List Addr) : List Addr := as.flatMap fun a => match g a with
  | some o => f o
  | none => []
def asY1 (g : Addr → Option Obj) (as : List Addr) : List Addr := as ++ goA g goF as
/-- the globals, what they name, its code and its classes' dicts, what those name, its code and cells -/
def asY (g : Addr → Option Obj) : List Addr := cStatics :: mainGlobals :: (asY1 g (goA g goV [mainGlobals]) ++ asY1 g (goA g goV (goA g goF (goA g goV [mainGlobals]))))
abbrev AlY : Type := He.AlT × (Bool × InT)
abbrev Pg : Program := (PySem.W.OpenLaw.row PySem.Challenge.rw_eightworlds_k60_whole_rounds_and_all_tha).prog
def obsYK (g : Addr → Option Obj) (K : PySem.W.Frag) : AlY := (He.obsT fasA fnsA [] K, (exB Pg K && He.tabsB g [dRef] K, iniW K))
def obsY (g : Addr → Option Obj) : AlY := obsYK g (He.frT g (asY g))
def valY (w : World) : AlY := (He.valT fnsA [] w, (true, iniV))
structure SaysY (w : World) (h : Heap) (K : PySem.W.Frag) : Prop where
  x : He.SaysX fasA fnsA [] [dRef] (exB Pg) w h K
  ini : iniW K = iniV
theorem tabs_of {h : Heap} {as : List Addr} {tf : List He.Defn} (c : He.tabsB h.get? tf (He.frT h.get? as) = true) : ∀ p ∈ tf, PySem.W.codeHdIn (He.frT h.get? as) (He.cT (He.frT h.get? as) p).1 (He.cT (He.frT h.get? as) p).2 = true ∧ (He.frT h.get? as).lookup (He.cT (He.frT h.get? as) p).2 = none ∧ h.get? (He.cT (He.frT h.get? as) p).2 = some { cls := .none, data := .fields #[] } := fun p hp => by
  have c2 := List.all_eq_true.mp c p hp
  rw [Bool.and_eq_true] at c2
  refine ⟨c2.1, ?_⟩
  have c3 := c2.2
  revert c3
  cases q : h.get? (He.cT (He.frT h.get? as) p).2 with
  | none => exact fun z => nomatch z
  | some o => exact fun z => ⟨He.frT_none q z, congrArg some (He.emptyTab_eq z)⟩
theorem saysY_of {w : World} {h : Heap} (e : obsY h.get? = valY w) : SaysY w h (He.frT h.get? (asY h.get?)) := by
  have e1 := congrArg (fun z : AlY => z.1) e
  have e2 := congrArg (fun z : AlY => z.2.1) e
  have e3 := congrArg (fun z : AlY => z.2.2) e
  obtain ⟨k1, k2⟩ := Bool.and_eq_true_iff.mp (show (exB Pg (He.frT h.get? (asY h.get?)) && He.tabsB h.get? [dRef] (He.frT h.get? (asY h.get?))) = true from e2)
  have t := tabs_of k2
  exact ⟨⟨e1, k1, fun p hp => (t p hp).1, fun p hp => (t p hp).2.1, fun p hp => (t p hp).2.2⟩, e3⟩
def hookY : PySem.W.Hook where
  α := AlY
  obs := fun s => obsY s.heap.get?
  val := fun w => valY w
  says := fun w h => ∃ K : PySem.W.Frag, K.In h ∧ SaysY w h K
  of := fun _ _ e => ⟨_, He.frT_in, saysY_of e⟩
  keeps := fun _ _ _ ⟨K, hK, c⟩ k => ⟨K, PySem.W.Frag.In.keeps hK k, ⟨⟨c.x.t, c.x.more, c.x.hd, c.x.out, fun p hp => k _ _ (c.x.empty p hp)⟩, c.ini⟩⟩
def obY (s : PySem.W.SharedT) : AlY := obsY (HandSHeadRun.getT s)
theorem obY_eq (s : PySem.W.SharedT) : obY s = hookY.obs s.abs := by
  have e : HandSHeadRun.getT s = s.abs.heap.get? := funext (HandSHeadRun.getT_eq s)
  unfold obY
  rw [e] <;> rfl
end PD
/-! text HD2 -/
set_option maxHeartbeats 0
namespace PD
open PySem.Spec PySem PyProof.Rows L2
def loosA0 : List Str := ["WorldError", "InvalidCutting", "InvalidCorner", "InvalidCut", "InvalidCuts", "InvalidSides", "InvalidNumber", "Unlike", "InvalidWay", "InvalidField", "TooMany", "MOST", "is_whole", "are_next", "fits_cut", "cross", "rises", "fits_cutting", "all_ties", "near_of", "thirds_of", "need_cutting", "need_corner", "need_cut", "need_number", "need_few", "cut_for", "with_cut", "swapped_at", "way_to_fan"]
def loosA1 : List Str := ["comes_for", "exchanged", "fan_way", "MOST_STEPS", "way_steps", "type_is_whole", "leads_to", "steps_to_fan", "need_two", "need_way", "behind_way", "way_back", "far_from_fan", "way_by_fan", "MOST_ROUNDS", "of_one_piece", "are_loose", "round_behind", "all_loose", "loose_between", "rounds_between", "exchanged_at_once", "most_at_once", "fewest_rounds", "cuts_of_both", "split_by", "fields_by", "fields_of", "piece_within", "shared_cuts"]
def loosA2 : List Str := ["MOST_FIELD", "nexts_of", "reach_from", "back_from", "pairs_within", "bringing", "way_in", "picks_of", "need_fields", "fewest_exchanges", "least_way", "is_least_way", "count_least_ways", "on_least_ways", "moved", "turned", "mirrored", "MOST_LAYERS", "fars_of", "layers", "_law_error", "_law_came", "_law_all_say", "_law_spring", "_law_pick", "_law_chosen", "_law_kind", "_law_twins", "_law_cuts_in", "_law_cutting"]
def loosA3 : List Str := ["_law_tied", "_law_thirds", "_law_flip", "_law_moved", "_law_known", "_law_bad_cuttings", "_law_rounds", "_law_of_one", "_law_few", "_law_agree", "_law_rounds_right", "_law_refused"]
def loosA : List Str := loosA0 ++ (loosA1 ++ (loosA2 ++ (loosA3)))
abbrev Rw : PySem.W.OpenRow := PySem.W.OpenLaw.row PySem.Challenge.rw_eightworlds_k60_whole_rounds_and_all_tha
theorem runY (w : World) : HandSHeadRun.RunEq Rw (PySem.W.view Rw.prog [112]) hookY obY 20000 loosA w := by
  intro os
  kernel_rfl
end PD
/-! text YD -/
set_option maxHeartbeats 0
namespace PD
open PySem.Spec PySem PyProof.Rows L2
def n0 : PyData := (.int (.ofNat (nat_lit 0)))
def n1 : PyData := (.int (.ofNat (nat_lit 1)))
def n2 : PyData := (.int (.ofNat (nat_lit 2)))
def n3 : PyData := (.int (.ofNat (nat_lit 3)))
def n4 : PyData := (.int (.ofNat (nat_lit 4)))
def n5 : PyData := (.int (.ofNat (nat_lit 5)))
def n6 : PyData := (.int (.ofNat (nat_lit 6)))
def n7 : PyData := (.int (.ofNat (nat_lit 7)))
def n8 : PyData := (.int (.ofNat (nat_lit 8)))
def n9 : PyData := (.int (.ofNat (nat_lit 9)))
def n10 : PyData := (.int (.ofNat (nat_lit 10)))
def n11 : PyData := (.int (.ofNat (nat_lit 11)))
def n12 : PyData := (.int (.ofNat (nat_lit 12)))
def n13 : PyData := (.int (.ofNat (nat_lit 13)))
def n14 : PyData := (.int (.ofNat (nat_lit 14)))
def n15 : PyData := (.int (.ofNat (nat_lit 15)))
def n16 : PyData := (.int (.ofNat (nat_lit 16)))
def n17 : PyData := (.int (.ofNat (nat_lit 17)))
def n18 : PyData := (.int (.ofNat (nat_lit 18)))
def n19 : PyData := (.int (.ofNat (nat_lit 19)))
def n20 : PyData := (.int (.ofNat (nat_lit 20)))
def p00 : PyData := .tuple [n0, n0]
def p01 : PyData := .tuple [n0, n1]
def p02 : PyData := .tuple [n0, n2]
def p03 : PyData := .tuple [n0, n3]
def p04 : PyData := .tuple [n0, n4]
def p05 : PyData := .tuple [n0, n5]
def p10 : PyData := .tuple [n1, n0]
def p11 : PyData := .tuple [n1, n1]
def p12 : PyData := .tuple [n1, n2]
def p13 : PyData := .tuple [n1, n3]
def p14 : PyData := .tuple [n1, n4]
def p15 : PyData := .tuple [n1, n5]
def p20 : PyData := .tuple [n2, n0]
def p21 : PyData := .tuple [n2, n1]
def p22 : PyData := .tuple [n2, n2]
def p23 : PyData := .tuple [n2, n3]
def p24 : PyData := .tuple [n2, n4]
def p25 : PyData := .tuple [n2, n5]
def p30 : PyData := .tuple [n3, n0]
def p31 : PyData := .tuple [n3, n1]
def p32 : PyData := .tuple [n3, n2]
def p33 : PyData := .tuple [n3, n3]
def p34 : PyData := .tuple [n3, n4]
def p35 : PyData := .tuple [n3, n5]
def p40 : PyData := .tuple [n4, n0]
def p41 : PyData := .tuple [n4, n1]
def p42 : PyData := .tuple [n4, n2]
def p43 : PyData := .tuple [n4, n3]
def p44 : PyData := .tuple [n4, n4]
def p45 : PyData := .tuple [n4, n5]
def p50 : PyData := .tuple [n5, n0]
def p51 : PyData := .tuple [n5, n1]
def p52 : PyData := .tuple [n5, n2]
def p53 : PyData := .tuple [n5, n3]
def p54 : PyData := .tuple [n5, n4]
def p55 : PyData := .tuple [n5, n5]
def q0 : PyData := .tuple [n3, .tuple []]
def q1 : PyData := .tuple [n4, .tuple [p13]]
def q2 : PyData := .tuple [n4, .tuple [p02]]
def q3 : PyData := .tuple [n5, .tuple [p14, p24]]
def q4 : PyData := .tuple [n5, .tuple [p13, p14]]
def q5 : PyData := .tuple [n5, .tuple [p02, p24]]
def q6 : PyData := .tuple [n5, .tuple [p03, p13]]
def q7 : PyData := .tuple [n5, .tuple [p02, p03]]
def q8 : PyData := .tuple [n6, .tuple [p15, p25, p35]]
def q9 : PyData := .tuple [n6, .tuple [p15, p24, p25]]
def q10 : PyData := .tuple [n6, .tuple [p13, p15, p35]]
def q11 : PyData := .tuple [n6, .tuple [p14, p15, p24]]
def q12 : PyData := .tuple [n6, .tuple [p13, p14, p15]]
def q13 : PyData := .tuple [n6, .tuple [p02, p25, p35]]
def q14 : PyData := .tuple [n6, .tuple [p02, p24, p25]]
def q15 : PyData := .tuple [n6, .tuple [p03, p13, p35]]
def q16 : PyData := .tuple [n6, .tuple [p02, p03, p35]]
def q17 : PyData := .tuple [n6, .tuple [p04, p14, p24]]
def q18 : PyData := .tuple [n6, .tuple [p04, p13, p14]]
def q19 : PyData := .tuple [n6, .tuple [p02, p04, p24]]
def q20 : PyData := .tuple [n6, .tuple [p03, p04, p13]]
def q21 : PyData := .tuple [n6, .tuple [p02, p03, p04]]
def Nis_whole : List Str := ["value", "low", "high"]
def Gis_whole : Ev → Out := (sRet (eAnd (e1 (gIsi .int) (eVar 0)) (eAnd (eNot (e1 (gIsi .bool) (eVar 0))) (eChain (gInt leI) (gInt leI) (eVar 1) (eVar 0) (eVar 2)))))
def Fis_whole : List PyData → R PyData := fun ds => outR (Gis_whole (startE 3 ds))
def Nare_next : List Str := ["sides", "one", "other"]
def Gare_next : Ev → Out := (sRet (e2 (gIn false) (e2 gMod (e2 gSub (eVar 1) (eVar 2)) (eVar 0)) (eTup (aCons (eC (.int 1)) (aCons (e2 gSub (eVar 0) (eC (.int 1))) aNil)))))
def Fare_next : List PyData → R PyData := fun ds => outR (Gare_next (startE 3 ds))
def Nfits_cut : List Str := ["sides", "value", "one"]
def Gfits_cut : Ev → Out := (sSeq (sIf (eOr (eNot (e1 (gIsi .tuple) (eVar 1))) (eOr (e2 gNe (eA gLen (aCons (eVar 1) aNil)) (eC (.int 2))) (eNot (eA gAll (aCons (eComp [2] (iS (eVar 1)) (gN 2) tTrue (eCall 3 Fis_whole (aCons (eVar 2) (aCons (eC (.int 0)) (aCons (e2 gSub (eVar 0) (eC (.int 1))) aNil))))) aNil))))) (sRet (eC (.bool false))) sNil) (sRet (eAnd (e2 gLt (e2 gIx (eVar 1) (eC (.int 0))) (e2 gIx (eVar 1) (eC (.int 1)))) (eNot (eCall 3 Fare_next (aCons (eVar 0) (aCons (e2 gIx (eVar 1) (eC (.int 0))) (aCons (e2 gIx (eVar 1) (eC (.int 1))) aNil))))))))
def Ffits_cut : List PyData → R PyData := fun ds => outR (Gfits_cut (startE 3 ds))
def Ncross : List Str := ["one", "other"]
def Gcross : Ev → Out := (sRet (eOr (eChain3 gLt (e2 gIx (eVar 0) (eC (.int 0))) (e2 gIx (eVar 1) (eC (.int 0))) (e2 gIx (eVar 0) (eC (.int 1))) (e2 gIx (eVar 1) (eC (.int 1)))) (eChain3 gLt (e2 gIx (eVar 1) (eC (.int 0))) (e2 gIx (eVar 0) (eC (.int 0))) (e2 gIx (eVar 1) (eC (.int 1))) (e2 gIx (eVar 0) (eC (.int 1))))))
def Fcross : List PyData → R PyData := fun ds => outR (Gcross (startE 2 ds))
def Nrises : List Str := ["row", "one", "other"]
def Grises : Ev → Out := (sRet (eA gAll (aCons (eComp [1, 2] (iZ (eVar 0) (e1 (gSl (some 1) none) (eVar 0))) (gT (gsCons (gN 1) (gsCons (gN 2) gsNil))) tTrue (e2 gLt (eVar 1) (eVar 2))) aNil)))
def Frises : List PyData → R PyData := fun ds => outR (Grises (startE 3 ds))
def Nfits_cutting : List Str := ["value", "sides", "cuts", "cut", "other", "one"]
def Gfits_cutting : Ev → Out := (sSeq (sIf (eOr (eNot (e1 (gIsi .tuple) (eVar 0))) (eOr (e2 gNe (eA gLen (aCons (eVar 0) aNil)) (eC (.int 2))) (eNot (eCall 3 Fis_whole (aCons (e2 gIx (eVar 0) (eC (.int 0))) (aCons (eC (.int 3)) (aCons (eC (.int 40)) aNil))))))) (sRet (eC (.bool false))) sNil) (sSeq (sAsg (gT (gsCons (gN 1) (gsCons (gN 2) gsNil))) (eVar 0)) (sSeq (sIf (eOr (eNot (e1 (gIsi .tuple) (eVar 2))) (eOr (e2 gNe (eA gLen (aCons (eVar 2) aNil)) (e2 gSub (eVar 1) (eC (.int 3)))) (eNot (eA gAll (aCons (eComp [3] (iS (eVar 2)) (gN 3) tTrue (eCall 2 Ffits_cut (aCons (eVar 1) (aCons (eVar 3) aNil)))) aNil))))) (sRet (eC (.bool false))) sNil) (sRet (eAnd (eCall 1 Frises (aCons (eVar 2) aNil)) (eNot (eA gAny (aCons (eComp [5] (iS (eVar 2)) (gN 5) tTrue (eA gAny (aCons (eComp [4] (iS (eVar 2)) (gN 4) tTrue (eCall 2 Fcross (aCons (eVar 5) (aCons (eVar 4) aNil)))) aNil))) aNil))))))))
def Ffits_cutting : List PyData → R PyData := fun ds => outR (Gfits_cutting (startE 6 ds))
def Nall_ties : List Str := ["cutting", "sides", "cuts", "one"]
def Gall_ties : Ev → Out := (sSeq (sAsg (gT (gsCons (gN 1) (gsCons (gN 2) gsNil))) (eVar 0)) (sRet (eA gSorted (aCons (e2 gAdd (e2 gAdd (eComp [3] (iR (e2 gSub (eVar 1) (eC (.int 1)))) (gN 3) tTrue (eTup (aCons (eVar 3) (aCons (e2 gAdd (eVar 3) (eC (.int 1))) aNil)))) (eLst (aCons (eTup (aCons (eC (.int 0)) (aCons (e2 gSub (eVar 1) (eC (.int 1))) aNil))) aNil))) (eA gList (aCons (eVar 2) aNil))) aNil))))
def Fall_ties : List PyData → R PyData := fun ds => outR (Gall_ties (startE 4 ds))
def Nnear_of : List Str := ["cutting", "found", "corner", "one", "other", "row"]
def Gnear_of : Ev → Out := (sSeq (sSetC true 1 (eComp [2] (iR (e2 gIx (eVar 0) (eC (.int 0)))) (gN 2) tTrue (eLst aNil))) (sSeq (sFor (iS (eCall 1 Fall_ties (aCons (eVar 0) aNil))) (gT (gsCons (gN 3) (gsCons (gN 4) gsNil))) (sSeq (sSetI 1 (eVar 3) (e2 gAdd (eIxO 1 (eVar 3)) (eLst (aCons (eVar 4) aNil)))) (sSetI 1 (eVar 4) (e2 gAdd (eIxO 1 (eVar 4)) (eLst (aCons (eVar 3) aNil)))))) (sFrz 1 (sRet (eComp [5] (iS (eVar 1)) (gN 5) tTrue (eA gSorted (aCons (eVar 5) aNil)))))))
def Unear_of : List PyData → R PyData := fun ds => outR (Gnear_of (startE 6 ds))
def tabnear_of : List (PyData × List (List PyData × PyData)) := [(q1, [([], (.list [(.list [n1, n3]), (.list [n0, n2, n3]), (.list [n1, n3]), (.list [n0, n1, n2])]))]),
  (q2, [([], (.list [(.list [n1, n2, n3]), (.list [n0, n2]), (.list [n0, n1, n3]), (.list [n0, n2])]))]),
  (q3, [([], (.list [(.list [n1, n4]), (.list [n0, n2, n4]), (.list [n1, n3, n4]), (.list [n2, n4]), (.list [n0, n1, n2, n3])]))]),
  (q5, [([], (.list [(.list [n1, n2, n4]), (.list [n0, n2]), (.list [n0, n1, n3, n4]), (.list [n2, n4]), (.list [n0, n2, n3])]))]),
  (q4, [([], (.list [(.list [n1, n4]), (.list [n0, n2, n3, n4]), (.list [n1, n3]), (.list [n1, n2, n4]), (.list [n0, n1, n3])]))]),
  (q7, [([], (.list [(.list [n1, n2, n3, n4]), (.list [n0, n2]), (.list [n0, n1, n3]), (.list [n0, n2, n4]), (.list [n0, n3])]))]),
  (q6, [([], (.list [(.list [n1, n3, n4]), (.list [n0, n2, n3]), (.list [n1, n3]), (.list [n0, n1, n2, n4]), (.list [n0, n3])]))]),
  (q8, [([], (.list [(.list [n1, n5]), (.list [n0, n2, n5]), (.list [n1, n3, n5]), (.list [n2, n4, n5]), (.list [n3, n5]), (.list [n0, n1, n2, n3, n4])]))]),
  (q13, [([], (.list [(.list [n1, n2, n5]), (.list [n0, n2]), (.list [n0, n1, n3, n5]), (.list [n2, n4, n5]), (.list [n3, n5]), (.list [n0, n2, n3, n4])]))]),
  (q10, [([], (.list [(.list [n1, n5]), (.list [n0, n2, n3, n5]), (.list [n1, n3]), (.list [n1, n2, n4, n5]), (.list [n3, n5]), (.list [n0, n1, n3, n4])]))]),
  (q9, [([], (.list [(.list [n1, n5]), (.list [n0, n2, n5]), (.list [n1, n3, n4, n5]), (.list [n2, n4]), (.list [n2, n3, n5]), (.list [n0, n1, n2, n4])]))]),
  (q16, [([], (.list [(.list [n1, n2, n3, n5]), (.list [n0, n2]), (.list [n0, n1, n3]), (.list [n0, n2, n4, n5]), (.list [n3, n5]), (.list [n0, n3, n4])]))]),
  (q14, [([], (.list [(.list [n1, n2, n5]), (.list [n0, n2]), (.list [n0, n1, n3, n4, n5]), (.list [n2, n4]), (.list [n2, n3, n5]), (.list [n0, n2, n4])]))]),
  (q15, [([], (.list [(.list [n1, n3, n5]), (.list [n0, n2, n3]), (.list [n1, n3]), (.list [n0, n1, n2, n4, n5]), (.list [n3, n5]), (.list [n0, n3, n4])]))]),
  (q12, [([], (.list [(.list [n1, n5]), (.list [n0, n2, n3, n4, n5]), (.list [n1, n3]), (.list [n1, n2, n4]), (.list [n1, n3, n5]), (.list [n0, n1, n4])]))]),
  (q11, [([], (.list [(.list [n1, n5]), (.list [n0, n2, n4, n5]), (.list [n1, n3, n4]), (.list [n2, n4]), (.list [n1, n2, n3, n5]), (.list [n0, n1, n4])]))]),
  (q21, [([], (.list [(.list [n1, n2, n3, n4, n5]), (.list [n0, n2]), (.list [n0, n1, n3]), (.list [n0, n2, n4]), (.list [n0, n3, n5]), (.list [n0, n4])]))]),
  (q19, [([], (.list [(.list [n1, n2, n4, n5]), (.list [n0, n2]), (.list [n0, n1, n3, n4]), (.list [n2, n4]), (.list [n0, n2, n3, n5]), (.list [n0, n4])]))]),
  (q20, [([], (.list [(.list [n1, n3, n4, n5]), (.list [n0, n2, n3]), (.list [n1, n3]), (.list [n0, n1, n2, n4]), (.list [n0, n3, n5]), (.list [n0, n4])]))]),
  (q18, [([], (.list [(.list [n1, n4, n5]), (.list [n0, n2, n3, n4]), (.list [n1, n3]), (.list [n1, n2, n4]), (.list [n0, n1, n3, n5]), (.list [n0, n4])]))]),
  (q17, [([], (.list [(.list [n1, n4, n5]), (.list [n0, n2, n4]), (.list [n1, n3, n4]), (.list [n2, n4]), (.list [n0, n1, n2, n3, n5]), (.list [n0, n4])]))])]
def Fnear_of : List PyData → R PyData := tabF tabnear_of Unear_of
def Nthirds_of : List Str := ["cutting", "cut", "near", "corner"]
def Gthirds_of : Ev → Out := (sSeq (sAsg (gN 2) (eCall 1 Fnear_of (aCons (eVar 0) aNil))) (sRet (eComp [3] (iS (e2 gIx (eVar 2) (e2 gIx (eVar 1) (eC (.int 0))))) (gN 3) (e2 (gIn false) (eVar 3) (e2 gIx (eVar 2) (e2 gIx (eVar 1) (eC (.int 1))))) (eVar 3))))
def Uthirds_of : List PyData → R PyData := fun ds => outR (Gthirds_of (startE 4 ds))
def tabthirds_of : List (PyData × List (List PyData × PyData)) := [(q1, [([p13], (.list [n0, n2])), ([p03], (.list [n1]))]),
  (q2, [([p02], (.list [n1, n3])), ([p03], (.list [n2]))]),
  (q3, [([p14], (.list [n0, n2])), ([p24], (.list [n1, n3])), ([p04], (.list [n1]))]),
  (q5, [([p02], (.list [n1, n4])), ([p24], (.list [n0, n3])), ([p04], (.list [n2]))]),
  (q4, [([p13], (.list [n2, n4])), ([p14], (.list [n0, n3])), ([p04], (.list [n1]))]),
  (q7, [([p02], (.list [n1, n3])), ([p03], (.list [n2, n4])), ([p04], (.list [n3]))]),
  (q6, [([p03], (.list [n1, n4])), ([p13], (.list [n0, n2])), ([p04], (.list [n3]))]),
  (q8, [([p15], (.list [n0, n2])), ([p25], (.list [n1, n3])), ([p35], (.list [n2, n4])), ([p05], (.list [n1]))]),
  (q13, [([p02], (.list [n1, n5])), ([p25], (.list [n0, n3])), ([p35], (.list [n2, n4])), ([p05], (.list [n2]))]),
  (q10, [([p13], (.list [n2, n5])), ([p15], (.list [n0, n3])), ([p35], (.list [n1, n4])), ([p05], (.list [n1]))]),
  (q9, [([p15], (.list [n0, n2])), ([p24], (.list [n3, n5])), ([p25], (.list [n1, n4])), ([p05], (.list [n1]))]),
  (q16, [([p02], (.list [n1, n3])), ([p03], (.list [n2, n5])), ([p35], (.list [n0, n4])), ([p05], (.list [n3]))]),
  (q14, [([p02], (.list [n1, n5])), ([p24], (.list [n3, n5])), ([p25], (.list [n0, n4])), ([p05], (.list [n2]))]),
  (q15, [([p03], (.list [n1, n5])), ([p13], (.list [n0, n2])), ([p35], (.list [n0, n4])), ([p05], (.list [n3]))]),
  (q12, [([p13], (.list [n2, n4])), ([p14], (.list [n3, n5])), ([p15], (.list [n0, n4])), ([p05], (.list [n1]))]),
  (q11, [([p14], (.list [n2, n5])), ([p15], (.list [n0, n4])), ([p24], (.list [n1, n3])), ([p05], (.list [n1]))]),
  (q21, [([p02], (.list [n1, n3])), ([p03], (.list [n2, n4])), ([p04], (.list [n3, n5])), ([p05], (.list [n4]))]),
  (q19, [([p02], (.list [n1, n4])), ([p04], (.list [n2, n5])), ([p24], (.list [n0, n3])), ([p05], (.list [n4]))]),
  (q20, [([p03], (.list [n1, n4])), ([p04], (.list [n3, n5])), ([p13], (.list [n0, n2])), ([p05], (.list [n4]))]),
  (q18, [([p04], (.list [n1, n5])), ([p13], (.list [n2, n4])), ([p14], (.list [n0, n3])), ([p05], (.list [n4]))]),
  (q17, [([p04], (.list [n1, n5])), ([p14], (.list [n0, n2])), ([p24], (.list [n1, n3])), ([p05], (.list [n4]))])]
def Fthirds_of : List PyData → R PyData := tabF tabthirds_of Uthirds_of
def Nneed_cutting : List Str := ["value"]
def Gneed_cutting : Ev → Out := (sIf (eNot (eCall 1 Ffits_cutting (aCons (eVar 0) aNil))) (sRaise 1) sNil)
def Uneed_cutting : List PyData → R PyData := fun ds => outR (Gneed_cutting (startE 1 ds))
def tabneed_cutting : List (PyData × List (List PyData × PyData)) := [(q0, [([], .none)]),
  (q1, [([], .none)]),
  (q2, [([], .none)]),
  (q3, [([], .none)]),
  (q4, [([], .none)]),
  (q7, [([], .none)]),
  (q5, [([], .none)]),
  (q6, [([], .none)]),
  (q8, [([], .none)]),
  (q12, [([], .none)]),
  (q21, [([], .none)]),
  (q14, [([], .none)]),
  (q15, [([], .none)]),
  (q17, [([], .none)]),
  (q9, [([], .none)]),
  (q11, [([], .none)]),
  (q16, [([], .none)]),
  (q18, [([], .none)]),
  (q10, [([], .none)]),
  (q19, [([], .none)]),
  (q13, [([], .none)]),
  (q20, [([], .none)]),
  ((.tuple [n8, (.tuple [p02, p03, p04, p05, (.tuple [n0, n6])])]), [([], .none)])]
def Fneed_cutting : List PyData → R PyData := tabF tabneed_cutting Uneed_cutting
def Nneed_corner : List Str := ["cutting", "value"]
def Gneed_corner : Ev → Out := (sIf (eNot (eCall 3 Fis_whole (aCons (eVar 1) (aCons (eC (.int 0)) (aCons (e2 gSub (e2 gIx (eVar 0) (eC (.int 0))) (eC (.int 1))) aNil))))) (sRaise 2) sNil)
def Fneed_corner : List PyData → R PyData := fun ds => outR (Gneed_corner (startE 2 ds))
def Nneed_cut : List Str := ["cutting", "value"]
def Gneed_cut : Ev → Out := (sIf (eOr (eNot (eCall 2 Ffits_cut (aCons (e2 gIx (eVar 0) (eC (.int 0))) (aCons (eVar 1) aNil)))) (e2 (gIn true) (eVar 1) (e2 gIx (eVar 0) (eC (.int 1))))) (sRaise 3) sNil)
def Uneed_cut : List PyData → R PyData := fun ds => outR (Gneed_cut (startE 2 ds))
def tabneed_cut : List (PyData × List (List PyData × PyData)) := [(q1, [([p13], .none)]),
  (q2, [([p02], .none)]),
  (q3, [([p24], .none), ([p14], .none)]),
  (q4, [([p13], .none), ([p14], .none)]),
  (q5, [([p02], .none), ([p24], .none)]),
  (q6, [([p03], .none), ([p13], .none)]),
  (q7, [([p03], .none), ([p02], .none)]),
  (q8, [([p35], .none), ([p25], .none), ([p15], .none)]),
  (q9, [([p24], .none), ([p25], .none), ([p15], .none)]),
  (q10, [([p13], .none), ([p35], .none), ([p15], .none)]),
  (q13, [([p02], .none), ([p35], .none), ([p25], .none)]),
  (q11, [([p14], .none), ([p24], .none), ([p15], .none)]),
  (q14, [([p02], .none), ([p24], .none), ([p25], .none)]),
  (q12, [([p14], .none), ([p13], .none), ([p15], .none)]),
  (q15, [([p03], .none), ([p13], .none), ([p35], .none)]),
  (q17, [([p04], .none), ([p14], .none), ([p24], .none)]),
  (q18, [([p04], .none), ([p13], .none), ([p14], .none)]),
  (q16, [([p03], .none), ([p02], .none), ([p35], .none)]),
  (q19, [([p04], .none), ([p02], .none), ([p24], .none)]),
  (q20, [([p04], .none), ([p03], .none), ([p13], .none)]),
  (q21, [([p04], .none), ([p03], .none), ([p02], .none)])]
def Fneed_cut : List PyData → R PyData := tabF tabneed_cut Uneed_cut
def Nneed_number : List Str := ["value", "low", "high"]
def Gneed_number : Ev → Out := (sIf (eNot (eCall 3 Fis_whole (aCons (eVar 0) (aCons (eVar 1) (aCons (eVar 2) aNil))))) (sRaise 6) sNil)
def Fneed_number : List PyData → R PyData := fun ds => outR (Gneed_number (startE 3 ds))
def Nneed_few : List Str := ["many", "limit"]
def Gneed_few : Ev → Out := (sIf (e2 (gInt gtI) (eVar 0) (eVar 1)) (sRaiseE 10 (eVar 1)) sNil)
def Fneed_few : List PyData → R PyData := fun ds => outR (Gneed_few (startE 2 ds))
def Ncut_for : List Str := ["cutting", "cut", "one", "other"]
def Gcut_for : Ev → Out := (sSeq (sAsg (gL (gsCons (gN 2) (gsCons (gN 3) gsNil))) (eCall 2 Fthirds_of (aCons (eVar 0) (aCons (eVar 1) aNil)))) (sRet (eTup (aCons (eVar 2) (aCons (eVar 3) aNil)))))
def Ucut_for : List PyData → R PyData := fun ds => outR (Gcut_for (startE 4 ds))
def tabcut_for : List (PyData × List (List PyData × PyData)) := [(q1, [([p13], p02)]),
  (q2, [([p02], p13)]),
  (q3, [([p14], p02), ([p24], p13)]),
  (q5, [([p02], p14), ([p24], p03)]),
  (q4, [([p13], p24), ([p14], p03)]),
  (q7, [([p02], p13), ([p03], p24)]),
  (q6, [([p03], p14), ([p13], p02)]),
  (q8, [([p15], p02), ([p25], p13), ([p35], p24)]),
  (q13, [([p02], p15), ([p25], p03), ([p35], p24)]),
  (q10, [([p13], p25), ([p15], p03), ([p35], p14)]),
  (q9, [([p15], p02), ([p24], p35), ([p25], p14)]),
  (q16, [([p02], p13), ([p03], p25), ([p35], p04)]),
  (q14, [([p02], p15), ([p24], p35), ([p25], p04)]),
  (q15, [([p03], p15), ([p13], p02), ([p35], p04)]),
  (q12, [([p13], p24), ([p14], p35), ([p15], p04)]),
  (q11, [([p14], p25), ([p15], p04), ([p24], p13)]),
  (q21, [([p02], p13), ([p03], p24), ([p04], p35)]),
  (q19, [([p02], p14), ([p04], p25), ([p24], p03)]),
  (q20, [([p03], p14), ([p04], p35), ([p13], p02)]),
  (q18, [([p04], p15), ([p13], p24), ([p14], p03)]),
  (q17, [([p04], p15), ([p14], p02), ([p24], p13)])]
def Fcut_for : List PyData → R PyData := tabF tabcut_for Ucut_for
def Nwith_cut : List Str := ["cutting", "cut", "there", "other"]
def Gwith_cut : Ev → Out := (sRet (eTup (aCons (e2 gIx (eVar 0) (eC (.int 0))) (aCons (eA gTuple (aCons (eA gSorted (aCons (e2 gAdd (eComp [3] (iS (e2 gIx (eVar 0) (eC (.int 1)))) (gN 3) (e2 gNe (eVar 3) (eVar 1)) (eVar 3)) (eLst (aCons (eVar 2) aNil))) aNil)) aNil)) aNil))))
def Uwith_cut : List PyData → R PyData := fun ds => outR (Gwith_cut (startE 4 ds))
def tabwith_cut : List (PyData × List (List PyData × PyData)) := [(q1, [([p13, p02], q2)]),
  (q2, [([p02, p13], q1)]),
  (q3, [([p14, p02], q5), ([p24, p13], q4)]),
  (q5, [([p02, p14], q3), ([p24, p03], q7)]),
  (q4, [([p13, p24], q3), ([p14, p03], q6)]),
  (q7, [([p02, p13], q6), ([p03, p24], q5)]),
  (q6, [([p03, p14], q4), ([p13, p02], q7)]),
  (q8, [([p15, p02], q13), ([p25, p13], q10), ([p35, p24], q9)]),
  (q13, [([p02, p15], q8), ([p25, p03], q16), ([p35, p24], q14)]),
  (q10, [([p13, p25], q8), ([p15, p03], q15), ([p35, p14], q12)]),
  (q9, [([p15, p02], q14), ([p24, p35], q8), ([p25, p14], q11)]),
  (q16, [([p02, p13], q15), ([p03, p25], q13), ([p35, p04], q21)]),
  (q14, [([p02, p15], q9), ([p24, p35], q13), ([p25, p04], q19)]),
  (q15, [([p03, p15], q10), ([p13, p02], q16), ([p35, p04], q20)]),
  (q12, [([p13, p24], q11), ([p14, p35], q10), ([p15, p04], q18)]),
  (q11, [([p14, p25], q9), ([p15, p04], q17), ([p24, p13], q12)]),
  (q21, [([p02, p13], q20), ([p03, p24], q19), ([p04, p35], q16)]),
  (q19, [([p02, p14], q17), ([p04, p25], q14), ([p24, p03], q21)]),
  (q20, [([p03, p14], q18), ([p04, p35], q15), ([p13, p02], q21)]),
  (q18, [([p04, p15], q12), ([p13, p24], q17), ([p14, p03], q20)]),
  (q17, [([p04, p15], q11), ([p14, p02], q19), ([p24, p13], q18)])]
def Fwith_cut : List PyData → R PyData := tabF tabwith_cut Uwith_cut
def Nswapped_at : List Str := ["cutting", "cut"]
def Gswapped_at : Ev → Out := (sRet (eCall 3 Fwith_cut (aCons (eVar 0) (aCons (eVar 1) (aCons (eCall 2 Fcut_for (aCons (eVar 0) (aCons (eVar 1) aNil))) aNil)))))
def Uswapped_at : List PyData → R PyData := fun ds => outR (Gswapped_at (startE 2 ds))
def tabswapped_at : List (PyData × List (List PyData × PyData)) := [(q1, [([p13], q2)]),
  (q2, [([p02], q1)]),
  (q3, [([p14], q5), ([p24], q4)]),
  (q5, [([p24], q7), ([p02], q3)]),
  (q4, [([p14], q6), ([p13], q3)]),
  (q6, [([p13], q7), ([p03], q4)]),
  (q7, [([p03], q5), ([p02], q6)]),
  (q8, [([p15], q13), ([p35], q9), ([p25], q10)]),
  (q13, [([p25], q16), ([p02], q8), ([p35], q14)]),
  (q16, [([p35], q21), ([p03], q13), ([p02], q15)]),
  (q9, [([p15], q14), ([p24], q8), ([p25], q11)]),
  (q14, [([p25], q19), ([p02], q9), ([p24], q13)]),
  (q19, [([p24], q21), ([p04], q14), ([p02], q17)]),
  (q10, [([p15], q15), ([p13], q8), ([p35], q12)]),
  (q15, [([p13], q16), ([p03], q10), ([p35], q20)]),
  (q11, [([p15], q17), ([p14], q9), ([p24], q12)]),
  (q17, [([p14], q19), ([p04], q11), ([p24], q18)]),
  (q12, [([p15], q18), ([p14], q10), ([p13], q11)]),
  (q18, [([p14], q20), ([p04], q12), ([p13], q17)]),
  (q20, [([p13], q21), ([p04], q15), ([p03], q18)]),
  (q21, [([p04], q16), ([p03], q19), ([p02], q20)])]
def Fswapped_at : List PyData → R PyData := tabF tabswapped_at Uswapped_at
def Nway_to_fan : List Str := ["cutting", "found", "some", "cut"]
def Gway_to_fan : Ev → Out := (sSeq (sAsg (gN 1) (eTup aNil)) (sSeq (sAsg (gN 2) (eComp [3] (iS (e2 gIx (eVar 0) (eC (.int 1)))) (gN 3) (e2 (gIn false) (eC (.int 0)) (eCall 2 Fthirds_of (aCons (eVar 0) (aCons (eVar 3) aNil)))) (eVar 3))) (sSeq (sWhile 12 (e2 gNe (eVar 2) (eLst aNil)) (sSeq (sAsg (gT (gsCons (gN 1) (gsCons (gN 0) gsNil))) (eTup (aCons (e2 gAdd (eVar 1) (eTup (aCons (e2 gIx (eVar 2) (eC (.int 0))) aNil))) (aCons (eCall 2 Fswapped_at (aCons (eVar 0) (aCons (e2 gIx (eVar 2) (eC (.int 0))) aNil))) aNil)))) (sAsg (gN 2) (eComp [3] (iS (e2 gIx (eVar 0) (eC (.int 1)))) (gN 3) (e2 (gIn false) (eC (.int 0)) (eCall 2 Fthirds_of (aCons (eVar 0) (aCons (eVar 3) aNil)))) (eVar 3))))) (sRet (eVar 1)))))
def Fway_to_fan : List PyData → R PyData := fun ds => outR (Gway_to_fan (startE 4 ds))
def Ncomes_for : List Str := ["cutting", "cut"]
def Gcomes_for : Ev → Out := (sSeq (sExpr (eCall 1 Fneed_cutting (aCons (eVar 0) aNil))) (sSeq (sExpr (eCall 2 Fneed_cut (aCons (eVar 0) (aCons (eVar 1) aNil)))) (sRet (eCall 2 Fcut_for (aCons (eVar 0) (aCons (eVar 1) aNil))))))
def Ucomes_for : List PyData → R PyData := fun ds => outR (Gcomes_for (startE 2 ds))
def tabcomes_for : List (PyData × List (List PyData × PyData)) := [(q1, [([p13], p02)]),
  (q2, [([p02], p13)]),
  (q3, [([p24], p13), ([p14], p02)]),
  (q4, [([p13], p24), ([p14], p03)]),
  (q5, [([p02], p14), ([p24], p03)]),
  (q6, [([p03], p14), ([p13], p02)]),
  (q7, [([p03], p24), ([p02], p13)]),
  (q8, [([p35], p24), ([p25], p13), ([p15], p02)]),
  (q9, [([p24], p35), ([p25], p14), ([p15], p02)]),
  (q10, [([p13], p25), ([p35], p14), ([p15], p03)]),
  (q13, [([p02], p15), ([p35], p24), ([p25], p03)]),
  (q11, [([p14], p25), ([p24], p13), ([p15], p04)]),
  (q14, [([p02], p15), ([p24], p35), ([p25], p04)]),
  (q12, [([p14], p35), ([p13], p24), ([p15], p04)]),
  (q15, [([p03], p15), ([p13], p02), ([p35], p04)]),
  (q17, [([p04], p15), ([p14], p02), ([p24], p13)]),
  (q18, [([p04], p15), ([p13], p24), ([p14], p03)]),
  (q16, [([p03], p25), ([p02], p13), ([p35], p04)]),
  (q19, [([p04], p25), ([p02], p14), ([p24], p03)]),
  (q20, [([p04], p35), ([p03], p14), ([p13], p02)]),
  (q21, [([p04], p35), ([p03], p24), ([p02], p13)])]
def Fcomes_for : List PyData → R PyData := tabF tabcomes_for Ucomes_for
def Nexchanged : List Str := ["cutting", "cut"]
def Gexchanged : Ev → Out := (sSeq (sExpr (eCall 1 Fneed_cutting (aCons (eVar 0) aNil))) (sSeq (sExpr (eCall 2 Fneed_cut (aCons (eVar 0) (aCons (eVar 1) aNil)))) (sRet (eCall 2 Fswapped_at (aCons (eVar 0) (aCons (eVar 1) aNil))))))
def Uexchanged : List PyData → R PyData := fun ds => outR (Gexchanged (startE 2 ds))
def tabexchanged : List (PyData × List (List PyData × PyData)) := [(q1, [([p13], q2)]),
  (q2, [([p02], q1)]),
  (q3, [([p24], q4), ([p14], q5)]),
  (q4, [([p13], q3), ([p14], q6)]),
  (q5, [([p02], q3), ([p24], q7)]),
  (q6, [([p03], q4), ([p13], q7)]),
  (q7, [([p03], q5), ([p02], q6)]),
  (q8, [([p35], q9), ([p25], q10), ([p15], q13)]),
  (q9, [([p24], q8), ([p25], q11), ([p15], q14)]),
  (q10, [([p13], q8), ([p35], q12), ([p15], q15)]),
  (q11, [([p14], q9), ([p24], q12), ([p15], q17)]),
  (q12, [([p14], q10), ([p13], q11), ([p15], q18)]),
  (q13, [([p02], q8), ([p35], q14), ([p25], q16)]),
  (q14, [([p02], q9), ([p24], q13), ([p25], q19)]),
  (q15, [([p03], q10), ([p13], q16), ([p35], q20)]),
  (q16, [([p03], q13), ([p02], q15), ([p35], q21)]),
  (q17, [([p04], q11), ([p14], q19), ([p24], q18)]),
  (q18, [([p04], q12), ([p13], q17), ([p14], q20)]),
  (q19, [([p04], q14), ([p02], q17), ([p24], q21)]),
  (q20, [([p04], q15), ([p13], q21), ([p03], q18)]),
  (q21, [([p04], q16), ([p03], q19), ([p02], q20)])]
def Fexchanged : List PyData → R PyData := tabF tabexchanged Uexchanged
def Nfan_way : List Str := ["cutting"]
def Gfan_way : Ev → Out := (sSeq (sExpr (eCall 1 Fneed_cutting (aCons (eVar 0) aNil))) (sRet (eCall 1 Fway_to_fan (aCons (eVar 0) aNil))))
def Ufan_way : List PyData → R PyData := fun ds => outR (Gfan_way (startE 1 ds))
def tabfan_way : List (PyData × List (List PyData × PyData)) := [(q0, [([], (.tuple []))]),
  (q1, [([], (.tuple [p13]))]),
  (q2, [([], (.tuple []))]),
  (q3, [([], (.tuple [p14, p24]))]),
  (q4, [([], (.tuple [p14, p13]))]),
  (q5, [([], (.tuple [p24]))]),
  (q6, [([], (.tuple [p13]))]),
  (q7, [([], (.tuple []))]),
  (q8, [([], (.tuple [p15, p25, p35]))]),
  (q9, [([], (.tuple [p15, p25, p24]))]),
  (q10, [([], (.tuple [p15, p13, p35]))]),
  (q11, [([], (.tuple [p15, p14, p24]))]),
  (q12, [([], (.tuple [p15, p14, p13]))]),
  (q13, [([], (.tuple [p25, p35]))]),
  (q14, [([], (.tuple [p25, p24]))]),
  (q15, [([], (.tuple [p13, p35]))]),
  (q16, [([], (.tuple [p35]))]),
  (q17, [([], (.tuple [p14, p24]))]),
  (q18, [([], (.tuple [p14, p13]))]),
  (q19, [([], (.tuple [p24]))]),
  (q20, [([], (.tuple [p13]))]),
  (q21, [([], (.tuple []))])]
def Ffan_way : List PyData → R PyData := tabF tabfan_way Ufan_way
def Ntype_is_whole : List Str := ["value"]
def Gtype_is_whole : Ev → Out := (sRet (eAnd (e1 (gIsi .int) (eVar 0)) (eNot (e1 (gIsi .bool) (eVar 0)))))
def Ftype_is_whole : List PyData → R PyData := fun ds => outR (Gtype_is_whole (startE 1 ds))
def Nway_steps : List Str := ["cutting", "way", "come", "cut", "one", "there"]
def Gway_steps : Ev → Out := (sSeq (sIf (eOr (eNot (e1 (gIsi .tuple) (eVar 1))) (e2 (gInt gtI) (eA gLen (aCons (eVar 1) aNil)) (eC (.int 80)))) (sRet (eC .none)) sNil) (sSeq (sAsg (gN 2) (eTup aNil)) (sSeq (sFor (iS (eVar 1)) (gN 3) (sSeq (sIf (eOr (eNot (e1 (gIsi .tuple) (eVar 3))) (eOr (e2 gNe (eA gLen (aCons (eVar 3) aNil)) (eC (.int 2))) (eNot (eA gAll (aCons (eComp [4] (iS (eVar 3)) (gN 4) tTrue (eCall 1 Ftype_is_whole (aCons (eVar 4) aNil))) aNil))))) (sRet (eC .none)) sNil) (sSeq (sIf (e2 (gIn true) (eVar 3) (e2 gIx (eVar 0) (eC (.int 1)))) (sRet (eC .none)) sNil) (sSeq (sAsg (gN 5) (eCall 2 Fcut_for (aCons (eVar 0) (aCons (eVar 3) aNil)))) (sPar false false 2 0 (e2 gAdd (eVar 2) (eTup (aCons (eVar 5) aNil))) (eCall 3 Fwith_cut (aCons (eVar 0) (aCons (eVar 3) (aCons (eVar 5) aNil))))))))) (sRet (eTup (aCons (eVar 0) (aCons (eVar 2) aNil)))))))
def Uway_steps : List PyData → R PyData := fun ds => outR (Gway_steps (startE 6 ds))
def tabway_steps : List (PyData × List (List PyData × PyData)) := [(q0, [([(.tuple [])], (.tuple [q0, (.tuple [])]))]),
  (q1, [([(.tuple [])], (.tuple [q1, (.tuple [])])), ([(.tuple [p13])], (.tuple [q2, (.tuple [p02])]))]),
  (q2, [([(.tuple [p02])], (.tuple [q1, (.tuple [p13])])), ([(.tuple [])], (.tuple [q2, (.tuple [])]))]),
  (q3, [([(.tuple [])], (.tuple [q3, (.tuple [])])), ([(.tuple [p14, p24])], (.tuple [q7, (.tuple [p02, p03])])), ([(.tuple [p24])], (.tuple [q4, (.tuple [p13])])), ([(.tuple [p14])], (.tuple [q5, (.tuple [p02])])), ([(.tuple [p24, p14])], (.tuple [q6, (.tuple [p13, p03])]))]),
  (q4, [([(.tuple [p13])], (.tuple [q3, (.tuple [p24])])), ([(.tuple [p14, p13])], (.tuple [q7, (.tuple [p03, p02])])), ([(.tuple [])], (.tuple [q4, (.tuple [])])), ([(.tuple [p13, p14])], (.tuple [q5, (.tuple [p24, p02])])), ([(.tuple [p14])], (.tuple [q6, (.tuple [p03])]))]),
  (q5, [([(.tuple [p02])], (.tuple [q3, (.tuple [p14])])), ([(.tuple [p24])], (.tuple [q7, (.tuple [p03])])), ([(.tuple [p02, p24])], (.tuple [q4, (.tuple [p14, p13])])), ([(.tuple [])], (.tuple [q5, (.tuple [])])), ([(.tuple [p24, p02])], (.tuple [q6, (.tuple [p03, p13])]))]),
  (q6, [([(.tuple [p03, p13])], (.tuple [q3, (.tuple [p14, p24])])), ([(.tuple [p13])], (.tuple [q7, (.tuple [p02])])), ([(.tuple [p03])], (.tuple [q4, (.tuple [p14])])), ([(.tuple [p13, p03])], (.tuple [q5, (.tuple [p02, p24])])), ([(.tuple [])], (.tuple [q6, (.tuple [])]))]),
  (q7, [([(.tuple [p03, p02])], (.tuple [q3, (.tuple [p24, p14])])), ([(.tuple [])], (.tuple [q7, (.tuple [])])), ([(.tuple [p02, p03])], (.tuple [q4, (.tuple [p13, p14])])), ([(.tuple [p03])], (.tuple [q5, (.tuple [p24])])), ([(.tuple [p02])], (.tuple [q6, (.tuple [p13])]))]),
  (q8, [([(.tuple [])], (.tuple [q8, (.tuple [])])), ([(.tuple [p15, p25, p35])], (.tuple [q21, (.tuple [p02, p03, p04])])), ([(.tuple [p25, p35])], (.tuple [q12, (.tuple [p13, p14])])), ([(.tuple [p15, p35])], (.tuple [q14, (.tuple [p02, p24])])), ([(.tuple [p25, p15])], (.tuple [q15, (.tuple [p13, p03])])), ([(.tuple [p35, p25, p15])], (.tuple [q17, (.tuple [p24, p14, p04])])), ([(.tuple [p35])], (.tuple [q9, (.tuple [p24])])), ([(.tuple [p25])], (.tuple [q10, (.tuple [p13])])), ([(.tuple [p35, p25])], (.tuple [q11, (.tuple [p24, p14])])), ([(.tuple [p15])], (.tuple [q13, (.tuple [p02])])), ([(.tuple [p15, p25])], (.tuple [q16, (.tuple [p02, p03])])), ([(.tuple [p25, p35, p15])], (.tuple [q18, (.tuple [p13, p14, p04])])), ([(.tuple [p15, p35, p25])], (.tuple [q19, (.tuple [p02, p24, p04])])), ([(.tuple [p25, p15, p35])], (.tuple [q20, (.tuple [p13, p03, p04])])), ([(.tuple [p35, p15])], (.tuple [q14, (.tuple [p24, p02])])), ([(.tuple [p35, p15, p25])], (.tuple [q19, (.tuple [p24, p02, p04])]))]),
  (q9, [([(.tuple [p24])], (.tuple [q8, (.tuple [p35])])), ([(.tuple [p15, p25, p24])], (.tuple [q21, (.tuple [p02, p04, p03])])), ([(.tuple [p25, p24])], (.tuple [q12, (.tuple [p14, p13])])), ([(.tuple [p15])], (.tuple [q14, (.tuple [p02])])), ([(.tuple [p24, p25, p15])], (.tuple [q15, (.tuple [p35, p13, p03])])), ([(.tuple [p25, p15])], (.tuple [q17, (.tuple [p14, p04])])), ([(.tuple [])], (.tuple [q9, (.tuple [])])), ([(.tuple [p24, p25])], (.tuple [q10, (.tuple [p35, p13])])), ([(.tuple [p25])], (.tuple [q11, (.tuple [p14])])), ([(.tuple [p15, p24])], (.tuple [q13, (.tuple [p02, p35])])), ([(.tuple [p15, p24, p25])], (.tuple [q16, (.tuple [p02, p35, p03])])), ([(.tuple [p25, p15, p24])], (.tuple [q18, (.tuple [p14, p04, p13])])), ([(.tuple [p15, p25])], (.tuple [q19, (.tuple [p02, p04])])), ([(.tuple [p25, p24, p15, p14])], (.tuple [q20, (.tuple [p14, p13, p04, p03])])), ([(.tuple [p24, p15])], (.tuple [q13, (.tuple [p35, p02])])), ([(.tuple [p24, p15, p25])], (.tuple [q16, (.tuple [p35, p02, p03])])), ([(.tuple [p25, p24, p15])], (.tuple [q18, (.tuple [p14, p13, p04])])), ([(.tuple [p15, p25, p24, p02])], (.tuple [q20, (.tuple [p02, p04, p03, p13])]))]),
  (q10, [([(.tuple [p13])], (.tuple [q8, (.tuple [p25])])), ([(.tuple [p15, p13, p35])], (.tuple [q21, (.tuple [p03, p02, p04])])), ([(.tuple [p35])], (.tuple [q12, (.tuple [p14])])), ([(.tuple [p13, p15, p35])], (.tuple [q14, (.tuple [p25, p02, p24])])), ([(.tuple [p15])], (.tuple [q15, (.tuple [p03])])), ([(.tuple [p35, p13, p15])], (.tuple [q17, (.tuple [p14, p24, p04])])), ([(.tuple [p13, p35])], (.tuple [q9, (.tuple [p25, p24])])), ([(.tuple [])], (.tuple [q10, (.tuple [])])), ([(.tuple [p35, p13])], (.tuple [q11, (.tuple [p14, p24])])), ([(.tuple [p13, p15])], (.tuple [q13, (.tuple [p25, p02])])), ([(.tuple [p15, p13])], (.tuple [q16, (.tuple [p03, p02])])), ([(.tuple [p35, p15, p13])], (.tuple [q17, (.tuple [p14, p04, p24])])), ([(.tuple [p35, p15])], (.tuple [q18, (.tuple [p14, p04])])), ([(.tuple [p35, p13, p15, p14])], (.tuple [q19, (.tuple [p14, p24, p04, p02])])), ([(.tuple [p15, p35])], (.tuple [q20, (.tuple [p03, p04])])), ([(.tuple [p13, p35, p15])], (.tuple [q14, (.tuple [p25, p24, p02])])), ([(.tuple [p13, p15, p35, p25])], (.tuple [q19, (.tuple [p25, p02, p24, p04])])), ([(.tuple [p15, p35, p13])], (.tuple [q21, (.tuple [p03, p04, p02])]))]),
  (q11, [([(.tuple [p14, p24])], (.tuple [q8, (.tuple [p25, p35])])), ([(.tuple [p15, p14, p24])], (.tuple [q21, (.tuple [p04, p02, p03])])), ([(.tuple [p24])], (.tuple [q12, (.tuple [p13])])), ([(.tuple [p14, p15])], (.tuple [q14, (.tuple [p25, p02])])), ([(.tuple [p24, p14, p15])], (.tuple [q15, (.tuple [p13, p35, p03])])), ([(.tuple [p15])], (.tuple [q17, (.tuple [p04])])), ([(.tuple [p14])], (.tuple [q9, (.tuple [p25])])), ([(.tuple [p24, p14])], (.tuple [q10, (.tuple [p13, p35])])), ([(.tuple [])], (.tuple [q11, (.tuple [])])), ([(.tuple [p14, p15, p24])], (.tuple [q13, (.tuple [p25, p02, p35])])), ([(.tuple [p24, p14, p15, p13])], (.tuple [q16, (.tuple [p13, p35, p03, p02])])), ([(.tuple [p15, p24])], (.tuple [q18, (.tuple [p04, p13])])), ([(.tuple [p15, p14])], (.tuple [q19, (.tuple [p04, p02])])), ([(.tuple [p15, p24, p14])], (.tuple [q20, (.tuple [p04, p13, p03])])), ([(.tuple [p14, p24, p15])], (.tuple [q13, (.tuple [p25, p35, p02])])), ([(.tuple [p14, p15, p24, p25])], (.tuple [q16, (.tuple [p25, p02, p35, p03])])), ([(.tuple [p24, p15])], (.tuple [q18, (.tuple [p13, p04])])), ([(.tuple [p24, p15, p14])], (.tuple [q20, (.tuple [p13, p04, p03])]))]),
  (q12, [([(.tuple [p14, p13])], (.tuple [q8, (.tuple [p35, p25])])), ([(.tuple [p15, p14, p13])], (.tuple [q21, (.tuple [p04, p03, p02])])), ([(.tuple [])], (.tuple [q12, (.tuple [])])), ([(.tuple [p13, p14, p15])], (.tuple [q14, (.tuple [p24, p25, p02])])), ([(.tuple [p14, p15])], (.tuple [q15, (.tuple [p35, p03])])), ([(.tuple [p13, p15])], (.tuple [q17, (.tuple [p24, p04])])), ([(.tuple [p13, p14])], (.tuple [q9, (.tuple [p24, p25])])), ([(.tuple [p14])], (.tuple [q10, (.tuple [p35])])), ([(.tuple [p13])], (.tuple [q11, (.tuple [p24])])), ([(.tuple [p14, p13, p15])], (.tuple [q13, (.tuple [p35, p25, p02])])), ([(.tuple [p14, p15, p13])], (.tuple [q16, (.tuple [p35, p03, p02])])), ([(.tuple [p15, p13])], (.tuple [q17, (.tuple [p04, p24])])), ([(.tuple [p15])], (.tuple [q18, (.tuple [p04])])), ([(.tuple [p13, p15, p14])], (.tuple [q19, (.tuple [p24, p04, p02])])), ([(.tuple [p15, p14])], (.tuple [q20, (.tuple [p04, p03])]))]),
  (q13, [([(.tuple [p02])], (.tuple [q8, (.tuple [p15])])), ([(.tuple [p25, p35])], (.tuple [q21, (.tuple [p03, p04])])), ([(.tuple [p02, p25, p35])], (.tuple [q12, (.tuple [p15, p13, p14])])), ([(.tuple [p35])], (.tuple [q14, (.tuple [p24])])), ([(.tuple [p25, p02])], (.tuple [q15, (.tuple [p03, p13])])), ([(.tuple [p35, p25, p02])], (.tuple [q17, (.tuple [p24, p04, p14])])), ([(.tuple [p35, p02])], (.tuple [q9, (.tuple [p24, p15])])), ([(.tuple [p02, p25])], (.tuple [q10, (.tuple [p15, p13])])), ([(.tuple [p35, p02, p25])], (.tuple [q11, (.tuple [p24, p15, p14])])), ([(.tuple [p02, p35])], (.tuple [q9, (.tuple [p15, p24])])), ([(.tuple [p02, p35, p25])], (.tuple [q11, (.tuple [p15, p24, p14])])), ([(.tuple [])], (.tuple [q13, (.tuple [])])), ([(.tuple [p25])], (.tuple [q16, (.tuple [p03])])), ([(.tuple [p02, p25, p35, p15])], (.tuple [q18, (.tuple [p15, p13, p14, p04])])), ([(.tuple [p35, p25])], (.tuple [q19, (.tuple [p24, p04])])), ([(.tuple [p25, p02, p35])], (.tuple [q20, (.tuple [p03, p13, p04])]))]),
  (q14, [([(.tuple [p24, p02])], (.tuple [q8, (.tuple [p35, p15])])), ([(.tuple [p25, p24])], (.tuple [q21, (.tuple [p04, p03])])), ([(.tuple [p02, p25, p24])], (.tuple [q12, (.tuple [p15, p14, p13])])), ([(.tuple [])], (.tuple [q14, (.tuple [])])), ([(.tuple [p24, p25, p02])], (.tuple [q15, (.tuple [p35, p03, p13])])), ([(.tuple [p25, p02])], (.tuple [q17, (.tuple [p04, p14])])), ([(.tuple [p02, p24])], (.tuple [q8, (.tuple [p15, p35])])), ([(.tuple [p02])], (.tuple [q9, (.tuple [p15])])), ([(.tuple [p24, p02, p25])], (.tuple [q10, (.tuple [p35, p15, p13])])), ([(.tuple [p02, p25])], (.tuple [q11, (.tuple [p15, p14])])), ([(.tuple [p24])], (.tuple [q13, (.tuple [p35])])), ([(.tuple [p02, p24, p25])], (.tuple [q10, (.tuple [p15, p35, p13])])), ([(.tuple [p24, p25])], (.tuple [q16, (.tuple [p35, p03])])), ([(.tuple [p25, p02, p24])], (.tuple [q18, (.tuple [p04, p14, p13])])), ([(.tuple [p25])], (.tuple [q19, (.tuple [p04])])), ([(.tuple [p25, p24, p02])], (.tuple [q20, (.tuple [p04, p03, p13])]))]),
  (q15, [([(.tuple [p03, p13])], (.tuple [q8, (.tuple [p15, p25])])), ([(.tuple [p13, p35])], (.tuple [q21, (.tuple [p02, p04])])), ([(.tuple [p03, p35])], (.tuple [q12, (.tuple [p15, p14])])), ([(.tuple [p13, p03, p35])], (.tuple [q14, (.tuple [p02, p25, p24])])), ([(.tuple [])], (.tuple [q15, (.tuple [])])), ([(.tuple [p35, p03, p13])], (.tuple [q17, (.tuple [p04, p14, p24])])), ([(.tuple [p03, p13, p35])], (.tuple [q9, (.tuple [p15, p25, p24])])), ([(.tuple [p03])], (.tuple [q10, (.tuple [p15])])), ([(.tuple [p03, p35, p13])], (.tuple [q11, (.tuple [p15, p14, p24])])), ([(.tuple [p13, p03])], (.tuple [q13, (.tuple [p02, p25])])), ([(.tuple [p13])], (.tuple [q16, (.tuple [p02])])), ([(.tuple [p35, p03])], (.tuple [q18, (.tuple [p04, p14])])), ([(.tuple [p13, p35, p03])], (.tuple [q19, (.tuple [p02, p04, p24])])), ([(.tuple [p35])], (.tuple [q20, (.tuple [p04])])), ([(.tuple [p35, p13, p03])], (.tuple [q19, (.tuple [p04, p02, p24])])), ([(.tuple [p35, p13])], (.tuple [q21, (.tuple [p04, p02])]))]),
  (q16, [([(.tuple [p03, p02])], (.tuple [q8, (.tuple [p25, p15])])), ([(.tuple [p35])], (.tuple [q21, (.tuple [p04])])), ([(.tuple [p02, p03, p35])], (.tuple [q12, (.tuple [p13, p15, p14])])), ([(.tuple [p03, p35])], (.tuple [q14, (.tuple [p25, p24])])), ([(.tuple [p02])], (.tuple [q15, (.tuple [p13])])), ([(.tuple [p35, p03, p02])], (.tuple [q17, (.tuple [p04, p24, p14])])), ([(.tuple [p03, p35, p02])], (.tuple [q9, (.tuple [p25, p24, p15])])), ([(.tuple [p02, p03])], (.tuple [q10, (.tuple [p13, p15])])), ([(.tuple [p02, p03, p35, p13])], (.tuple [q11, (.tuple [p13, p15, p14, p24])])), ([(.tuple [p03])], (.tuple [q13, (.tuple [p25])])), ([(.tuple [p03, p02, p35])], (.tuple [q9, (.tuple [p25, p15, p24])])), ([(.tuple [p03, p35, p02, p25])], (.tuple [q11, (.tuple [p25, p24, p15, p14])])), ([(.tuple [])], (.tuple [q16, (.tuple [])])), ([(.tuple [p02, p35, p03])], (.tuple [q18, (.tuple [p13, p04, p14])])), ([(.tuple [p35, p03])], (.tuple [q19, (.tuple [p04, p24])])), ([(.tuple [p02, p35])], (.tuple [q20, (.tuple [p13, p04])])), ([(.tuple [p35, p02, p03])], (.tuple [q18, (.tuple [p04, p13, p14])])), ([(.tuple [p35, p02])], (.tuple [q20, (.tuple [p04, p13])]))]),
  (q17, [([(.tuple [p04, p14, p24])], (.tuple [q8, (.tuple [p15, p25, p35])])), ([(.tuple [p14, p24])], (.tuple [q21, (.tuple [p02, p03])])), ([(.tuple [p04, p24])], (.tuple [q12, (.tuple [p15, p13])])), ([(.tuple [p14, p04])], (.tuple [q14, (.tuple [p02, p25])])), ([(.tuple [p24, p14, p04])], (.tuple [q15, (.tuple [p13, p03, p35])])), ([(.tuple [])], (.tuple [q17, (.tuple [])])), ([(.tuple [p04, p14])], (.tuple [q9, (.tuple [p15, p25])])), ([(.tuple [p24, p04, p14])], (.tuple [q10, (.tuple [p13, p15, p35])])), ([(.tuple [p04])], (.tuple [q11, (.tuple [p15])])), ([(.tuple [p24, p04])], (.tuple [q12, (.tuple [p13, p15])])), ([(.tuple [p14, p04, p24])], (.tuple [q13, (.tuple [p02, p25, p35])])), ([(.tuple [p14, p24, p04])], (.tuple [q16, (.tuple [p02, p03, p35])])), ([(.tuple [p04, p24, p14])], (.tuple [q10, (.tuple [p15, p13, p35])])), ([(.tuple [p24])], (.tuple [q18, (.tuple [p13])])), ([(.tuple [p14])], (.tuple [q19, (.tuple [p02])])), ([(.tuple [p24, p14])], (.tuple [q20, (.tuple [p13, p03])]))]),
  (q18, [([(.tuple [p04, p14, p13])], (.tuple [q8, (.tuple [p15, p35, p25])])), ([(.tuple [p14, p13])], (.tuple [q21, (.tuple [p03, p02])])), ([(.tuple [p04])], (.tuple [q12, (.tuple [p15])])), ([(.tuple [p13, p14, p04])], (.tuple [q14, (.tuple [p24, p02, p25])])), ([(.tuple [p14, p04])], (.tuple [q15, (.tuple [p03, p35])])), ([(.tuple [p13])], (.tuple [q17, (.tuple [p24])])), ([(.tuple [p13, p04, p14])], (.tuple [q9, (.tuple [p24, p15, p25])])), ([(.tuple [p04, p14])], (.tuple [q10, (.tuple [p15, p35])])), ([(.tuple [p13, p04])], (.tuple [q11, (.tuple [p24, p15])])), ([(.tuple [p04, p14, p13, p15])], (.tuple [q13, (.tuple [p15, p35, p25, p02])])), ([(.tuple [p14, p04, p13])], (.tuple [q16, (.tuple [p03, p35, p02])])), ([(.tuple [p04, p13, p14])], (.tuple [q9, (.tuple [p15, p24, p25])])), ([(.tuple [p04, p13])], (.tuple [q11, (.tuple [p15, p24])])), ([(.tuple [p14, p13, p04])], (.tuple [q16, (.tuple [p03, p02, p35])])), ([(.tuple [])], (.tuple [q18, (.tuple [])])), ([(.tuple [p13, p14])], (.tuple [q19, (.tuple [p24, p02])])), ([(.tuple [p14])], (.tuple [q20, (.tuple [p03])]))]),
  (q19, [([(.tuple [p04, p24, p02])], (.tuple [q8, (.tuple [p25, p35, p15])])), ([(.tuple [p24])], (.tuple [q21, (.tuple [p03])])), ([(.tuple [p02, p04, p24])], (.tuple [q12, (.tuple [p14, p15, p13])])), ([(.tuple [p04])], (.tuple [q14, (.tuple [p25])])), ([(.tuple [p24, p02, p04])], (.tuple [q15, (.tuple [p03, p13, p35])])), ([(.tuple [p02])], (.tuple [q17, (.tuple [p14])])), ([(.tuple [p04, p02, p24])], (.tuple [q8, (.tuple [p25, p15, p35])])), ([(.tuple [p04, p02])], (.tuple [q9, (.tuple [p25, p15])])), ([(.tuple [p02, p04, p24, p14])], (.tuple [q10, (.tuple [p14, p15, p13, p35])])), ([(.tuple [p02, p04])], (.tuple [q11, (.tuple [p14, p15])])), ([(.tuple [p04, p24])], (.tuple [q13, (.tuple [p25, p35])])), ([(.tuple [p24, p04, p02])], (.tuple [q15, (.tuple [p03, p35, p13])])), ([(.tuple [p24, p04])], (.tuple [q16, (.tuple [p03, p35])])), ([(.tuple [p02, p24])], (.tuple [q18, (.tuple [p14, p13])])), ([(.tuple [p04, p24, p02, p25])], (.tuple [q10, (.tuple [p25, p35, p15, p13])])), ([(.tuple [])], (.tuple [q19, (.tuple [])])), ([(.tuple [p24, p02])], (.tuple [q20, (.tuple [p03, p13])]))]),
  (q20, [([(.tuple [p04, p03, p13])], (.tuple [q8, (.tuple [p35, p15, p25])])), ([(.tuple [p13])], (.tuple [q21, (.tuple [p02])])), ([(.tuple [p03, p04])], (.tuple [q12, (.tuple [p14, p15])])), ([(.tuple [p13, p03, p04])], (.tuple [q14, (.tuple [p02, p24, p25])])), ([(.tuple [p04])], (.tuple [q15, (.tuple [p35])])), ([(.tuple [p03, p13])], (.tuple [q17, (.tuple [p14, p24])])), ([(.tuple [p03, p04, p13, p14])], (.tuple [q9, (.tuple [p14, p15, p24, p25])])), ([(.tuple [p04, p03])], (.tuple [q10, (.tuple [p35, p15])])), ([(.tuple [p03, p13, p04])], (.tuple [q11, (.tuple [p14, p24, p15])])), ([(.tuple [p04, p13, p03])], (.tuple [q13, (.tuple [p35, p02, p25])])), ([(.tuple [p04, p13])], (.tuple [q16, (.tuple [p35, p02])])), ([(.tuple [p03])], (.tuple [q18, (.tuple [p14])])), ([(.tuple [p13, p03])], (.tuple [q19, (.tuple [p02, p24])])), ([(.tuple [p13, p03, p04, p02])], (.tuple [q9, (.tuple [p02, p24, p25, p15])])), ([(.tuple [p03, p04, p13])], (.tuple [q11, (.tuple [p14, p15, p24])])), ([(.tuple [p13, p04])], (.tuple [q16, (.tuple [p02, p35])])), ([(.tuple [])], (.tuple [q20, (.tuple [])]))]),
  (q21, [([(.tuple [p04, p03, p02])], (.tuple [q8, (.tuple [p35, p25, p15])])), ([(.tuple [])], (.tuple [q21, (.tuple [])])), ([(.tuple [p02, p03, p04])], (.tuple [q12, (.tuple [p13, p14, p15])])), ([(.tuple [p03, p04])], (.tuple [q14, (.tuple [p24, p25])])), ([(.tuple [p02, p04])], (.tuple [q15, (.tuple [p13, p35])])), ([(.tuple [p03, p02])], (.tuple [q17, (.tuple [p24, p14])])), ([(.tuple [p03, p04, p02])], (.tuple [q9, (.tuple [p24, p25, p15])])), ([(.tuple [p04, p02, p03])], (.tuple [q10, (.tuple [p35, p13, p15])])), ([(.tuple [p03, p02, p04])], (.tuple [q11, (.tuple [p24, p14, p15])])), ([(.tuple [p04, p03])], (.tuple [q13, (.tuple [p35, p25])])), ([(.tuple [p04, p02])], (.tuple [q15, (.tuple [p35, p13])])), ([(.tuple [p04])], (.tuple [q16, (.tuple [p35])])), ([(.tuple [p02, p03])], (.tuple [q18, (.tuple [p13, p14])])), ([(.tuple [p03])], (.tuple [q19, (.tuple [p24])])), ([(.tuple [p02])], (.tuple [q20, (.tuple [p13])])), ([(.tuple [p02, p04, p03])], (.tuple [q10, (.tuple [p13, p35, p15])]))])]
def Fway_steps : List PyData → R PyData := tabF tabway_steps Uway_steps
def Nleads_to : List Str := ["one", "other", "value", "found"]
def Gleads_to : Ev → Out := (sSeq (sAsg (gN 3) (eCall 2 Fway_steps (aCons (eVar 0) (aCons (eVar 2) aNil)))) (sRet (eAnd (e2 gNotN (eVar 3) (eC .none)) (e2 gEq (e2 gIx (eVar 3) (eC (.int 0))) (eVar 1)))))
def Fleads_to : List PyData → R PyData := fun ds => outR (Gleads_to (startE 4 ds))
def Nsteps_to_fan : List Str := ["cutting", "corner", "found", "some", "cut", "there"]
def Gsteps_to_fan : Ev → Out := (sSeq (sPar false false 2 3 (eTup aNil) (eComp [4] (iS (e2 gIx (eVar 0) (eC (.int 1)))) (gN 4) (e2 (gIn false) (eVar 1) (eCall 2 Fthirds_of (aCons (eVar 0) (aCons (eVar 4) aNil)))) (eVar 4))) (sSeq (sWhile 12 (e2 gNe (eVar 3) (eLst aNil)) (sSeq (sAsg (gN 5) (eCall 2 Fcut_for (aCons (eVar 0) (aCons (e2 gIx (eVar 3) (eC (.int 0))) aNil)))) (sSeq (sAsg (gT (gsCons (gN 2) (gsCons (gN 0) gsNil))) (eTup (aCons (e2 gAdd (eVar 2) (eTup (aCons (e2 gIx (eVar 3) (eC (.int 0))) aNil))) (aCons (eCall 3 Fwith_cut (aCons (eVar 0) (aCons (e2 gIx (eVar 3) (eC (.int 0))) (aCons (eVar 5) aNil)))) aNil)))) (sAsg (gN 3) (eComp [4] (iS (e2 gIx (eVar 0) (eC (.int 1)))) (gN 4) (e2 (gIn false) (eVar 1) (eCall 2 Fthirds_of (aCons (eVar 0) (aCons (eVar 4) aNil)))) (eVar 4)))))) (sRet (eVar 2))))
def Usteps_to_fan : List PyData → R PyData := fun ds => outR (Gsteps_to_fan (startE 6 ds))
def tabsteps_to_fan : List (PyData × List (List PyData × PyData)) := [(q0, [([n0], (.tuple [])), ([n1], (.tuple [])), ([n2], (.tuple []))]),
  (q1, [([n0], (.tuple [p13])), ([n1], (.tuple [])), ([n2], (.tuple [p13])), ([n3], (.tuple []))]),
  (q2, [([n0], (.tuple [])), ([n1], (.tuple [p02])), ([n2], (.tuple [])), ([n3], (.tuple [p02]))]),
  (q3, [([n0], (.tuple [p14, p24])), ([n1], (.tuple [p24])), ([n2], (.tuple [p14])), ([n3], (.tuple [p24, p14])), ([n4], (.tuple []))]),
  (q4, [([n0], (.tuple [p14, p13])), ([n1], (.tuple [])), ([n2], (.tuple [p13, p14])), ([n3], (.tuple [p14])), ([n4], (.tuple [p13]))]),
  (q5, [([n0], (.tuple [p24])), ([n1], (.tuple [p02, p24])), ([n2], (.tuple [])), ([n3], (.tuple [p24, p02])), ([n4], (.tuple [p02]))]),
  (q6, [([n0], (.tuple [p13])), ([n1], (.tuple [p03])), ([n2], (.tuple [p13, p03])), ([n3], (.tuple [])), ([n4], (.tuple [p03, p13]))]),
  (q7, [([n0], (.tuple [])), ([n1], (.tuple [p02, p03])), ([n2], (.tuple [p03])), ([n3], (.tuple [p02])), ([n4], (.tuple [p03, p02]))]),
  (q8, [([n0], (.tuple [p15, p25, p35])), ([n1], (.tuple [p25, p35])), ([n2], (.tuple [p15, p35])), ([n3], (.tuple [p25, p15])), ([n4], (.tuple [p35, p25, p15])), ([n5], (.tuple []))]),
  (q9, [([n0], (.tuple [p15, p25, p24])), ([n1], (.tuple [p25, p24])), ([n2], (.tuple [p15])), ([n3], (.tuple [p24, p25, p15])), ([n4], (.tuple [p25, p15])), ([n5], (.tuple [p24]))]),
  (q10, [([n0], (.tuple [p15, p13, p35])), ([n1], (.tuple [p35])), ([n2], (.tuple [p13, p15, p35])), ([n3], (.tuple [p15])), ([n4], (.tuple [p35, p13, p15])), ([n5], (.tuple [p13]))]),
  (q11, [([n0], (.tuple [p15, p14, p24])), ([n1], (.tuple [p24])), ([n2], (.tuple [p14, p15])), ([n3], (.tuple [p24, p14, p15])), ([n4], (.tuple [p15])), ([n5], (.tuple [p14, p24]))]),
  (q12, [([n0], (.tuple [p15, p14, p13])), ([n1], (.tuple [])), ([n2], (.tuple [p13, p14, p15])), ([n3], (.tuple [p14, p15])), ([n4], (.tuple [p13, p15])), ([n5], (.tuple [p14, p13]))]),
  (q13, [([n0], (.tuple [p25, p35])), ([n1], (.tuple [p02, p25, p35])), ([n2], (.tuple [p35])), ([n3], (.tuple [p25, p02])), ([n4], (.tuple [p35, p25, p02])), ([n5], (.tuple [p02]))]),
  (q14, [([n0], (.tuple [p25, p24])), ([n1], (.tuple [p02, p25, p24])), ([n2], (.tuple [])), ([n3], (.tuple [p24, p25, p02])), ([n4], (.tuple [p25, p02])), ([n5], (.tuple [p02, p24]))]),
  (q15, [([n0], (.tuple [p13, p35])), ([n1], (.tuple [p03, p35])), ([n2], (.tuple [p13, p03, p35])), ([n3], (.tuple [])), ([n4], (.tuple [p35, p03, p13])), ([n5], (.tuple [p03, p13]))]),
  (q16, [([n0], (.tuple [p35])), ([n1], (.tuple [p02, p03, p35])), ([n2], (.tuple [p03, p35])), ([n3], (.tuple [p02])), ([n4], (.tuple [p35, p03, p02])), ([n5], (.tuple [p03, p02]))]),
  (q17, [([n0], (.tuple [p14, p24])), ([n1], (.tuple [p04, p24])), ([n2], (.tuple [p14, p04])), ([n3], (.tuple [p24, p14, p04])), ([n4], (.tuple [])), ([n5], (.tuple [p04, p14, p24]))]),
  (q18, [([n0], (.tuple [p14, p13])), ([n1], (.tuple [p04])), ([n2], (.tuple [p13, p14, p04])), ([n3], (.tuple [p14, p04])), ([n4], (.tuple [p13])), ([n5], (.tuple [p04, p14, p13]))]),
  (q19, [([n0], (.tuple [p24])), ([n1], (.tuple [p02, p04, p24])), ([n2], (.tuple [p04])), ([n3], (.tuple [p24, p02, p04])), ([n4], (.tuple [p02])), ([n5], (.tuple [p04, p02, p24]))]),
  (q20, [([n0], (.tuple [p13])), ([n1], (.tuple [p03, p04])), ([n2], (.tuple [p13, p03, p04])), ([n3], (.tuple [p04])), ([n4], (.tuple [p03, p13])), ([n5], (.tuple [p04, p03, p13]))]),
  (q21, [([n0], (.tuple [])), ([n1], (.tuple [p02, p03, p04])), ([n2], (.tuple [p03, p04])), ([n3], (.tuple [p02, p04])), ([n4], (.tuple [p03, p02])), ([n5], (.tuple [p04, p03, p02]))])]
def Fsteps_to_fan : List PyData → R PyData := tabF tabsteps_to_fan Usteps_to_fan
def Nneed_two : List Str := ["one", "other"]
def Gneed_two : Ev → Out := (sSeq (sExpr (eCall 1 Fneed_cutting (aCons (eVar 0) aNil))) (sSeq (sExpr (eCall 1 Fneed_cutting (aCons (eVar 1) aNil))) (sIf (e2 gNe (e2 gIx (eVar 0) (eC (.int 0))) (e2 gIx (eVar 1) (eC (.int 0)))) (sRaise 7) sNil)))
def Uneed_two : List PyData → R PyData := fun ds => outR (Gneed_two (startE 2 ds))
def tabneed_two : List (PyData × List (List PyData × PyData)) := [(q0, [([q0], .none)]),
  (q1, [([q1], .none), ([q2], .none)]),
  (q2, [([q2], .none), ([q1], .none)]),
  (q3, [([q3], .none), ([q4], .none), ([q5], .none), ([q6], .none), ([q7], .none)]),
  (q4, [([q4], .none), ([q3], .none), ([q6], .none), ([q5], .none), ([q7], .none)]),
  (q7, [([q7], .none), ([q5], .none), ([q6], .none), ([q3], .none), ([q4], .none)]),
  (q5, [([q5], .none), ([q3], .none), ([q7], .none), ([q4], .none), ([q6], .none)]),
  (q6, [([q6], .none), ([q7], .none), ([q4], .none), ([q3], .none), ([q5], .none)]),
  (q8, [([q8], .none), ([q9], .none), ([q10], .none), ([q11], .none), ([q12], .none), ([q13], .none), ([q14], .none), ([q15], .none), ([q16], .none), ([q17], .none), ([q18], .none), ([q19], .none), ([q20], .none), ([q21], .none)]),
  (q12, [([q12], .none), ([q11], .none), ([q18], .none), ([q10], .none), ([q9], .none), ([q20], .none), ([q8], .none), ([q15], .none), ([q17], .none), ([q14], .none), ([q21], .none), ([q13], .none), ([q16], .none), ([q19], .none)]),
  (q21, [([q21], .none), ([q16], .none), ([q19], .none), ([q13], .none), ([q14], .none), ([q20], .none), ([q15], .none), ([q17], .none), ([q18], .none), ([q8], .none), ([q9], .none), ([q10], .none), ([q11], .none), ([q12], .none)]),
  (q14, [([q14], .none), ([q9], .none), ([q19], .none), ([q11], .none), ([q17], .none), ([q13], .none), ([q8], .none), ([q21], .none), ([q16], .none), ([q12], .none), ([q18], .none), ([q10], .none), ([q20], .none), ([q15], .none)]),
  (q15, [([q15], .none), ([q16], .none), ([q10], .none), ([q13], .none), ([q8], .none), ([q20], .none), ([q21], .none), ([q12], .none), ([q18], .none), ([q14], .none), ([q9], .none), ([q19], .none), ([q11], .none), ([q17], .none)]),
  (q17, [([q17], .none), ([q18], .none), ([q19], .none), ([q20], .none), ([q21], .none), ([q11], .none), ([q12], .none), ([q14], .none), ([q9], .none), ([q8], .none), ([q15], .none), ([q16], .none), ([q10], .none), ([q13], .none)]),
  (q9, [([q8], .none), ([q9], .none), ([q11], .none), ([q17], .none), ([q14], .none), ([q10], .none), ([q19], .none), ([q12], .none), ([q13], .none), ([q15], .none), ([q21], .none), ([q16], .none), ([q18], .none), ([q20], .none)]),
  (q10, [([q8], .none), ([q10], .none), ([q12], .none), ([q15], .none), ([q18], .none), ([q20], .none), ([q9], .none), ([q11], .none), ([q16], .none), ([q13], .none), ([q14], .none), ([q17], .none), ([q21], .none), ([q19], .none)]),
  (q11, [([q8], .none), ([q12], .none), ([q11], .none), ([q10], .none), ([q9], .none), ([q18], .none), ([q17], .none), ([q15], .none), ([q20], .none), ([q14], .none), ([q13], .none), ([q19], .none), ([q16], .none), ([q21], .none)]),
  (q13, [([q8], .none), ([q13], .none), ([q14], .none), ([q16], .none), ([q19], .none), ([q21], .none), ([q9], .none), ([q10], .none), ([q15], .none), ([q11], .none), ([q20], .none), ([q17], .none), ([q12], .none), ([q18], .none)]),
  (q16, [([q8], .none), ([q21], .none), ([q15], .none), ([q16], .none), ([q19], .none), ([q10], .none), ([q13], .none), ([q14], .none), ([q20], .none), ([q17], .none), ([q12], .none), ([q9], .none), ([q18], .none), ([q11], .none)]),
  (q18, [([q8], .none), ([q12], .none), ([q17], .none), ([q18], .none), ([q10], .none), ([q19], .none), ([q20], .none), ([q15], .none), ([q21], .none), ([q11], .none), ([q14], .none), ([q9], .none), ([q16], .none), ([q13], .none)]),
  (q19, [([q8], .none), ([q9], .none), ([q21], .none), ([q14], .none), ([q17], .none), ([q16], .none), ([q18], .none), ([q19], .none), ([q13], .none), ([q11], .none), ([q20], .none), ([q15], .none), ([q12], .none), ([q10], .none)]),
  (q20, [([q8], .none), ([q9], .none), ([q10], .none), ([q12], .none), ([q17], .none), ([q18], .none), ([q19], .none), ([q20], .none), ([q15], .none), ([q21], .none), ([q11], .none), ([q14], .none), ([q16], .none), ([q13], .none)])]
def Fneed_two : List PyData → R PyData := tabF tabneed_two Uneed_two
def Nneed_way : List Str := ["cutting", "value"]
def Gneed_way : Ev → Out := (sIf (e2 gIsN (eCall 2 Fway_steps (aCons (eVar 0) (aCons (eVar 1) aNil))) (eC .none)) (sRaise 8) sNil)
def Uneed_way : List PyData → R PyData := fun ds => outR (Gneed_way (startE 2 ds))
def tabneed_way : List (PyData × List (List PyData × PyData)) := [(q0, [([(.tuple [])], .none)]),
  (q1, [([(.tuple [])], .none), ([(.tuple [p13])], .none)]),
  (q2, [([(.tuple [p02])], .none), ([(.tuple [])], .none)]),
  (q3, [([(.tuple [])], .none), ([(.tuple [p24])], .none), ([(.tuple [p14])], .none), ([(.tuple [p24, p14])], .none), ([(.tuple [p14, p24])], .none)]),
  (q4, [([(.tuple [p13])], .none), ([(.tuple [])], .none), ([(.tuple [p13, p14])], .none), ([(.tuple [p14])], .none), ([(.tuple [p14, p13])], .none)]),
  (q5, [([(.tuple [p02])], .none), ([(.tuple [p02, p24])], .none), ([(.tuple [])], .none), ([(.tuple [p24, p02])], .none), ([(.tuple [p24])], .none)]),
  (q6, [([(.tuple [p03, p13])], .none), ([(.tuple [p03])], .none), ([(.tuple [p13, p03])], .none), ([(.tuple [])], .none), ([(.tuple [p13])], .none)]),
  (q7, [([(.tuple [p03, p02])], .none), ([(.tuple [p02, p03])], .none), ([(.tuple [p03])], .none), ([(.tuple [p02])], .none), ([(.tuple [])], .none)]),
  (q8, [([(.tuple [])], .none), ([(.tuple [p35])], .none), ([(.tuple [p25])], .none), ([(.tuple [p35, p25])], .none), ([(.tuple [p25, p35])], .none), ([(.tuple [p15])], .none), ([(.tuple [p15, p35])], .none), ([(.tuple [p25, p15])], .none), ([(.tuple [p15, p25])], .none), ([(.tuple [p35, p25, p15])], .none), ([(.tuple [p25, p35, p15])], .none), ([(.tuple [p15, p35, p25])], .none), ([(.tuple [p25, p15, p35])], .none), ([(.tuple [p15, p25, p35])], .none)]),
  (q9, [([(.tuple [p24])], .none), ([(.tuple [])], .none), ([(.tuple [p24, p25])], .none), ([(.tuple [p25])], .none), ([(.tuple [p25, p24])], .none), ([(.tuple [p15, p24])], .none), ([(.tuple [p15])], .none), ([(.tuple [p24, p25, p15])], .none), ([(.tuple [p15, p24, p25])], .none), ([(.tuple [p25, p15])], .none), ([(.tuple [p25, p15, p24])], .none), ([(.tuple [p15, p25])], .none), ([(.tuple [p25, p24, p15, p14])], .none), ([(.tuple [p15, p25, p24])], .none)]),
  (q10, [([(.tuple [p13])], .none), ([(.tuple [p13, p35])], .none), ([(.tuple [])], .none), ([(.tuple [p35, p13])], .none), ([(.tuple [p35])], .none), ([(.tuple [p13, p15])], .none), ([(.tuple [p13, p15, p35])], .none), ([(.tuple [p15])], .none), ([(.tuple [p15, p13])], .none), ([(.tuple [p35, p15, p13])], .none), ([(.tuple [p35, p15])], .none), ([(.tuple [p35, p13, p15, p14])], .none), ([(.tuple [p15, p35])], .none), ([(.tuple [p15, p13, p35])], .none)]),
  (q11, [([(.tuple [p14, p24])], .none), ([(.tuple [p14])], .none), ([(.tuple [p24, p14])], .none), ([(.tuple [])], .none), ([(.tuple [p24])], .none), ([(.tuple [p14, p15, p24])], .none), ([(.tuple [p14, p15])], .none), ([(.tuple [p24, p14, p15])], .none), ([(.tuple [p24, p14, p15, p13])], .none), ([(.tuple [p15])], .none), ([(.tuple [p15, p24])], .none), ([(.tuple [p15, p14])], .none), ([(.tuple [p15, p24, p14])], .none), ([(.tuple [p15, p14, p24])], .none)]),
  (q12, [([(.tuple [p14, p13])], .none), ([(.tuple [p13, p14])], .none), ([(.tuple [p14])], .none), ([(.tuple [p13])], .none), ([(.tuple [])], .none), ([(.tuple [p14, p13, p15])], .none), ([(.tuple [p13, p14, p15])], .none), ([(.tuple [p14, p15])], .none), ([(.tuple [p14, p15, p13])], .none), ([(.tuple [p15, p13])], .none), ([(.tuple [p15])], .none), ([(.tuple [p13, p15, p14])], .none), ([(.tuple [p15, p14])], .none), ([(.tuple [p15, p14, p13])], .none)]),
  (q13, [([(.tuple [p02])], .none), ([(.tuple [p02, p35])], .none), ([(.tuple [p02, p25])], .none), ([(.tuple [p02, p35, p25])], .none), ([(.tuple [p02, p25, p35])], .none), ([(.tuple [])], .none), ([(.tuple [p35])], .none), ([(.tuple [p25, p02])], .none), ([(.tuple [p25])], .none), ([(.tuple [p35, p25, p02])], .none), ([(.tuple [p02, p25, p35, p15])], .none), ([(.tuple [p35, p25])], .none), ([(.tuple [p25, p02, p35])], .none), ([(.tuple [p25, p35])], .none)]),
  (q14, [([(.tuple [p02, p24])], .none), ([(.tuple [p02])], .none), ([(.tuple [p02, p24, p25])], .none), ([(.tuple [p02, p25])], .none), ([(.tuple [p02, p25, p24])], .none), ([(.tuple [p24])], .none), ([(.tuple [])], .none), ([(.tuple [p24, p25, p02])], .none), ([(.tuple [p24, p25])], .none), ([(.tuple [p25, p02])], .none), ([(.tuple [p25, p02, p24])], .none), ([(.tuple [p25])], .none), ([(.tuple [p25, p24, p02])], .none), ([(.tuple [p25, p24])], .none)]),
  (q15, [([(.tuple [p03, p13])], .none), ([(.tuple [p03, p13, p35])], .none), ([(.tuple [p03])], .none), ([(.tuple [p03, p35, p13])], .none), ([(.tuple [p03, p35])], .none), ([(.tuple [p13, p03])], .none), ([(.tuple [p13, p03, p35])], .none), ([(.tuple [])], .none), ([(.tuple [p13])], .none), ([(.tuple [p35, p03, p13])], .none), ([(.tuple [p35, p03])], .none), ([(.tuple [p13, p35, p03])], .none), ([(.tuple [p35])], .none), ([(.tuple [p13, p35])], .none)]),
  (q16, [([(.tuple [p03, p02])], .none), ([(.tuple [p03, p02, p35])], .none), ([(.tuple [p02, p03])], .none), ([(.tuple [p03, p35, p02, p25])], .none), ([(.tuple [p02, p03, p35])], .none), ([(.tuple [p03])], .none), ([(.tuple [p03, p35])], .none), ([(.tuple [p02])], .none), ([(.tuple [])], .none), ([(.tuple [p35, p03, p02])], .none), ([(.tuple [p02, p35, p03])], .none), ([(.tuple [p35, p03])], .none), ([(.tuple [p02, p35])], .none), ([(.tuple [p35])], .none)]),
  (q17, [([(.tuple [p04, p14, p24])], .none), ([(.tuple [p04, p14])], .none), ([(.tuple [p04, p24, p14])], .none), ([(.tuple [p04])], .none), ([(.tuple [p04, p24])], .none), ([(.tuple [p14, p04, p24])], .none), ([(.tuple [p14, p04])], .none), ([(.tuple [p24, p14, p04])], .none), ([(.tuple [p14, p24, p04])], .none), ([(.tuple [])], .none), ([(.tuple [p24])], .none), ([(.tuple [p14])], .none), ([(.tuple [p24, p14])], .none), ([(.tuple [p14, p24])], .none)]),
  (q18, [([(.tuple [p04, p14, p13])], .none), ([(.tuple [p04, p13, p14])], .none), ([(.tuple [p04, p14])], .none), ([(.tuple [p04, p13])], .none), ([(.tuple [p04])], .none), ([(.tuple [p04, p14, p13, p15])], .none), ([(.tuple [p13, p14, p04])], .none), ([(.tuple [p14, p04])], .none), ([(.tuple [p14, p13, p04])], .none), ([(.tuple [p13])], .none), ([(.tuple [])], .none), ([(.tuple [p13, p14])], .none), ([(.tuple [p14])], .none), ([(.tuple [p14, p13])], .none)]),
  (q19, [([(.tuple [p04, p02, p24])], .none), ([(.tuple [p04, p02])], .none), ([(.tuple [p04, p24, p02, p25])], .none), ([(.tuple [p02, p04])], .none), ([(.tuple [p02, p04, p24])], .none), ([(.tuple [p04, p24])], .none), ([(.tuple [p04])], .none), ([(.tuple [p24, p02, p04])], .none), ([(.tuple [p24, p04])], .none), ([(.tuple [p02])], .none), ([(.tuple [p02, p24])], .none), ([(.tuple [])], .none), ([(.tuple [p24, p02])], .none), ([(.tuple [p24])], .none)]),
  (q20, [([(.tuple [p04, p03, p13])], .none), ([(.tuple [p13, p03, p04, p02])], .none), ([(.tuple [p04, p03])], .none), ([(.tuple [p03, p04, p13])], .none), ([(.tuple [p03, p04])], .none), ([(.tuple [p04, p13, p03])], .none), ([(.tuple [p13, p03, p04])], .none), ([(.tuple [p04])], .none), ([(.tuple [p13, p04])], .none), ([(.tuple [p03, p13])], .none), ([(.tuple [p03])], .none), ([(.tuple [p13, p03])], .none), ([(.tuple [])], .none), ([(.tuple [p13])], .none)]),
  (q21, [([(.tuple [p04, p03, p02])], .none), ([(.tuple [p03, p04, p02])], .none), ([(.tuple [p02, p04, p03])], .none), ([(.tuple [p03, p02, p04])], .none), ([(.tuple [p02, p03, p04])], .none), ([(.tuple [p04, p03])], .none), ([(.tuple [p03, p04])], .none), ([(.tuple [p02, p04])], .none), ([(.tuple [p04])], .none), ([(.tuple [p03, p02])], .none), ([(.tuple [p02, p03])], .none), ([(.tuple [p03])], .none), ([(.tuple [p02])], .none), ([(.tuple [])], .none)])]
def Fneed_way : List PyData → R PyData := tabF tabneed_way Uneed_way
def Nbehind_way : List Str := ["cutting", "way"]
def Gbehind_way : Ev → Out := (sSeq (sExpr (eCall 1 Fneed_cutting (aCons (eVar 0) aNil))) (sSeq (sExpr (eCall 2 Fneed_way (aCons (eVar 0) (aCons (eVar 1) aNil)))) (sRet (e2 gIx (eCall 2 Fway_steps (aCons (eVar 0) (aCons (eVar 1) aNil))) (eC (.int 0))))))
def Ubehind_way : List PyData → R PyData := fun ds => outR (Gbehind_way (startE 2 ds))
def tabbehind_way : List (PyData × List (List PyData × PyData)) := [(q0, [([(.tuple [])], q0)]),
  (q1, [([(.tuple [])], q1), ([(.tuple [p13])], q2)]),
  (q2, [([(.tuple [p02])], q1), ([(.tuple [])], q2)]),
  (q3, [([(.tuple [])], q3), ([(.tuple [p24])], q4), ([(.tuple [p14])], q5), ([(.tuple [p24, p14])], q6), ([(.tuple [p14, p24])], q7)]),
  (q4, [([(.tuple [p13])], q3), ([(.tuple [])], q4), ([(.tuple [p13, p14])], q5), ([(.tuple [p14])], q6), ([(.tuple [p14, p13])], q7)]),
  (q5, [([(.tuple [p02])], q3), ([(.tuple [p02, p24])], q4), ([(.tuple [])], q5), ([(.tuple [p24, p02])], q6), ([(.tuple [p24])], q7)]),
  (q6, [([(.tuple [p03, p13])], q3), ([(.tuple [p03])], q4), ([(.tuple [p13, p03])], q5), ([(.tuple [])], q6), ([(.tuple [p13])], q7)]),
  (q7, [([(.tuple [p03, p02])], q3), ([(.tuple [p02, p03])], q4), ([(.tuple [p03])], q5), ([(.tuple [p02])], q6), ([(.tuple [])], q7)]),
  (q8, [([(.tuple [])], q8), ([(.tuple [p35])], q9), ([(.tuple [p25])], q10), ([(.tuple [p35, p25])], q11), ([(.tuple [p25, p35])], q12), ([(.tuple [p15])], q13), ([(.tuple [p15, p35])], q14), ([(.tuple [p25, p15])], q15), ([(.tuple [p15, p25])], q16), ([(.tuple [p35, p25, p15])], q17), ([(.tuple [p25, p35, p15])], q18), ([(.tuple [p15, p35, p25])], q19), ([(.tuple [p25, p15, p35])], q20), ([(.tuple [p15, p25, p35])], q21)]),
  (q9, [([(.tuple [p24])], q8), ([(.tuple [])], q9), ([(.tuple [p24, p25])], q10), ([(.tuple [p25])], q11), ([(.tuple [p25, p24])], q12), ([(.tuple [p15, p24])], q13), ([(.tuple [p15])], q14), ([(.tuple [p24, p25, p15])], q15), ([(.tuple [p15, p24, p25])], q16), ([(.tuple [p25, p15])], q17), ([(.tuple [p25, p15, p24])], q18), ([(.tuple [p15, p25])], q19), ([(.tuple [p25, p24, p15, p14])], q20), ([(.tuple [p15, p25, p24])], q21)]),
  (q10, [([(.tuple [p13])], q8), ([(.tuple [p13, p35])], q9), ([(.tuple [])], q10), ([(.tuple [p35, p13])], q11), ([(.tuple [p35])], q12), ([(.tuple [p13, p15])], q13), ([(.tuple [p13, p15, p35])], q14), ([(.tuple [p15])], q15), ([(.tuple [p15, p13])], q16), ([(.tuple [p35, p15, p13])], q17), ([(.tuple [p35, p15])], q18), ([(.tuple [p35, p13, p15, p14])], q19), ([(.tuple [p15, p35])], q20), ([(.tuple [p15, p13, p35])], q21)]),
  (q11, [([(.tuple [p14, p24])], q8), ([(.tuple [p14])], q9), ([(.tuple [p24, p14])], q10), ([(.tuple [])], q11), ([(.tuple [p24])], q12), ([(.tuple [p14, p15, p24])], q13), ([(.tuple [p14, p15])], q14), ([(.tuple [p24, p14, p15])], q15), ([(.tuple [p24, p14, p15, p13])], q16), ([(.tuple [p15])], q17), ([(.tuple [p15, p24])], q18), ([(.tuple [p15, p14])], q19), ([(.tuple [p15, p24, p14])], q20), ([(.tuple [p15, p14, p24])], q21)]),
  (q12, [([(.tuple [p14, p13])], q8), ([(.tuple [p13, p14])], q9), ([(.tuple [p14])], q10), ([(.tuple [p13])], q11), ([(.tuple [])], q12), ([(.tuple [p14, p13, p15])], q13), ([(.tuple [p13, p14, p15])], q14), ([(.tuple [p14, p15])], q15), ([(.tuple [p14, p15, p13])], q16), ([(.tuple [p15, p13])], q17), ([(.tuple [p15])], q18), ([(.tuple [p13, p15, p14])], q19), ([(.tuple [p15, p14])], q20), ([(.tuple [p15, p14, p13])], q21)]),
  (q13, [([(.tuple [p02])], q8), ([(.tuple [p02, p35])], q9), ([(.tuple [p02, p25])], q10), ([(.tuple [p02, p35, p25])], q11), ([(.tuple [p02, p25, p35])], q12), ([(.tuple [])], q13), ([(.tuple [p35])], q14), ([(.tuple [p25, p02])], q15), ([(.tuple [p25])], q16), ([(.tuple [p35, p25, p02])], q17), ([(.tuple [p02, p25, p35, p15])], q18), ([(.tuple [p35, p25])], q19), ([(.tuple [p25, p02, p35])], q20), ([(.tuple [p25, p35])], q21)]),
  (q14, [([(.tuple [p02, p24])], q8), ([(.tuple [p02])], q9), ([(.tuple [p02, p24, p25])], q10), ([(.tuple [p02, p25])], q11), ([(.tuple [p02, p25, p24])], q12), ([(.tuple [p24])], q13), ([(.tuple [])], q14), ([(.tuple [p24, p25, p02])], q15), ([(.tuple [p24, p25])], q16), ([(.tuple [p25, p02])], q17), ([(.tuple [p25, p02, p24])], q18), ([(.tuple [p25])], q19), ([(.tuple [p25, p24, p02])], q20), ([(.tuple [p25, p24])], q21)]),
  (q15, [([(.tuple [p03, p13])], q8), ([(.tuple [p03, p13, p35])], q9), ([(.tuple [p03])], q10), ([(.tuple [p03, p35, p13])], q11), ([(.tuple [p03, p35])], q12), ([(.tuple [p13, p03])], q13), ([(.tuple [p13, p03, p35])], q14), ([(.tuple [])], q15), ([(.tuple [p13])], q16), ([(.tuple [p35, p03, p13])], q17), ([(.tuple [p35, p03])], q18), ([(.tuple [p13, p35, p03])], q19), ([(.tuple [p35])], q20), ([(.tuple [p13, p35])], q21)]),
  (q16, [([(.tuple [p03, p02])], q8), ([(.tuple [p03, p02, p35])], q9), ([(.tuple [p02, p03])], q10), ([(.tuple [p03, p35, p02, p25])], q11), ([(.tuple [p02, p03, p35])], q12), ([(.tuple [p03])], q13), ([(.tuple [p03, p35])], q14), ([(.tuple [p02])], q15), ([(.tuple [])], q16), ([(.tuple [p35, p03, p02])], q17), ([(.tuple [p02, p35, p03])], q18), ([(.tuple [p35, p03])], q19), ([(.tuple [p02, p35])], q20), ([(.tuple [p35])], q21)]),
  (q17, [([(.tuple [p04, p14, p24])], q8), ([(.tuple [p04, p14])], q9), ([(.tuple [p04, p24, p14])], q10), ([(.tuple [p04])], q11), ([(.tuple [p04, p24])], q12), ([(.tuple [p14, p04, p24])], q13), ([(.tuple [p14, p04])], q14), ([(.tuple [p24, p14, p04])], q15), ([(.tuple [p14, p24, p04])], q16), ([(.tuple [])], q17), ([(.tuple [p24])], q18), ([(.tuple [p14])], q19), ([(.tuple [p24, p14])], q20), ([(.tuple [p14, p24])], q21)]),
  (q18, [([(.tuple [p04, p14, p13])], q8), ([(.tuple [p04, p13, p14])], q9), ([(.tuple [p04, p14])], q10), ([(.tuple [p04, p13])], q11), ([(.tuple [p04])], q12), ([(.tuple [p04, p14, p13, p15])], q13), ([(.tuple [p13, p14, p04])], q14), ([(.tuple [p14, p04])], q15), ([(.tuple [p14, p13, p04])], q16), ([(.tuple [p13])], q17), ([(.tuple [])], q18), ([(.tuple [p13, p14])], q19), ([(.tuple [p14])], q20), ([(.tuple [p14, p13])], q21)]),
  (q19, [([(.tuple [p04, p02, p24])], q8), ([(.tuple [p04, p02])], q9), ([(.tuple [p04, p24, p02, p25])], q10), ([(.tuple [p02, p04])], q11), ([(.tuple [p02, p04, p24])], q12), ([(.tuple [p04, p24])], q13), ([(.tuple [p04])], q14), ([(.tuple [p24, p02, p04])], q15), ([(.tuple [p24, p04])], q16), ([(.tuple [p02])], q17), ([(.tuple [p02, p24])], q18), ([(.tuple [])], q19), ([(.tuple [p24, p02])], q20), ([(.tuple [p24])], q21)]),
  (q20, [([(.tuple [p04, p03, p13])], q8), ([(.tuple [p13, p03, p04, p02])], q9), ([(.tuple [p04, p03])], q10), ([(.tuple [p03, p04, p13])], q11), ([(.tuple [p03, p04])], q12), ([(.tuple [p04, p13, p03])], q13), ([(.tuple [p13, p03, p04])], q14), ([(.tuple [p04])], q15), ([(.tuple [p13, p04])], q16), ([(.tuple [p03, p13])], q17), ([(.tuple [p03])], q18), ([(.tuple [p13, p03])], q19), ([(.tuple [])], q20), ([(.tuple [p13])], q21)]),
  (q21, [([(.tuple [p04, p03, p02])], q8), ([(.tuple [p03, p04, p02])], q9), ([(.tuple [p02, p04, p03])], q10), ([(.tuple [p03, p02, p04])], q11), ([(.tuple [p02, p03, p04])], q12), ([(.tuple [p04, p03])], q13), ([(.tuple [p03, p04])], q14), ([(.tuple [p02, p04])], q15), ([(.tuple [p04])], q16), ([(.tuple [p03, p02])], q17), ([(.tuple [p02, p03])], q18), ([(.tuple [p03])], q19), ([(.tuple [p02])], q20), ([(.tuple [])], q21)])]
def Fbehind_way : List PyData → R PyData := tabF tabbehind_way Ubehind_way
def Nway_back : List Str := ["cutting", "way"]
def Gway_back : Ev → Out := (sSeq (sExpr (eCall 1 Fneed_cutting (aCons (eVar 0) aNil))) (sSeq (sExpr (eCall 2 Fneed_way (aCons (eVar 0) (aCons (eVar 1) aNil)))) (sRet (e1 gRevT (e2 gIx (eCall 2 Fway_steps (aCons (eVar 0) (aCons (eVar 1) aNil))) (eC (.int 1)))))))
def Uway_back : List PyData → R PyData := fun ds => outR (Gway_back (startE 2 ds))
def tabway_back : List (PyData × List (List PyData × PyData)) := [(q0, [([(.tuple [])], (.tuple []))]),
  (q1, [([(.tuple [])], (.tuple [])), ([(.tuple [p13])], (.tuple [p02]))]),
  (q2, [([(.tuple [p02])], (.tuple [p13])), ([(.tuple [])], (.tuple []))]),
  (q3, [([(.tuple [])], (.tuple [])), ([(.tuple [p24])], (.tuple [p13])), ([(.tuple [p14])], (.tuple [p02])), ([(.tuple [p24, p14])], (.tuple [p03, p13])), ([(.tuple [p14, p24])], (.tuple [p03, p02]))]),
  (q4, [([(.tuple [p13])], (.tuple [p24])), ([(.tuple [])], (.tuple [])), ([(.tuple [p13, p14])], (.tuple [p02, p24])), ([(.tuple [p14])], (.tuple [p03])), ([(.tuple [p14, p13])], (.tuple [p02, p03]))]),
  (q5, [([(.tuple [p02])], (.tuple [p14])), ([(.tuple [p02, p24])], (.tuple [p13, p14])), ([(.tuple [])], (.tuple [])), ([(.tuple [p24, p02])], (.tuple [p13, p03])), ([(.tuple [p24])], (.tuple [p03]))]),
  (q6, [([(.tuple [p03, p13])], (.tuple [p24, p14])), ([(.tuple [p03])], (.tuple [p14])), ([(.tuple [p13, p03])], (.tuple [p24, p02])), ([(.tuple [])], (.tuple [])), ([(.tuple [p13])], (.tuple [p02]))]),
  (q7, [([(.tuple [p03, p02])], (.tuple [p14, p24])), ([(.tuple [p02, p03])], (.tuple [p14, p13])), ([(.tuple [p03])], (.tuple [p24])), ([(.tuple [p02])], (.tuple [p13])), ([(.tuple [])], (.tuple []))]),
  (q8, [([(.tuple [])], (.tuple [])), ([(.tuple [p35])], (.tuple [p24])), ([(.tuple [p25])], (.tuple [p13])), ([(.tuple [p35, p25])], (.tuple [p14, p24])), ([(.tuple [p25, p35])], (.tuple [p14, p13])), ([(.tuple [p15])], (.tuple [p02])), ([(.tuple [p15, p35])], (.tuple [p24, p02])), ([(.tuple [p25, p15])], (.tuple [p03, p13])), ([(.tuple [p15, p25])], (.tuple [p03, p02])), ([(.tuple [p35, p25, p15])], (.tuple [p04, p14, p24])), ([(.tuple [p25, p35, p15])], (.tuple [p04, p14, p13])), ([(.tuple [p15, p35, p25])], (.tuple [p04, p24, p02])), ([(.tuple [p25, p15, p35])], (.tuple [p04, p03, p13])), ([(.tuple [p15, p25, p35])], (.tuple [p04, p03, p02]))]),
  (q9, [([(.tuple [p24])], (.tuple [p35])), ([(.tuple [])], (.tuple [])), ([(.tuple [p24, p25])], (.tuple [p13, p35])), ([(.tuple [p25])], (.tuple [p14])), ([(.tuple [p25, p24])], (.tuple [p13, p14])), ([(.tuple [p15, p24])], (.tuple [p35, p02])), ([(.tuple [p15])], (.tuple [p02])), ([(.tuple [p24, p25, p15])], (.tuple [p03, p13, p35])), ([(.tuple [p15, p24, p25])], (.tuple [p03, p35, p02])), ([(.tuple [p25, p15])], (.tuple [p04, p14])), ([(.tuple [p25, p15, p24])], (.tuple [p13, p04, p14])), ([(.tuple [p15, p25])], (.tuple [p04, p02])), ([(.tuple [p25, p24, p15, p14])], (.tuple [p03, p04, p13, p14])), ([(.tuple [p15, p25, p24])], (.tuple [p03, p04, p02]))]),
  (q10, [([(.tuple [p13])], (.tuple [p25])), ([(.tuple [p13, p35])], (.tuple [p24, p25])), ([(.tuple [])], (.tuple [])), ([(.tuple [p35, p13])], (.tuple [p24, p14])), ([(.tuple [p35])], (.tuple [p14])), ([(.tuple [p13, p15])], (.tuple [p02, p25])), ([(.tuple [p13, p15, p35])], (.tuple [p24, p02, p25])), ([(.tuple [p15])], (.tuple [p03])), ([(.tuple [p15, p13])], (.tuple [p02, p03])), ([(.tuple [p35, p15, p13])], (.tuple [p24, p04, p14])), ([(.tuple [p35, p15])], (.tuple [p04, p14])), ([(.tuple [p35, p13, p15, p14])], (.tuple [p02, p04, p24, p14])), ([(.tuple [p15, p35])], (.tuple [p04, p03])), ([(.tuple [p15, p13, p35])], (.tuple [p04, p02, p03]))]),
  (q11, [([(.tuple [p14, p24])], (.tuple [p35, p25])), ([(.tuple [p14])], (.tuple [p25])), ([(.tuple [p24, p14])], (.tuple [p35, p13])), ([(.tuple [])], (.tuple [])), ([(.tuple [p24])], (.tuple [p13])), ([(.tuple [p14, p15, p24])], (.tuple [p35, p02, p25])), ([(.tuple [p14, p15])], (.tuple [p02, p25])), ([(.tuple [p24, p14, p15])], (.tuple [p03, p35, p13])), ([(.tuple [p24, p14, p15, p13])], (.tuple [p02, p03, p35, p13])), ([(.tuple [p15])], (.tuple [p04])), ([(.tuple [p15, p24])], (.tuple [p13, p04])), ([(.tuple [p15, p14])], (.tuple [p02, p04])), ([(.tuple [p15, p24, p14])], (.tuple [p03, p13, p04])), ([(.tuple [p15, p14, p24])], (.tuple [p03, p02, p04]))]),
  (q12, [([(.tuple [p14, p13])], (.tuple [p25, p35])), ([(.tuple [p13, p14])], (.tuple [p25, p24])), ([(.tuple [p14])], (.tuple [p35])), ([(.tuple [p13])], (.tuple [p24])), ([(.tuple [])], (.tuple [])), ([(.tuple [p14, p13, p15])], (.tuple [p02, p25, p35])), ([(.tuple [p13, p14, p15])], (.tuple [p02, p25, p24])), ([(.tuple [p14, p15])], (.tuple [p03, p35])), ([(.tuple [p14, p15, p13])], (.tuple [p02, p03, p35])), ([(.tuple [p15, p13])], (.tuple [p24, p04])), ([(.tuple [p15])], (.tuple [p04])), ([(.tuple [p13, p15, p14])], (.tuple [p02, p04, p24])), ([(.tuple [p15, p14])], (.tuple [p03, p04])), ([(.tuple [p15, p14, p13])], (.tuple [p02, p03, p04]))]),
  (q13, [([(.tuple [p02])], (.tuple [p15])), ([(.tuple [p02, p35])], (.tuple [p24, p15])), ([(.tuple [p02, p25])], (.tuple [p13, p15])), ([(.tuple [p02, p35, p25])], (.tuple [p14, p24, p15])), ([(.tuple [p02, p25, p35])], (.tuple [p14, p13, p15])), ([(.tuple [])], (.tuple [])), ([(.tuple [p35])], (.tuple [p24])), ([(.tuple [p25, p02])], (.tuple [p13, p03])), ([(.tuple [p25])], (.tuple [p03])), ([(.tuple [p35, p25, p02])], (.tuple [p14, p04, p24])), ([(.tuple [p02, p25, p35, p15])], (.tuple [p04, p14, p13, p15])), ([(.tuple [p35, p25])], (.tuple [p04, p24])), ([(.tuple [p25, p02, p35])], (.tuple [p04, p13, p03])), ([(.tuple [p25, p35])], (.tuple [p04, p03]))]),
  (q14, [([(.tuple [p02, p24])], (.tuple [p35, p15])), ([(.tuple [p02])], (.tuple [p15])), ([(.tuple [p02, p24, p25])], (.tuple [p13, p35, p15])), ([(.tuple [p02, p25])], (.tuple [p14, p15])), ([(.tuple [p02, p25, p24])], (.tuple [p13, p14, p15])), ([(.tuple [p24])], (.tuple [p35])), ([(.tuple [])], (.tuple [])), ([(.tuple [p24, p25, p02])], (.tuple [p13, p03, p35])), ([(.tuple [p24, p25])], (.tuple [p03, p35])), ([(.tuple [p25, p02])], (.tuple [p14, p04])), ([(.tuple [p25, p02, p24])], (.tuple [p13, p14, p04])), ([(.tuple [p25])], (.tuple [p04])), ([(.tuple [p25, p24, p02])], (.tuple [p13, p03, p04])), ([(.tuple [p25, p24])], (.tuple [p03, p04]))]),
  (q15, [([(.tuple [p03, p13])], (.tuple [p25, p15])), ([(.tuple [p03, p13, p35])], (.tuple [p24, p25, p15])), ([(.tuple [p03])], (.tuple [p15])), ([(.tuple [p03, p35, p13])], (.tuple [p24, p14, p15])), ([(.tuple [p03, p35])], (.tuple [p14, p15])), ([(.tuple [p13, p03])], (.tuple [p25, p02])), ([(.tuple [p13, p03, p35])], (.tuple [p24, p25, p02])), ([(.tuple [])], (.tuple [])), ([(.tuple [p13])], (.tuple [p02])), ([(.tuple [p35, p03, p13])], (.tuple [p24, p14, p04])), ([(.tuple [p35, p03])], (.tuple [p14, p04])), ([(.tuple [p13, p35, p03])], (.tuple [p24, p04, p02])), ([(.tuple [p35])], (.tuple [p04])), ([(.tuple [p13, p35])], (.tuple [p04, p02]))]),
  (q16, [([(.tuple [p03, p02])], (.tuple [p15, p25])), ([(.tuple [p03, p02, p35])], (.tuple [p24, p15, p25])), ([(.tuple [p02, p03])], (.tuple [p15, p13])), ([(.tuple [p03, p35, p02, p25])], (.tuple [p14, p15, p24, p25])), ([(.tuple [p02, p03, p35])], (.tuple [p14, p15, p13])), ([(.tuple [p03])], (.tuple [p25])), ([(.tuple [p03, p35])], (.tuple [p24, p25])), ([(.tuple [p02])], (.tuple [p13])), ([(.tuple [])], (.tuple [])), ([(.tuple [p35, p03, p02])], (.tuple [p14, p24, p04])), ([(.tuple [p02, p35, p03])], (.tuple [p14, p04, p13])), ([(.tuple [p35, p03])], (.tuple [p24, p04])), ([(.tuple [p02, p35])], (.tuple [p04, p13])), ([(.tuple [p35])], (.tuple [p04]))]),
  (q17, [([(.tuple [p04, p14, p24])], (.tuple [p35, p25, p15])), ([(.tuple [p04, p14])], (.tuple [p25, p15])), ([(.tuple [p04, p24, p14])], (.tuple [p35, p13, p15])), ([(.tuple [p04])], (.tuple [p15])), ([(.tuple [p04, p24])], (.tuple [p13, p15])), ([(.tuple [p14, p04, p24])], (.tuple [p35, p25, p02])), ([(.tuple [p14, p04])], (.tuple [p25, p02])), ([(.tuple [p24, p14, p04])], (.tuple [p35, p03, p13])), ([(.tuple [p14, p24, p04])], (.tuple [p35, p03, p02])), ([(.tuple [])], (.tuple [])), ([(.tuple [p24])], (.tuple [p13])), ([(.tuple [p14])], (.tuple [p02])), ([(.tuple [p24, p14])], (.tuple [p03, p13])), ([(.tuple [p14, p24])], (.tuple [p03, p02]))]),
  (q18, [([(.tuple [p04, p14, p13])], (.tuple [p25, p35, p15])), ([(.tuple [p04, p13, p14])], (.tuple [p25, p24, p15])), ([(.tuple [p04, p14])], (.tuple [p35, p15])), ([(.tuple [p04, p13])], (.tuple [p24, p15])), ([(.tuple [p04])], (.tuple [p15])), ([(.tuple [p04, p14, p13, p15])], (.tuple [p02, p25, p35, p15])), ([(.tuple [p13, p14, p04])], (.tuple [p25, p02, p24])), ([(.tuple [p14, p04])], (.tuple [p35, p03])), ([(.tuple [p14, p13, p04])], (.tuple [p35, p02, p03])), ([(.tuple [p13])], (.tuple [p24])), ([(.tuple [])], (.tuple [])), ([(.tuple [p13, p14])], (.tuple [p02, p24])), ([(.tuple [p14])], (.tuple [p03])), ([(.tuple [p14, p13])], (.tuple [p02, p03]))]),
  (q19, [([(.tuple [p04, p02, p24])], (.tuple [p35, p15, p25])), ([(.tuple [p04, p02])], (.tuple [p15, p25])), ([(.tuple [p04, p24, p02, p25])], (.tuple [p13, p15, p35, p25])), ([(.tuple [p02, p04])], (.tuple [p15, p14])), ([(.tuple [p02, p04, p24])], (.tuple [p13, p15, p14])), ([(.tuple [p04, p24])], (.tuple [p35, p25])), ([(.tuple [p04])], (.tuple [p25])), ([(.tuple [p24, p02, p04])], (.tuple [p35, p13, p03])), ([(.tuple [p24, p04])], (.tuple [p35, p03])), ([(.tuple [p02])], (.tuple [p14])), ([(.tuple [p02, p24])], (.tuple [p13, p14])), ([(.tuple [])], (.tuple [])), ([(.tuple [p24, p02])], (.tuple [p13, p03])), ([(.tuple [p24])], (.tuple [p03]))]),
  (q20, [([(.tuple [p04, p03, p13])], (.tuple [p25, p15, p35])), ([(.tuple [p13, p03, p04, p02])], (.tuple [p15, p25, p24, p02])), ([(.tuple [p04, p03])], (.tuple [p15, p35])), ([(.tuple [p03, p04, p13])], (.tuple [p24, p15, p14])), ([(.tuple [p03, p04])], (.tuple [p15, p14])), ([(.tuple [p04, p13, p03])], (.tuple [p25, p02, p35])), ([(.tuple [p13, p03, p04])], (.tuple [p25, p24, p02])), ([(.tuple [p04])], (.tuple [p35])), ([(.tuple [p13, p04])], (.tuple [p35, p02])), ([(.tuple [p03, p13])], (.tuple [p24, p14])), ([(.tuple [p03])], (.tuple [p14])), ([(.tuple [p13, p03])], (.tuple [p24, p02])), ([(.tuple [])], (.tuple [])), ([(.tuple [p13])], (.tuple [p02]))]),
  (q21, [([(.tuple [p04, p03, p02])], (.tuple [p15, p25, p35])), ([(.tuple [p03, p04, p02])], (.tuple [p15, p25, p24])), ([(.tuple [p02, p04, p03])], (.tuple [p15, p35, p13])), ([(.tuple [p03, p02, p04])], (.tuple [p15, p14, p24])), ([(.tuple [p02, p03, p04])], (.tuple [p15, p14, p13])), ([(.tuple [p04, p03])], (.tuple [p25, p35])), ([(.tuple [p03, p04])], (.tuple [p25, p24])), ([(.tuple [p02, p04])], (.tuple [p35, p13])), ([(.tuple [p04])], (.tuple [p35])), ([(.tuple [p03, p02])], (.tuple [p14, p24])), ([(.tuple [p02, p03])], (.tuple [p14, p13])), ([(.tuple [p03])], (.tuple [p24])), ([(.tuple [p02])], (.tuple [p13])), ([(.tuple [])], (.tuple []))])]
def Fway_back : List PyData → R PyData := tabF tabway_back Uway_back
def Nfar_from_fan : List Str := ["cutting", "corner", "cut"]
def Gfar_from_fan : Ev → Out := (sSeq (sExpr (eCall 1 Fneed_cutting (aCons (eVar 0) aNil))) (sSeq (sExpr (eCall 2 Fneed_corner (aCons (eVar 0) (aCons (eVar 1) aNil)))) (sRet (eA gLen (aCons (eComp [2] (iS (e2 gIx (eVar 0) (eC (.int 1)))) (gN 2) (e2 (gIn true) (eVar 1) (eVar 2)) (eVar 2)) aNil)))))
def Ufar_from_fan : List PyData → R PyData := fun ds => outR (Gfar_from_fan (startE 3 ds))
def tabfar_from_fan : List (PyData × List (List PyData × PyData)) := [(q0, [([n0], n0)]),
  (q1, [([n0], n1)]),
  (q2, [([n0], n0)]),
  (q3, [([n0], n2)]),
  (q4, [([n0], n2)]),
  (q5, [([n0], n1)]),
  (q6, [([n0], n1)]),
  (q7, [([n0], n0)]),
  (q8, [([n0], n3)]),
  (q9, [([n0], n3)]),
  (q10, [([n0], n3)]),
  (q11, [([n0], n3)]),
  (q12, [([n0], n3)]),
  (q13, [([n0], n2)]),
  (q14, [([n0], n2)]),
  (q15, [([n0], n2)]),
  (q16, [([n0], n1)]),
  (q17, [([n0], n2)]),
  (q18, [([n0], n2)]),
  (q19, [([n0], n1)]),
  (q20, [([n0], n1)]),
  (q21, [([n0], n0)])]
def Ffar_from_fan : List PyData → R PyData := tabF tabfar_from_fan Ufar_from_fan
def Nway_by_fan : List Str := ["one", "other", "corner", "there"]
def Gway_by_fan : Ev → Out := (sSeq (sExpr (eCall 2 Fneed_two (aCons (eVar 0) (aCons (eVar 1) aNil)))) (sSeq (sExpr (eCall 2 Fneed_corner (aCons (eVar 0) (aCons (eVar 2) aNil)))) (sSeq (sAsg (gN 3) (eCall 2 Fsteps_to_fan (aCons (eVar 1) (aCons (eVar 2) aNil)))) (sRet (e2 gAdd (eCall 2 Fsteps_to_fan (aCons (eVar 0) (aCons (eVar 2) aNil))) (e1 gRevT (e2 gIx (eCall 2 Fway_steps (aCons (eVar 1) (aCons (eVar 3) aNil))) (eC (.int 1)))))))))
def Fway_by_fan : List PyData → R PyData := fun ds => outR (Gway_by_fan (startE 4 ds))
def Nof_one_piece : List Str := ["cutting", "one", "other", "rest", "corner"]
def Gof_one_piece : Ev → Out := (sSeq (sAsg (gN 3) (eComp [4] (iS (eVar 2)) (gN 4) (e2 (gIn true) (eVar 4) (eVar 1)) (eVar 4))) (sRet (eAnd (e2 gEq (eA gLen (aCons (eVar 3) aNil)) (eC (.int 1))) (e2 (gIn false) (e2 gIx (eVar 3) (eC (.int 0))) (eCall 2 Fthirds_of (aCons (eVar 0) (aCons (eVar 1) aNil)))))))
def Uof_one_piece : List PyData → R PyData := fun ds => outR (Gof_one_piece (startE 5 ds))
def tabof_one_piece : List (PyData × List (List PyData × PyData)) := [(q3, [([p14, p24], (.bool true))]),
  (q4, [([p13, p14], (.bool true))]),
  (q7, [([p02, p03], (.bool true))]),
  (q5, [([p02, p24], (.bool true))]),
  (q6, [([p03, p13], (.bool true))]),
  (q8, [([p15, p25], (.bool true)), ([p15, p35], (.bool false)), ([p25, p35], (.bool true))]),
  (q9, [([p15, p24], (.bool false)), ([p15, p25], (.bool true)), ([p24, p25], (.bool true))]),
  (q21, [([p02, p03], (.bool true)), ([p02, p04], (.bool false)), ([p03, p04], (.bool true))]),
  (q12, [([p13, p14], (.bool true)), ([p13, p15], (.bool false)), ([p14, p15], (.bool true))]),
  (q14, [([p02, p24], (.bool false)), ([p02, p25], (.bool true)), ([p24, p25], (.bool true))]),
  (q15, [([p03, p13], (.bool true)), ([p03, p35], (.bool true)), ([p13, p35], (.bool false))]),
  (q17, [([p04, p14], (.bool true)), ([p04, p24], (.bool false)), ([p14, p24], (.bool true))]),
  (q10, [([p13, p15], (.bool true)), ([p13, p35], (.bool true)), ([p15, p35], (.bool true))]),
  (q13, [([p02, p25], (.bool true)), ([p02, p35], (.bool false)), ([p25, p35], (.bool true))]),
  (q11, [([p14, p15], (.bool true)), ([p14, p24], (.bool true)), ([p15, p24], (.bool false))]),
  (q18, [([p04, p13], (.bool false)), ([p04, p14], (.bool true)), ([p13, p14], (.bool true))]),
  (q20, [([p03, p04], (.bool true)), ([p03, p13], (.bool true)), ([p04, p13], (.bool false))]),
  (q19, [([p02, p04], (.bool true)), ([p02, p24], (.bool true)), ([p04, p24], (.bool true))]),
  (q16, [([p02, p03], (.bool true)), ([p02, p35], (.bool false)), ([p03, p35], (.bool true))])]
def Fof_one_piece : List PyData → R PyData := tabF tabof_one_piece Uof_one_piece
def Nare_loose : List Str := ["cutting", "value", "cut", "other", "one"]
def Gare_loose : Ev → Out := (sSeq (sIf (eOr (eNot (e1 (gIsi .tuple) (eVar 1))) (eOr (e2 gEq (eVar 1) (eTup aNil)) (eNot (eA gAll (aCons (eComp [2] (iS (eVar 1)) (gN 2) tTrue (eCall 2 Ffits_cut (aCons (e2 gIx (eVar 0) (eC (.int 0))) (aCons (eVar 2) aNil)))) aNil))))) (sRet (eC (.bool false))) sNil) (sSeq (sIf (eOr (eNot (eCall 1 Frises (aCons (eVar 1) aNil))) (eNot (eA gAll (aCons (eComp [2] (iS (eVar 1)) (gN 2) tTrue (e2 (gIn false) (eVar 2) (e2 gIx (eVar 0) (eC (.int 1))))) aNil)))) (sRet (eC (.bool false))) sNil) (sRet (eNot (eA gAny (aCons (eComp [4] (iS (eVar 1)) (gN 4) tTrue (eA gAny (aCons (eComp [3] (iS (eVar 1)) (gN 3) (e2 gNe (eVar 3) (eVar 4)) (eCall 3 Fof_one_piece (aCons (eVar 0) (aCons (eVar 4) (aCons (eVar 3) aNil))))) aNil))) aNil))))))
def Fare_loose : List PyData → R PyData := fun ds => outR (Gare_loose (startE 5 ds))
def Nround_behind : List Str := ["cutting", "cuts", "come", "cut"]
def Ground_behind : Ev → Out := (sSeq (sAsg (gN 2) (eComp [3] (iS (eVar 1)) (gN 3) tTrue (eCall 2 Fcut_for (aCons (eVar 0) (aCons (eVar 3) aNil))))) (sRet (eTup (aCons (e2 gIx (eVar 0) (eC (.int 0))) (aCons (eA gTuple (aCons (eA gSorted (aCons (e2 gAdd (eComp [3] (iS (e2 gIx (eVar 0) (eC (.int 1)))) (gN 3) (e2 (gIn true) (eVar 3) (eVar 1)) (eVar 3)) (eVar 2)) aNil)) aNil)) aNil)))))
def Uround_behind : List PyData → R PyData := fun ds => outR (Ground_behind (startE 4 ds))
def tabround_behind : List (PyData × List (List PyData × PyData)) := [(q1, [([(.tuple [p13])], q2)]),
  (q2, [([(.tuple [p02])], q1)]),
  (q3, [([(.tuple [p24])], q4), ([(.tuple [p14])], q5)]),
  (q4, [([(.tuple [p13])], q3), ([(.tuple [p14])], q6)]),
  (q7, [([(.tuple [p02])], q6), ([(.tuple [p03])], q5)]),
  (q5, [([(.tuple [p02])], q3), ([(.tuple [p24])], q7)]),
  (q6, [([(.tuple [p03])], q4), ([(.tuple [p13])], q7)]),
  (q8, [([(.tuple [p35])], q9), ([(.tuple [p15])], q13), ([(.tuple [p25])], q10), ([(.tuple [p15, p35])], q14)]),
  (q9, [([(.tuple [p15])], q14), ([(.tuple [p24])], q8), ([(.tuple [p15, p24])], q13), ([(.tuple [p25])], q11)]),
  (q21, [([(.tuple [p02])], q20), ([(.tuple [p03])], q19), ([(.tuple [p04])], q16), ([(.tuple [p02, p04])], q15)]),
  (q12, [([(.tuple [p13])], q11), ([(.tuple [p14])], q10), ([(.tuple [p15])], q18), ([(.tuple [p13, p15])], q17)]),
  (q14, [([(.tuple [p02])], q9), ([(.tuple [p24])], q13), ([(.tuple [p02, p24])], q8), ([(.tuple [p25])], q19)]),
  (q15, [([(.tuple [p03])], q10), ([(.tuple [p13])], q16), ([(.tuple [p35])], q20), ([(.tuple [p13, p35])], q21)]),
  (q17, [([(.tuple [p04])], q11), ([(.tuple [p14])], q19), ([(.tuple [p24])], q18), ([(.tuple [p04, p24])], q12)]),
  (q10, [([(.tuple [p13])], q8), ([(.tuple [p15])], q15), ([(.tuple [p35])], q12)]),
  (q13, [([(.tuple [p02])], q8), ([(.tuple [p25])], q16), ([(.tuple [p35])], q14), ([(.tuple [p02, p35])], q9)]),
  (q11, [([(.tuple [p14])], q9), ([(.tuple [p15])], q17), ([(.tuple [p24])], q12), ([(.tuple [p15, p24])], q18)]),
  (q18, [([(.tuple [p04])], q12), ([(.tuple [p13])], q17), ([(.tuple [p04, p13])], q11), ([(.tuple [p14])], q20)]),
  (q20, [([(.tuple [p03])], q18), ([(.tuple [p04])], q15), ([(.tuple [p13])], q21), ([(.tuple [p04, p13])], q16)]),
  (q19, [([(.tuple [p02])], q17), ([(.tuple [p04])], q14), ([(.tuple [p24])], q21)]),
  (q16, [([(.tuple [p02])], q15), ([(.tuple [p03])], q13), ([(.tuple [p35])], q21), ([(.tuple [p02, p35])], q20)])]
def Fround_behind : List PyData → R PyData := tabF tabround_behind Uround_behind
def Nall_loose : List Str := ["cutting", "found", "cut", "row", "one"]
def Gall_loose : Ev → Out := (sSeq (sAsg (gN 1) (eLst (aCons (eTup aNil) aNil))) (sSeq (sFor (iS (e2 gIx (eVar 0) (eC (.int 1)))) (gN 2) (sAsg (gN 1) (e2 gAdd (eVar 1) (eComp [3] (iS (eVar 1)) (gN 3) (eNot (eA gAny (aCons (eComp [4] (iS (eVar 3)) (gN 4) tTrue (eCall 3 Fof_one_piece (aCons (eVar 0) (aCons (eVar 4) (aCons (eVar 2) aNil))))) aNil))) (e2 gAdd (eVar 3) (eTup (aCons (eVar 2) aNil))))))) (sRet (eVar 1))))
def Uall_loose : List PyData → R PyData := fun ds => outR (Gall_loose (startE 5 ds))
def taball_loose : List (PyData × List (List PyData × PyData)) := [(q1, [([], (.list [(.tuple []), (.tuple [p13])]))]),
  (q2, [([], (.list [(.tuple []), (.tuple [p02])]))]),
  (q3, [([], (.list [(.tuple []), (.tuple [p14]), (.tuple [p24])]))]),
  (q4, [([], (.list [(.tuple []), (.tuple [p13]), (.tuple [p14])]))]),
  (q7, [([], (.list [(.tuple []), (.tuple [p02]), (.tuple [p03])]))]),
  (q5, [([], (.list [(.tuple []), (.tuple [p02]), (.tuple [p24])]))]),
  (q6, [([], (.list [(.tuple []), (.tuple [p03]), (.tuple [p13])]))]),
  (q8, [([], (.list [(.tuple []), (.tuple [p15]), (.tuple [p25]), (.tuple [p35]), (.tuple [p15, p35])]))]),
  (q9, [([], (.list [(.tuple []), (.tuple [p15]), (.tuple [p24]), (.tuple [p15, p24]), (.tuple [p25])]))]),
  (q21, [([], (.list [(.tuple []), (.tuple [p02]), (.tuple [p03]), (.tuple [p04]), (.tuple [p02, p04])]))]),
  (q12, [([], (.list [(.tuple []), (.tuple [p13]), (.tuple [p14]), (.tuple [p15]), (.tuple [p13, p15])]))]),
  (q14, [([], (.list [(.tuple []), (.tuple [p02]), (.tuple [p24]), (.tuple [p02, p24]), (.tuple [p25])]))]),
  (q15, [([], (.list [(.tuple []), (.tuple [p03]), (.tuple [p13]), (.tuple [p35]), (.tuple [p13, p35])]))]),
  (q17, [([], (.list [(.tuple []), (.tuple [p04]), (.tuple [p14]), (.tuple [p24]), (.tuple [p04, p24])]))]),
  (q10, [([], (.list [(.tuple []), (.tuple [p13]), (.tuple [p15]), (.tuple [p35])]))]),
  (q13, [([], (.list [(.tuple []), (.tuple [p02]), (.tuple [p25]), (.tuple [p35]), (.tuple [p02, p35])]))]),
  (q11, [([], (.list [(.tuple []), (.tuple [p14]), (.tuple [p15]), (.tuple [p24]), (.tuple [p15, p24])]))]),
  (q18, [([], (.list [(.tuple []), (.tuple [p04]), (.tuple [p13]), (.tuple [p04, p13]), (.tuple [p14])]))]),
  (q20, [([], (.list [(.tuple []), (.tuple [p03]), (.tuple [p04]), (.tuple [p13]), (.tuple [p04, p13])]))]),
  (q19, [([], (.list [(.tuple []), (.tuple [p02]), (.tuple [p04]), (.tuple [p24])]))]),
  (q16, [([], (.list [(.tuple []), (.tuple [p02]), (.tuple [p03]), (.tuple [p35]), (.tuple [p02, p35])]))])]
def Fall_loose : List PyData → R PyData := tabF taball_loose Uall_loose
def Nloose_between : List Str := ["cutting", "first", "last", "third", "corner", "left", "right", "some", "pair", "many", "most", "every", "free", "whole", "top", "at", "other", "spot"]
def Gloose_between (FR : List PyData → R PyData) : Ev → Out := (sSeq (sIf (e2 gLt (e2 gSub (eVar 2) (eVar 1)) (eC (.int 2))) (sRet (eC .none)) sNil) (sSeq (sAsg (gN 3) (e2 gIx (eComp [4] (iS (eCall 2 Fthirds_of (aCons (eVar 0) (aCons (eTup (aCons (eVar 1) (aCons (eVar 2) aNil))) aNil)))) (gN 4) (eChain gLt gLt (eVar 1) (eVar 4) (eVar 2)) (eVar 4)) (eC (.int 0)))) (sSeq (sPar false false 5 6 (eCall 3 FR (aCons (eVar 0) (aCons (eVar 1) (aCons (eVar 3) aNil)))) (eCall 3 FR (aCons (eVar 0) (aCons (eVar 3) (aCons (eVar 2) aNil))))) (sSeq (sAsg (gN 7) (eComp [8] (iS (eTup (aCons (eVar 5) (aCons (eVar 6) aNil)))) (gN 8) (e2 gNotN (eVar 8) (eC .none)) (eVar 8))) (sSeq (sAsg (gT (gsCons (gN 9) (gsCons (gN 10) gsNil))) (eTup (aCons (eC (.int 1)) (aCons (eC (.int 0)) aNil)))) (sSeq (sFor (iS (eVar 7)) (gT (gsCons (gN 11) (gsCons (gN 12) gsNil))) (sPar false false 9 10 (e2 gMul (eVar 9) (e2 gIx (eVar 11) (eC (.int 0)))) (e2 gAdd (eVar 10) (e2 gIx (eVar 11) (eC (.int 1)))))) (sSeq (sPar false false 13 14 (eVar 9) (eVar 10)) (sSeq (sFor (iE (eVar 7)) (gT (gsCons (gN 15) (gsCons (gT (gsCons (gN 11) (gsCons (gN 12) gsNil))) gsNil))) (sSeq (sAsg (gN 16) (e2 gAdd (eComp [17, 8] (iE (eVar 7)) (gT (gsCons (gN 17) (gsCons (gN 8) gsNil))) (e2 gNe (eVar 17) (eVar 15)) (e2 gIx (eVar 8) (eC (.int 0)))) (eLst (aCons (eTup (aCons (eC (.int 1)) (aCons (eC (.int 0)) aNil))) aNil)))) (sPar false false 13 14 (e2 gAdd (eVar 13) (e2 gMul (e2 gIx (eVar 12) (eC (.int 0))) (e2 gIx (e2 gIx (eVar 16) (eC (.int 0))) (eC (.int 0))))) (eA (gMM maxI maxJ) (aCons (eVar 14) (aCons (e2 gAdd (e2 gAdd (eC (.int 1)) (e2 gIx (eVar 12) (eC (.int 1)))) (e2 gIx (e2 gIx (eVar 16) (eC (.int 0))) (eC (.int 1)))) aNil)))))) (sRet (eTup (aCons (eTup (aCons (eVar 13) (aCons (eVar 14) aNil))) (aCons (eTup (aCons (eVar 9) (aCons (eVar 10) aNil))) aNil))))))))))))
def Floose_between_0 : List PyData → R PyData := fun _ => .stuck
def Floose_between_1 : List PyData → R PyData := fun ds => outR (Gloose_between Floose_between_0 (startE 18 ds))
def Floose_between_2 : List PyData → R PyData := fun ds => outR (Gloose_between Floose_between_1 (startE 18 ds))
def Floose_between_3 : List PyData → R PyData := fun ds => outR (Gloose_between Floose_between_2 (startE 18 ds))
def Floose_between_4 : List PyData → R PyData := fun ds => outR (Gloose_between Floose_between_3 (startE 18 ds))
def Floose_between_5 : List PyData → R PyData := fun ds => outR (Gloose_between Floose_between_4 (startE 18 ds))
def Floose_between : List PyData → R PyData := fun ds => outR (Gloose_between Floose_between_5 (startE 18 ds))
def Nrounds_between : List Str := ["one", "other", "found", "line", "far", "later", "here", "there", "cuts"]
def Grounds_between : Ev → Out := (sSeq (sPar3 true false false 2 3 4 (eDisp (eVar 0) (eC (.int 0))) (eLst (aCons (eVar 0) aNil)) (eC (.int 0))) (sSeq (sWhile 12 (eInO true 2 (eVar 1)) (sSeq (sPar false false 4 5 (e2 gAdd (eVar 4) (eC (.int 1))) (eLst aNil)) (sSeq (sFor (iS (eVar 3)) (gN 6) (sFor (iS (eComp [8] (iS (e1 (gSl (some 1) none) (eCall 1 Fall_loose (aCons (eVar 6) aNil)))) (gN 8) tTrue (eCall 2 Fround_behind (aCons (eVar 6) (aCons (eVar 8) aNil))))) (gN 7) (sIf (eInO true 2 (eVar 7)) (sSeq (sSetI 2 (eVar 7) (eVar 4)) (sAsg (gN 5) (e2 gAdd (eVar 5) (eLst (aCons (eVar 7) aNil))))) sNil))) (sAsg (gN 3) (eVar 5))))) (sRet (eIxO 2 (eVar 1)))))
def Urounds_between : List PyData → R PyData := fun ds => outR (Grounds_between (startE 9 ds))
def tabrounds_between : List (PyData × List (List PyData × PyData)) := [(q0, [([q0], n0)]),
  (q1, [([q1], n0), ([q2], n1)]),
  (q2, [([q2], n0), ([q1], n1)]),
  (q3, [([q3], n0), ([q4], n1), ([q5], n1), ([q6], n2), ([q7], n2)]),
  (q7, [([q7], n0), ([q5], n1), ([q6], n1), ([q3], n2), ([q4], n2)]),
  (q4, [([q4], n0), ([q3], n1), ([q6], n1), ([q7], n2), ([q5], n2)]),
  (q5, [([q5], n0), ([q3], n1), ([q7], n1), ([q4], n2), ([q6], n2)]),
  (q6, [([q6], n0), ([q7], n1), ([q4], n1), ([q3], n2), ([q5], n2)]),
  (q8, [([q8], n0), ([q9], n1), ([q10], n1), ([q11], n2), ([q12], n2), ([q13], n1), ([q14], n1), ([q15], n2), ([q16], n2), ([q17], n3), ([q18], n3), ([q19], n2), ([q20], n3), ([q21], n3)]),
  (q21, [([q21], n0), ([q16], n1), ([q19], n1), ([q13], n2), ([q14], n2), ([q20], n1), ([q15], n1), ([q17], n2), ([q18], n2), ([q8], n3), ([q9], n3), ([q10], n2), ([q11], n3), ([q12], n3)]),
  (q12, [([q12], n0), ([q18], n1), ([q10], n1), ([q20], n2), ([q8], n2), ([q15], n2), ([q11], n1), ([q17], n1), ([q9], n2), ([q21], n3), ([q16], n3), ([q19], n2), ([q13], n3), ([q14], n3)]),
  (q14, [([q14], n0), ([q9], n1), ([q19], n1), ([q11], n2), ([q17], n2), ([q13], n1), ([q8], n1), ([q21], n2), ([q16], n2), ([q12], n3), ([q18], n3), ([q10], n2), ([q20], n3), ([q15], n3)]),
  (q15, [([q15], n0), ([q16], n1), ([q10], n1), ([q13], n2), ([q8], n2), ([q20], n1), ([q21], n1), ([q12], n2), ([q18], n2), ([q14], n3), ([q9], n3), ([q19], n2), ([q11], n3), ([q17], n3)]),
  (q17, [([q17], n0), ([q18], n1), ([q19], n1), ([q20], n2), ([q21], n2), ([q11], n1), ([q12], n1), ([q14], n2), ([q9], n2), ([q8], n3), ([q15], n3), ([q16], n3), ([q10], n2), ([q13], n3)]),
  (q9, [([q8], n1), ([q14], n1), ([q9], n0), ([q10], n2), ([q19], n2), ([q11], n1), ([q12], n2), ([q17], n2), ([q13], n1), ([q15], n3), ([q21], n3), ([q16], n2), ([q18], n2), ([q20], n3)]),
  (q10, [([q8], n1), ([q9], n2), ([q12], n1), ([q15], n1), ([q18], n2), ([q16], n2), ([q10], n0), ([q11], n2), ([q20], n2), ([q13], n2), ([q14], n2), ([q17], n2), ([q21], n2), ([q19], n3)]),
  (q11, [([q8], n2), ([q9], n1), ([q10], n2), ([q14], n2), ([q19], n2), ([q11], n0), ([q12], n1), ([q17], n1), ([q13], n2), ([q15], n3), ([q21], n3), ([q16], n3), ([q18], n1), ([q20], n2)]),
  (q13, [([q8], n1), ([q9], n1), ([q10], n2), ([q21], n2), ([q15], n2), ([q16], n1), ([q19], n2), ([q13], n0), ([q14], n1), ([q11], n2), ([q20], n2), ([q17], n3), ([q12], n3), ([q18], n3)]),
  (q16, [([q8], n2), ([q21], n1), ([q15], n1), ([q16], n0), ([q19], n2), ([q10], n2), ([q13], n1), ([q14], n2), ([q20], n1), ([q17], n3), ([q12], n3), ([q9], n2), ([q18], n2), ([q11], n3)]),
  (q18, [([q8], n3), ([q12], n1), ([q17], n1), ([q18], n0), ([q10], n2), ([q19], n2), ([q20], n1), ([q15], n2), ([q21], n2), ([q11], n1), ([q14], n3), ([q9], n2), ([q16], n2), ([q13], n3)]),
  (q19, [([q8], n2), ([q9], n2), ([q21], n1), ([q14], n1), ([q17], n1), ([q16], n2), ([q18], n2), ([q19], n0), ([q13], n2), ([q11], n2), ([q20], n2), ([q15], n2), ([q12], n2), ([q10], n3)]),
  (q20, [([q8], n3), ([q9], n3), ([q10], n2), ([q12], n2), ([q17], n2), ([q18], n1), ([q19], n2), ([q20], n0), ([q15], n1), ([q21], n1), ([q11], n2), ([q14], n3), ([q16], n1), ([q13], n2)])]
def Frounds_between : List PyData → R PyData := tabF tabrounds_between Urounds_between
def Nexchanged_at_once : List Str := ["cutting", "cuts"]
def Gexchanged_at_once : Ev → Out := (sSeq (sExpr (eCall 1 Fneed_cutting (aCons (eVar 0) aNil))) (sSeq (sIf (eNot (eCall 2 Fare_loose (aCons (eVar 0) (aCons (eVar 1) aNil)))) (sRaise 4) sNil) (sRet (eCall 2 Fround_behind (aCons (eVar 0) (aCons (eVar 1) aNil))))))
def Uexchanged_at_once : List PyData → R PyData := fun ds => outR (Gexchanged_at_once (startE 2 ds))
def tabexchanged_at_once : List (PyData × List (List PyData × PyData)) := [(q1, [([(.tuple [p13])], q2)]),
  (q2, [([(.tuple [p02])], q1)]),
  (q3, [([(.tuple [p24])], q4), ([(.tuple [p14])], q5)]),
  (q4, [([(.tuple [p13])], q3), ([(.tuple [p14])], q6)]),
  (q5, [([(.tuple [p02])], q3), ([(.tuple [p24])], q7)]),
  (q6, [([(.tuple [p03])], q4), ([(.tuple [p13])], q7)]),
  (q7, [([(.tuple [p03])], q5), ([(.tuple [p02])], q6)]),
  (q8, [([(.tuple [p35])], q9), ([(.tuple [p25])], q10), ([(.tuple [p15])], q13)]),
  (q9, [([(.tuple [p24])], q8), ([(.tuple [p25])], q11), ([(.tuple [p15])], q14)]),
  (q10, [([(.tuple [p13])], q8), ([(.tuple [p35])], q12), ([(.tuple [p15])], q15)]),
  (q11, [([(.tuple [p14])], q9), ([(.tuple [p24])], q12), ([(.tuple [p15])], q17)]),
  (q12, [([(.tuple [p14])], q10), ([(.tuple [p13])], q11), ([(.tuple [p15])], q18)]),
  (q13, [([(.tuple [p02])], q8), ([(.tuple [p35])], q14), ([(.tuple [p25])], q16)]),
  (q14, [([(.tuple [p02])], q9), ([(.tuple [p24])], q13), ([(.tuple [p25])], q19)]),
  (q15, [([(.tuple [p03])], q10), ([(.tuple [p13])], q16), ([(.tuple [p35])], q20)]),
  (q16, [([(.tuple [p03])], q13), ([(.tuple [p02])], q15), ([(.tuple [p35])], q21)]),
  (q17, [([(.tuple [p04])], q11), ([(.tuple [p14])], q19), ([(.tuple [p24])], q18)]),
  (q18, [([(.tuple [p04])], q12), ([(.tuple [p13])], q17), ([(.tuple [p14])], q20)]),
  (q19, [([(.tuple [p04])], q14), ([(.tuple [p02])], q17), ([(.tuple [p24])], q21)]),
  (q20, [([(.tuple [p04])], q15), ([(.tuple [p13])], q21), ([(.tuple [p03])], q18)]),
  (q21, [([(.tuple [p04])], q16), ([(.tuple [p03])], q19), ([(.tuple [p02])], q20)])]
def Fexchanged_at_once : List PyData → R PyData := tabF tabexchanged_at_once Uexchanged_at_once
def Nmost_at_once : List Str := ["cutting"]
def Gmost_at_once : Ev → Out := (sSeq (sExpr (eCall 1 Fneed_cutting (aCons (eVar 0) aNil))) (sRet (e2 gIx (e2 gIx (eCall 3 Floose_between (aCons (eVar 0) (aCons (eC (.int 0)) (aCons (e2 gSub (e2 gIx (eVar 0) (eC (.int 0))) (eC (.int 1))) aNil)))) (eC (.int 0))) (eC (.int 1)))))
def Umost_at_once : List PyData → R PyData := fun ds => outR (Gmost_at_once (startE 1 ds))
def tabmost_at_once : List (PyData × List (List PyData × PyData)) := [(q1, [([], n1)]),
  (q2, [([], n1)]),
  (q3, [([], n1)]),
  (q4, [([], n1)]),
  (q5, [([], n1)]),
  (q6, [([], n1)]),
  (q7, [([], n1)]),
  (q8, [([], n2)]),
  (q9, [([], n2)]),
  (q10, [([], n1)]),
  (q11, [([], n2)]),
  (q12, [([], n2)]),
  (q13, [([], n2)]),
  (q14, [([], n2)]),
  (q15, [([], n2)]),
  (q16, [([], n2)]),
  (q17, [([], n2)]),
  (q18, [([], n2)]),
  (q19, [([], n1)]),
  (q20, [([], n2)]),
  (q21, [([], n2)])]
def Fmost_at_once : List PyData → R PyData := tabF tabmost_at_once Umost_at_once
def Nfewest_rounds : List Str := ["one", "other"]
def Gfewest_rounds : Ev → Out := (sSeq (sExpr (eCall 2 Fneed_two (aCons (eVar 0) (aCons (eVar 1) aNil)))) (sSeq (sExpr (eCall 2 Fneed_few (aCons (e2 gIx (eVar 0) (eC (.int 0))) (aCons (eC (.int 7)) aNil)))) (sRet (eCall 2 Frounds_between (aCons (eVar 0) (aCons (eVar 1) aNil))))))
def Ufewest_rounds : List PyData → R PyData := fun ds => outR (Gfewest_rounds (startE 2 ds))
def tabfewest_rounds : List (PyData × List (List PyData × PyData)) := [(q0, [([q0], n0)]),
  (q1, [([q1], n0), ([q2], n1)]),
  (q2, [([q2], n0), ([q1], n1)]),
  (q3, [([q3], n0), ([q4], n1), ([q5], n1), ([q6], n2), ([q7], n2)]),
  (q7, [([q7], n0), ([q5], n1), ([q6], n1), ([q3], n2), ([q4], n2)]),
  (q4, [([q4], n0), ([q3], n1), ([q6], n1), ([q7], n2), ([q5], n2)]),
  (q5, [([q5], n0), ([q3], n1), ([q7], n1), ([q4], n2), ([q6], n2)]),
  (q6, [([q6], n0), ([q7], n1), ([q4], n1), ([q3], n2), ([q5], n2)]),
  (q8, [([q8], n0), ([q9], n1), ([q10], n1), ([q11], n2), ([q12], n2), ([q13], n1), ([q14], n1), ([q15], n2), ([q16], n2), ([q17], n3), ([q18], n3), ([q19], n2), ([q20], n3), ([q21], n3)]),
  (q21, [([q21], n0), ([q16], n1), ([q19], n1), ([q13], n2), ([q14], n2), ([q20], n1), ([q15], n1), ([q17], n2), ([q18], n2), ([q8], n3), ([q9], n3), ([q10], n2), ([q11], n3), ([q12], n3)]),
  (q12, [([q12], n0), ([q18], n1), ([q10], n1), ([q20], n2), ([q8], n2), ([q15], n2), ([q11], n1), ([q17], n1), ([q9], n2), ([q21], n3), ([q16], n3), ([q19], n2), ([q13], n3), ([q14], n3)]),
  (q14, [([q14], n0), ([q9], n1), ([q19], n1), ([q11], n2), ([q17], n2), ([q13], n1), ([q8], n1), ([q21], n2), ([q16], n2), ([q12], n3), ([q18], n3), ([q10], n2), ([q20], n3), ([q15], n3)]),
  (q15, [([q15], n0), ([q16], n1), ([q10], n1), ([q13], n2), ([q8], n2), ([q20], n1), ([q21], n1), ([q12], n2), ([q18], n2), ([q14], n3), ([q9], n3), ([q19], n2), ([q11], n3), ([q17], n3)]),
  (q17, [([q17], n0), ([q18], n1), ([q19], n1), ([q20], n2), ([q21], n2), ([q11], n1), ([q12], n1), ([q14], n2), ([q9], n2), ([q8], n3), ([q15], n3), ([q16], n3), ([q10], n2), ([q13], n3)]),
  (q9, [([q8], n1), ([q14], n1), ([q9], n0), ([q10], n2), ([q19], n2), ([q11], n1), ([q12], n2), ([q17], n2), ([q13], n1), ([q15], n3), ([q21], n3), ([q16], n2), ([q18], n2), ([q20], n3)]),
  (q10, [([q8], n1), ([q9], n2), ([q12], n1), ([q15], n1), ([q18], n2), ([q16], n2), ([q10], n0), ([q11], n2), ([q20], n2), ([q13], n2), ([q14], n2), ([q17], n2), ([q21], n2), ([q19], n3)]),
  (q11, [([q8], n2), ([q9], n1), ([q10], n2), ([q14], n2), ([q19], n2), ([q11], n0), ([q12], n1), ([q17], n1), ([q13], n2), ([q15], n3), ([q21], n3), ([q16], n3), ([q18], n1), ([q20], n2)]),
  (q13, [([q8], n1), ([q9], n1), ([q10], n2), ([q21], n2), ([q15], n2), ([q16], n1), ([q19], n2), ([q13], n0), ([q14], n1), ([q11], n2), ([q20], n2), ([q17], n3), ([q12], n3), ([q18], n3)]),
  (q16, [([q8], n2), ([q21], n1), ([q15], n1), ([q16], n0), ([q19], n2), ([q10], n2), ([q13], n1), ([q14], n2), ([q20], n1), ([q17], n3), ([q12], n3), ([q9], n2), ([q18], n2), ([q11], n3)]),
  (q18, [([q8], n3), ([q12], n1), ([q17], n1), ([q18], n0), ([q10], n2), ([q19], n2), ([q20], n1), ([q15], n2), ([q21], n2), ([q11], n1), ([q14], n3), ([q9], n2), ([q16], n2), ([q13], n3)]),
  (q19, [([q8], n2), ([q9], n2), ([q21], n1), ([q14], n1), ([q17], n1), ([q16], n2), ([q18], n2), ([q19], n0), ([q13], n2), ([q11], n2), ([q20], n2), ([q15], n2), ([q12], n2), ([q10], n3)]),
  (q20, [([q8], n3), ([q9], n3), ([q10], n2), ([q12], n2), ([q17], n2), ([q18], n1), ([q19], n2), ([q20], n0), ([q15], n1), ([q21], n1), ([q11], n2), ([q14], n3), ([q16], n1), ([q13], n2)])]
def Ffewest_rounds : List PyData → R PyData := tabF tabfewest_rounds Ufewest_rounds
def Ncuts_of_both : List Str := ["one", "other", "cut"]
def Gcuts_of_both : Ev → Out := (sRet (eComp [2] (iS (e2 gIx (eVar 0) (eC (.int 1)))) (gN 2) (e2 (gIn false) (eVar 2) (e2 gIx (eVar 1) (eC (.int 1)))) (eVar 2)))
def Fcuts_of_both : List PyData → R PyData := fun ds => outR (Gcuts_of_both (startE 3 ds))
def Nsplit_by : List Str := ["field", "cut", "inner", "corner", "outer"]
def Gsplit_by : Ev → Out := (sSeq (sIf (eOr (e2 (gIn true) (e2 gIx (eVar 1) (eC (.int 0))) (eVar 0)) (e2 (gIn true) (e2 gIx (eVar 1) (eC (.int 1))) (eVar 0))) (sRet (eLst (aCons (eVar 0) aNil))) sNil) (sSeq (sAsg (gN 2) (eA gTuple (aCons (eComp [3] (iS (eVar 0)) (gN 3) (eChain (gInt leI) (gInt leI) (e2 gIx (eVar 1) (eC (.int 0))) (eVar 3) (e2 gIx (eVar 1) (eC (.int 1)))) (eVar 3)) aNil))) (sSeq (sAsg (gN 4) (eA gTuple (aCons (eComp [3] (iS (eVar 0)) (gN 3) (eOr (e2 (gInt leI) (eVar 3) (e2 gIx (eVar 1) (eC (.int 0)))) (e2 (gInt geI) (eVar 3) (e2 gIx (eVar 1) (eC (.int 1))))) (eVar 3)) aNil))) (sRet (eIf (eOr (e2 gLt (eA gLen (aCons (eVar 2) aNil)) (eC (.int 3))) (e2 gLt (eA gLen (aCons (eVar 4) aNil)) (eC (.int 3)))) (eLst (aCons (eVar 0) aNil)) (eLst (aCons (eVar 2) (aCons (eVar 4) aNil))))))))
def Fsplit_by : List PyData → R PyData := fun ds => outR (Gsplit_by (startE 5 ds))
def Nfields_by : List Str := ["sides", "cuts", "found", "cut", "later", "field"]
def Gfields_by : Ev → Out := (sSeq (sAsg (gN 2) (eLst (aCons (e1 gTupRg (eVar 0)) aNil))) (sSeq (sFor (iS (eVar 1)) (gN 3) (sSeq (sAsg (gN 4) (eLst aNil)) (sSeq (sFor (iS (eVar 2)) (gN 5) (sAsg (gN 4) (e2 gAdd (eVar 4) (eCall 2 Fsplit_by (aCons (eVar 5) (aCons (eVar 3) aNil)))))) (sAsg (gN 2) (eVar 4))))) (sRet (eA gSorted (aCons (eVar 2) aNil)))))
def Ffields_by : List PyData → R PyData := fun ds => outR (Gfields_by (startE 6 ds))
def Nfields_of : List Str := ["one", "other"]
def Gfields_of : Ev → Out := (sRet (eCall 2 Ffields_by (aCons (e2 gIx (eVar 0) (eC (.int 0))) (aCons (eCall 2 Fcuts_of_both (aCons (eVar 0) (aCons (eVar 1) aNil))) aNil))))
def Ufields_of : List PyData → R PyData := fun ds => outR (Gfields_of (startE 2 ds))
def tabfields_of : List (PyData × List (List PyData × PyData)) := [(q0, [([q0], (.list [(.tuple [n0, n1, n2])]))]),
  (q1, [([q1], (.list [(.tuple [n0, n1, n3]), (.tuple [n1, n2, n3])])), ([q2], (.list [(.tuple [n0, n1, n2, n3])]))]),
  (q2, [([q2], (.list [(.tuple [n0, n1, n2]), (.tuple [n0, n2, n3])])), ([q1], (.list [(.tuple [n0, n1, n2, n3])]))]),
  (q3, [([q3], (.list [(.tuple [n0, n1, n4]), (.tuple [n1, n2, n4]), (.tuple [n2, n3, n4])])), ([q4], (.list [(.tuple [n0, n1, n4]), (.tuple [n1, n2, n3, n4])])), ([q5], (.list [(.tuple [n0, n1, n2, n4]), (.tuple [n2, n3, n4])])), ([q6], (.list [(.tuple [n0, n1, n2, n3, n4])])), ([q7], (.list [(.tuple [n0, n1, n2, n3, n4])]))]),
  (q4, [([q4], (.list [(.tuple [n0, n1, n4]), (.tuple [n1, n2, n3]), (.tuple [n1, n3, n4])])), ([q3], (.list [(.tuple [n0, n1, n4]), (.tuple [n1, n2, n3, n4])])), ([q6], (.list [(.tuple [n0, n1, n3, n4]), (.tuple [n1, n2, n3])])), ([q5], (.list [(.tuple [n0, n1, n2, n3, n4])])), ([q7], (.list [(.tuple [n0, n1, n2, n3, n4])]))]),
  (q5, [([q3], (.list [(.tuple [n0, n1, n2, n4]), (.tuple [n2, n3, n4])])), ([q5], (.list [(.tuple [n0, n1, n2]), (.tuple [n0, n2, n4]), (.tuple [n2, n3, n4])])), ([q7], (.list [(.tuple [n0, n1, n2]), (.tuple [n0, n2, n3, n4])])), ([q4], (.list [(.tuple [n0, n1, n2, n3, n4])])), ([q6], (.list [(.tuple [n0, n1, n2, n3, n4])]))]),
  (q6, [([q3], (.list [(.tuple [n0, n1, n2, n3, n4])])), ([q7], (.list [(.tuple [n0, n1, n2, n3]), (.tuple [n0, n3, n4])])), ([q4], (.list [(.tuple [n0, n1, n3, n4]), (.tuple [n1, n2, n3])])), ([q6], (.list [(.tuple [n0, n1, n3]), (.tuple [n0, n3, n4]), (.tuple [n1, n2, n3])])), ([q5], (.list [(.tuple [n0, n1, n2, n3, n4])]))]),
  (q7, [([q3], (.list [(.tuple [n0, n1, n2, n3, n4])])), ([q4], (.list [(.tuple [n0, n1, n2, n3, n4])])), ([q6], (.list [(.tuple [n0, n1, n2, n3]), (.tuple [n0, n3, n4])])), ([q5], (.list [(.tuple [n0, n1, n2]), (.tuple [n0, n2, n3, n4])])), ([q7], (.list [(.tuple [n0, n1, n2]), (.tuple [n0, n2, n3]), (.tuple [n0, n3, n4])]))]),
  (q8, [([q8], (.list [(.tuple [n0, n1, n5]), (.tuple [n1, n2, n5]), (.tuple [n2, n3, n5]), (.tuple [n3, n4, n5])])), ([q9], (.list [(.tuple [n0, n1, n5]), (.tuple [n1, n2, n5]), (.tuple [n2, n3, n4, n5])])), ([q10], (.list [(.tuple [n0, n1, n5]), (.tuple [n1, n2, n3, n5]), (.tuple [n3, n4, n5])])), ([q11], (.list [(.tuple [n0, n1, n5]), (.tuple [n1, n2, n3, n4, n5])])), ([q12], (.list [(.tuple [n0, n1, n5]), (.tuple [n1, n2, n3, n4, n5])])), ([q13], (.list [(.tuple [n0, n1, n2, n5]), (.tuple [n2, n3, n5]), (.tuple [n3, n4, n5])])), ([q14], (.list [(.tuple [n0, n1, n2, n5]), (.tuple [n2, n3, n4, n5])])), ([q15], (.list [(.tuple [n0, n1, n2, n3, n5]), (.tuple [n3, n4, n5])])), ([q16], (.list [(.tuple [n0, n1, n2, n3, n5]), (.tuple [n3, n4, n5])])), ([q17], (.list [(.tuple [n0, n1, n2, n3, n4, n5])])), ([q18], (.list [(.tuple [n0, n1, n2, n3, n4, n5])])), ([q19], (.list [(.tuple [n0, n1, n2, n3, n4, n5])])), ([q20], (.list [(.tuple [n0, n1, n2, n3, n4, n5])])), ([q21], (.list [(.tuple [n0, n1, n2, n3, n4, n5])]))]),
  (q12, [([q12], (.list [(.tuple [n0, n1, n5]), (.tuple [n1, n2, n3]), (.tuple [n1, n3, n4]), (.tuple [n1, n4, n5])])), ([q11], (.list [(.tuple [n0, n1, n5]), (.tuple [n1, n2, n3, n4]), (.tuple [n1, n4, n5])])), ([q10], (.list [(.tuple [n0, n1, n5]), (.tuple [n1, n2, n3]), (.tuple [n1, n3, n4, n5])])), ([q9], (.list [(.tuple [n0, n1, n5]), (.tuple [n1, n2, n3, n4, n5])])), ([q8], (.list [(.tuple [n0, n1, n5]), (.tuple [n1, n2, n3, n4, n5])])), ([q18], (.list [(.tuple [n0, n1, n4, n5]), (.tuple [n1, n2, n3]), (.tuple [n1, n3, n4])])), ([q17], (.list [(.tuple [n0, n1, n4, n5]), (.tuple [n1, n2, n3, n4])])), ([q15], (.list [(.tuple [n0, n1, n3, n4, n5]), (.tuple [n1, n2, n3])])), ([q20], (.list [(.tuple [n0, n1, n3, n4, n5]), (.tuple [n1, n2, n3])])), ([q14], (.list [(.tuple [n0, n1, n2, n3, n4, n5])])), ([q13], (.list [(.tuple [n0, n1, n2, n3, n4, n5])])), ([q19], (.list [(.tuple [n0, n1, n2, n3, n4, n5])])), ([q16], (.list [(.tuple [n0, n1, n2, n3, n4, n5])])), ([q21], (.list [(.tuple [n0, n1, n2, n3, n4, n5])]))]),
  (q9, [([q8], (.list [(.tuple [n0, n1, n5]), (.tuple [n1, n2, n5]), (.tuple [n2, n3, n4, n5])])), ([q9], (.list [(.tuple [n0, n1, n5]), (.tuple [n1, n2, n5]), (.tuple [n2, n3, n4]), (.tuple [n2, n4, n5])])), ([q11], (.list [(.tuple [n0, n1, n5]), (.tuple [n1, n2, n4, n5]), (.tuple [n2, n3, n4])])), ([q17], (.list [(.tuple [n0, n1, n2, n4, n5]), (.tuple [n2, n3, n4])])), ([q10], (.list [(.tuple [n0, n1, n5]), (.tuple [n1, n2, n3, n4, n5])])), ([q12], (.list [(.tuple [n0, n1, n5]), (.tuple [n1, n2, n3, n4, n5])])), ([q13], (.list [(.tuple [n0, n1, n2, n5]), (.tuple [n2, n3, n4, n5])])), ([q14], (.list [(.tuple [n0, n1, n2, n5]), (.tuple [n2, n3, n4]), (.tuple [n2, n4, n5])])), ([q15], (.list [(.tuple [n0, n1, n2, n3, n4, n5])])), ([q16], (.list [(.tuple [n0, n1, n2, n3, n4, n5])])), ([q18], (.list [(.tuple [n0, n1, n2, n3, n4, n5])])), ([q19], (.list [(.tuple [n0, n1, n2, n4, n5]), (.tuple [n2, n3, n4])])), ([q20], (.list [(.tuple [n0, n1, n2, n3, n4, n5])])), ([q21], (.list [(.tuple [n0, n1, n2, n3, n4, n5])]))]),
  (q10, [([q8], (.list [(.tuple [n0, n1, n5]), (.tuple [n1, n2, n3, n5]), (.tuple [n3, n4, n5])])), ([q10], (.list [(.tuple [n0, n1, n5]), (.tuple [n1, n2, n3]), (.tuple [n1, n3, n5]), (.tuple [n3, n4, n5])])), ([q12], (.list [(.tuple [n0, n1, n5]), (.tuple [n1, n2, n3]), (.tuple [n1, n3, n4, n5])])), ([q15], (.list [(.tuple [n0, n1, n3, n5]), (.tuple [n1, n2, n3]), (.tuple [n3, n4, n5])])), ([q18], (.list [(.tuple [n0, n1, n3, n4, n5]), (.tuple [n1, n2, n3])])), ([q13], (.list [(.tuple [n0, n1, n2, n3, n5]), (.tuple [n3, n4, n5])])), ([q20], (.list [(.tuple [n0, n1, n3, n4, n5]), (.tuple [n1, n2, n3])])), ([q16], (.list [(.tuple [n0, n1, n2, n3, n5]), (.tuple [n3, n4, n5])])), ([q9], (.list [(.tuple [n0, n1, n5]), (.tuple [n1, n2, n3, n4, n5])])), ([q11], (.list [(.tuple [n0, n1, n5]), (.tuple [n1, n2, n3, n4, n5])])), ([q14], (.list [(.tuple [n0, n1, n2, n3, n4, n5])])), ([q17], (.list [(.tuple [n0, n1, n2, n3, n4, n5])])), ([q19], (.list [(.tuple [n0, n1, n2, n3, n4, n5])])), ([q21], (.list [(.tuple [n0, n1, n2, n3, n4, n5])]))]),
  (q11, [([q8], (.list [(.tuple [n0, n1, n5]), (.tuple [n1, n2, n3, n4, n5])])), ([q14], (.list [(.tuple [n0, n1, n2, n4, n5]), (.tuple [n2, n3, n4])])), ([q19], (.list [(.tuple [n0, n1, n2, n4, n5]), (.tuple [n2, n3, n4])])), ([q12], (.list [(.tuple [n0, n1, n5]), (.tuple [n1, n2, n3, n4]), (.tuple [n1, n4, n5])])), ([q11], (.list [(.tuple [n0, n1, n5]), (.tuple [n1, n2, n4]), (.tuple [n1, n4, n5]), (.tuple [n2, n3, n4])])), ([q10], (.list [(.tuple [n0, n1, n5]), (.tuple [n1, n2, n3, n4, n5])])), ([q9], (.list [(.tuple [n0, n1, n5]), (.tuple [n1, n2, n4, n5]), (.tuple [n2, n3, n4])])), ([q18], (.list [(.tuple [n0, n1, n4, n5]), (.tuple [n1, n2, n3, n4])])), ([q17], (.list [(.tuple [n0, n1, n4, n5]), (.tuple [n1, n2, n4]), (.tuple [n2, n3, n4])])), ([q15], (.list [(.tuple [n0, n1, n2, n3, n4, n5])])), ([q20], (.list [(.tuple [n0, n1, n2, n3, n4, n5])])), ([q13], (.list [(.tuple [n0, n1, n2, n3, n4, n5])])), ([q16], (.list [(.tuple [n0, n1, n2, n3, n4, n5])])), ([q21], (.list [(.tuple [n0, n1, n2, n3, n4, n5])]))]),
  (q13, [([q8], (.list [(.tuple [n0, n1, n2, n5]), (.tuple [n2, n3, n5]), (.tuple [n3, n4, n5])])), ([q13], (.list [(.tuple [n0, n1, n2]), (.tuple [n0, n2, n5]), (.tuple [n2, n3, n5]), (.tuple [n3, n4, n5])])), ([q14], (.list [(.tuple [n0, n1, n2]), (.tuple [n0, n2, n5]), (.tuple [n2, n3, n4, n5])])), ([q16], (.list [(.tuple [n0, n1, n2]), (.tuple [n0, n2, n3, n5]), (.tuple [n3, n4, n5])])), ([q19], (.list [(.tuple [n0, n1, n2]), (.tuple [n0, n2, n3, n4, n5])])), ([q21], (.list [(.tuple [n0, n1, n2]), (.tuple [n0, n2, n3, n4, n5])])), ([q9], (.list [(.tuple [n0, n1, n2, n5]), (.tuple [n2, n3, n4, n5])])), ([q10], (.list [(.tuple [n0, n1, n2, n3, n5]), (.tuple [n3, n4, n5])])), ([q11], (.list [(.tuple [n0, n1, n2, n3, n4, n5])])), ([q12], (.list [(.tuple [n0, n1, n2, n3, n4, n5])])), ([q15], (.list [(.tuple [n0, n1, n2, n3, n5]), (.tuple [n3, n4, n5])])), ([q17], (.list [(.tuple [n0, n1, n2, n3, n4, n5])])), ([q18], (.list [(.tuple [n0, n1, n2, n3, n4, n5])])), ([q20], (.list [(.tuple [n0, n1, n2, n3, n4, n5])]))]),
  (q14, [([q8], (.list [(.tuple [n0, n1, n2, n5]), (.tuple [n2, n3, n4, n5])])), ([q13], (.list [(.tuple [n0, n1, n2]), (.tuple [n0, n2, n5]), (.tuple [n2, n3, n4, n5])])), ([q9], (.list [(.tuple [n0, n1, n2, n5]), (.tuple [n2, n3, n4]), (.tuple [n2, n4, n5])])), ([q14], (.list [(.tuple [n0, n1, n2]), (.tuple [n0, n2, n5]), (.tuple [n2, n3, n4]), (.tuple [n2, n4, n5])])), ([q16], (.list [(.tuple [n0, n1, n2]), (.tuple [n0, n2, n3, n4, n5])])), ([q19], (.list [(.tuple [n0, n1, n2]), (.tuple [n0, n2, n4, n5]), (.tuple [n2, n3, n4])])), ([q21], (.list [(.tuple [n0, n1, n2]), (.tuple [n0, n2, n3, n4, n5])])), ([q10], (.list [(.tuple [n0, n1, n2, n3, n4, n5])])), ([q11], (.list [(.tuple [n0, n1, n2, n4, n5]), (.tuple [n2, n3, n4])])), ([q12], (.list [(.tuple [n0, n1, n2, n3, n4, n5])])), ([q17], (.list [(.tuple [n0, n1, n2, n4, n5]), (.tuple [n2, n3, n4])])), ([q15], (.list [(.tuple [n0, n1, n2, n3, n4, n5])])), ([q18], (.list [(.tuple [n0, n1, n2, n3, n4, n5])])), ([q20], (.list [(.tuple [n0, n1, n2, n3, n4, n5])]))]),
  (q15, [([q8], (.list [(.tuple [n0, n1, n2, n3, n5]), (.tuple [n3, n4, n5])])), ([q9], (.list [(.tuple [n0, n1, n2, n3, n4, n5])])), ([q10], (.list [(.tuple [n0, n1, n3, n5]), (.tuple [n1, n2, n3]), (.tuple [n3, n4, n5])])), ([q15], (.list [(.tuple [n0, n1, n3]), (.tuple [n0, n3, n5]), (.tuple [n1, n2, n3]), (.tuple [n3, n4, n5])])), ([q16], (.list [(.tuple [n0, n1, n2, n3]), (.tuple [n0, n3, n5]), (.tuple [n3, n4, n5])])), ([q20], (.list [(.tuple [n0, n1, n3]), (.tuple [n0, n3, n4, n5]), (.tuple [n1, n2, n3])])), ([q21], (.list [(.tuple [n0, n1, n2, n3]), (.tuple [n0, n3, n4, n5])])), ([q11], (.list [(.tuple [n0, n1, n2, n3, n4, n5])])), ([q12], (.list [(.tuple [n0, n1, n3, n4, n5]), (.tuple [n1, n2, n3])])), ([q13], (.list [(.tuple [n0, n1, n2, n3, n5]), (.tuple [n3, n4, n5])])), ([q14], (.list [(.tuple [n0, n1, n2, n3, n4, n5])])), ([q18], (.list [(.tuple [n0, n1, n3, n4, n5]), (.tuple [n1, n2, n3])])), ([q17], (.list [(.tuple [n0, n1, n2, n3, n4, n5])])), ([q19], (.list [(.tuple [n0, n1, n2, n3, n4, n5])]))]),
  (q16, [([q8], (.list [(.tuple [n0, n1, n2, n3, n5]), (.tuple [n3, n4, n5])])), ([q9], (.list [(.tuple [n0, n1, n2, n3, n4, n5])])), ([q10], (.list [(.tuple [n0, n1, n2, n3, n5]), (.tuple [n3, n4, n5])])), ([q11], (.list [(.tuple [n0, n1, n2, n3, n4, n5])])), ([q12], (.list [(.tuple [n0, n1, n2, n3, n4, n5])])), ([q15], (.list [(.tuple [n0, n1, n2, n3]), (.tuple [n0, n3, n5]), (.tuple [n3, n4, n5])])), ([q13], (.list [(.tuple [n0, n1, n2]), (.tuple [n0, n2, n3, n5]), (.tuple [n3, n4, n5])])), ([q16], (.list [(.tuple [n0, n1, n2]), (.tuple [n0, n2, n3]), (.tuple [n0, n3, n5]), (.tuple [n3, n4, n5])])), ([q20], (.list [(.tuple [n0, n1, n2, n3]), (.tuple [n0, n3, n4, n5])])), ([q21], (.list [(.tuple [n0, n1, n2]), (.tuple [n0, n2, n3]), (.tuple [n0, n3, n4, n5])])), ([q14], (.list [(.tuple [n0, n1, n2]), (.tuple [n0, n2, n3, n4, n5])])), ([q19], (.list [(.tuple [n0, n1, n2]), (.tuple [n0, n2, n3, n4, n5])])), ([q17], (.list [(.tuple [n0, n1, n2, n3, n4, n5])])), ([q18], (.list [(.tuple [n0, n1, n2, n3, n4, n5])]))]),
  (q17, [([q8], (.list [(.tuple [n0, n1, n2, n3, n4, n5])])), ([q20], (.list [(.tuple [n0, n1, n2, n3, n4]), (.tuple [n0, n4, n5])])), ([q9], (.list [(.tuple [n0, n1, n2, n4, n5]), (.tuple [n2, n3, n4])])), ([q21], (.list [(.tuple [n0, n1, n2, n3, n4]), (.tuple [n0, n4, n5])])), ([q10], (.list [(.tuple [n0, n1, n2, n3, n4, n5])])), ([q11], (.list [(.tuple [n0, n1, n4, n5]), (.tuple [n1, n2, n4]), (.tuple [n2, n3, n4])])), ([q17], (.list [(.tuple [n0, n1, n4]), (.tuple [n0, n4, n5]), (.tuple [n1, n2, n4]), (.tuple [n2, n3, n4])])), ([q18], (.list [(.tuple [n0, n1, n4]), (.tuple [n0, n4, n5]), (.tuple [n1, n2, n3, n4])])), ([q19], (.list [(.tuple [n0, n1, n2, n4]), (.tuple [n0, n4, n5]), (.tuple [n2, n3, n4])])), ([q12], (.list [(.tuple [n0, n1, n4, n5]), (.tuple [n1, n2, n3, n4])])), ([q13], (.list [(.tuple [n0, n1, n2, n3, n4, n5])])), ([q14], (.list [(.tuple [n0, n1, n2, n4, n5]), (.tuple [n2, n3, n4])])), ([q15], (.list [(.tuple [n0, n1, n2, n3, n4, n5])])), ([q16], (.list [(.tuple [n0, n1, n2, n3, n4, n5])]))]),
  (q18, [([q8], (.list [(.tuple [n0, n1, n2, n3, n4, n5])])), ([q21], (.list [(.tuple [n0, n1, n2, n3, n4]), (.tuple [n0, n4, n5])])), ([q9], (.list [(.tuple [n0, n1, n2, n3, n4, n5])])), ([q10], (.list [(.tuple [n0, n1, n3, n4, n5]), (.tuple [n1, n2, n3])])), ([q11], (.list [(.tuple [n0, n1, n4, n5]), (.tuple [n1, n2, n3, n4])])), ([q17], (.list [(.tuple [n0, n1, n4]), (.tuple [n0, n4, n5]), (.tuple [n1, n2, n3, n4])])), ([q12], (.list [(.tuple [n0, n1, n4, n5]), (.tuple [n1, n2, n3]), (.tuple [n1, n3, n4])])), ([q18], (.list [(.tuple [n0, n1, n4]), (.tuple [n0, n4, n5]), (.tuple [n1, n2, n3]), (.tuple [n1, n3, n4])])), ([q20], (.list [(.tuple [n0, n1, n3, n4]), (.tuple [n0, n4, n5]), (.tuple [n1, n2, n3])])), ([q15], (.list [(.tuple [n0, n1, n3, n4, n5]), (.tuple [n1, n2, n3])])), ([q14], (.list [(.tuple [n0, n1, n2, n3, n4, n5])])), ([q13], (.list [(.tuple [n0, n1, n2, n3, n4, n5])])), ([q19], (.list [(.tuple [n0, n1, n2, n3, n4]), (.tuple [n0, n4, n5])])), ([q16], (.list [(.tuple [n0, n1, n2, n3, n4, n5])]))]),
  (q19, [([q8], (.list [(.tuple [n0, n1, n2, n3, n4, n5])])), ([q9], (.list [(.tuple [n0, n1, n2, n4, n5]), (.tuple [n2, n3, n4])])), ([q10], (.list [(.tuple [n0, n1, n2, n3, n4, n5])])), ([q11], (.list [(.tuple [n0, n1, n2, n4, n5]), (.tuple [n2, n3, n4])])), ([q12], (.list [(.tuple [n0, n1, n2, n3, n4, n5])])), ([q13], (.list [(.tuple [n0, n1, n2]), (.tuple [n0, n2, n3, n4, n5])])), ([q17], (.list [(.tuple [n0, n1, n2, n4]), (.tuple [n0, n4, n5]), (.tuple [n2, n3, n4])])), ([q18], (.list [(.tuple [n0, n1, n2, n3, n4]), (.tuple [n0, n4, n5])])), ([q14], (.list [(.tuple [n0, n1, n2]), (.tuple [n0, n2, n4, n5]), (.tuple [n2, n3, n4])])), ([q19], (.list [(.tuple [n0, n1, n2]), (.tuple [n0, n2, n4]), (.tuple [n0, n4, n5]), (.tuple [n2, n3, n4])])), ([q20], (.list [(.tuple [n0, n1, n2, n3, n4]), (.tuple [n0, n4, n5])])), ([q16], (.list [(.tuple [n0, n1, n2]), (.tuple [n0, n2, n3, n4, n5])])), ([q21], (.list [(.tuple [n0, n1, n2]), (.tuple [n0, n2, n3, n4]), (.tuple [n0, n4, n5])])), ([q15], (.list [(.tuple [n0, n1, n2, n3, n4, n5])]))]),
  (q20, [([q8], (.list [(.tuple [n0, n1, n2, n3, n4, n5])])), ([q9], (.list [(.tuple [n0, n1, n2, n3, n4, n5])])), ([q10], (.list [(.tuple [n0, n1, n3, n4, n5]), (.tuple [n1, n2, n3])])), ([q11], (.list [(.tuple [n0, n1, n2, n3, n4, n5])])), ([q12], (.list [(.tuple [n0, n1, n3, n4, n5]), (.tuple [n1, n2, n3])])), ([q13], (.list [(.tuple [n0, n1, n2, n3, n4, n5])])), ([q16], (.list [(.tuple [n0, n1, n2, n3]), (.tuple [n0, n3, n4, n5])])), ([q14], (.list [(.tuple [n0, n1, n2, n3, n4, n5])])), ([q17], (.list [(.tuple [n0, n1, n2, n3, n4]), (.tuple [n0, n4, n5])])), ([q18], (.list [(.tuple [n0, n1, n3, n4]), (.tuple [n0, n4, n5]), (.tuple [n1, n2, n3])])), ([q15], (.list [(.tuple [n0, n1, n3]), (.tuple [n0, n3, n4, n5]), (.tuple [n1, n2, n3])])), ([q20], (.list [(.tuple [n0, n1, n3]), (.tuple [n0, n3, n4]), (.tuple [n0, n4, n5]), (.tuple [n1, n2, n3])])), ([q19], (.list [(.tuple [n0, n1, n2, n3, n4]), (.tuple [n0, n4, n5])])), ([q21], (.list [(.tuple [n0, n1, n2, n3]), (.tuple [n0, n3, n4]), (.tuple [n0, n4, n5])]))]),
  (q21, [([q8], (.list [(.tuple [n0, n1, n2, n3, n4, n5])])), ([q9], (.list [(.tuple [n0, n1, n2, n3, n4, n5])])), ([q10], (.list [(.tuple [n0, n1, n2, n3, n4, n5])])), ([q11], (.list [(.tuple [n0, n1, n2, n3, n4, n5])])), ([q12], (.list [(.tuple [n0, n1, n2, n3, n4, n5])])), ([q13], (.list [(.tuple [n0, n1, n2]), (.tuple [n0, n2, n3, n4, n5])])), ([q14], (.list [(.tuple [n0, n1, n2]), (.tuple [n0, n2, n3, n4, n5])])), ([q15], (.list [(.tuple [n0, n1, n2, n3]), (.tuple [n0, n3, n4, n5])])), ([q17], (.list [(.tuple [n0, n1, n2, n3, n4]), (.tuple [n0, n4, n5])])), ([q19], (.list [(.tuple [n0, n1, n2]), (.tuple [n0, n2, n3, n4]), (.tuple [n0, n4, n5])])), ([q16], (.list [(.tuple [n0, n1, n2]), (.tuple [n0, n2, n3]), (.tuple [n0, n3, n4, n5])])), ([q21], (.list [(.tuple [n0, n1, n2]), (.tuple [n0, n2, n3]), (.tuple [n0, n3, n4]), (.tuple [n0, n4, n5])])), ([q18], (.list [(.tuple [n0, n1, n2, n3, n4]), (.tuple [n0, n4, n5])])), ([q20], (.list [(.tuple [n0, n1, n2, n3]), (.tuple [n0, n3, n4]), (.tuple [n0, n4, n5])]))])]
def Ffields_of : List PyData → R PyData := tabF tabfields_of Ufields_of
def Npiece_within : List Str := ["cutting", "field", "number", "at", "corner", "last", "pairs", "one", "other", "pair"]
def Gpiece_within : Ev → Out := (sSeq (sAsg (gN 2) (eDcI [3, 4] (iE (eVar 1)) (gT (gsCons (gN 3) (gsCons (gN 4) gsNil))) (eVar 4) (eVar 3))) (sSeq (sAsg (gN 5) (e2 gSub (eA gLen (aCons (eVar 1) aNil)) (eC (.int 1)))) (sSeq (sAsg (gN 6) (eComp [7, 8] (iS (e2 gIx (eVar 0) (eC (.int 1)))) (gT (gsCons (gN 7) (gsCons (gN 8) gsNil))) (eAnd (e2 (gIn false) (eVar 7) (eVar 2)) (e2 (gIn false) (eVar 8) (eVar 2))) (eTup (aCons (e2 gIx (eVar 2) (eVar 7)) (aCons (e2 gIx (eVar 2) (eVar 8)) aNil))))) (sRet (eTup (aCons (eA gLen (aCons (eVar 1) aNil)) (aCons (eA gTuple (aCons (eA gSorted (aCons (eComp [9] (iS (eVar 6)) (gN 9) (eChain gLt gLt (eC (.int 1)) (e2 gSub (e2 gIx (eVar 9) (eC (.int 1))) (e2 gIx (eVar 9) (eC (.int 0)))) (eVar 5)) (eVar 9)) aNil)) aNil)) aNil)))))))
def Upiece_within : List PyData → R PyData := fun ds => outR (Gpiece_within (startE 10 ds))
def tabpiece_within : List (PyData × List (List PyData × PyData)) := [(q1, [([(.tuple [n0, n1, n2, n3])], q1)]),
  (q2, [([(.tuple [n0, n1, n2, n3])], q2)]),
  (q3, [([(.tuple [n1, n2, n3, n4])], q1), ([(.tuple [n0, n1, n2, n4])], q1), ([(.tuple [n0, n1, n2, n3, n4])], q3)]),
  (q4, [([(.tuple [n1, n2, n3, n4])], q2), ([(.tuple [n0, n1, n3, n4])], q1), ([(.tuple [n0, n1, n2, n3, n4])], q4)]),
  (q5, [([(.tuple [n0, n1, n2, n4])], q2), ([(.tuple [n0, n1, n2, n3, n4])], q5), ([(.tuple [n0, n2, n3, n4])], q1)]),
  (q6, [([(.tuple [n0, n1, n3, n4])], q2), ([(.tuple [n0, n1, n2, n3, n4])], q6), ([(.tuple [n0, n1, n2, n3])], q1)]),
  (q7, [([(.tuple [n0, n1, n2, n3, n4])], q7), ([(.tuple [n0, n2, n3, n4])], q2), ([(.tuple [n0, n1, n2, n3])], q2)]),
  (q8, [([(.tuple [n2, n3, n4, n5])], q1), ([(.tuple [n1, n2, n3, n5])], q1), ([(.tuple [n1, n2, n3, n4, n5])], q3), ([(.tuple [n0, n1, n2, n5])], q1), ([(.tuple [n0, n1, n2, n3, n5])], q3), ([(.tuple [n0, n1, n2, n3, n4, n5])], q8)]),
  (q9, [([(.tuple [n2, n3, n4, n5])], q2), ([(.tuple [n1, n2, n3, n4, n5])], q4), ([(.tuple [n1, n2, n4, n5])], q1), ([(.tuple [n0, n1, n2, n4, n5])], q3), ([(.tuple [n0, n1, n2, n5])], q1), ([(.tuple [n0, n1, n2, n3, n4, n5])], q9)]),
  (q12, [([(.tuple [n1, n2, n3, n4])], q2), ([(.tuple [n1, n3, n4, n5])], q2), ([(.tuple [n1, n2, n3, n4, n5])], q7), ([(.tuple [n0, n1, n4, n5])], q1), ([(.tuple [n0, n1, n3, n4, n5])], q4), ([(.tuple [n0, n1, n2, n3, n4, n5])], q12)]),
  (q11, [([(.tuple [n1, n2, n3, n4])], q1), ([(.tuple [n1, n2, n3, n4, n5])], q6), ([(.tuple [n1, n2, n4, n5])], q2), ([(.tuple [n0, n1, n2, n4, n5])], q4), ([(.tuple [n0, n1, n4, n5])], q1), ([(.tuple [n0, n1, n2, n3, n4, n5])], q11)]),
  (q10, [([(.tuple [n1, n2, n3, n5])], q2), ([(.tuple [n1, n3, n4, n5])], q1), ([(.tuple [n0, n1, n3, n5])], q1), ([(.tuple [n0, n1, n3, n4, n5])], q3), ([(.tuple [n0, n1, n2, n3, n5])], q4), ([(.tuple [n1, n2, n3, n4, n5])], q5), ([(.tuple [n0, n1, n2, n3, n4, n5])], q10)]),
  (q13, [([(.tuple [n0, n1, n2, n5])], q2), ([(.tuple [n2, n3, n4, n5])], q1), ([(.tuple [n0, n2, n3, n5])], q1), ([(.tuple [n0, n1, n2, n3, n4, n5])], q13), ([(.tuple [n0, n1, n2, n3, n5])], q5), ([(.tuple [n0, n2, n3, n4, n5])], q3)]),
  (q18, [([(.tuple [n0, n1, n4, n5])], q2), ([(.tuple [n0, n1, n2, n3, n4, n5])], q18), ([(.tuple [n0, n1, n3, n4, n5])], q6), ([(.tuple [n0, n1, n2, n3, n4])], q4), ([(.tuple [n1, n2, n3, n4])], q2), ([(.tuple [n0, n1, n3, n4])], q1)]),
  (q14, [([(.tuple [n0, n1, n2, n5])], q2), ([(.tuple [n2, n3, n4, n5])], q2), ([(.tuple [n0, n1, n2, n3, n4, n5])], q14), ([(.tuple [n0, n1, n2, n4, n5])], q5), ([(.tuple [n0, n2, n3, n4, n5])], q4), ([(.tuple [n0, n2, n4, n5])], q1)]),
  (q17, [([(.tuple [n0, n1, n4, n5])], q2), ([(.tuple [n1, n2, n3, n4])], q1), ([(.tuple [n0, n1, n2, n3, n4, n5])], q17), ([(.tuple [n0, n1, n2, n4, n5])], q6), ([(.tuple [n0, n1, n2, n3, n4])], q3), ([(.tuple [n0, n1, n2, n4])], q1)]),
  (q15, [([(.tuple [n0, n1, n2, n3, n5])], q6), ([(.tuple [n0, n1, n3, n4, n5])], q5), ([(.tuple [n0, n1, n3, n5])], q2), ([(.tuple [n0, n1, n2, n3, n4, n5])], q15), ([(.tuple [n0, n1, n2, n3])], q1), ([(.tuple [n0, n3, n4, n5])], q1)]),
  (q16, [([(.tuple [n0, n1, n2, n3, n5])], q7), ([(.tuple [n0, n2, n3, n5])], q2), ([(.tuple [n0, n1, n2, n3, n4, n5])], q16), ([(.tuple [n0, n2, n3, n4, n5])], q5), ([(.tuple [n0, n1, n2, n3])], q2), ([(.tuple [n0, n3, n4, n5])], q1)]),
  (q20, [([(.tuple [n0, n1, n3, n4, n5])], q7), ([(.tuple [n0, n1, n2, n3, n4, n5])], q20), ([(.tuple [n0, n1, n2, n3, n4])], q6), ([(.tuple [n0, n3, n4, n5])], q2), ([(.tuple [n0, n1, n3, n4])], q2), ([(.tuple [n0, n1, n2, n3])], q1)]),
  (q19, [([(.tuple [n0, n1, n2, n3, n4, n5])], q19), ([(.tuple [n0, n2, n3, n4, n5])], q6), ([(.tuple [n0, n1, n2, n4, n5])], q7), ([(.tuple [n0, n2, n4, n5])], q2), ([(.tuple [n0, n1, n2, n4])], q2), ([(.tuple [n0, n1, n2, n3, n4])], q5), ([(.tuple [n0, n2, n3, n4])], q1)]),
  (q21, [([(.tuple [n0, n1, n2, n3, n4, n5])], q21), ([(.tuple [n0, n2, n3, n4, n5])], q7), ([(.tuple [n0, n1, n2, n3, n4])], q7), ([(.tuple [n0, n1, n2, n3])], q2), ([(.tuple [n0, n3, n4, n5])], q2), ([(.tuple [n0, n2, n3, n4])], q2)])]
def Fpiece_within : List PyData → R PyData := tabF tabpiece_within Upiece_within
def Nshared_cuts : List Str := ["one", "other"]
def Gshared_cuts : Ev → Out := (sSeq (sExpr (eCall 2 Fneed_two (aCons (eVar 0) (aCons (eVar 1) aNil)))) (sRet (eCall 2 Fcuts_of_both (aCons (eVar 0) (aCons (eVar 1) aNil)))))
def Ushared_cuts : List PyData → R PyData := fun ds => outR (Gshared_cuts (startE 2 ds))
def tabshared_cuts : List (PyData × List (List PyData × PyData)) := [(q1, [([q2], (.list []))]),
  (q2, [([q1], (.list []))]),
  (q3, [([q4], (.list [p14])), ([q5], (.list [p24])), ([q6], (.list [])), ([q7], (.list []))]),
  (q4, [([q3], (.list [p14])), ([q5], (.list [])), ([q6], (.list [p13])), ([q7], (.list []))]),
  (q5, [([q3], (.list [p24])), ([q4], (.list [])), ([q6], (.list [])), ([q7], (.list [p02]))]),
  (q6, [([q3], (.list [])), ([q4], (.list [p13])), ([q5], (.list [])), ([q7], (.list [p03]))]),
  (q7, [([q3], (.list [])), ([q4], (.list [])), ([q5], (.list [p02])), ([q6], (.list [p03]))]),
  (q8, [([q9], (.list [p15, p25])), ([q10], (.list [p15, p35])), ([q11], (.list [p15])), ([q12], (.list [p15])), ([q13], (.list [p25, p35])), ([q14], (.list [p25])), ([q15], (.list [p35])), ([q16], (.list [p35])), ([q17], (.list [])), ([q18], (.list [])), ([q19], (.list [])), ([q20], (.list [])), ([q21], (.list []))]),
  (q9, [([q8], (.list [p15, p25])), ([q10], (.list [p15])), ([q11], (.list [p15, p24])), ([q12], (.list [p15])), ([q13], (.list [p25])), ([q14], (.list [p24, p25])), ([q15], (.list [])), ([q16], (.list [])), ([q17], (.list [p24])), ([q18], (.list [])), ([q19], (.list [p24])), ([q20], (.list [])), ([q21], (.list []))]),
  (q10, [([q8], (.list [p15, p35])), ([q9], (.list [p15])), ([q11], (.list [p15])), ([q12], (.list [p13, p15])), ([q13], (.list [p35])), ([q14], (.list [])), ([q15], (.list [p13, p35])), ([q16], (.list [p35])), ([q17], (.list [])), ([q18], (.list [p13])), ([q19], (.list [])), ([q20], (.list [p13])), ([q21], (.list []))]),
  (q11, [([q8], (.list [p15])), ([q9], (.list [p15, p24])), ([q10], (.list [p15])), ([q12], (.list [p14, p15])), ([q13], (.list [])), ([q14], (.list [p24])), ([q15], (.list [])), ([q16], (.list [])), ([q17], (.list [p14, p24])), ([q18], (.list [p14])), ([q19], (.list [p24])), ([q20], (.list [])), ([q21], (.list []))]),
  (q12, [([q8], (.list [p15])), ([q9], (.list [p15])), ([q10], (.list [p13, p15])), ([q11], (.list [p14, p15])), ([q13], (.list [])), ([q14], (.list [])), ([q15], (.list [p13])), ([q16], (.list [])), ([q17], (.list [p14])), ([q18], (.list [p13, p14])), ([q19], (.list [])), ([q20], (.list [p13])), ([q21], (.list []))]),
  (q13, [([q8], (.list [p25, p35])), ([q9], (.list [p25])), ([q10], (.list [p35])), ([q11], (.list [])), ([q12], (.list [])), ([q14], (.list [p02, p25])), ([q15], (.list [p35])), ([q16], (.list [p02, p35])), ([q17], (.list [])), ([q18], (.list [])), ([q19], (.list [p02])), ([q20], (.list [])), ([q21], (.list [p02]))]),
  (q14, [([q8], (.list [p25])), ([q9], (.list [p24, p25])), ([q10], (.list [])), ([q11], (.list [p24])), ([q12], (.list [])), ([q13], (.list [p02, p25])), ([q15], (.list [])), ([q16], (.list [p02])), ([q17], (.list [p24])), ([q18], (.list [])), ([q19], (.list [p02, p24])), ([q20], (.list [])), ([q21], (.list [p02]))]),
  (q15, [([q8], (.list [p35])), ([q9], (.list [])), ([q10], (.list [p13, p35])), ([q11], (.list [])), ([q12], (.list [p13])), ([q13], (.list [p35])), ([q14], (.list [])), ([q16], (.list [p03, p35])), ([q17], (.list [])), ([q18], (.list [p13])), ([q19], (.list [])), ([q20], (.list [p03, p13])), ([q21], (.list [p03]))]),
  (q16, [([q8], (.list [p35])), ([q9], (.list [])), ([q10], (.list [p35])), ([q11], (.list [])), ([q12], (.list [])), ([q13], (.list [p02, p35])), ([q14], (.list [p02])), ([q15], (.list [p03, p35])), ([q17], (.list [])), ([q18], (.list [])), ([q19], (.list [p02])), ([q20], (.list [p03])), ([q21], (.list [p02, p03]))]),
  (q17, [([q8], (.list [])), ([q9], (.list [p24])), ([q10], (.list [])), ([q11], (.list [p14, p24])), ([q12], (.list [p14])), ([q13], (.list [])), ([q14], (.list [p24])), ([q15], (.list [])), ([q16], (.list [])), ([q18], (.list [p04, p14])), ([q19], (.list [p04, p24])), ([q20], (.list [p04])), ([q21], (.list [p04]))]),
  (q18, [([q8], (.list [])), ([q9], (.list [])), ([q10], (.list [p13])), ([q11], (.list [p14])), ([q12], (.list [p13, p14])), ([q13], (.list [])), ([q14], (.list [])), ([q15], (.list [p13])), ([q16], (.list [])), ([q17], (.list [p04, p14])), ([q19], (.list [p04])), ([q20], (.list [p04, p13])), ([q21], (.list [p04]))]),
  (q19, [([q8], (.list [])), ([q9], (.list [p24])), ([q10], (.list [])), ([q11], (.list [p24])), ([q12], (.list [])), ([q13], (.list [p02])), ([q14], (.list [p02, p24])), ([q15], (.list [])), ([q16], (.list [p02])), ([q17], (.list [p04, p24])), ([q18], (.list [p04])), ([q20], (.list [p04])), ([q21], (.list [p02, p04]))]),
  (q20, [([q8], (.list [])), ([q9], (.list [])), ([q10], (.list [p13])), ([q11], (.list [])), ([q12], (.list [p13])), ([q13], (.list [])), ([q14], (.list [])), ([q15], (.list [p03, p13])), ([q16], (.list [p03])), ([q17], (.list [p04])), ([q18], (.list [p04, p13])), ([q19], (.list [p04])), ([q21], (.list [p03, p04]))]),
  (q21, [([q8], (.list [])), ([q9], (.list [])), ([q10], (.list [])), ([q11], (.list [])), ([q12], (.list [])), ([q13], (.list [p02])), ([q14], (.list [p02])), ([q15], (.list [p03])), ([q16], (.list [p02, p03])), ([q17], (.list [p04])), ([q18], (.list [p04])), ([q19], (.list [p02, p04])), ([q20], (.list [p03, p04]))])]
def Fshared_cuts : List PyData → R PyData := tabF tabshared_cuts Ushared_cuts
def Nnexts_of : List Str := ["cutting", "cut"]
def Gnexts_of : Ev → Out := (sRet (eComp [1] (iS (e2 gIx (eVar 0) (eC (.int 1)))) (gN 1) tTrue (eTup (aCons (eVar 1) (aCons (eCall 3 Fwith_cut (aCons (eVar 0) (aCons (eVar 1) (aCons (eCall 2 Fcut_for (aCons (eVar 0) (aCons (eVar 1) aNil))) aNil)))) aNil)))))
def Unexts_of : List PyData → R PyData := fun ds => outR (Gnexts_of (startE 2 ds))
def tabnexts_of : List (PyData × List (List PyData × PyData)) := [(q0, [([], (.list []))]),
  (q1, [([], (.list [(.tuple [p13, q2])]))]),
  (q2, [([], (.list [(.tuple [p02, q1])]))]),
  (q3, [([], (.list [(.tuple [p14, q5]), (.tuple [p24, q4])]))]),
  (q5, [([], (.list [(.tuple [p02, q3]), (.tuple [p24, q7])]))]),
  (q4, [([], (.list [(.tuple [p13, q3]), (.tuple [p14, q6])]))]),
  (q7, [([], (.list [(.tuple [p02, q6]), (.tuple [p03, q5])]))]),
  (q6, [([], (.list [(.tuple [p03, q4]), (.tuple [p13, q7])]))]),
  (q8, [([], (.list [(.tuple [p15, q13]), (.tuple [p25, q10]), (.tuple [p35, q9])]))]),
  (q13, [([], (.list [(.tuple [p02, q8]), (.tuple [p25, q16]), (.tuple [p35, q14])]))]),
  (q10, [([], (.list [(.tuple [p13, q8]), (.tuple [p15, q15]), (.tuple [p35, q12])]))]),
  (q9, [([], (.list [(.tuple [p15, q14]), (.tuple [p24, q8]), (.tuple [p25, q11])]))]),
  (q16, [([], (.list [(.tuple [p02, q15]), (.tuple [p03, q13]), (.tuple [p35, q21])]))]),
  (q14, [([], (.list [(.tuple [p02, q9]), (.tuple [p24, q13]), (.tuple [p25, q19])]))]),
  (q15, [([], (.list [(.tuple [p03, q10]), (.tuple [p13, q16]), (.tuple [p35, q20])]))]),
  (q12, [([], (.list [(.tuple [p13, q11]), (.tuple [p14, q10]), (.tuple [p15, q18])]))]),
  (q11, [([], (.list [(.tuple [p14, q9]), (.tuple [p15, q17]), (.tuple [p24, q12])]))]),
  (q21, [([], (.list [(.tuple [p02, q20]), (.tuple [p03, q19]), (.tuple [p04, q16])]))]),
  (q19, [([], (.list [(.tuple [p02, q17]), (.tuple [p04, q14]), (.tuple [p24, q21])]))]),
  (q20, [([], (.list [(.tuple [p03, q18]), (.tuple [p04, q15]), (.tuple [p13, q21])]))]),
  (q18, [([], (.list [(.tuple [p04, q12]), (.tuple [p13, q17]), (.tuple [p14, q20])]))]),
  (q17, [([], (.list [(.tuple [p04, q11]), (.tuple [p14, q19]), (.tuple [p24, q18])]))])]
def Fnexts_of : List PyData → R PyData := tabF tabnexts_of Unexts_of
def Nreach_from : List Str := ["cutting", "goal", "found", "line", "far", "later", "here", "ways", "cut", "there"]
def Greach_from : Ev → Out := (sSeq (sPar3 true false false 2 3 4 (eDisp (eVar 0) (eTup (aCons (eC (.int 0)) (aCons (eC (.int 1)) aNil)))) (eLst (aCons (eVar 0) aNil)) (eC (.int 0))) (sSeq (sWhile 12 (eAnd (e2 gNe (eVar 3) (eLst aNil)) (eInO true 2 (eVar 1))) (sSeq (sPar false false 4 5 (e2 gAdd (eVar 4) (eC (.int 1))) (eLst aNil)) (sSeq (sFor (iS (eVar 3)) (gN 6) (sSeq (sAsg (gN 7) (e2 gIx (eIxO 2 (eVar 6)) (eC (.int 1)))) (sFor (iS (eCall 1 Fnexts_of (aCons (eVar 6) aNil))) (gT (gsCons (gN 8) (gsCons (gN 9) gsNil))) (sIf (eInO true 2 (eVar 9)) (sSeq (sAsg (gN 5) (e2 gAdd (eVar 5) (eLst (aCons (eVar 9) aNil)))) (sSetI 2 (eVar 9) (eTup (aCons (eVar 4) (aCons (eVar 7) aNil))))) (sIf (e2 gEq (e2 gIx (eIxO 2 (eVar 9)) (eC (.int 0))) (eVar 4)) (sSetI 2 (eVar 9) (eTup (aCons (eVar 4) (aCons (e2 gAdd (e2 gIx (eIxO 2 (eVar 9)) (eC (.int 1))) (eVar 7)) aNil)))) sNil))))) (sAsg (gN 3) (eVar 5))))) (sFrz 2 (sRet (eVar 2)))))
def Ureach_from : List PyData → R PyData := fun ds => outR (Greach_from (startE 10 ds))
def tabreach_from : List (PyData × List (List PyData × PyData)) := [(q0, [([.none], (.dict [(q0, p01)]))]),
  (q1, [([.none], (.dict [(q1, p01), (q2, p11)])), ([q2], (.dict [(q1, p01), (q2, p11)]))]),
  (q2, [([q1], (.dict [(q2, p01), (q1, p11)])), ([.none], (.dict [(q2, p01), (q1, p11)]))]),
  (q3, [([.none], (.dict [(q3, p01), (q5, p11), (q4, p11), (q7, p21), (q6, p21)])), ([q6], (.dict [(q3, p01), (q5, p11), (q4, p11), (q7, p21), (q6, p21)])), ([q7], (.dict [(q3, p01), (q5, p11), (q4, p11), (q7, p21), (q6, p21)]))]),
  (q6, [([q3], (.dict [(q6, p01), (q4, p11), (q7, p11), (q3, p21), (q5, p21)])), ([q5], (.dict [(q6, p01), (q4, p11), (q7, p11), (q3, p21), (q5, p21)])), ([.none], (.dict [(q6, p01), (q4, p11), (q7, p11), (q3, p21), (q5, p21)]))]),
  (q7, [([q3], (.dict [(q7, p01), (q6, p11), (q5, p11), (q4, p21), (q3, p21)])), ([q4], (.dict [(q7, p01), (q6, p11), (q5, p11), (q4, p21), (q3, p21)])), ([.none], (.dict [(q7, p01), (q6, p11), (q5, p11), (q4, p21), (q3, p21)]))]),
  (q4, [([.none], (.dict [(q4, p01), (q3, p11), (q6, p11), (q5, p21), (q7, p21)])), ([q5], (.dict [(q4, p01), (q3, p11), (q6, p11), (q5, p21), (q7, p21)])), ([q7], (.dict [(q4, p01), (q3, p11), (q6, p11), (q5, p21), (q7, p21)]))]),
  (q5, [([q4], (.dict [(q5, p01), (q3, p11), (q7, p11), (q4, p21), (q6, p21)])), ([.none], (.dict [(q5, p01), (q3, p11), (q7, p11), (q4, p21), (q6, p21)])), ([q6], (.dict [(q5, p01), (q3, p11), (q7, p11), (q4, p21), (q6, p21)]))]),
  (q8, [([.none], (.dict [(q8, p01), (q13, p11), (q10, p11), (q9, p11), (q16, p21), (q14, p22), (q15, p21), (q12, p21), (q11, p21), (q21, p31), (q19, p32), (q20, p31), (q18, p31), (q17, p31)])), ([q17], (.dict [(q8, p01), (q13, p11), (q10, p11), (q9, p11), (q16, p21), (q14, p22), (q15, p21), (q12, p21), (q11, p21), (q21, p31), (q19, p32), (q20, p31), (q18, p31), (q17, p31)])), ([q18], (.dict [(q8, p01), (q13, p11), (q10, p11), (q9, p11), (q16, p21), (q14, p22), (q15, p21), (q12, p21), (q11, p21), (q21, p31), (q19, p32), (q20, p31), (q18, p31), (q17, p31)])), ([q19], (.dict [(q8, p01), (q13, p11), (q10, p11), (q9, p11), (q16, p21), (q14, p22), (q15, p21), (q12, p21), (q11, p21), (q21, p31), (q19, p32), (q20, p31), (q18, p31), (q17, p31)])), ([q20], (.dict [(q8, p01), (q13, p11), (q10, p11), (q9, p11), (q16, p21), (q14, p22), (q15, p21), (q12, p21), (q11, p21), (q21, p31), (q19, p32), (q20, p31), (q18, p31), (q17, p31)])), ([q21], (.dict [(q8, p01), (q13, p11), (q10, p11), (q9, p11), (q16, p21), (q14, p22), (q15, p21), (q12, p21), (q11, p21), (q21, p31), (q19, p32), (q20, p31), (q18, p31), (q17, p31)]))]),
  (q17, [([q8], (.dict [(q17, p01), (q11, p11), (q19, p11), (q18, p11), (q9, p21), (q12, p22), (q14, p21), (q21, p21), (q20, p21), (q8, p31), (q10, p32), (q13, p31), (q16, p31), (q15, p31)])), ([q10], (.dict [(q17, p01), (q11, p11), (q19, p11), (q18, p11), (q9, p21), (q12, p22), (q14, p21), (q21, p21), (q20, p21), (q8, p31), (q10, p32), (q13, p31), (q16, p31), (q15, p31)])), ([q13], (.dict [(q17, p01), (q11, p11), (q19, p11), (q18, p11), (q9, p21), (q12, p22), (q14, p21), (q21, p21), (q20, p21), (q8, p31), (q10, p32), (q13, p31), (q16, p31), (q15, p31)])), ([q15], (.dict [(q17, p01), (q11, p11), (q19, p11), (q18, p11), (q9, p21), (q12, p22), (q14, p21), (q21, p21), (q20, p21), (q8, p31), (q10, p32), (q13, p31), (q16, p31), (q15, p31)])), ([q16], (.dict [(q17, p01), (q11, p11), (q19, p11), (q18, p11), (q9, p21), (q12, p22), (q14, p21), (q21, p21), (q20, p21), (q8, p31), (q10, p32), (q13, p31), (q16, p31), (q15, p31)])), ([.none], (.dict [(q17, p01), (q11, p11), (q19, p11), (q18, p11), (q9, p21), (q12, p22), (q14, p21), (q21, p21), (q20, p21), (q8, p31), (q10, p32), (q13, p31), (q16, p31), (q15, p31)]))]),
  (q18, [([q8], (.dict [(q18, p01), (q12, p11), (q17, p11), (q20, p11), (q11, p22), (q10, p21), (q19, p21), (q15, p21), (q21, p21), (q9, p32), (q8, p31), (q14, p31), (q16, p32)])), ([q9], (.dict [(q18, p01), (q12, p11), (q17, p11), (q20, p11), (q11, p22), (q10, p21), (q19, p21), (q15, p21), (q21, p21), (q9, p32), (q8, p31), (q14, p31), (q16, p32)])), ([q13], (.dict [(q18, p01), (q12, p11), (q17, p11), (q20, p11), (q11, p22), (q10, p21), (q19, p21), (q15, p21), (q21, p21), (q9, p32), (q8, p31), (q14, p31), (q16, p32), (q13, p44)])), ([q14], (.dict [(q18, p01), (q12, p11), (q17, p11), (q20, p11), (q11, p22), (q10, p21), (q19, p21), (q15, p21), (q21, p21), (q9, p32), (q8, p31), (q14, p31), (q16, p32)])), ([q16], (.dict [(q18, p01), (q12, p11), (q17, p11), (q20, p11), (q11, p22), (q10, p21), (q19, p21), (q15, p21), (q21, p21), (q9, p32), (q8, p31), (q14, p31), (q16, p32)])), ([.none], (.dict [(q18, p01), (q12, p11), (q17, p11), (q20, p11), (q11, p22), (q10, p21), (q19, p21), (q15, p21), (q21, p21), (q9, p32), (q8, p31), (q14, p31), (q16, p32), (q13, p44)]))]),
  (q19, [([q8], (.dict [(q19, p01), (q17, p11), (q14, p11), (q21, p11), (q11, p21), (q18, p21), (q9, p21), (q13, p21), (q20, p21), (q16, p21), (q12, p32), (q8, p32), (q15, p32)])), ([q10], (.dict [(q19, p01), (q17, p11), (q14, p11), (q21, p11), (q11, p21), (q18, p21), (q9, p21), (q13, p21), (q20, p21), (q16, p21), (q12, p32), (q8, p32), (q15, p32), (q10, (.tuple [n4, n6]))])), ([q12], (.dict [(q19, p01), (q17, p11), (q14, p11), (q21, p11), (q11, p21), (q18, p21), (q9, p21), (q13, p21), (q20, p21), (q16, p21), (q12, p32), (q8, p32), (q15, p32)])), ([q15], (.dict [(q19, p01), (q17, p11), (q14, p11), (q21, p11), (q11, p21), (q18, p21), (q9, p21), (q13, p21), (q20, p21), (q16, p21), (q12, p32), (q8, p32), (q15, p32)])), ([.none], (.dict [(q19, p01), (q17, p11), (q14, p11), (q21, p11), (q11, p21), (q18, p21), (q9, p21), (q13, p21), (q20, p21), (q16, p21), (q12, p32), (q8, p32), (q15, p32), (q10, (.tuple [n4, n6]))]))]),
  (q20, [([q8], (.dict [(q20, p01), (q18, p11), (q15, p11), (q21, p11), (q12, p21), (q17, p21), (q10, p21), (q16, p22), (q19, p21), (q11, p32), (q8, p31), (q13, p32), (q14, p31)])), ([q9], (.dict [(q20, p01), (q18, p11), (q15, p11), (q21, p11), (q12, p21), (q17, p21), (q10, p21), (q16, p22), (q19, p21), (q11, p32), (q8, p31), (q13, p32), (q14, p31), (q9, p44)])), ([q11], (.dict [(q20, p01), (q18, p11), (q15, p11), (q21, p11), (q12, p21), (q17, p21), (q10, p21), (q16, p22), (q19, p21), (q11, p32), (q8, p31), (q13, p32), (q14, p31)])), ([q13], (.dict [(q20, p01), (q18, p11), (q15, p11), (q21, p11), (q12, p21), (q17, p21), (q10, p21), (q16, p22), (q19, p21), (q11, p32), (q8, p31), (q13, p32), (q14, p31)])), ([q14], (.dict [(q20, p01), (q18, p11), (q15, p11), (q21, p11), (q12, p21), (q17, p21), (q10, p21), (q16, p22), (q19, p21), (q11, p32), (q8, p31), (q13, p32), (q14, p31)])), ([.none], (.dict [(q20, p01), (q18, p11), (q15, p11), (q21, p11), (q12, p21), (q17, p21), (q10, p21), (q16, p22), (q19, p21), (q11, p32), (q8, p31), (q13, p32), (q14, p31), (q9, p44)]))]),
  (q21, [([q8], (.dict [(q21, p01), (q20, p11), (q19, p11), (q16, p11), (q18, p21), (q15, p22), (q17, p21), (q14, p21), (q13, p21), (q12, p31), (q10, p32), (q11, p31), (q9, p31), (q8, p31)])), ([q9], (.dict [(q21, p01), (q20, p11), (q19, p11), (q16, p11), (q18, p21), (q15, p22), (q17, p21), (q14, p21), (q13, p21), (q12, p31), (q10, p32), (q11, p31), (q9, p31), (q8, p31)])), ([q10], (.dict [(q21, p01), (q20, p11), (q19, p11), (q16, p11), (q18, p21), (q15, p22), (q17, p21), (q14, p21), (q13, p21), (q12, p31), (q10, p32), (q11, p31), (q9, p31), (q8, p31)])), ([q11], (.dict [(q21, p01), (q20, p11), (q19, p11), (q16, p11), (q18, p21), (q15, p22), (q17, p21), (q14, p21), (q13, p21), (q12, p31), (q10, p32), (q11, p31), (q9, p31), (q8, p31)])), ([q12], (.dict [(q21, p01), (q20, p11), (q19, p11), (q16, p11), (q18, p21), (q15, p22), (q17, p21), (q14, p21), (q13, p21), (q12, p31), (q10, p32), (q11, p31), (q9, p31), (q8, p31)])), ([.none], (.dict [(q21, p01), (q20, p11), (q19, p11), (q16, p11), (q18, p21), (q15, p22), (q17, p21), (q14, p21), (q13, p21), (q12, p31), (q10, p32), (q11, p31), (q9, p31), (q8, p31)]))]),
  (q9, [([.none], (.dict [(q9, p01), (q14, p11), (q8, p11), (q11, p11), (q13, p22), (q19, p21), (q10, p21), (q17, p21), (q12, p21), (q16, p32), (q21, p31), (q15, p31), (q18, p32), (q20, p44)])), ([q15], (.dict [(q9, p01), (q14, p11), (q8, p11), (q11, p11), (q13, p22), (q19, p21), (q10, p21), (q17, p21), (q12, p21), (q16, p32), (q21, p31), (q15, p31), (q18, p32)])), ([q16], (.dict [(q9, p01), (q14, p11), (q8, p11), (q11, p11), (q13, p22), (q19, p21), (q10, p21), (q17, p21), (q12, p21), (q16, p32), (q21, p31), (q15, p31), (q18, p32)])), ([q18], (.dict [(q9, p01), (q14, p11), (q8, p11), (q11, p11), (q13, p22), (q19, p21), (q10, p21), (q17, p21), (q12, p21), (q16, p32), (q21, p31), (q15, p31), (q18, p32)])), ([q20], (.dict [(q9, p01), (q14, p11), (q8, p11), (q11, p11), (q13, p22), (q19, p21), (q10, p21), (q17, p21), (q12, p21), (q16, p32), (q21, p31), (q15, p31), (q18, p32), (q20, p44)])), ([q21], (.dict [(q9, p01), (q14, p11), (q8, p11), (q11, p11), (q13, p22), (q19, p21), (q10, p21), (q17, p21), (q12, p21), (q16, p32), (q21, p31), (q15, p31), (q18, p32)]))]),
  (q15, [([q9], (.dict [(q15, p01), (q10, p11), (q16, p11), (q20, p11), (q8, p21), (q12, p21), (q13, p21), (q21, p22), (q18, p21), (q9, p31), (q11, p31), (q14, p31), (q19, p32), (q17, p31)])), ([q11], (.dict [(q15, p01), (q10, p11), (q16, p11), (q20, p11), (q8, p21), (q12, p21), (q13, p21), (q21, p22), (q18, p21), (q9, p31), (q11, p31), (q14, p31), (q19, p32), (q17, p31)])), ([q14], (.dict [(q15, p01), (q10, p11), (q16, p11), (q20, p11), (q8, p21), (q12, p21), (q13, p21), (q21, p22), (q18, p21), (q9, p31), (q11, p31), (q14, p31), (q19, p32), (q17, p31)])), ([.none], (.dict [(q15, p01), (q10, p11), (q16, p11), (q20, p11), (q8, p21), (q12, p21), (q13, p21), (q21, p22), (q18, p21), (q9, p31), (q11, p31), (q14, p31), (q19, p32), (q17, p31)])), ([q17], (.dict [(q15, p01), (q10, p11), (q16, p11), (q20, p11), (q8, p21), (q12, p21), (q13, p21), (q21, p22), (q18, p21), (q9, p31), (q11, p31), (q14, p31), (q19, p32), (q17, p31)])), ([q19], (.dict [(q15, p01), (q10, p11), (q16, p11), (q20, p11), (q8, p21), (q12, p21), (q13, p21), (q21, p22), (q18, p21), (q9, p31), (q11, p31), (q14, p31), (q19, p32), (q17, p31)]))]),
  (q16, [([q9], (.dict [(q16, p01), (q15, p11), (q13, p11), (q21, p11), (q10, p21), (q20, p22), (q8, p21), (q14, p21), (q19, p21), (q12, p31), (q18, p32), (q9, p32), (q17, p31)])), ([q11], (.dict [(q16, p01), (q15, p11), (q13, p11), (q21, p11), (q10, p21), (q20, p22), (q8, p21), (q14, p21), (q19, p21), (q12, p31), (q18, p32), (q9, p32), (q17, p31), (q11, p44)])), ([q12], (.dict [(q16, p01), (q15, p11), (q13, p11), (q21, p11), (q10, p21), (q20, p22), (q8, p21), (q14, p21), (q19, p21), (q12, p31), (q18, p32), (q9, p32), (q17, p31)])), ([.none], (.dict [(q16, p01), (q15, p11), (q13, p11), (q21, p11), (q10, p21), (q20, p22), (q8, p21), (q14, p21), (q19, p21), (q12, p31), (q18, p32), (q9, p32), (q17, p31), (q11, p44)])), ([q17], (.dict [(q16, p01), (q15, p11), (q13, p11), (q21, p11), (q10, p21), (q20, p22), (q8, p21), (q14, p21), (q19, p21), (q12, p31), (q18, p32), (q9, p32), (q17, p31)])), ([q18], (.dict [(q16, p01), (q15, p11), (q13, p11), (q21, p11), (q10, p21), (q20, p22), (q8, p21), (q14, p21), (q19, p21), (q12, p31), (q18, p32), (q9, p32), (q17, p31)]))]),
  (q11, [([q16], (.dict [(q11, p01), (q9, p11), (q17, p11), (q12, p11), (q14, p21), (q8, p21), (q19, p21), (q18, p22), (q10, p21), (q13, p32), (q21, p31), (q20, p32), (q15, p31), (q16, p44)])), ([.none], (.dict [(q11, p01), (q9, p11), (q17, p11), (q12, p11), (q14, p21), (q8, p21), (q19, p21), (q18, p22), (q10, p21), (q13, p32), (q21, p31), (q20, p32), (q15, p31), (q16, p44)])), ([q13], (.dict [(q11, p01), (q9, p11), (q17, p11), (q12, p11), (q14, p21), (q8, p21), (q19, p21), (q18, p22), (q10, p21), (q13, p32), (q21, p31), (q20, p32), (q15, p31)])), ([q15], (.dict [(q11, p01), (q9, p11), (q17, p11), (q12, p11), (q14, p21), (q8, p21), (q19, p21), (q18, p22), (q10, p21), (q13, p32), (q21, p31), (q20, p32), (q15, p31)])), ([q20], (.dict [(q11, p01), (q9, p11), (q17, p11), (q12, p11), (q14, p21), (q8, p21), (q19, p21), (q18, p22), (q10, p21), (q13, p32), (q21, p31), (q20, p32), (q15, p31)])), ([q21], (.dict [(q11, p01), (q9, p11), (q17, p11), (q12, p11), (q14, p21), (q8, p21), (q19, p21), (q18, p22), (q10, p21), (q13, p32), (q21, p31), (q20, p32), (q15, p31)]))]),
  (q10, [([.none], (.dict [(q10, p01), (q8, p11), (q15, p11), (q12, p11), (q13, p21), (q9, p21), (q16, p21), (q20, p21), (q11, p21), (q18, p21), (q14, p32), (q21, p32), (q17, p32), (q19, (.tuple [n4, n6]))])), ([q14], (.dict [(q10, p01), (q8, p11), (q15, p11), (q12, p11), (q13, p21), (q9, p21), (q16, p21), (q20, p21), (q11, p21), (q18, p21), (q14, p32), (q21, p32), (q17, p32)])), ([q17], (.dict [(q10, p01), (q8, p11), (q15, p11), (q12, p11), (q13, p21), (q9, p21), (q16, p21), (q20, p21), (q11, p21), (q18, p21), (q14, p32), (q21, p32), (q17, p32)])), ([q19], (.dict [(q10, p01), (q8, p11), (q15, p11), (q12, p11), (q13, p21), (q9, p21), (q16, p21), (q20, p21), (q11, p21), (q18, p21), (q14, p32), (q21, p32), (q17, p32), (q19, (.tuple [n4, n6]))])), ([q21], (.dict [(q10, p01), (q8, p11), (q15, p11), (q12, p11), (q13, p21), (q9, p21), (q16, p21), (q20, p21), (q11, p21), (q18, p21), (q14, p32), (q21, p32), (q17, p32)]))]),
  (q14, [([q10], (.dict [(q14, p01), (q9, p11), (q13, p11), (q19, p11), (q8, p22), (q11, p21), (q16, p21), (q17, p21), (q21, p21), (q10, p32), (q12, p31), (q15, p31), (q18, p31), (q20, p31)])), ([q12], (.dict [(q14, p01), (q9, p11), (q13, p11), (q19, p11), (q8, p22), (q11, p21), (q16, p21), (q17, p21), (q21, p21), (q10, p32), (q12, p31), (q15, p31), (q18, p31), (q20, p31)])), ([.none], (.dict [(q14, p01), (q9, p11), (q13, p11), (q19, p11), (q8, p22), (q11, p21), (q16, p21), (q17, p21), (q21, p21), (q10, p32), (q12, p31), (q15, p31), (q18, p31), (q20, p31)])), ([q15], (.dict [(q14, p01), (q9, p11), (q13, p11), (q19, p11), (q8, p22), (q11, p21), (q16, p21), (q17, p21), (q21, p21), (q10, p32), (q12, p31), (q15, p31), (q18, p31), (q20, p31)])), ([q18], (.dict [(q14, p01), (q9, p11), (q13, p11), (q19, p11), (q8, p22), (q11, p21), (q16, p21), (q17, p21), (q21, p21), (q10, p32), (q12, p31), (q15, p31), (q18, p31), (q20, p31)])), ([q20], (.dict [(q14, p01), (q9, p11), (q13, p11), (q19, p11), (q8, p22), (q11, p21), (q16, p21), (q17, p21), (q21, p21), (q10, p32), (q12, p31), (q15, p31), (q18, p31), (q20, p31)]))]),
  (q13, [([q11], (.dict [(q13, p01), (q8, p11), (q16, p11), (q14, p11), (q10, p21), (q9, p22), (q15, p21), (q21, p21), (q19, p21), (q12, p31), (q11, p32), (q20, p32), (q17, p31)])), ([q12], (.dict [(q13, p01), (q8, p11), (q16, p11), (q14, p11), (q10, p21), (q9, p22), (q15, p21), (q21, p21), (q19, p21), (q12, p31), (q11, p32), (q20, p32), (q17, p31)])), ([.none], (.dict [(q13, p01), (q8, p11), (q16, p11), (q14, p11), (q10, p21), (q9, p22), (q15, p21), (q21, p21), (q19, p21), (q12, p31), (q11, p32), (q20, p32), (q17, p31), (q18, p44)])), ([q17], (.dict [(q13, p01), (q8, p11), (q16, p11), (q14, p11), (q10, p21), (q9, p22), (q15, p21), (q21, p21), (q19, p21), (q12, p31), (q11, p32), (q20, p32), (q17, p31)])), ([q18], (.dict [(q13, p01), (q8, p11), (q16, p11), (q14, p11), (q10, p21), (q9, p22), (q15, p21), (q21, p21), (q19, p21), (q12, p31), (q11, p32), (q20, p32), (q17, p31), (q18, p44)])), ([q20], (.dict [(q13, p01), (q8, p11), (q16, p11), (q14, p11), (q10, p21), (q9, p22), (q15, p21), (q21, p21), (q19, p21), (q12, p31), (q11, p32), (q20, p32), (q17, p31)]))]),
  (q12, [([.none], (.dict [(q12, p01), (q11, p11), (q10, p11), (q18, p11), (q9, p21), (q17, p22), (q8, p21), (q15, p21), (q20, p21), (q14, p31), (q19, p32), (q13, p31), (q16, p31), (q21, p31)])), ([q13], (.dict [(q12, p01), (q11, p11), (q10, p11), (q18, p11), (q9, p21), (q17, p22), (q8, p21), (q15, p21), (q20, p21), (q14, p31), (q19, p32), (q13, p31), (q16, p31), (q21, p31)])), ([q14], (.dict [(q12, p01), (q11, p11), (q10, p11), (q18, p11), (q9, p21), (q17, p22), (q8, p21), (q15, p21), (q20, p21), (q14, p31), (q19, p32), (q13, p31), (q16, p31), (q21, p31)])), ([q16], (.dict [(q12, p01), (q11, p11), (q10, p11), (q18, p11), (q9, p21), (q17, p22), (q8, p21), (q15, p21), (q20, p21), (q14, p31), (q19, p32), (q13, p31), (q16, p31), (q21, p31)])), ([q19], (.dict [(q12, p01), (q11, p11), (q10, p11), (q18, p11), (q9, p21), (q17, p22), (q8, p21), (q15, p21), (q20, p21), (q14, p31), (q19, p32), (q13, p31), (q16, p31), (q21, p31)])), ([q21], (.dict [(q12, p01), (q11, p11), (q10, p11), (q18, p11), (q9, p21), (q17, p22), (q8, p21), (q15, p21), (q20, p21), (q14, p31), (q19, p32), (q13, p31), (q16, p31), (q21, p31)]))])]
def Freach_from : List PyData → R PyData := tabF tabreach_from Ureach_from
def Nback_from : List Str := ["found", "goal", "way", "here", "far", "cut", "there", "pair"]
def Gback_from : Ev → Out := (sSeq (sPar false false 2 3 (eTup aNil) (eVar 1)) (sSeq (sWhile 12 (e2 (gInt gtI) (e2 gIx (e2 gIx (eVar 0) (eVar 3)) (eC (.int 0))) (eC (.int 0))) (sSeq (sAsg (gN 4) (e2 gSub (e2 gIx (e2 gIx (eVar 0) (eVar 3)) (eC (.int 0))) (eC (.int 1)))) (sSeq (sAsg (gT (gsCons (gN 5) (gsCons (gN 6) gsNil))) (e2 gIx (eComp [7] (iS (eCall 1 Fnexts_of (aCons (eVar 3) aNil))) (gN 7) (eAnd (e2 (gIn false) (e2 gIx (eVar 7) (eC (.int 1))) (eVar 0)) (e2 gEq (e2 gIx (e2 gIx (eVar 0) (e2 gIx (eVar 7) (eC (.int 1)))) (eC (.int 0))) (eVar 4))) (eVar 7)) (eC (.int 0)))) (sPar false false 2 3 (e2 gAdd (eTup (aCons (eCall 2 Fcut_for (aCons (eVar 3) (aCons (eVar 5) aNil))) aNil)) (eVar 2)) (eVar 6))))) (sRet (eVar 2))))
def Fback_from : List PyData → R PyData := fun ds => outR (Gback_from (startE 8 ds))
def Npairs_within : List Str := ["one", "other", "some", "field"]
def Gpairs_within : Ev → Out := (sSeq (sAsg (gN 2) (eComp [3] (iS (eCall 2 Ffields_of (aCons (eVar 0) (aCons (eVar 1) aNil)))) (gN 3) (e2 (gInt gtI) (eA gLen (aCons (eVar 3) aNil)) (eC (.int 3))) (eVar 3))) (sRet (eComp [3] (iS (eVar 2)) (gN 3) tTrue (eTup (aCons (eVar 3) (aCons (eCall 2 Fpiece_within (aCons (eVar 0) (aCons (eVar 3) aNil))) (aCons (eCall 2 Fpiece_within (aCons (eVar 1) (aCons (eVar 3) aNil))) aNil)))))))
def Upairs_within : List PyData → R PyData := fun ds => outR (Gpairs_within (startE 4 ds))
def tabpairs_within : List (PyData × List (List PyData × PyData)) := [(q0, [([q0], (.list []))]),
  (q1, [([q1], (.list [])), ([q2], (.list [(.tuple [(.tuple [n0, n1, n2, n3]), q1, q2])]))]),
  (q2, [([q2], (.list [])), ([q1], (.list [(.tuple [(.tuple [n0, n1, n2, n3]), q2, q1])]))]),
  (q3, [([q3], (.list [])), ([q4], (.list [(.tuple [(.tuple [n1, n2, n3, n4]), q1, q2])])), ([q5], (.list [(.tuple [(.tuple [n0, n1, n2, n4]), q1, q2])])), ([q6], (.list [(.tuple [(.tuple [n0, n1, n2, n3, n4]), q3, q6])])), ([q7], (.list [(.tuple [(.tuple [n0, n1, n2, n3, n4]), q3, q7])]))]),
  (q4, [([q4], (.list [])), ([q3], (.list [(.tuple [(.tuple [n1, n2, n3, n4]), q2, q1])])), ([q6], (.list [(.tuple [(.tuple [n0, n1, n3, n4]), q1, q2])])), ([q5], (.list [(.tuple [(.tuple [n0, n1, n2, n3, n4]), q4, q5])])), ([q7], (.list [(.tuple [(.tuple [n0, n1, n2, n3, n4]), q4, q7])]))]),
  (q5, [([q3], (.list [(.tuple [(.tuple [n0, n1, n2, n4]), q2, q1])])), ([q5], (.list [])), ([q7], (.list [(.tuple [(.tuple [n0, n2, n3, n4]), q1, q2])])), ([q4], (.list [(.tuple [(.tuple [n0, n1, n2, n3, n4]), q5, q4])])), ([q6], (.list [(.tuple [(.tuple [n0, n1, n2, n3, n4]), q5, q6])]))]),
  (q6, [([q3], (.list [(.tuple [(.tuple [n0, n1, n2, n3, n4]), q6, q3])])), ([q7], (.list [(.tuple [(.tuple [n0, n1, n2, n3]), q1, q2])])), ([q4], (.list [(.tuple [(.tuple [n0, n1, n3, n4]), q2, q1])])), ([q6], (.list [])), ([q5], (.list [(.tuple [(.tuple [n0, n1, n2, n3, n4]), q6, q5])]))]),
  (q7, [([q3], (.list [(.tuple [(.tuple [n0, n1, n2, n3, n4]), q7, q3])])), ([q4], (.list [(.tuple [(.tuple [n0, n1, n2, n3, n4]), q7, q4])])), ([q6], (.list [(.tuple [(.tuple [n0, n1, n2, n3]), q2, q1])])), ([q5], (.list [(.tuple [(.tuple [n0, n2, n3, n4]), q2, q1])])), ([q7], (.list []))]),
  (q8, [([q8], (.list [])), ([q9], (.list [(.tuple [(.tuple [n2, n3, n4, n5]), q1, q2])])), ([q10], (.list [(.tuple [(.tuple [n1, n2, n3, n5]), q1, q2])])), ([q11], (.list [(.tuple [(.tuple [n1, n2, n3, n4, n5]), q3, q6])])), ([q12], (.list [(.tuple [(.tuple [n1, n2, n3, n4, n5]), q3, q7])])), ([q13], (.list [(.tuple [(.tuple [n0, n1, n2, n5]), q1, q2])])), ([q14], (.list [(.tuple [(.tuple [n0, n1, n2, n5]), q1, q2]), (.tuple [(.tuple [n2, n3, n4, n5]), q1, q2])])), ([q15], (.list [(.tuple [(.tuple [n0, n1, n2, n3, n5]), q3, q6])])), ([q16], (.list [(.tuple [(.tuple [n0, n1, n2, n3, n5]), q3, q7])])), ([q17], (.list [(.tuple [(.tuple [n0, n1, n2, n3, n4, n5]), q8, q17])])), ([q18], (.list [(.tuple [(.tuple [n0, n1, n2, n3, n4, n5]), q8, q18])])), ([q19], (.list [(.tuple [(.tuple [n0, n1, n2, n3, n4, n5]), q8, q19])])), ([q20], (.list [(.tuple [(.tuple [n0, n1, n2, n3, n4, n5]), q8, q20])])), ([q21], (.list [(.tuple [(.tuple [n0, n1, n2, n3, n4, n5]), q8, q21])]))]),
  (q12, [([q12], (.list [])), ([q11], (.list [(.tuple [(.tuple [n1, n2, n3, n4]), q2, q1])])), ([q10], (.list [(.tuple [(.tuple [n1, n3, n4, n5]), q2, q1])])), ([q9], (.list [(.tuple [(.tuple [n1, n2, n3, n4, n5]), q7, q4])])), ([q8], (.list [(.tuple [(.tuple [n1, n2, n3, n4, n5]), q7, q3])])), ([q18], (.list [(.tuple [(.tuple [n0, n1, n4, n5]), q1, q2])])), ([q17], (.list [(.tuple [(.tuple [n0, n1, n4, n5]), q1, q2]), (.tuple [(.tuple [n1, n2, n3, n4]), q2, q1])])), ([q15], (.list [(.tuple [(.tuple [n0, n1, n3, n4, n5]), q4, q5])])), ([q20], (.list [(.tuple [(.tuple [n0, n1, n3, n4, n5]), q4, q7])])), ([q14], (.list [(.tuple [(.tuple [n0, n1, n2, n3, n4, n5]), q12, q14])])), ([q13], (.list [(.tuple [(.tuple [n0, n1, n2, n3, n4, n5]), q12, q13])])), ([q19], (.list [(.tuple [(.tuple [n0, n1, n2, n3, n4, n5]), q12, q19])])), ([q16], (.list [(.tuple [(.tuple [n0, n1, n2, n3, n4, n5]), q12, q16])])), ([q21], (.list [(.tuple [(.tuple [n0, n1, n2, n3, n4, n5]), q12, q21])]))]),
  (q9, [([q8], (.list [(.tuple [(.tuple [n2, n3, n4, n5]), q2, q1])])), ([q9], (.list [])), ([q11], (.list [(.tuple [(.tuple [n1, n2, n4, n5]), q1, q2])])), ([q17], (.list [(.tuple [(.tuple [n0, n1, n2, n4, n5]), q3, q6])])), ([q10], (.list [(.tuple [(.tuple [n1, n2, n3, n4, n5]), q4, q5])])), ([q12], (.list [(.tuple [(.tuple [n1, n2, n3, n4, n5]), q4, q7])])), ([q13], (.list [(.tuple [(.tuple [n0, n1, n2, n5]), q1, q2]), (.tuple [(.tuple [n2, n3, n4, n5]), q2, q1])])), ([q14], (.list [(.tuple [(.tuple [n0, n1, n2, n5]), q1, q2])])), ([q15], (.list [(.tuple [(.tuple [n0, n1, n2, n3, n4, n5]), q9, q15])])), ([q16], (.list [(.tuple [(.tuple [n0, n1, n2, n3, n4, n5]), q9, q16])])), ([q18], (.list [(.tuple [(.tuple [n0, n1, n2, n3, n4, n5]), q9, q18])])), ([q19], (.list [(.tuple [(.tuple [n0, n1, n2, n4, n5]), q3, q7])])), ([q20], (.list [(.tuple [(.tuple [n0, n1, n2, n3, n4, n5]), q9, q20])])), ([q21], (.list [(.tuple [(.tuple [n0, n1, n2, n3, n4, n5]), q9, q21])]))]),
  (q10, [([q8], (.list [(.tuple [(.tuple [n1, n2, n3, n5]), q2, q1])])), ([q10], (.list [])), ([q12], (.list [(.tuple [(.tuple [n1, n3, n4, n5]), q1, q2])])), ([q15], (.list [(.tuple [(.tuple [n0, n1, n3, n5]), q1, q2])])), ([q18], (.list [(.tuple [(.tuple [n0, n1, n3, n4, n5]), q3, q6])])), ([q13], (.list [(.tuple [(.tuple [n0, n1, n2, n3, n5]), q4, q5])])), ([q20], (.list [(.tuple [(.tuple [n0, n1, n3, n4, n5]), q3, q7])])), ([q16], (.list [(.tuple [(.tuple [n0, n1, n2, n3, n5]), q4, q7])])), ([q9], (.list [(.tuple [(.tuple [n1, n2, n3, n4, n5]), q5, q4])])), ([q11], (.list [(.tuple [(.tuple [n1, n2, n3, n4, n5]), q5, q6])])), ([q14], (.list [(.tuple [(.tuple [n0, n1, n2, n3, n4, n5]), q10, q14])])), ([q17], (.list [(.tuple [(.tuple [n0, n1, n2, n3, n4, n5]), q10, q17])])), ([q19], (.list [(.tuple [(.tuple [n0, n1, n2, n3, n4, n5]), q10, q19])])), ([q21], (.list [(.tuple [(.tuple [n0, n1, n2, n3, n4, n5]), q10, q21])]))]),
  (q11, [([q8], (.list [(.tuple [(.tuple [n1, n2, n3, n4, n5]), q6, q3])])), ([q14], (.list [(.tuple [(.tuple [n0, n1, n2, n4, n5]), q4, q5])])), ([q19], (.list [(.tuple [(.tuple [n0, n1, n2, n4, n5]), q4, q7])])), ([q12], (.list [(.tuple [(.tuple [n1, n2, n3, n4]), q1, q2])])), ([q11], (.list [])), ([q10], (.list [(.tuple [(.tuple [n1, n2, n3, n4, n5]), q6, q5])])), ([q9], (.list [(.tuple [(.tuple [n1, n2, n4, n5]), q2, q1])])), ([q18], (.list [(.tuple [(.tuple [n0, n1, n4, n5]), q1, q2]), (.tuple [(.tuple [n1, n2, n3, n4]), q1, q2])])), ([q17], (.list [(.tuple [(.tuple [n0, n1, n4, n5]), q1, q2])])), ([q15], (.list [(.tuple [(.tuple [n0, n1, n2, n3, n4, n5]), q11, q15])])), ([q20], (.list [(.tuple [(.tuple [n0, n1, n2, n3, n4, n5]), q11, q20])])), ([q13], (.list [(.tuple [(.tuple [n0, n1, n2, n3, n4, n5]), q11, q13])])), ([q16], (.list [(.tuple [(.tuple [n0, n1, n2, n3, n4, n5]), q11, q16])])), ([q21], (.list [(.tuple [(.tuple [n0, n1, n2, n3, n4, n5]), q11, q21])]))]),
  (q13, [([q8], (.list [(.tuple [(.tuple [n0, n1, n2, n5]), q2, q1])])), ([q13], (.list [])), ([q14], (.list [(.tuple [(.tuple [n2, n3, n4, n5]), q1, q2])])), ([q16], (.list [(.tuple [(.tuple [n0, n2, n3, n5]), q1, q2])])), ([q19], (.list [(.tuple [(.tuple [n0, n2, n3, n4, n5]), q3, q6])])), ([q21], (.list [(.tuple [(.tuple [n0, n2, n3, n4, n5]), q3, q7])])), ([q9], (.list [(.tuple [(.tuple [n0, n1, n2, n5]), q2, q1]), (.tuple [(.tuple [n2, n3, n4, n5]), q1, q2])])), ([q10], (.list [(.tuple [(.tuple [n0, n1, n2, n3, n5]), q5, q4])])), ([q11], (.list [(.tuple [(.tuple [n0, n1, n2, n3, n4, n5]), q13, q11])])), ([q12], (.list [(.tuple [(.tuple [n0, n1, n2, n3, n4, n5]), q13, q12])])), ([q15], (.list [(.tuple [(.tuple [n0, n1, n2, n3, n5]), q5, q6])])), ([q17], (.list [(.tuple [(.tuple [n0, n1, n2, n3, n4, n5]), q13, q17])])), ([q18], (.list [(.tuple [(.tuple [n0, n1, n2, n3, n4, n5]), q13, q18])])), ([q20], (.list [(.tuple [(.tuple [n0, n1, n2, n3, n4, n5]), q13, q20])]))]),
  (q14, [([q8], (.list [(.tuple [(.tuple [n0, n1, n2, n5]), q2, q1]), (.tuple [(.tuple [n2, n3, n4, n5]), q2, q1])])), ([q13], (.list [(.tuple [(.tuple [n2, n3, n4, n5]), q2, q1])])), ([q9], (.list [(.tuple [(.tuple [n0, n1, n2, n5]), q2, q1])])), ([q14], (.list [])), ([q16], (.list [(.tuple [(.tuple [n0, n2, n3, n4, n5]), q4, q5])])), ([q19], (.list [(.tuple [(.tuple [n0, n2, n4, n5]), q1, q2])])), ([q21], (.list [(.tuple [(.tuple [n0, n2, n3, n4, n5]), q4, q7])])), ([q10], (.list [(.tuple [(.tuple [n0, n1, n2, n3, n4, n5]), q14, q10])])), ([q11], (.list [(.tuple [(.tuple [n0, n1, n2, n4, n5]), q5, q4])])), ([q12], (.list [(.tuple [(.tuple [n0, n1, n2, n3, n4, n5]), q14, q12])])), ([q17], (.list [(.tuple [(.tuple [n0, n1, n2, n4, n5]), q5, q6])])), ([q15], (.list [(.tuple [(.tuple [n0, n1, n2, n3, n4, n5]), q14, q15])])), ([q18], (.list [(.tuple [(.tuple [n0, n1, n2, n3, n4, n5]), q14, q18])])), ([q20], (.list [(.tuple [(.tuple [n0, n1, n2, n3, n4, n5]), q14, q20])]))]),
  (q15, [([q8], (.list [(.tuple [(.tuple [n0, n1, n2, n3, n5]), q6, q3])])), ([q9], (.list [(.tuple [(.tuple [n0, n1, n2, n3, n4, n5]), q15, q9])])), ([q10], (.list [(.tuple [(.tuple [n0, n1, n3, n5]), q2, q1])])), ([q15], (.list [])), ([q16], (.list [(.tuple [(.tuple [n0, n1, n2, n3]), q1, q2])])), ([q20], (.list [(.tuple [(.tuple [n0, n3, n4, n5]), q1, q2])])), ([q21], (.list [(.tuple [(.tuple [n0, n1, n2, n3]), q1, q2]), (.tuple [(.tuple [n0, n3, n4, n5]), q1, q2])])), ([q11], (.list [(.tuple [(.tuple [n0, n1, n2, n3, n4, n5]), q15, q11])])), ([q12], (.list [(.tuple [(.tuple [n0, n1, n3, n4, n5]), q5, q4])])), ([q13], (.list [(.tuple [(.tuple [n0, n1, n2, n3, n5]), q6, q5])])), ([q14], (.list [(.tuple [(.tuple [n0, n1, n2, n3, n4, n5]), q15, q14])])), ([q18], (.list [(.tuple [(.tuple [n0, n1, n3, n4, n5]), q5, q6])])), ([q17], (.list [(.tuple [(.tuple [n0, n1, n2, n3, n4, n5]), q15, q17])])), ([q19], (.list [(.tuple [(.tuple [n0, n1, n2, n3, n4, n5]), q15, q19])]))]),
  (q16, [([q8], (.list [(.tuple [(.tuple [n0, n1, n2, n3, n5]), q7, q3])])), ([q9], (.list [(.tuple [(.tuple [n0, n1, n2, n3, n4, n5]), q16, q9])])), ([q10], (.list [(.tuple [(.tuple [n0, n1, n2, n3, n5]), q7, q4])])), ([q11], (.list [(.tuple [(.tuple [n0, n1, n2, n3, n4, n5]), q16, q11])])), ([q12], (.list [(.tuple [(.tuple [n0, n1, n2, n3, n4, n5]), q16, q12])])), ([q15], (.list [(.tuple [(.tuple [n0, n1, n2, n3]), q2, q1])])), ([q13], (.list [(.tuple [(.tuple [n0, n2, n3, n5]), q2, q1])])), ([q16], (.list [])), ([q20], (.list [(.tuple [(.tuple [n0, n1, n2, n3]), q2, q1]), (.tuple [(.tuple [n0, n3, n4, n5]), q1, q2])])), ([q21], (.list [(.tuple [(.tuple [n0, n3, n4, n5]), q1, q2])])), ([q14], (.list [(.tuple [(.tuple [n0, n2, n3, n4, n5]), q5, q4])])), ([q19], (.list [(.tuple [(.tuple [n0, n2, n3, n4, n5]), q5, q6])])), ([q17], (.list [(.tuple [(.tuple [n0, n1, n2, n3, n4, n5]), q16, q17])])), ([q18], (.list [(.tuple [(.tuple [n0, n1, n2, n3, n4, n5]), q16, q18])]))]),
  (q17, [([q8], (.list [(.tuple [(.tuple [n0, n1, n2, n3, n4, n5]), q17, q8])])), ([q20], (.list [(.tuple [(.tuple [n0, n1, n2, n3, n4]), q3, q6])])), ([q9], (.list [(.tuple [(.tuple [n0, n1, n2, n4, n5]), q6, q3])])), ([q21], (.list [(.tuple [(.tuple [n0, n1, n2, n3, n4]), q3, q7])])), ([q10], (.list [(.tuple [(.tuple [n0, n1, n2, n3, n4, n5]), q17, q10])])), ([q11], (.list [(.tuple [(.tuple [n0, n1, n4, n5]), q2, q1])])), ([q17], (.list [])), ([q18], (.list [(.tuple [(.tuple [n1, n2, n3, n4]), q1, q2])])), ([q19], (.list [(.tuple [(.tuple [n0, n1, n2, n4]), q1, q2])])), ([q12], (.list [(.tuple [(.tuple [n0, n1, n4, n5]), q2, q1]), (.tuple [(.tuple [n1, n2, n3, n4]), q1, q2])])), ([q13], (.list [(.tuple [(.tuple [n0, n1, n2, n3, n4, n5]), q17, q13])])), ([q14], (.list [(.tuple [(.tuple [n0, n1, n2, n4, n5]), q6, q5])])), ([q15], (.list [(.tuple [(.tuple [n0, n1, n2, n3, n4, n5]), q17, q15])])), ([q16], (.list [(.tuple [(.tuple [n0, n1, n2, n3, n4, n5]), q17, q16])]))]),
  (q18, [([q8], (.list [(.tuple [(.tuple [n0, n1, n2, n3, n4, n5]), q18, q8])])), ([q21], (.list [(.tuple [(.tuple [n0, n1, n2, n3, n4]), q4, q7])])), ([q9], (.list [(.tuple [(.tuple [n0, n1, n2, n3, n4, n5]), q18, q9])])), ([q10], (.list [(.tuple [(.tuple [n0, n1, n3, n4, n5]), q6, q3])])), ([q11], (.list [(.tuple [(.tuple [n0, n1, n4, n5]), q2, q1]), (.tuple [(.tuple [n1, n2, n3, n4]), q2, q1])])), ([q17], (.list [(.tuple [(.tuple [n1, n2, n3, n4]), q2, q1])])), ([q12], (.list [(.tuple [(.tuple [n0, n1, n4, n5]), q2, q1])])), ([q18], (.list [])), ([q20], (.list [(.tuple [(.tuple [n0, n1, n3, n4]), q1, q2])])), ([q15], (.list [(.tuple [(.tuple [n0, n1, n3, n4, n5]), q6, q5])])), ([q14], (.list [(.tuple [(.tuple [n0, n1, n2, n3, n4, n5]), q18, q14])])), ([q13], (.list [(.tuple [(.tuple [n0, n1, n2, n3, n4, n5]), q18, q13])])), ([q19], (.list [(.tuple [(.tuple [n0, n1, n2, n3, n4]), q4, q5])])), ([q16], (.list [(.tuple [(.tuple [n0, n1, n2, n3, n4, n5]), q18, q16])]))]),
  (q19, [([q8], (.list [(.tuple [(.tuple [n0, n1, n2, n3, n4, n5]), q19, q8])])), ([q9], (.list [(.tuple [(.tuple [n0, n1, n2, n4, n5]), q7, q3])])), ([q10], (.list [(.tuple [(.tuple [n0, n1, n2, n3, n4, n5]), q19, q10])])), ([q11], (.list [(.tuple [(.tuple [n0, n1, n2, n4, n5]), q7, q4])])), ([q12], (.list [(.tuple [(.tuple [n0, n1, n2, n3, n4, n5]), q19, q12])])), ([q13], (.list [(.tuple [(.tuple [n0, n2, n3, n4, n5]), q6, q3])])), ([q17], (.list [(.tuple [(.tuple [n0, n1, n2, n4]), q2, q1])])), ([q18], (.list [(.tuple [(.tuple [n0, n1, n2, n3, n4]), q5, q4])])), ([q14], (.list [(.tuple [(.tuple [n0, n2, n4, n5]), q2, q1])])), ([q19], (.list [])), ([q20], (.list [(.tuple [(.tuple [n0, n1, n2, n3, n4]), q5, q6])])), ([q16], (.list [(.tuple [(.tuple [n0, n2, n3, n4, n5]), q6, q5])])), ([q21], (.list [(.tuple [(.tuple [n0, n2, n3, n4]), q1, q2])])), ([q15], (.list [(.tuple [(.tuple [n0, n1, n2, n3, n4, n5]), q19, q15])]))]),
  (q20, [([q8], (.list [(.tuple [(.tuple [n0, n1, n2, n3, n4, n5]), q20, q8])])), ([q9], (.list [(.tuple [(.tuple [n0, n1, n2, n3, n4, n5]), q20, q9])])), ([q10], (.list [(.tuple [(.tuple [n0, n1, n3, n4, n5]), q7, q3])])), ([q11], (.list [(.tuple [(.tuple [n0, n1, n2, n3, n4, n5]), q20, q11])])), ([q12], (.list [(.tuple [(.tuple [n0, n1, n3, n4, n5]), q7, q4])])), ([q13], (.list [(.tuple [(.tuple [n0, n1, n2, n3, n4, n5]), q20, q13])])), ([q16], (.list [(.tuple [(.tuple [n0, n1, n2, n3]), q1, q2]), (.tuple [(.tuple [n0, n3, n4, n5]), q2, q1])])), ([q14], (.list [(.tuple [(.tuple [n0, n1, n2, n3, n4, n5]), q20, q14])])), ([q17], (.list [(.tuple [(.tuple [n0, n1, n2, n3, n4]), q6, q3])])), ([q18], (.list [(.tuple [(.tuple [n0, n1, n3, n4]), q2, q1])])), ([q15], (.list [(.tuple [(.tuple [n0, n3, n4, n5]), q2, q1])])), ([q20], (.list [])), ([q19], (.list [(.tuple [(.tuple [n0, n1, n2, n3, n4]), q6, q5])])), ([q21], (.list [(.tuple [(.tuple [n0, n1, n2, n3]), q1, q2])]))]),
  (q21, [([q8], (.list [(.tuple [(.tuple [n0, n1, n2, n3, n4, n5]), q21, q8])])), ([q9], (.list [(.tuple [(.tuple [n0, n1, n2, n3, n4, n5]), q21, q9])])), ([q10], (.list [(.tuple [(.tuple [n0, n1, n2, n3, n4, n5]), q21, q10])])), ([q11], (.list [(.tuple [(.tuple [n0, n1, n2, n3, n4, n5]), q21, q11])])), ([q12], (.list [(.tuple [(.tuple [n0, n1, n2, n3, n4, n5]), q21, q12])])), ([q13], (.list [(.tuple [(.tuple [n0, n2, n3, n4, n5]), q7, q3])])), ([q14], (.list [(.tuple [(.tuple [n0, n2, n3, n4, n5]), q7, q4])])), ([q15], (.list [(.tuple [(.tuple [n0, n1, n2, n3]), q2, q1]), (.tuple [(.tuple [n0, n3, n4, n5]), q2, q1])])), ([q17], (.list [(.tuple [(.tuple [n0, n1, n2, n3, n4]), q7, q3])])), ([q19], (.list [(.tuple [(.tuple [n0, n2, n3, n4]), q2, q1])])), ([q16], (.list [(.tuple [(.tuple [n0, n3, n4, n5]), q2, q1])])), ([q21], (.list [])), ([q18], (.list [(.tuple [(.tuple [n0, n1, n2, n3, n4]), q7, q4])])), ([q20], (.list [(.tuple [(.tuple [n0, n1, n2, n3]), q2, q1])]))])]
def Fpairs_within : List PyData → R PyData := tabF tabpairs_within Upairs_within
def Nbringing : List Str := ["one", "other", "some", "pair"]
def Gbringing : Ev → Out := (sSeq (sAsg (gN 2) (eComp [3] (iS (eCall 1 Fnexts_of (aCons (eVar 0) aNil))) (gN 3) (eAnd (e2 (gIn true) (e2 gIx (eVar 3) (eC (.int 0))) (e2 gIx (eVar 1) (eC (.int 1)))) (e2 (gIn false) (eCall 2 Fcut_for (aCons (eVar 0) (aCons (e2 gIx (eVar 3) (eC (.int 0))) aNil))) (e2 gIx (eVar 1) (eC (.int 1))))) (eVar 3))) (sRet (eIf (e2 gNe (eVar 2) (eLst aNil)) (e2 gIx (eVar 2) (eC (.int 0))) (eC .none))))
def Fbringing : List PyData → R PyData := fun ds => outR (Gbringing (startE 4 ds))
def Nway_in : List Str := ["one", "other", "found", "field", "mine", "yours", "first", "some", "a", "b"]
def Gway_in (FR : List PyData → R PyData) : Ev → Out := (sSeq (sAsg (gN 2) (eTup aNil)) (sSeq (sFor (iS (eCall 2 Fpairs_within (aCons (eVar 0) (aCons (eVar 1) aNil)))) (gT (gsCons (gN 3) (gsCons (gN 4) (gsCons (gN 5) gsNil)))) (sSeq (sAsg (gN 6) (eCall 2 Fbringing (aCons (eVar 4) (aCons (eVar 5) aNil)))) (sSeq (sIf (e2 gNotN (eVar 6) (eC .none)) (sAsg (gN 7) (e2 gAdd (eTup (aCons (e2 gIx (eVar 6) (eC (.int 0))) aNil)) (eCall 2 FR (aCons (e2 gIx (eVar 6) (eC (.int 1))) (aCons (eVar 5) aNil))))) (sAsg (gN 7) (eCall 2 Fback_from (aCons (eCall 2 Freach_from (aCons (eVar 4) (aCons (eVar 5) aNil))) (aCons (eVar 5) aNil))))) (sAsg (gN 2) (e2 gAdd (eVar 2) (eA gTuple (aCons (eComp [8, 9] (iS (eVar 7)) (gT (gsCons (gN 8) (gsCons (gN 9) gsNil))) tTrue (eTup (aCons (e2 gIx (eVar 3) (eVar 8)) (aCons (e2 gIx (eVar 3) (eVar 9)) aNil)))) aNil))))))) (sRet (eVar 2))))
def Fway_in_0 : List PyData → R PyData := fun _ => .stuck
def Fway_in_1 : List PyData → R PyData := fun ds => outR (Gway_in Fway_in_0 (startE 10 ds))
def Fway_in_2 : List PyData → R PyData := fun ds => outR (Gway_in Fway_in_1 (startE 10 ds))
def Fway_in_3 : List PyData → R PyData := fun ds => outR (Gway_in Fway_in_2 (startE 10 ds))
def Uway_in : List PyData → R PyData := fun ds => outR (Gway_in Fway_in_3 (startE 10 ds))
def tabway_in : List (PyData × List (List PyData × PyData)) := [(q0, [([q0], (.tuple []))]),
  (q1, [([q1], (.tuple [])), ([q2], (.tuple [p13]))]),
  (q2, [([q2], (.tuple [])), ([q1], (.tuple [p02]))]),
  (q3, [([q3], (.tuple [])), ([q4], (.tuple [p24])), ([q5], (.tuple [p14])), ([q6], (.tuple [p24, p14])), ([q7], (.tuple [p14, p24]))]),
  (q4, [([q4], (.tuple [])), ([q3], (.tuple [p13])), ([q6], (.tuple [p14])), ([q5], (.tuple [p13, p14])), ([q7], (.tuple [p14, p13]))]),
  (q5, [([q3], (.tuple [p02])), ([q5], (.tuple [])), ([q7], (.tuple [p24])), ([q4], (.tuple [p02, p24])), ([q6], (.tuple [p24, p02]))]),
  (q6, [([q3], (.tuple [p03, p13])), ([q7], (.tuple [p13])), ([q4], (.tuple [p03])), ([q6], (.tuple [])), ([q5], (.tuple [p13, p03]))]),
  (q7, [([q3], (.tuple [p03, p02])), ([q4], (.tuple [p02, p03])), ([q6], (.tuple [p02])), ([q5], (.tuple [p03])), ([q7], (.tuple []))]),
  (q8, [([q8], (.tuple [])), ([q9], (.tuple [p35])), ([q10], (.tuple [p25])), ([q11], (.tuple [p35, p25])), ([q12], (.tuple [p25, p35])), ([q13], (.tuple [p15])), ([q14], (.tuple [p15, p35])), ([q15], (.tuple [p25, p15])), ([q16], (.tuple [p15, p25])), ([q17], (.tuple [p35, p25, p15])), ([q18], (.tuple [p25, p35, p15])), ([q19], (.tuple [p15, p35, p25])), ([q20], (.tuple [p25, p15, p35])), ([q21], (.tuple [p15, p25, p35]))]),
  (q12, [([q12], (.tuple [])), ([q11], (.tuple [p13])), ([q10], (.tuple [p14])), ([q9], (.tuple [p13, p14])), ([q8], (.tuple [p14, p13])), ([q18], (.tuple [p15])), ([q17], (.tuple [p15, p13])), ([q15], (.tuple [p14, p15])), ([q20], (.tuple [p15, p14])), ([q14], (.tuple [p13, p14, p15])), ([q13], (.tuple [p14, p13, p15])), ([q19], (.tuple [p13, p15, p14])), ([q16], (.tuple [p14, p15, p13])), ([q21], (.tuple [p15, p14, p13]))]),
  (q9, [([q8], (.tuple [p24])), ([q9], (.tuple [])), ([q11], (.tuple [p25])), ([q17], (.tuple [p25, p15])), ([q10], (.tuple [p24, p25])), ([q12], (.tuple [p25, p24])), ([q13], (.tuple [p15, p24])), ([q14], (.tuple [p15])), ([q15], (.tuple [p24, p25, p15])), ([q16], (.tuple [p15, p24, p25])), ([q18], (.tuple [p25, p15, p24])), ([q19], (.tuple [p15, p25])), ([q20], (.tuple [p25, p24, p15, p14])), ([q21], (.tuple [p15, p25, p24]))]),
  (q10, [([q8], (.tuple [p13])), ([q10], (.tuple [])), ([q12], (.tuple [p35])), ([q15], (.tuple [p15])), ([q18], (.tuple [p35, p15])), ([q13], (.tuple [p13, p15])), ([q20], (.tuple [p15, p35])), ([q16], (.tuple [p15, p13])), ([q9], (.tuple [p13, p35])), ([q11], (.tuple [p35, p13])), ([q14], (.tuple [p13, p15, p35])), ([q17], (.tuple [p35, p15, p13])), ([q19], (.tuple [p35, p13, p15, p14])), ([q21], (.tuple [p15, p13, p35]))]),
  (q11, [([q8], (.tuple [p14, p24])), ([q14], (.tuple [p14, p15])), ([q19], (.tuple [p15, p14])), ([q12], (.tuple [p24])), ([q11], (.tuple [])), ([q10], (.tuple [p24, p14])), ([q9], (.tuple [p14])), ([q18], (.tuple [p15, p24])), ([q17], (.tuple [p15])), ([q15], (.tuple [p24, p14, p15])), ([q20], (.tuple [p15, p24, p14])), ([q13], (.tuple [p14, p15, p24])), ([q16], (.tuple [p24, p14, p15, p13])), ([q21], (.tuple [p15, p14, p24]))]),
  (q13, [([q8], (.tuple [p02])), ([q13], (.tuple [])), ([q14], (.tuple [p35])), ([q16], (.tuple [p25])), ([q19], (.tuple [p35, p25])), ([q21], (.tuple [p25, p35])), ([q9], (.tuple [p02, p35])), ([q10], (.tuple [p02, p25])), ([q11], (.tuple [p02, p35, p25])), ([q12], (.tuple [p02, p25, p35])), ([q15], (.tuple [p25, p02])), ([q17], (.tuple [p35, p25, p02])), ([q18], (.tuple [p02, p25, p35, p15])), ([q20], (.tuple [p25, p02, p35]))]),
  (q14, [([q8], (.tuple [p02, p24])), ([q13], (.tuple [p24])), ([q9], (.tuple [p02])), ([q14], (.tuple [])), ([q16], (.tuple [p24, p25])), ([q19], (.tuple [p25])), ([q21], (.tuple [p25, p24])), ([q10], (.tuple [p02, p24, p25])), ([q11], (.tuple [p02, p25])), ([q12], (.tuple [p02, p25, p24])), ([q17], (.tuple [p25, p02])), ([q15], (.tuple [p24, p25, p02])), ([q18], (.tuple [p25, p02, p24])), ([q20], (.tuple [p25, p24, p02]))]),
  (q15, [([q8], (.tuple [p03, p13])), ([q9], (.tuple [p03, p13, p35])), ([q10], (.tuple [p03])), ([q15], (.tuple [])), ([q16], (.tuple [p13])), ([q20], (.tuple [p35])), ([q21], (.tuple [p13, p35])), ([q11], (.tuple [p03, p35, p13])), ([q12], (.tuple [p03, p35])), ([q13], (.tuple [p13, p03])), ([q14], (.tuple [p13, p03, p35])), ([q18], (.tuple [p35, p03])), ([q17], (.tuple [p35, p03, p13])), ([q19], (.tuple [p13, p35, p03]))]),
  (q16, [([q8], (.tuple [p03, p02])), ([q9], (.tuple [p03, p02, p35])), ([q10], (.tuple [p02, p03])), ([q11], (.tuple [p03, p35, p02, p25])), ([q12], (.tuple [p02, p03, p35])), ([q15], (.tuple [p02])), ([q13], (.tuple [p03])), ([q16], (.tuple [])), ([q20], (.tuple [p02, p35])), ([q21], (.tuple [p35])), ([q14], (.tuple [p03, p35])), ([q19], (.tuple [p35, p03])), ([q17], (.tuple [p35, p03, p02])), ([q18], (.tuple [p02, p35, p03]))]),
  (q17, [([q8], (.tuple [p04, p14, p24])), ([q20], (.tuple [p24, p14])), ([q9], (.tuple [p04, p14])), ([q21], (.tuple [p14, p24])), ([q10], (.tuple [p04, p24, p14])), ([q11], (.tuple [p04])), ([q17], (.tuple [])), ([q18], (.tuple [p24])), ([q19], (.tuple [p14])), ([q12], (.tuple [p04, p24])), ([q13], (.tuple [p14, p04, p24])), ([q14], (.tuple [p14, p04])), ([q15], (.tuple [p24, p14, p04])), ([q16], (.tuple [p14, p24, p04]))]),
  (q18, [([q8], (.tuple [p04, p14, p13])), ([q21], (.tuple [p14, p13])), ([q9], (.tuple [p04, p13, p14])), ([q10], (.tuple [p04, p14])), ([q11], (.tuple [p04, p13])), ([q17], (.tuple [p13])), ([q12], (.tuple [p04])), ([q18], (.tuple [])), ([q20], (.tuple [p14])), ([q15], (.tuple [p14, p04])), ([q14], (.tuple [p13, p14, p04])), ([q13], (.tuple [p04, p14, p13, p15])), ([q19], (.tuple [p13, p14])), ([q16], (.tuple [p14, p13, p04]))]),
  (q19, [([q8], (.tuple [p04, p02, p24])), ([q9], (.tuple [p04, p02])), ([q10], (.tuple [p04, p24, p02, p25])), ([q11], (.tuple [p02, p04])), ([q12], (.tuple [p02, p04, p24])), ([q13], (.tuple [p04, p24])), ([q17], (.tuple [p02])), ([q18], (.tuple [p02, p24])), ([q14], (.tuple [p04])), ([q19], (.tuple [])), ([q20], (.tuple [p24, p02])), ([q16], (.tuple [p24, p04])), ([q21], (.tuple [p24])), ([q15], (.tuple [p24, p02, p04]))]),
  (q20, [([q8], (.tuple [p04, p03, p13])), ([q9], (.tuple [p13, p03, p04, p02])), ([q10], (.tuple [p04, p03])), ([q11], (.tuple [p03, p04, p13])), ([q12], (.tuple [p03, p04])), ([q13], (.tuple [p04, p13, p03])), ([q16], (.tuple [p13, p04])), ([q14], (.tuple [p13, p03, p04])), ([q17], (.tuple [p03, p13])), ([q18], (.tuple [p03])), ([q15], (.tuple [p04])), ([q20], (.tuple [])), ([q19], (.tuple [p13, p03])), ([q21], (.tuple [p13]))]),
  (q21, [([q8], (.tuple [p04, p03, p02])), ([q9], (.tuple [p03, p04, p02])), ([q10], (.tuple [p02, p04, p03])), ([q11], (.tuple [p03, p02, p04])), ([q12], (.tuple [p02, p03, p04])), ([q13], (.tuple [p04, p03])), ([q14], (.tuple [p03, p04])), ([q15], (.tuple [p02, p04])), ([q17], (.tuple [p03, p02])), ([q19], (.tuple [p03])), ([q16], (.tuple [p04])), ([q21], (.tuple [])), ([q18], (.tuple [p02, p03])), ([q20], (.tuple [p02]))])]
def Fway_in : List PyData → R PyData := tabF tabway_in Uway_in
def Npicks_of : List Str := ["many", "some", "found", "at"]
def Gpicks_of : Ev → Out := (sSeq (sAsg (gN 2) (eC (.int 1))) (sSeq (sFor (iR (eVar 1)) (gN 3) (sAsg (gN 2) (e2 gDiv (e2 gMul (eVar 2) (e2 gSub (eVar 0) (eVar 3))) (e2 gAdd (eVar 3) (eC (.int 1)))))) (sRet (eVar 2))))
def Fpicks_of : List PyData → R PyData := fun ds => outR (Gpicks_of (startE 4 ds))
def Nneed_fields : List Str := ["one", "other", "field"]
def Gneed_fields : Ev → Out := (sSeq (sExpr (eCall 2 Fneed_two (aCons (eVar 0) (aCons (eVar 1) aNil)))) (sExpr (eCall 2 Fneed_few (aCons (eA (gMM maxI maxJ) (aCons (eComp [2] (iS (eCall 2 Ffields_of (aCons (eVar 0) (aCons (eVar 1) aNil)))) (gN 2) tTrue (eA gLen (aCons (eVar 2) aNil))) aNil)) (aCons (eC (.int 8)) aNil)))))
def Uneed_fields : List PyData → R PyData := fun ds => outR (Gneed_fields (startE 3 ds))
def tabneed_fields : List (PyData × List (List PyData × PyData)) := [(q0, [([q0], .none)]),
  (q1, [([q1], .none), ([q2], .none)]),
  (q2, [([q1], .none), ([q2], .none)]),
  (q3, [([q3], .none), ([q4], .none), ([q5], .none), ([q6], .none), ([q7], .none)]),
  (q4, [([q4], .none), ([q3], .none), ([q6], .none), ([q5], .none), ([q7], .none)]),
  (q5, [([q3], .none), ([q5], .none), ([q7], .none), ([q4], .none), ([q6], .none)]),
  (q6, [([q3], .none), ([q4], .none), ([q6], .none), ([q7], .none), ([q5], .none)]),
  (q7, [([q3], .none), ([q4], .none), ([q6], .none), ([q5], .none), ([q7], .none)]),
  (q8, [([q8], .none), ([q9], .none), ([q10], .none), ([q11], .none), ([q12], .none), ([q13], .none), ([q14], .none), ([q15], .none), ([q16], .none), ([q17], .none), ([q18], .none), ([q19], .none), ([q20], .none), ([q21], .none)]),
  (q12, [([q12], .none), ([q11], .none), ([q10], .none), ([q9], .none), ([q8], .none), ([q18], .none), ([q17], .none), ([q15], .none), ([q20], .none), ([q14], .none), ([q13], .none), ([q19], .none), ([q16], .none), ([q21], .none)]),
  (q9, [([q8], .none), ([q9], .none), ([q11], .none), ([q17], .none), ([q10], .none), ([q12], .none), ([q13], .none), ([q14], .none), ([q15], .none), ([q16], .none), ([q18], .none), ([q19], .none), ([q20], .none), ([q21], .none)]),
  (q10, [([q8], .none), ([q10], .none), ([q12], .none), ([q15], .none), ([q18], .none), ([q20], .none), ([q9], .none), ([q11], .none), ([q13], .none), ([q14], .none), ([q17], .none), ([q16], .none), ([q19], .none), ([q21], .none)]),
  (q11, [([q8], .none), ([q12], .none), ([q11], .none), ([q10], .none), ([q9], .none), ([q18], .none), ([q17], .none), ([q15], .none), ([q20], .none), ([q14], .none), ([q13], .none), ([q19], .none), ([q16], .none), ([q21], .none)]),
  (q13, [([q8], .none), ([q13], .none), ([q14], .none), ([q16], .none), ([q19], .none), ([q21], .none), ([q9], .none), ([q10], .none), ([q11], .none), ([q12], .none), ([q15], .none), ([q17], .none), ([q18], .none), ([q20], .none)]),
  (q14, [([q8], .none), ([q13], .none), ([q9], .none), ([q14], .none), ([q16], .none), ([q19], .none), ([q21], .none), ([q10], .none), ([q11], .none), ([q12], .none), ([q17], .none), ([q15], .none), ([q18], .none), ([q20], .none)]),
  (q15, [([q8], .none), ([q9], .none), ([q10], .none), ([q15], .none), ([q16], .none), ([q20], .none), ([q21], .none), ([q11], .none), ([q12], .none), ([q13], .none), ([q14], .none), ([q18], .none), ([q17], .none), ([q19], .none)]),
  (q16, [([q8], .none), ([q9], .none), ([q10], .none), ([q11], .none), ([q12], .none), ([q15], .none), ([q13], .none), ([q16], .none), ([q20], .none), ([q21], .none), ([q14], .none), ([q19], .none), ([q17], .none), ([q18], .none)]),
  (q17, [([q8], .none), ([q9], .none), ([q10], .none), ([q11], .none), ([q17], .none), ([q18], .none), ([q19], .none), ([q20], .none), ([q21], .none), ([q12], .none), ([q13], .none), ([q15], .none), ([q14], .none), ([q16], .none)]),
  (q18, [([q8], .none), ([q9], .none), ([q10], .none), ([q11], .none), ([q17], .none), ([q12], .none), ([q18], .none), ([q20], .none), ([q21], .none), ([q15], .none), ([q14], .none), ([q13], .none), ([q19], .none), ([q16], .none)]),
  (q19, [([q8], .none), ([q9], .none), ([q10], .none), ([q11], .none), ([q12], .none), ([q13], .none), ([q17], .none), ([q18], .none), ([q14], .none), ([q19], .none), ([q20], .none), ([q21], .none), ([q15], .none), ([q16], .none)]),
  (q20, [([q8], .none), ([q9], .none), ([q10], .none), ([q11], .none), ([q12], .none), ([q13], .none), ([q14], .none), ([q17], .none), ([q18], .none), ([q15], .none), ([q20], .none), ([q19], .none), ([q16], .none), ([q21], .none)]),
  (q21, [([q8], .none), ([q9], .none), ([q10], .none), ([q11], .none), ([q12], .none), ([q13], .none), ([q14], .none), ([q15], .none), ([q17], .none), ([q19], .none), ([q16], .none), ([q21], .none), ([q18], .none), ([q20], .none)])]
def Fneed_fields : List PyData → R PyData := tabF tabneed_fields Uneed_fields
def Nfewest_exchanges : List Str := ["one", "other"]
def Gfewest_exchanges : Ev → Out := (sSeq (sExpr (eCall 2 Fneed_fields (aCons (eVar 0) (aCons (eVar 1) aNil)))) (sRet (eA gLen (aCons (eCall 2 Fway_in (aCons (eVar 0) (aCons (eVar 1) aNil))) aNil))))
def Ufewest_exchanges : List PyData → R PyData := fun ds => outR (Gfewest_exchanges (startE 2 ds))
def tabfewest_exchanges : List (PyData × List (List PyData × PyData)) := [(q0, [([q0], n0)]),
  (q1, [([q1], n0), ([q2], n1)]),
  (q2, [([q2], n0), ([q1], n1)]),
  (q3, [([q3], n0), ([q4], n1), ([q5], n1), ([q6], n2), ([q7], n2)]),
  (q4, [([q4], n0), ([q3], n1), ([q6], n1), ([q5], n2), ([q7], n2)]),
  (q5, [([q5], n0), ([q7], n1), ([q3], n1), ([q4], n2), ([q6], n2)]),
  (q6, [([q6], n0), ([q7], n1), ([q4], n1), ([q3], n2), ([q5], n2)]),
  (q7, [([q6], n1), ([q7], n0), ([q5], n1), ([q3], n2), ([q4], n2)]),
  (q8, [([q8], n0), ([q9], n1), ([q10], n1), ([q11], n2), ([q12], n2), ([q13], n1), ([q14], n2), ([q15], n2), ([q16], n2), ([q17], n3), ([q18], n3), ([q19], n3), ([q20], n3), ([q21], n3)]),
  (q12, [([q12], n0), ([q11], n1), ([q10], n1), ([q9], n2), ([q8], n2), ([q18], n1), ([q17], n2), ([q15], n2), ([q20], n2), ([q14], n3), ([q13], n3), ([q19], n3), ([q16], n3), ([q21], n3)]),
  (q9, [([q9], n0), ([q11], n1), ([q17], n2), ([q8], n1), ([q10], n2), ([q12], n2), ([q13], n2), ([q14], n1), ([q15], n3), ([q16], n3), ([q18], n3), ([q19], n2), ([q20], n4), ([q21], n3)]),
  (q10, [([q10], n0), ([q12], n1), ([q15], n1), ([q18], n2), ([q20], n2), ([q8], n1), ([q9], n2), ([q11], n2), ([q13], n2), ([q14], n3), ([q17], n3), ([q16], n2), ([q19], n4), ([q21], n3)]),
  (q13, [([q13], n0), ([q14], n1), ([q16], n1), ([q19], n2), ([q21], n2), ([q8], n1), ([q9], n2), ([q10], n2), ([q11], n3), ([q12], n3), ([q15], n2), ([q17], n3), ([q18], n4), ([q20], n3)]),
  (q11, [([q12], n1), ([q11], n0), ([q10], n2), ([q9], n1), ([q8], n2), ([q18], n2), ([q17], n1), ([q15], n3), ([q20], n3), ([q14], n2), ([q13], n3), ([q19], n2), ([q16], n4), ([q21], n3)]),
  (q14, [([q13], n1), ([q14], n0), ([q16], n2), ([q19], n1), ([q21], n2), ([q17], n2), ([q8], n2), ([q9], n1), ([q10], n3), ([q11], n2), ([q12], n3), ([q15], n3), ([q18], n3), ([q20], n3)]),
  (q15, [([q15], n0), ([q16], n1), ([q20], n1), ([q21], n2), ([q8], n2), ([q12], n2), ([q9], n3), ([q11], n3), ([q10], n1), ([q13], n2), ([q18], n2), ([q14], n3), ([q17], n3), ([q19], n3)]),
  (q17, [([q17], n0), ([q18], n1), ([q19], n1), ([q20], n2), ([q21], n2), ([q12], n2), ([q11], n1), ([q10], n3), ([q9], n2), ([q8], n3), ([q15], n3), ([q14], n2), ([q13], n3), ([q16], n3)]),
  (q18, [([q17], n1), ([q18], n0), ([q20], n1), ([q21], n2), ([q12], n1), ([q11], n2), ([q10], n2), ([q9], n3), ([q8], n3), ([q15], n2), ([q14], n3), ([q13], n4), ([q19], n2), ([q16], n3)]),
  (q16, [([q15], n1), ([q16], n0), ([q20], n2), ([q21], n1), ([q13], n1), ([q14], n2), ([q19], n2), ([q8], n2), ([q9], n3), ([q10], n2), ([q11], n4), ([q12], n3), ([q17], n3), ([q18], n3)]),
  (q19, [([q17], n1), ([q18], n2), ([q19], n0), ([q20], n2), ([q21], n1), ([q13], n2), ([q14], n1), ([q16], n2), ([q8], n3), ([q12], n3), ([q9], n2), ([q11], n2), ([q10], n4), ([q15], n3)]),
  (q20, [([q17], n2), ([q18], n1), ([q20], n0), ([q12], n2), ([q11], n3), ([q10], n2), ([q9], n4), ([q8], n3), ([q15], n1), ([q14], n3), ([q13], n3), ([q19], n2), ([q16], n2), ([q21], n1)]),
  (q21, [([q17], n2), ([q19], n1), ([q21], n0), ([q15], n2), ([q16], n1), ([q20], n1), ([q9], n3), ([q14], n2), ([q8], n3), ([q12], n3), ([q11], n3), ([q10], n3), ([q13], n2), ([q18], n2)])]
def Ffewest_exchanges : List PyData → R PyData := tabF tabfewest_exchanges Ufewest_exchanges
def Nleast_way : List Str := ["one", "other"]
def Gleast_way : Ev → Out := (sSeq (sExpr (eCall 2 Fneed_fields (aCons (eVar 0) (aCons (eVar 1) aNil)))) (sRet (eCall 2 Fway_in (aCons (eVar 0) (aCons (eVar 1) aNil)))))
def Uleast_way : List PyData → R PyData := fun ds => outR (Gleast_way (startE 2 ds))
def tableast_way : List (PyData × List (List PyData × PyData)) := [(q0, [([q0], (.tuple []))]),
  (q1, [([q1], (.tuple [])), ([q2], (.tuple [p13]))]),
  (q2, [([q1], (.tuple [p02])), ([q2], (.tuple []))]),
  (q3, [([q3], (.tuple [])), ([q4], (.tuple [p24])), ([q5], (.tuple [p14])), ([q6], (.tuple [p24, p14])), ([q7], (.tuple [p14, p24]))]),
  (q4, [([q3], (.tuple [p13])), ([q4], (.tuple [])), ([q5], (.tuple [p13, p14])), ([q6], (.tuple [p14])), ([q7], (.tuple [p14, p13]))]),
  (q5, [([q3], (.tuple [p02])), ([q4], (.tuple [p02, p24])), ([q5], (.tuple [])), ([q6], (.tuple [p24, p02])), ([q7], (.tuple [p24]))]),
  (q6, [([q3], (.tuple [p03, p13])), ([q4], (.tuple [p03])), ([q5], (.tuple [p13, p03])), ([q6], (.tuple [])), ([q7], (.tuple [p13]))]),
  (q7, [([q3], (.tuple [p03, p02])), ([q4], (.tuple [p02, p03])), ([q5], (.tuple [p03])), ([q6], (.tuple [p02])), ([q7], (.tuple []))]),
  (q8, [([q8], (.tuple [])), ([q9], (.tuple [p35])), ([q10], (.tuple [p25])), ([q11], (.tuple [p35, p25])), ([q12], (.tuple [p25, p35])), ([q13], (.tuple [p15])), ([q14], (.tuple [p15, p35])), ([q15], (.tuple [p25, p15])), ([q16], (.tuple [p15, p25])), ([q17], (.tuple [p35, p25, p15])), ([q18], (.tuple [p25, p35, p15])), ([q19], (.tuple [p15, p35, p25])), ([q20], (.tuple [p25, p15, p35])), ([q21], (.tuple [p15, p25, p35]))]),
  (q9, [([q8], (.tuple [p24])), ([q9], (.tuple [])), ([q10], (.tuple [p24, p25])), ([q11], (.tuple [p25])), ([q12], (.tuple [p25, p24])), ([q13], (.tuple [p15, p24])), ([q14], (.tuple [p15])), ([q15], (.tuple [p24, p25, p15])), ([q16], (.tuple [p15, p24, p25])), ([q17], (.tuple [p25, p15])), ([q18], (.tuple [p25, p15, p24])), ([q19], (.tuple [p15, p25])), ([q20], (.tuple [p25, p24, p15, p14])), ([q21], (.tuple [p15, p25, p24]))]),
  (q10, [([q8], (.tuple [p13])), ([q9], (.tuple [p13, p35])), ([q10], (.tuple [])), ([q11], (.tuple [p35, p13])), ([q12], (.tuple [p35])), ([q13], (.tuple [p13, p15])), ([q14], (.tuple [p13, p15, p35])), ([q15], (.tuple [p15])), ([q16], (.tuple [p15, p13])), ([q17], (.tuple [p35, p15, p13])), ([q18], (.tuple [p35, p15])), ([q19], (.tuple [p35, p13, p15, p14])), ([q20], (.tuple [p15, p35])), ([q21], (.tuple [p15, p13, p35]))]),
  (q11, [([q8], (.tuple [p14, p24])), ([q9], (.tuple [p14])), ([q10], (.tuple [p24, p14])), ([q11], (.tuple [])), ([q12], (.tuple [p24])), ([q13], (.tuple [p14, p15, p24])), ([q14], (.tuple [p14, p15])), ([q15], (.tuple [p24, p14, p15])), ([q16], (.tuple [p24, p14, p15, p13])), ([q17], (.tuple [p15])), ([q18], (.tuple [p15, p24])), ([q19], (.tuple [p15, p14])), ([q20], (.tuple [p15, p24, p14])), ([q21], (.tuple [p15, p14, p24]))]),
  (q12, [([q8], (.tuple [p14, p13])), ([q9], (.tuple [p13, p14])), ([q10], (.tuple [p14])), ([q11], (.tuple [p13])), ([q12], (.tuple [])), ([q13], (.tuple [p14, p13, p15])), ([q14], (.tuple [p13, p14, p15])), ([q15], (.tuple [p14, p15])), ([q16], (.tuple [p14, p15, p13])), ([q17], (.tuple [p15, p13])), ([q18], (.tuple [p15])), ([q19], (.tuple [p13, p15, p14])), ([q20], (.tuple [p15, p14])), ([q21], (.tuple [p15, p14, p13]))]),
  (q13, [([q8], (.tuple [p02])), ([q9], (.tuple [p02, p35])), ([q10], (.tuple [p02, p25])), ([q11], (.tuple [p02, p35, p25])), ([q12], (.tuple [p02, p25, p35])), ([q13], (.tuple [])), ([q14], (.tuple [p35])), ([q15], (.tuple [p25, p02])), ([q16], (.tuple [p25])), ([q17], (.tuple [p35, p25, p02])), ([q18], (.tuple [p02, p25, p35, p15])), ([q19], (.tuple [p35, p25])), ([q20], (.tuple [p25, p02, p35])), ([q21], (.tuple [p25, p35]))]),
  (q14, [([q8], (.tuple [p02, p24])), ([q9], (.tuple [p02])), ([q10], (.tuple [p02, p24, p25])), ([q11], (.tuple [p02, p25])), ([q12], (.tuple [p02, p25, p24])), ([q13], (.tuple [p24])), ([q14], (.tuple [])), ([q15], (.tuple [p24, p25, p02])), ([q16], (.tuple [p24, p25])), ([q17], (.tuple [p25, p02])), ([q18], (.tuple [p25, p02, p24])), ([q19], (.tuple [p25])), ([q20], (.tuple [p25, p24, p02])), ([q21], (.tuple [p25, p24]))]),
  (q15, [([q8], (.tuple [p03, p13])), ([q9], (.tuple [p03, p13, p35])), ([q10], (.tuple [p03])), ([q11], (.tuple [p03, p35, p13])), ([q12], (.tuple [p03, p35])), ([q13], (.tuple [p13, p03])), ([q14], (.tuple [p13, p03, p35])), ([q15], (.tuple [])), ([q16], (.tuple [p13])), ([q17], (.tuple [p35, p03, p13])), ([q18], (.tuple [p35, p03])), ([q19], (.tuple [p13, p35, p03])), ([q20], (.tuple [p35])), ([q21], (.tuple [p13, p35]))]),
  (q16, [([q8], (.tuple [p03, p02])), ([q9], (.tuple [p03, p02, p35])), ([q10], (.tuple [p02, p03])), ([q11], (.tuple [p03, p35, p02, p25])), ([q12], (.tuple [p02, p03, p35])), ([q13], (.tuple [p03])), ([q14], (.tuple [p03, p35])), ([q15], (.tuple [p02])), ([q16], (.tuple [])), ([q17], (.tuple [p35, p03, p02])), ([q18], (.tuple [p02, p35, p03])), ([q19], (.tuple [p35, p03])), ([q20], (.tuple [p02, p35])), ([q21], (.tuple [p35]))]),
  (q17, [([q8], (.tuple [p04, p14, p24])), ([q9], (.tuple [p04, p14])), ([q10], (.tuple [p04, p24, p14])), ([q11], (.tuple [p04])), ([q12], (.tuple [p04, p24])), ([q13], (.tuple [p14, p04, p24])), ([q14], (.tuple [p14, p04])), ([q15], (.tuple [p24, p14, p04])), ([q16], (.tuple [p14, p24, p04])), ([q17], (.tuple [])), ([q18], (.tuple [p24])), ([q19], (.tuple [p14])), ([q20], (.tuple [p24, p14])), ([q21], (.tuple [p14, p24]))]),
  (q18, [([q8], (.tuple [p04, p14, p13])), ([q9], (.tuple [p04, p13, p14])), ([q10], (.tuple [p04, p14])), ([q11], (.tuple [p04, p13])), ([q12], (.tuple [p04])), ([q13], (.tuple [p04, p14, p13, p15])), ([q14], (.tuple [p13, p14, p04])), ([q15], (.tuple [p14, p04])), ([q16], (.tuple [p14, p13, p04])), ([q17], (.tuple [p13])), ([q18], (.tuple [])), ([q19], (.tuple [p13, p14])), ([q20], (.tuple [p14])), ([q21], (.tuple [p14, p13]))]),
  (q19, [([q8], (.tuple [p04, p02, p24])), ([q9], (.tuple [p04, p02])), ([q10], (.tuple [p04, p24, p02, p25])), ([q11], (.tuple [p02, p04])), ([q12], (.tuple [p02, p04, p24])), ([q13], (.tuple [p04, p24])), ([q14], (.tuple [p04])), ([q15], (.tuple [p24, p02, p04])), ([q16], (.tuple [p24, p04])), ([q17], (.tuple [p02])), ([q18], (.tuple [p02, p24])), ([q19], (.tuple [])), ([q20], (.tuple [p24, p02])), ([q21], (.tuple [p24]))]),
  (q20, [([q8], (.tuple [p04, p03, p13])), ([q9], (.tuple [p13, p03, p04, p02])), ([q10], (.tuple [p04, p03])), ([q11], (.tuple [p03, p04, p13])), ([q12], (.tuple [p03, p04])), ([q13], (.tuple [p04, p13, p03])), ([q14], (.tuple [p13, p03, p04])), ([q15], (.tuple [p04])), ([q16], (.tuple [p13, p04])), ([q17], (.tuple [p03, p13])), ([q18], (.tuple [p03])), ([q19], (.tuple [p13, p03])), ([q20], (.tuple [])), ([q21], (.tuple [p13]))]),
  (q21, [([q8], (.tuple [p04, p03, p02])), ([q9], (.tuple [p03, p04, p02])), ([q10], (.tuple [p02, p04, p03])), ([q11], (.tuple [p03, p02, p04])), ([q12], (.tuple [p02, p03, p04])), ([q13], (.tuple [p04, p03])), ([q14], (.tuple [p03, p04])), ([q15], (.tuple [p02, p04])), ([q16], (.tuple [p04])), ([q17], (.tuple [p03, p02])), ([q18], (.tuple [p02, p03])), ([q19], (.tuple [p03])), ([q20], (.tuple [p02])), ([q21], (.tuple []))])]
def Fleast_way : List PyData → R PyData := tabF tableast_way Uleast_way
def Nis_least_way : List Str := ["one", "other", "value"]
def Gis_least_way : Ev → Out := (sSeq (sExpr (eCall 2 Fneed_fields (aCons (eVar 0) (aCons (eVar 1) aNil)))) (sRet (eAnd (eCall 3 Fleads_to (aCons (eVar 0) (aCons (eVar 1) (aCons (eVar 2) aNil)))) (e2 gEq (eA gLen (aCons (eVar 2) aNil)) (eA gLen (aCons (eCall 2 Fway_in (aCons (eVar 0) (aCons (eVar 1) aNil))) aNil))))))
def Uis_least_way : List PyData → R PyData := fun ds => outR (Gis_least_way (startE 3 ds))
def tabis_least_way : List (PyData × List (List PyData × PyData)) := [(q0, [([q0, (.tuple [])], (.bool true))]),
  (q1, [([q1, (.tuple [])], (.bool true)), ([q2, (.tuple [p13])], (.bool true))]),
  (q2, [([q1, (.tuple [p02])], (.bool true)), ([q2, (.tuple [])], (.bool true))]),
  (q3, [([q3, (.tuple [])], (.bool true)), ([q4, (.tuple [p24])], (.bool true)), ([q5, (.tuple [p14])], (.bool true)), ([q6, (.tuple [p24, p14])], (.bool true)), ([q7, (.tuple [p14, p24])], (.bool true))]),
  (q4, [([q3, (.tuple [p13])], (.bool true)), ([q4, (.tuple [])], (.bool true)), ([q5, (.tuple [p13, p14])], (.bool true)), ([q6, (.tuple [p14])], (.bool true)), ([q7, (.tuple [p14, p13])], (.bool true))]),
  (q5, [([q3, (.tuple [p02])], (.bool true)), ([q4, (.tuple [p02, p24])], (.bool true)), ([q5, (.tuple [])], (.bool true)), ([q6, (.tuple [p24, p02])], (.bool true)), ([q7, (.tuple [p24])], (.bool true))]),
  (q6, [([q3, (.tuple [p03, p13])], (.bool true)), ([q4, (.tuple [p03])], (.bool true)), ([q5, (.tuple [p13, p03])], (.bool true)), ([q6, (.tuple [])], (.bool true)), ([q7, (.tuple [p13])], (.bool true))]),
  (q7, [([q3, (.tuple [p03, p02])], (.bool true)), ([q4, (.tuple [p02, p03])], (.bool true)), ([q5, (.tuple [p03])], (.bool true)), ([q6, (.tuple [p02])], (.bool true)), ([q7, (.tuple [])], (.bool true))]),
  (q8, [([q8, (.tuple [])], (.bool true)), ([q9, (.tuple [p35])], (.bool true)), ([q10, (.tuple [p25])], (.bool true)), ([q11, (.tuple [p35, p25])], (.bool true)), ([q12, (.tuple [p25, p35])], (.bool true)), ([q13, (.tuple [p15])], (.bool true)), ([q14, (.tuple [p35, p15])], (.bool true)), ([q15, (.tuple [p25, p15])], (.bool true)), ([q16, (.tuple [p15, p25])], (.bool true)), ([q17, (.tuple [p35, p25, p15])], (.bool true)), ([q18, (.tuple [p25, p35, p15])], (.bool true)), ([q19, (.tuple [p35, p15, p25])], (.bool true)), ([q20, (.tuple [p25, p15, p35])], (.bool true)), ([q21, (.tuple [p15, p25, p35])], (.bool true))]),
  (q9, [([q8, (.tuple [p24])], (.bool true)), ([q9, (.tuple [])], (.bool true)), ([q10, (.tuple [p24, p25])], (.bool true)), ([q11, (.tuple [p25])], (.bool true)), ([q12, (.tuple [p25, p24])], (.bool true)), ([q13, (.tuple [p24, p15])], (.bool true)), ([q14, (.tuple [p15])], (.bool true)), ([q15, (.tuple [p24, p25, p15])], (.bool true)), ([q16, (.tuple [p24, p15, p25])], (.bool true)), ([q17, (.tuple [p25, p15])], (.bool true)), ([q18, (.tuple [p25, p24, p15])], (.bool true)), ([q19, (.tuple [p15, p25])], (.bool true)), ([q20, (.tuple [p15, p25, p24, p02])], (.bool true)), ([q21, (.tuple [p15, p25, p24])], (.bool true))]),
  (q10, [([q8, (.tuple [p13])], (.bool true)), ([q9, (.tuple [p13, p35])], (.bool true)), ([q10, (.tuple [])], (.bool true)), ([q11, (.tuple [p35, p13])], (.bool true)), ([q12, (.tuple [p35])], (.bool true)), ([q13, (.tuple [p13, p15])], (.bool true)), ([q14, (.tuple [p13, p35, p15])], (.bool true)), ([q15, (.tuple [p15])], (.bool true)), ([q16, (.tuple [p15, p13])], (.bool true)), ([q17, (.tuple [p35, p13, p15])], (.bool true)), ([q18, (.tuple [p35, p15])], (.bool true)), ([q19, (.tuple [p13, p15, p35, p25])], (.bool true)), ([q20, (.tuple [p15, p35])], (.bool true)), ([q21, (.tuple [p15, p35, p13])], (.bool true))]),
  (q11, [([q8, (.tuple [p14, p24])], (.bool true)), ([q9, (.tuple [p14])], (.bool true)), ([q10, (.tuple [p24, p14])], (.bool true)), ([q11, (.tuple [])], (.bool true)), ([q12, (.tuple [p24])], (.bool true)), ([q13, (.tuple [p14, p24, p15])], (.bool true)), ([q14, (.tuple [p14, p15])], (.bool true)), ([q15, (.tuple [p24, p14, p15])], (.bool true)), ([q16, (.tuple [p14, p15, p24, p25])], (.bool true)), ([q17, (.tuple [p15])], (.bool true)), ([q18, (.tuple [p24, p15])], (.bool true)), ([q19, (.tuple [p15, p14])], (.bool true)), ([q20, (.tuple [p24, p15, p14])], (.bool true)), ([q21, (.tuple [p15, p14, p24])], (.bool true))]),
  (q12, [([q8, (.tuple [p14, p13])], (.bool true)), ([q9, (.tuple [p13, p14])], (.bool true)), ([q10, (.tuple [p14])], (.bool true)), ([q11, (.tuple [p13])], (.bool true)), ([q12, (.tuple [])], (.bool true)), ([q13, (.tuple [p14, p13, p15])], (.bool true)), ([q14, (.tuple [p13, p14, p15])], (.bool true)), ([q15, (.tuple [p14, p15])], (.bool true)), ([q16, (.tuple [p14, p15, p13])], (.bool true)), ([q17, (.tuple [p13, p15])], (.bool true)), ([q18, (.tuple [p15])], (.bool true)), ([q19, (.tuple [p13, p15, p14])], (.bool true)), ([q20, (.tuple [p15, p14])], (.bool true)), ([q21, (.tuple [p15, p14, p13])], (.bool true))]),
  (q13, [([q8, (.tuple [p02])], (.bool true)), ([q9, (.tuple [p35, p02])], (.bool true)), ([q10, (.tuple [p02, p25])], (.bool true)), ([q11, (.tuple [p35, p02, p25])], (.bool true)), ([q12, (.tuple [p02, p25, p35])], (.bool true)), ([q13, (.tuple [])], (.bool true)), ([q14, (.tuple [p35])], (.bool true)), ([q15, (.tuple [p25, p02])], (.bool true)), ([q16, (.tuple [p25])], (.bool true)), ([q17, (.tuple [p35, p25, p02])], (.bool true)), ([q18, (.tuple [p02, p25, p35, p15])], (.bool true)), ([q19, (.tuple [p35, p25])], (.bool true)), ([q20, (.tuple [p25, p02, p35])], (.bool true)), ([q21, (.tuple [p25, p35])], (.bool true))]),
  (q14, [([q8, (.tuple [p24, p02])], (.bool true)), ([q9, (.tuple [p02])], (.bool true)), ([q10, (.tuple [p24, p02, p25])], (.bool true)), ([q11, (.tuple [p02, p25])], (.bool true)), ([q12, (.tuple [p02, p25, p24])], (.bool true)), ([q13, (.tuple [p24])], (.bool true)), ([q14, (.tuple [])], (.bool true)), ([q15, (.tuple [p24, p25, p02])], (.bool true)), ([q16, (.tuple [p24, p25])], (.bool true)), ([q17, (.tuple [p25, p02])], (.bool true)), ([q18, (.tuple [p25, p02, p24])], (.bool true)), ([q19, (.tuple [p25])], (.bool true)), ([q20, (.tuple [p25, p24, p02])], (.bool true)), ([q21, (.tuple [p25, p24])], (.bool true))]),
  (q15, [([q8, (.tuple [p03, p13])], (.bool true)), ([q9, (.tuple [p03, p13, p35])], (.bool true)), ([q10, (.tuple [p03])], (.bool true)), ([q11, (.tuple [p03, p35, p13])], (.bool true)), ([q12, (.tuple [p03, p35])], (.bool true)), ([q13, (.tuple [p13, p03])], (.bool true)), ([q14, (.tuple [p13, p03, p35])], (.bool true)), ([q15, (.tuple [])], (.bool true)), ([q16, (.tuple [p13])], (.bool true)), ([q17, (.tuple [p35, p03, p13])], (.bool true)), ([q18, (.tuple [p35, p03])], (.bool true)), ([q19, (.tuple [p35, p13, p03])], (.bool true)), ([q20, (.tuple [p35])], (.bool true)), ([q21, (.tuple [p35, p13])], (.bool true))]),
  (q16, [([q8, (.tuple [p03, p02])], (.bool true)), ([q9, (.tuple [p03, p35, p02])], (.bool true)), ([q10, (.tuple [p02, p03])], (.bool true)), ([q11, (.tuple [p02, p03, p35, p13])], (.bool true)), ([q12, (.tuple [p02, p03, p35])], (.bool true)), ([q13, (.tuple [p03])], (.bool true)), ([q14, (.tuple [p03, p35])], (.bool true)), ([q15, (.tuple [p02])], (.bool true)), ([q16, (.tuple [])], (.bool true)), ([q17, (.tuple [p35, p03, p02])], (.bool true)), ([q18, (.tuple [p35, p02, p03])], (.bool true)), ([q19, (.tuple [p35, p03])], (.bool true)), ([q20, (.tuple [p35, p02])], (.bool true)), ([q21, (.tuple [p35])], (.bool true))]),
  (q17, [([q8, (.tuple [p04, p14, p24])], (.bool true)), ([q9, (.tuple [p04, p14])], (.bool true)), ([q10, (.tuple [p24, p04, p14])], (.bool true)), ([q11, (.tuple [p04])], (.bool true)), ([q12, (.tuple [p24, p04])], (.bool true)), ([q13, (.tuple [p14, p04, p24])], (.bool true)), ([q14, (.tuple [p14, p04])], (.bool true)), ([q15, (.tuple [p24, p14, p04])], (.bool true)), ([q16, (.tuple [p14, p24, p04])], (.bool true)), ([q17, (.tuple [])], (.bool true)), ([q18, (.tuple [p24])], (.bool true)), ([q19, (.tuple [p14])], (.bool true)), ([q20, (.tuple [p24, p14])], (.bool true)), ([q21, (.tuple [p14, p24])], (.bool true))]),
  (q18, [([q8, (.tuple [p04, p14, p13])], (.bool true)), ([q9, (.tuple [p13, p04, p14])], (.bool true)), ([q10, (.tuple [p04, p14])], (.bool true)), ([q11, (.tuple [p13, p04])], (.bool true)), ([q12, (.tuple [p04])], (.bool true)), ([q13, (.tuple [p04, p14, p13, p15])], (.bool true)), ([q14, (.tuple [p13, p14, p04])], (.bool true)), ([q15, (.tuple [p14, p04])], (.bool true)), ([q16, (.tuple [p14, p04, p13])], (.bool true)), ([q17, (.tuple [p13])], (.bool true)), ([q18, (.tuple [])], (.bool true)), ([q19, (.tuple [p13, p14])], (.bool true)), ([q20, (.tuple [p14])], (.bool true)), ([q21, (.tuple [p14, p13])], (.bool true))]),
  (q19, [([q8, (.tuple [p04, p24, p02])], (.bool true)), ([q9, (.tuple [p04, p02])], (.bool true)), ([q10, (.tuple [p02, p04, p24, p14])], (.bool true)), ([q11, (.tuple [p02, p04])], (.bool true)), ([q12, (.tuple [p02, p04, p24])], (.bool true)), ([q13, (.tuple [p04, p24])], (.bool true)), ([q14, (.tuple [p04])], (.bool true)), ([q15, (.tuple [p24, p04, p02])], (.bool true)), ([q16, (.tuple [p24, p04])], (.bool true)), ([q17, (.tuple [p02])], (.bool true)), ([q18, (.tuple [p02, p24])], (.bool true)), ([q19, (.tuple [])], (.bool true)), ([q20, (.tuple [p24, p02])], (.bool true)), ([q21, (.tuple [p24])], (.bool true))]),
  (q20, [([q8, (.tuple [p04, p03, p13])], (.bool true)), ([q9, (.tuple [p03, p04, p13, p14])], (.bool true)), ([q10, (.tuple [p04, p03])], (.bool true)), ([q11, (.tuple [p03, p13, p04])], (.bool true)), ([q12, (.tuple [p03, p04])], (.bool true)), ([q13, (.tuple [p04, p13, p03])], (.bool true)), ([q14, (.tuple [p13, p03, p04])], (.bool true)), ([q15, (.tuple [p04])], (.bool true)), ([q16, (.tuple [p04, p13])], (.bool true)), ([q17, (.tuple [p03, p13])], (.bool true)), ([q18, (.tuple [p03])], (.bool true)), ([q19, (.tuple [p13, p03])], (.bool true)), ([q20, (.tuple [])], (.bool true)), ([q21, (.tuple [p13])], (.bool true))]),
  (q21, [([q8, (.tuple [p04, p03, p02])], (.bool true)), ([q9, (.tuple [p03, p04, p02])], (.bool true)), ([q10, (.tuple [p04, p02, p03])], (.bool true)), ([q11, (.tuple [p03, p02, p04])], (.bool true)), ([q12, (.tuple [p02, p03, p04])], (.bool true)), ([q13, (.tuple [p04, p03])], (.bool true)), ([q14, (.tuple [p03, p04])], (.bool true)), ([q15, (.tuple [p04, p02])], (.bool true)), ([q16, (.tuple [p04])], (.bool true)), ([q17, (.tuple [p03, p02])], (.bool true)), ([q18, (.tuple [p02, p03])], (.bool true)), ([q19, (.tuple [p03])], (.bool true)), ([q20, (.tuple [p02])], (.bool true)), ([q21, (.tuple [])], (.bool true))])]
def Fis_least_way : List PyData → R PyData := tabF tabis_least_way Uis_least_way
def Ncount_least_ways : List Str := ["one", "other", "found", "steps", "field", "mine", "yours", "far", "ways"]
def Gcount_least_ways : Ev → Out := (sSeq (sExpr (eCall 2 Fneed_fields (aCons (eVar 0) (aCons (eVar 1) aNil)))) (sSeq (sAsg (gT (gsCons (gN 2) (gsCons (gN 3) gsNil))) (eTup (aCons (eC (.int 1)) (aCons (eC (.int 0)) aNil)))) (sSeq (sFor (iS (eCall 2 Fpairs_within (aCons (eVar 0) (aCons (eVar 1) aNil)))) (gT (gsCons (gN 4) (gsCons (gN 5) (gsCons (gN 6) gsNil)))) (sSeq (sAsg (gT (gsCons (gN 7) (gsCons (gN 8) gsNil))) (e2 gIx (eCall 2 Freach_from (aCons (eVar 5) (aCons (eVar 6) aNil))) (eVar 6))) (sSeq (sAsg (gN 3) (e2 gAdd (eVar 3) (eVar 7))) (sAsg (gN 2) (e2 gMul (e2 gMul (eVar 2) (eVar 8)) (eCall 2 Fpicks_of (aCons (eVar 3) (aCons (eVar 7) aNil)))))))) (sRet (eVar 2)))))
def Ucount_least_ways : List PyData → R PyData := fun ds => outR (Gcount_least_ways (startE 9 ds))
def tabcount_least_ways : List (PyData × List (List PyData × PyData)) := [(q0, [([q0], n1)]),
  (q1, [([q1], n1), ([q2], n1)]),
  (q2, [([q1], n1), ([q2], n1)]),
  (q3, [([q3], n1), ([q4], n1), ([q5], n1), ([q6], n1), ([q7], n1)]),
  (q4, [([q3], n1), ([q4], n1), ([q5], n1), ([q6], n1), ([q7], n1)]),
  (q5, [([q3], n1), ([q4], n1), ([q5], n1), ([q6], n1), ([q7], n1)]),
  (q6, [([q3], n1), ([q4], n1), ([q5], n1), ([q6], n1), ([q7], n1)]),
  (q7, [([q3], n1), ([q4], n1), ([q5], n1), ([q6], n1), ([q7], n1)]),
  (q8, [([q8], n1), ([q9], n1), ([q10], n1), ([q11], n1), ([q12], n1), ([q13], n1), ([q14], n2), ([q15], n1), ([q16], n1), ([q17], n1), ([q18], n1), ([q19], n2), ([q20], n1), ([q21], n1)]),
  (q9, [([q8], n1), ([q9], n1), ([q10], n1), ([q11], n1), ([q12], n1), ([q13], n2), ([q14], n1), ([q15], n1), ([q16], n2), ([q17], n1), ([q18], n2), ([q19], n1), ([q20], n4), ([q21], n1)]),
  (q10, [([q8], n1), ([q9], n1), ([q10], n1), ([q11], n1), ([q12], n1), ([q13], n1), ([q14], n2), ([q15], n1), ([q16], n1), ([q17], n2), ([q18], n1), ([q19], n6), ([q20], n1), ([q21], n2)]),
  (q11, [([q8], n1), ([q9], n1), ([q10], n1), ([q11], n1), ([q12], n1), ([q13], n2), ([q14], n1), ([q15], n1), ([q16], n4), ([q17], n1), ([q18], n2), ([q19], n1), ([q20], n2), ([q21], n1)]),
  (q12, [([q8], n1), ([q9], n1), ([q10], n1), ([q11], n1), ([q12], n1), ([q13], n1), ([q14], n1), ([q15], n1), ([q16], n1), ([q17], n2), ([q18], n1), ([q19], n2), ([q20], n1), ([q21], n1)]),
  (q13, [([q8], n1), ([q9], n2), ([q10], n1), ([q11], n2), ([q12], n1), ([q13], n1), ([q14], n1), ([q15], n1), ([q16], n1), ([q17], n1), ([q18], n4), ([q19], n1), ([q20], n2), ([q21], n1)]),
  (q14, [([q8], n2), ([q9], n1), ([q10], n2), ([q11], n1), ([q12], n1), ([q13], n1), ([q14], n1), ([q15], n1), ([q16], n1), ([q17], n1), ([q18], n1), ([q19], n1), ([q20], n1), ([q21], n1)]),
  (q15, [([q8], n1), ([q9], n1), ([q10], n1), ([q11], n1), ([q12], n1), ([q13], n1), ([q14], n1), ([q15], n1), ([q16], n1), ([q17], n1), ([q18], n1), ([q19], n2), ([q20], n1), ([q21], n2)]),
  (q16, [([q8], n1), ([q9], n2), ([q10], n1), ([q11], n4), ([q12], n1), ([q13], n1), ([q14], n1), ([q15], n1), ([q16], n1), ([q17], n1), ([q18], n2), ([q19], n1), ([q20], n2), ([q21], n1)]),
  (q17, [([q8], n1), ([q9], n1), ([q10], n2), ([q11], n1), ([q12], n2), ([q13], n1), ([q14], n1), ([q15], n1), ([q16], n1), ([q17], n1), ([q18], n1), ([q19], n1), ([q20], n1), ([q21], n1)]),
  (q18, [([q8], n1), ([q9], n2), ([q10], n1), ([q11], n2), ([q12], n1), ([q13], n4), ([q14], n1), ([q15], n1), ([q16], n2), ([q17], n1), ([q18], n1), ([q19], n1), ([q20], n1), ([q21], n1)]),
  (q19, [([q8], n2), ([q9], n1), ([q10], n6), ([q11], n1), ([q12], n2), ([q13], n1), ([q14], n1), ([q15], n2), ([q16], n1), ([q17], n1), ([q18], n1), ([q19], n1), ([q20], n1), ([q21], n1)]),
  (q20, [([q8], n1), ([q9], n4), ([q10], n1), ([q11], n2), ([q12], n1), ([q13], n2), ([q14], n1), ([q15], n1), ([q16], n2), ([q17], n1), ([q18], n1), ([q19], n1), ([q20], n1), ([q21], n1)]),
  (q21, [([q8], n1), ([q9], n1), ([q10], n2), ([q11], n1), ([q12], n1), ([q13], n1), ([q14], n1), ([q15], n2), ([q16], n1), ([q17], n1), ([q18], n1), ([q19], n1), ([q20], n1), ([q21], n1)])]
def Fcount_least_ways : List PyData → R PyData := tabF tabcount_least_ways Ucount_least_ways
def Non_least_ways : List Str := ["one", "other", "found", "field", "mine", "yours", "here", "there", "far", "some"]
def Gon_least_ways : Ev → Out := (sSeq (sExpr (eCall 2 Fneed_fields (aCons (eVar 0) (aCons (eVar 1) aNil)))) (sSeq (sAsg (gN 2) (eC (.int 1))) (sSeq (sFor (iS (eCall 2 Fpairs_within (aCons (eVar 0) (aCons (eVar 1) aNil)))) (gT (gsCons (gN 3) (gsCons (gN 4) (gsCons (gN 5) gsNil)))) (sSeq (sAsg (gT (gsCons (gN 6) (gsCons (gN 7) gsNil))) (eTup (aCons (eCall 2 Freach_from (aCons (eVar 4) (aCons (eVar 5) aNil))) (aCons (eCall 2 Freach_from (aCons (eVar 5) (aCons (eVar 4) aNil))) aNil)))) (sSeq (sAsg (gN 8) (e2 gIx (e2 gIx (eVar 6) (eVar 5)) (eC (.int 0)))) (sAsg (gN 2) (e2 gMul (eVar 2) (eA gLen (aCons (eComp [9] (iS (eVar 6)) (gN 9) (eAnd (e2 (gIn false) (eVar 9) (eVar 7)) (e2 gEq (e2 gAdd (e2 gIx (e2 gIx (eVar 6) (eVar 9)) (eC (.int 0))) (e2 gIx (e2 gIx (eVar 7) (eVar 9)) (eC (.int 0)))) (eVar 8))) (eVar 9)) aNil))))))) (sRet (eVar 2)))))
def Uon_least_ways : List PyData → R PyData := fun ds => outR (Gon_least_ways (startE 10 ds))
def tabon_least_ways : List (PyData × List (List PyData × PyData)) := [(q0, [([q0], n1)]),
  (q1, [([q1], n1), ([q2], n2)]),
  (q2, [([q1], n2), ([q2], n1)]),
  (q3, [([q3], n1), ([q4], n2), ([q5], n2), ([q6], n3), ([q7], n3)]),
  (q4, [([q3], n2), ([q4], n1), ([q5], n3), ([q6], n2), ([q7], n3)]),
  (q5, [([q3], n2), ([q4], n3), ([q5], n1), ([q6], n3), ([q7], n2)]),
  (q6, [([q3], n3), ([q4], n2), ([q5], n3), ([q6], n1), ([q7], n2)]),
  (q7, [([q3], n3), ([q4], n3), ([q5], n2), ([q6], n2), ([q7], n1)]),
  (q8, [([q8], n1), ([q9], n2), ([q10], n2), ([q11], n3), ([q12], n3), ([q13], n2), ([q14], n4), ([q15], n3), ([q16], n3), ([q17], n4), ([q18], n4), ([q19], n5), ([q20], n4), ([q21], n4)]),
  (q9, [([q8], n2), ([q9], n1), ([q10], n3), ([q11], n2), ([q12], n3), ([q13], n4), ([q14], n2), ([q15], n4), ([q16], n5), ([q17], n3), ([q18], n5), ([q19], n3), ([q20], n12), ([q21], n4)]),
  (q10, [([q8], n2), ([q9], n3), ([q10], n1), ([q11], n3), ([q12], n2), ([q13], n3), ([q14], n5), ([q15], n2), ([q16], n3), ([q17], n5), ([q18], n3), ([q19], n14), ([q20], n3), ([q21], n5)]),
  (q11, [([q8], n3), ([q9], n2), ([q10], n3), ([q11], n1), ([q12], n2), ([q13], n5), ([q14], n3), ([q15], n4), ([q16], n12), ([q17], n2), ([q18], n4), ([q19], n3), ([q20], n5), ([q21], n4)]),
  (q12, [([q8], n3), ([q9], n3), ([q10], n2), ([q11], n2), ([q12], n1), ([q13], n4), ([q14], n4), ([q15], n3), ([q16], n4), ([q17], n4), ([q18], n2), ([q19], n5), ([q20], n3), ([q21], n4)]),
  (q13, [([q8], n2), ([q9], n4), ([q10], n3), ([q11], n5), ([q12], n4), ([q13], n1), ([q14], n2), ([q15], n3), ([q16], n2), ([q17], n4), ([q18], n12), ([q19], n3), ([q20], n5), ([q21], n3)]),
  (q14, [([q8], n4), ([q9], n2), ([q10], n5), ([q11], n3), ([q12], n4), ([q13], n2), ([q14], n1), ([q15], n4), ([q16], n3), ([q17], n3), ([q18], n4), ([q19], n2), ([q20], n4), ([q21], n3)]),
  (q15, [([q8], n3), ([q9], n4), ([q10], n2), ([q11], n4), ([q12], n3), ([q13], n3), ([q14], n4), ([q15], n1), ([q16], n2), ([q17], n4), ([q18], n3), ([q19], n5), ([q20], n2), ([q21], n4)]),
  (q16, [([q8], n3), ([q9], n5), ([q10], n3), ([q11], n12), ([q12], n4), ([q13], n2), ([q14], n3), ([q15], n2), ([q16], n1), ([q17], n4), ([q18], n5), ([q19], n3), ([q20], n4), ([q21], n2)]),
  (q17, [([q8], n4), ([q9], n3), ([q10], n5), ([q11], n2), ([q12], n4), ([q13], n4), ([q14], n3), ([q15], n4), ([q16], n4), ([q17], n1), ([q18], n2), ([q19], n2), ([q20], n3), ([q21], n3)]),
  (q18, [([q8], n4), ([q9], n5), ([q10], n3), ([q11], n4), ([q12], n2), ([q13], n12), ([q14], n4), ([q15], n3), ([q16], n5), ([q17], n2), ([q18], n1), ([q19], n3), ([q20], n2), ([q21], n3)]),
  (q19, [([q8], n5), ([q9], n3), ([q10], n14), ([q11], n3), ([q12], n5), ([q13], n3), ([q14], n2), ([q15], n5), ([q16], n3), ([q17], n2), ([q18], n3), ([q19], n1), ([q20], n3), ([q21], n2)]),
  (q20, [([q8], n4), ([q9], n12), ([q10], n3), ([q11], n5), ([q12], n3), ([q13], n5), ([q14], n4), ([q15], n2), ([q16], n4), ([q17], n3), ([q18], n2), ([q19], n3), ([q20], n1), ([q21], n2)]),
  (q21, [([q8], n4), ([q9], n4), ([q10], n5), ([q11], n4), ([q12], n4), ([q13], n3), ([q14], n3), ([q15], n4), ([q16], n2), ([q17], n3), ([q18], n3), ([q19], n2), ([q20], n2), ([q21], n1)])]
def Fon_least_ways : List PyData → R PyData := tabF tabon_least_ways Uon_least_ways
def Nmoved : List Str := ["cutting", "steps", "sign", "sides", "cuts", "pairs", "one", "other", "pair"]
def Gmoved : Ev → Out := (sSeq (sAsg (gT (gsCons (gN 3) (gsCons (gN 4) gsNil))) (eVar 0)) (sSeq (sAsg (gN 5) (eComp [6, 7] (iS (eVar 4)) (gT (gsCons (gN 6) (gsCons (gN 7) gsNil))) tTrue (eTup (aCons (e2 gMod (e2 gAdd (e2 gMul (eVar 2) (eVar 6)) (eVar 1)) (eVar 3)) (aCons (e2 gMod (e2 gAdd (e2 gMul (eVar 2) (eVar 7)) (eVar 1)) (eVar 3)) aNil))))) (sRet (eTup (aCons (eVar 3) (aCons (eA gTuple (aCons (eA gSorted (aCons (eComp [8] (iS (eVar 5)) (gN 8) tTrue (eTup (aCons (eA (gMM minI minJ) (aCons (eVar 8) aNil)) (aCons (eA (gMM maxI maxJ) (aCons (eVar 8) aNil)) aNil)))) aNil)) aNil)) aNil))))))
def Fmoved : List PyData → R PyData := fun ds => outR (Gmoved (startE 9 ds))
def Nturned : List Str := ["cutting", "steps"]
def Gturned : Ev → Out := (sSeq (sExpr (eCall 1 Fneed_cutting (aCons (eVar 0) aNil))) (sSeq (sExpr (eCall 3 Fneed_number (aCons (eVar 1) (aCons (e1 gNeg (eC (.int 1000))) (aCons (eC (.int 1000)) aNil))))) (sRet (eCall 3 Fmoved (aCons (eVar 0) (aCons (eVar 1) (aCons (eC (.int 1)) aNil)))))))
def Uturned : List PyData → R PyData := fun ds => outR (Gturned (startE 2 ds))
def tabturned : List (PyData × List (List PyData × PyData)) := [(q0, [([n0], q0), ([n1], q0), ([n2], q0)]),
  (q1, [([n0], q1), ([n1], q2), ([n2], q1), ([n3], q2)]),
  (q2, [([n0], q2), ([n1], q1), ([n2], q2), ([n3], q1)]),
  (q3, [([n0], q3), ([n1], q7), ([n2], q4), ([n3], q5), ([n4], q6)]),
  (q4, [([n0], q4), ([n1], q5), ([n2], q6), ([n3], q3), ([n4], q7)]),
  (q5, [([n0], q5), ([n1], q6), ([n2], q3), ([n3], q7), ([n4], q4)]),
  (q6, [([n0], q6), ([n1], q3), ([n2], q7), ([n3], q4), ([n4], q5)]),
  (q7, [([n0], q7), ([n1], q4), ([n2], q5), ([n3], q6), ([n4], q3)]),
  (q8, [([n0], q8), ([n1], q21), ([n2], q12), ([n3], q14), ([n4], q15), ([n5], q17)]),
  (q9, [([n0], q9), ([n1], q16), ([n2], q18), ([n3], q9), ([n4], q16), ([n5], q18)]),
  (q10, [([n0], q10), ([n1], q19), ([n2], q10), ([n3], q19), ([n4], q10), ([n5], q19)]),
  (q11, [([n0], q11), ([n1], q13), ([n2], q20), ([n3], q11), ([n4], q13), ([n5], q20)]),
  (q12, [([n0], q12), ([n1], q14), ([n2], q15), ([n3], q17), ([n4], q8), ([n5], q21)]),
  (q13, [([n0], q13), ([n1], q20), ([n2], q11), ([n3], q13), ([n4], q20), ([n5], q11)]),
  (q14, [([n0], q14), ([n1], q15), ([n2], q17), ([n3], q8), ([n4], q21), ([n5], q12)]),
  (q15, [([n0], q15), ([n1], q17), ([n2], q8), ([n3], q21), ([n4], q12), ([n5], q14)]),
  (q16, [([n0], q16), ([n1], q18), ([n2], q9), ([n3], q16), ([n4], q18), ([n5], q9)]),
  (q17, [([n0], q17), ([n1], q8), ([n2], q21), ([n3], q12), ([n4], q14), ([n5], q15)]),
  (q18, [([n0], q18), ([n1], q9), ([n2], q16), ([n3], q18), ([n4], q9), ([n5], q16)]),
  (q19, [([n0], q19), ([n1], q10), ([n2], q19), ([n3], q10), ([n4], q19), ([n5], q10)]),
  (q20, [([n0], q20), ([n1], q11), ([n2], q13), ([n3], q20), ([n4], q11), ([n5], q13)]),
  (q21, [([n0], q21), ([n1], q12), ([n2], q14), ([n3], q15), ([n4], q17), ([n5], q8)])]
def Fturned : List PyData → R PyData := tabF tabturned Uturned
def Nmirrored : List Str := ["cutting"]
def Gmirrored : Ev → Out := (sSeq (sExpr (eCall 1 Fneed_cutting (aCons (eVar 0) aNil))) (sRet (eCall 3 Fmoved (aCons (eVar 0) (aCons (eC (.int 0)) (aCons (e1 gNeg (eC (.int 1))) aNil))))))
def Umirrored : List PyData → R PyData := fun ds => outR (Gmirrored (startE 1 ds))
def tabmirrored : List (PyData × List (List PyData × PyData)) := [(q0, [([], q0)]),
  (q1, [([], q1)]),
  (q2, [([], q2)]),
  (q3, [([], q4)]),
  (q4, [([], q3)]),
  (q5, [([], q6)]),
  (q6, [([], q5)]),
  (q7, [([], q7)]),
  (q8, [([], q12)]),
  (q9, [([], q11)]),
  (q10, [([], q10)]),
  (q11, [([], q9)]),
  (q12, [([], q8)]),
  (q13, [([], q18)]),
  (q14, [([], q17)]),
  (q15, [([], q15)]),
  (q16, [([], q20)]),
  (q17, [([], q14)]),
  (q18, [([], q13)]),
  (q19, [([], q19)]),
  (q20, [([], q16)]),
  (q21, [([], q21)])]
def Fmirrored : List PyData → R PyData := tabF tabmirrored Umirrored
def Nfars_of : List Str := ["cutting", "found", "there"]
def Gfars_of : Ev → Out := (sSeq (sAsg (gN 1) (eCall 2 Freach_from (aCons (eVar 0) (aCons (eC .none) aNil)))) (sRet (eDcC [2] (iS (eVar 1)) (gN 2) (eVar 2) (e2 gIx (e2 gIx (eVar 1) (eVar 2)) (eC (.int 0))))))
def Ffars_of : List PyData → R PyData := fun ds => outR (Gfars_of (startE 3 ds))
def Nlayers : List Str := ["cutting", "row", "far"]
def Glayers : Ev → Out := (sSeq (sExpr (eCall 1 Fneed_cutting (aCons (eVar 0) aNil))) (sSeq (sExpr (eCall 2 Fneed_few (aCons (e2 gIx (eVar 0) (eC (.int 0))) (aCons (eC (.int 8)) aNil)))) (sSeq (sAsg (gN 1) (e1 gListVals (eCall 1 Ffars_of (aCons (eVar 0) aNil)))) (sRet (eA gTuple (aCons (eComp [2] (iR (e2 gAdd (eA (gMM maxI maxJ) (aCons (eVar 1) aNil)) (eC (.int 1)))) (gN 2) tTrue (eCnt (eVar 1) (eVar 2))) aNil))))))
def Ulayers : List PyData → R PyData := fun ds => outR (Glayers (startE 3 ds))
def tablayers : List (PyData × List (List PyData × PyData)) := [(q0, [([], (.tuple [n1]))]),
  (q1, [([], p11)]),
  (q2, [([], p11)]),
  (q3, [([], (.tuple [n1, n2, n2]))]),
  (q4, [([], (.tuple [n1, n2, n2]))]),
  (q5, [([], (.tuple [n1, n2, n2]))]),
  (q6, [([], (.tuple [n1, n2, n2]))]),
  (q7, [([], (.tuple [n1, n2, n2]))]),
  (q8, [([], (.tuple [n1, n3, n5, n5]))]),
  (q9, [([], (.tuple [n1, n3, n5, n4, n1]))]),
  (q10, [([], (.tuple [n1, n3, n6, n3, n1]))]),
  (q11, [([], (.tuple [n1, n3, n5, n4, n1]))]),
  (q12, [([], (.tuple [n1, n3, n5, n5]))]),
  (q13, [([], (.tuple [n1, n3, n5, n4, n1]))]),
  (q14, [([], (.tuple [n1, n3, n5, n5]))]),
  (q15, [([], (.tuple [n1, n3, n5, n5]))]),
  (q16, [([], (.tuple [n1, n3, n5, n4, n1]))]),
  (q17, [([], (.tuple [n1, n3, n5, n5]))]),
  (q18, [([], (.tuple [n1, n3, n5, n4, n1]))]),
  (q19, [([], (.tuple [n1, n3, n6, n3, n1]))]),
  (q20, [([], (.tuple [n1, n3, n5, n4, n1]))]),
  (q21, [([], (.tuple [n1, n3, n5, n5]))])]
def Flayers : List PyData → R PyData := tabF tablayers Ulayers
def N_law_kind : List Str := ["_law_value"]
def G_law_kind : Ev → Out := (sSeq (sIf (eOr (e2 gIsN (eVar 0) (eC .none)) (e1 (gIsi2 .bool .str) (eVar 0))) (sRet (eIf (e2 gIsN (eVar 0) (eC .none)) (eC (.int 0)) (eIf (e1 (gIsi .bool) (eVar 0)) (eC (.int 1)) (eC (.int 5))))) sNil) (sSeq (sIf (e1 (gIsi2 .list .tuple) (eVar 0)) (sRet (eIf (e1 (gIsi .list) (eVar 0)) (eC (.int 2)) (eC (.int 3)))) sNil) (sRet (eIf (e1 (gIsi .int) (eVar 0)) (eC (.int 4)) (eC (.int 6))))))
def F_law_kind : List PyData → R PyData := fun ds => outR (G_law_kind (startE 1 ds))
def N_law_twins : List Str := ["_law_one", "_law_other", "_law_a", "_law_b"]
def G_law_twins (FR : List PyData → R PyData) : Ev → Out := (sSeq (sIf (e2 gNe (eCall 1 F_law_kind (aCons (eVar 0) aNil)) (eCall 1 F_law_kind (aCons (eVar 1) aNil))) (sRet (eC (.bool false))) sNil) (sSeq (sIf (e2 (gIn false) (eCall 1 F_law_kind (aCons (eVar 0) aNil)) (eLst (aCons (eC (.int 2)) (aCons (eC (.int 3)) aNil)))) (sRet (eAnd (e2 gEq (eA gLen (aCons (eVar 0) aNil)) (eA gLen (aCons (eVar 1) aNil))) (e2 gEq (eComp [2, 3] (iZ (eVar 0) (eVar 1)) (gT (gsCons (gN 2) (gsCons (gN 3) gsNil))) (eNot (eCall 2 FR (aCons (eVar 2) (aCons (eVar 3) aNil)))) (eC (.int 1))) (eLst aNil)))) sNil) (sRet (e2 gEq (eVar 0) (eVar 1)))))
def F_law_twins_0 : List PyData → R PyData := fun _ => .stuck
def F_law_twins : List PyData → R PyData := fun ds => outR (G_law_twins F_law_twins_0 (startE 4 ds))
def N_law_tied : List Str := ["_law_cutting_here", "_law_one", "_law_other"]
def G_law_tied : Ev → Out := (sRet (eOr (e2 (gIn false) (e2 gMod (e2 gSub (eVar 1) (eVar 2)) (e2 gIx (eVar 0) (eC (.int 0)))) (eTup (aCons (eC (.int 1)) (aCons (e2 gSub (e2 gIx (eVar 0) (eC (.int 0))) (eC (.int 1))) aNil)))) (e2 (gIn false) (eTup (aCons (eA (gMM minI minJ) (aCons (eVar 1) (aCons (eVar 2) aNil))) (aCons (eA (gMM maxI maxJ) (aCons (eVar 1) (aCons (eVar 2) aNil))) aNil))) (e2 gIx (eVar 0) (eC (.int 1))))))
def F_law_tied : List PyData → R PyData := fun ds => outR (G_law_tied (startE 3 ds))
def N_law_thirds : List Str := ["_law_cutting_here", "_law_cut", "_law_found", "_law_corner"]
def G_law_thirds : Ev → Out := (sSeq (sSetC true 2 (eLst aNil)) (sSeq (sFor (iR (e2 gIx (eVar 0) (eC (.int 0)))) (gN 3) (sIf (eAnd (e2 (gIn true) (eVar 3) (eVar 1)) (eAnd (eCall 3 F_law_tied (aCons (eVar 0) (aCons (e2 gIx (eVar 1) (eC (.int 0))) (aCons (eVar 3) aNil)))) (eCall 3 F_law_tied (aCons (eVar 0) (aCons (e2 gIx (eVar 1) (eC (.int 1))) (aCons (eVar 3) aNil)))))) (sApp 2 (eVar 3)) sNil)) (sFrz 2 (sRet (eVar 2)))))
def U_law_thirds : List PyData → R PyData := fun ds => outR (G_law_thirds (startE 4 ds))
def tab_law_thirds : List (PyData × List (List PyData × PyData)) := [(q1, [([p13], (.list [n0, n2]))]),
  (q2, [([p02], (.list [n1, n3]))]),
  (q3, [([p14], (.list [n0, n2])), ([p24], (.list [n1, n3]))]),
  (q5, [([p02], (.list [n1, n4])), ([p24], (.list [n0, n3]))]),
  (q4, [([p13], (.list [n2, n4])), ([p14], (.list [n0, n3]))]),
  (q6, [([p03], (.list [n1, n4])), ([p13], (.list [n0, n2]))]),
  (q7, [([p02], (.list [n1, n3])), ([p03], (.list [n2, n4]))]),
  (q8, [([p15], (.list [n0, n2])), ([p25], (.list [n1, n3])), ([p35], (.list [n2, n4]))]),
  (q13, [([p35], (.list [n2, n4])), ([p02], (.list [n1, n5])), ([p25], (.list [n0, n3]))]),
  (q10, [([p13], (.list [n2, n5])), ([p15], (.list [n0, n3])), ([p35], (.list [n1, n4]))]),
  (q9, [([p15], (.list [n0, n2])), ([p24], (.list [n3, n5])), ([p25], (.list [n1, n4]))]),
  (q14, [([p24], (.list [n3, n5])), ([p02], (.list [n1, n5])), ([p25], (.list [n0, n4]))]),
  (q16, [([p02], (.list [n1, n3])), ([p03], (.list [n2, n5])), ([p35], (.list [n0, n4]))]),
  (q15, [([p35], (.list [n0, n4])), ([p03], (.list [n1, n5])), ([p13], (.list [n0, n2]))]),
  (q12, [([p13], (.list [n2, n4])), ([p14], (.list [n3, n5])), ([p15], (.list [n0, n4]))]),
  (q11, [([p15], (.list [n0, n4])), ([p14], (.list [n2, n5])), ([p24], (.list [n1, n3]))]),
  (q17, [([p24], (.list [n1, n3])), ([p04], (.list [n1, n5])), ([p14], (.list [n0, n2]))]),
  (q19, [([p02], (.list [n1, n4])), ([p04], (.list [n2, n5])), ([p24], (.list [n0, n3]))]),
  (q18, [([p04], (.list [n1, n5])), ([p13], (.list [n2, n4])), ([p14], (.list [n0, n3]))]),
  (q20, [([p03], (.list [n1, n4])), ([p04], (.list [n3, n5])), ([p13], (.list [n0, n2]))]),
  (q21, [([p02], (.list [n1, n3])), ([p03], (.list [n2, n4])), ([p04], (.list [n3, n5]))])]
def F_law_thirds : List PyData → R PyData := tabF tab_law_thirds U_law_thirds
def N_law_flip : List Str := ["_law_cutting_here", "_law_cut", "_law_there", "_law_other"]
def G_law_flip : Ev → Out := (sSeq (sAsg (gN 2) (eA gTuple (aCons (eCall 2 F_law_thirds (aCons (eVar 0) (aCons (eVar 1) aNil))) aNil))) (sRet (eTup (aCons (eTup (aCons (e2 gIx (eVar 0) (eC (.int 0))) (aCons (eA gTuple (aCons (eA gSorted (aCons (e2 gAdd (eComp [3] (iS (e2 gIx (eVar 0) (eC (.int 1)))) (gN 3) (e2 gNe (eVar 3) (eVar 1)) (eVar 3)) (eLst (aCons (eVar 2) aNil))) aNil)) aNil)) aNil))) (aCons (eVar 2) aNil)))))
def U_law_flip : List PyData → R PyData := fun ds => outR (G_law_flip (startE 4 ds))
def tab_law_flip : List (PyData × List (List PyData × PyData)) := [(q1, [([p13], (.tuple [q2, p02]))]),
  (q2, [([p02], (.tuple [q1, p13]))]),
  (q3, [([p14], (.tuple [q5, p02])), ([p24], (.tuple [q4, p13]))]),
  (q5, [([p02], (.tuple [q3, p14])), ([p24], (.tuple [q7, p03]))]),
  (q4, [([p13], (.tuple [q3, p24])), ([p14], (.tuple [q6, p03]))]),
  (q6, [([p03], (.tuple [q4, p14])), ([p13], (.tuple [q7, p02]))]),
  (q7, [([p02], (.tuple [q6, p13])), ([p03], (.tuple [q5, p24]))]),
  (q8, [([p15], (.tuple [q13, p02])), ([p25], (.tuple [q10, p13])), ([p35], (.tuple [q9, p24]))]),
  (q13, [([p35], (.tuple [q14, p24])), ([p02], (.tuple [q8, p15])), ([p25], (.tuple [q16, p03]))]),
  (q10, [([p13], (.tuple [q8, p25])), ([p15], (.tuple [q15, p03])), ([p35], (.tuple [q12, p14]))]),
  (q9, [([p15], (.tuple [q14, p02])), ([p24], (.tuple [q8, p35])), ([p25], (.tuple [q11, p14]))]),
  (q14, [([p24], (.tuple [q13, p35])), ([p02], (.tuple [q9, p15])), ([p25], (.tuple [q19, p04]))]),
  (q16, [([p02], (.tuple [q15, p13])), ([p03], (.tuple [q13, p25])), ([p35], (.tuple [q21, p04]))]),
  (q15, [([p35], (.tuple [q20, p04])), ([p03], (.tuple [q10, p15])), ([p13], (.tuple [q16, p02]))]),
  (q12, [([p13], (.tuple [q11, p24])), ([p14], (.tuple [q10, p35])), ([p15], (.tuple [q18, p04]))]),
  (q11, [([p15], (.tuple [q17, p04])), ([p14], (.tuple [q9, p25])), ([p24], (.tuple [q12, p13]))]),
  (q17, [([p24], (.tuple [q18, p13])), ([p04], (.tuple [q11, p15])), ([p14], (.tuple [q19, p02]))]),
  (q19, [([p02], (.tuple [q17, p14])), ([p04], (.tuple [q14, p25])), ([p24], (.tuple [q21, p03]))]),
  (q18, [([p04], (.tuple [q12, p15])), ([p13], (.tuple [q17, p24])), ([p14], (.tuple [q20, p03]))]),
  (q20, [([p03], (.tuple [q18, p14])), ([p04], (.tuple [q15, p35])), ([p13], (.tuple [q21, p02]))]),
  (q21, [([p02], (.tuple [q20, p13])), ([p03], (.tuple [q19, p24])), ([p04], (.tuple [q16, p35]))])]
def F_law_flip : List PyData → R PyData := tabF tab_law_flip U_law_flip
def N_law_moved : List Str := ["_law_cutting_here", "_law_steps", "_law_sign", "_law_pairs", "_law_a", "_law_b", "_law_pair"]
def G_law_moved : Ev → Out := (sSeq (sAsg (gN 3) (eComp [4, 5] (iS (e2 gIx (eVar 0) (eC (.int 1)))) (gT (gsCons (gN 4) (gsCons (gN 5) gsNil))) tTrue (eTup (aCons (e2 gMod (e2 gAdd (e2 gMul (eVar 2) (eVar 4)) (eVar 1)) (e2 gIx (eVar 0) (eC (.int 0)))) (aCons (e2 gMod (e2 gAdd (e2 gMul (eVar 2) (eVar 5)) (eVar 1)) (e2 gIx (eVar 0) (eC (.int 0)))) aNil))))) (sRet (eTup (aCons (e2 gIx (eVar 0) (eC (.int 0))) (aCons (eA gTuple (aCons (eA gSorted (aCons (eComp [6] (iS (eVar 3)) (gN 6) tTrue (eTup (aCons (eA (gMM minI minJ) (aCons (eVar 6) aNil)) (aCons (eA (gMM maxI maxJ) (aCons (eVar 6) aNil)) aNil)))) aNil)) aNil)) aNil)))))
def F_law_moved : List PyData → R PyData := fun ds => outR (G_law_moved (startE 7 ds))
def N_law_known : List Str := ["_law_square", "_law_five"]
def G_law_known : Ev → Out := (sSeq (sAsg (gT (gsCons (gN 0) (gsCons (gN 1) gsNil))) (eTup (aCons (eTup (aCons (eC (.int 4)) (aCons (eTup (aCons (eTup (aCons (eC (.int 0)) (aCons (eC (.int 2)) aNil))) aNil)) aNil))) (aCons (eTup (aCons (eC (.int 5)) (aCons (eTup (aCons (eTup (aCons (eC (.int 0)) (aCons (eC (.int 2)) aNil))) (aCons (eTup (aCons (eC (.int 0)) (aCons (eC (.int 3)) aNil))) aNil))) aNil))) aNil)))) (sRet (eTup (aCons (eVar 0) (aCons (eVar 1) (aCons (eTup (aCons (eC (.int 6)) (aCons (eTup (aCons (eTup (aCons (eC (.int 0)) (aCons (eC (.int 2)) aNil))) (aCons (eTup (aCons (eC (.int 0)) (aCons (eC (.int 4)) aNil))) (aCons (eTup (aCons (eC (.int 2)) (aCons (eC (.int 4)) aNil))) aNil)))) aNil))) (aCons (eTup (aCons (eC (.int 6)) (aCons (eTup (aCons (eTup (aCons (eC (.int 0)) (aCons (eC (.int 2)) aNil))) (aCons (eTup (aCons (eC (.int 2)) (aCons (eC (.int 5)) aNil))) (aCons (eTup (aCons (eC (.int 3)) (aCons (eC (.int 5)) aNil))) aNil)))) aNil))) (aCons (eTup (aCons (eC (.int 6)) (aCons (eTup (aCons (eTup (aCons (eC (.int 1)) (aCons (eC (.int 3)) aNil))) (aCons (eTup (aCons (eC (.int 1)) (aCons (eC (.int 5)) aNil))) (aCons (eTup (aCons (eC (.int 3)) (aCons (eC (.int 5)) aNil))) aNil)))) aNil))) aNil))))))))
def F_law_known : List PyData → R PyData := fun ds => outR (G_law_known (startE 2 ds))
def N_law_bad_cuttings : List Str := ["_law_some"]
def G_law_bad_cuttings : Ev → Out := (sSeq (sAsg (gN 0) (eLst (aCons (eC .none) (aCons (eTup aNil) (aCons (eC (.int 0)) (aCons (eTup (aCons (eC (.int 4)) (aCons (eTup aNil) aNil))) (aCons (eTup (aCons (eC (.int 4)) (aCons (eTup (aCons (eTup (aCons (eC (.int 0)) (aCons (eC (.int 2)) aNil))) (aCons (eTup (aCons (eC (.int 1)) (aCons (eC (.int 3)) aNil))) aNil))) aNil))) (aCons (eTup (aCons (eC (.int 4)) (aCons (eTup (aCons (eTup (aCons (eC (.int 0)) (aCons (eC (.int 1)) aNil))) aNil)) aNil))) (aCons (eTup (aCons (eC (.int 4)) (aCons (eTup (aCons (eTup (aCons (eC (.int 2)) (aCons (eC (.int 0)) aNil))) aNil)) aNil))) (aCons (eTup (aCons (eC (.int 5)) (aCons (eTup (aCons (eTup (aCons (eC (.int 0)) (aCons (eC (.int 3)) aNil))) (aCons (eTup (aCons (eC (.int 0)) (aCons (eC (.int 2)) aNil))) aNil))) aNil))) aNil)))))))))) (sSeq (sAsg (gN 0) (e2 gAdd (eVar 0) (eLst (aCons (eLst (aCons (eC (.int 4)) (aCons (eTup (aCons (eTup (aCons (eC (.int 0)) (aCons (eC (.int 2)) aNil))) aNil)) aNil))) (aCons (eTup (aCons (eC (.bool true)) (aCons (eTup aNil) aNil))) (aCons (eTup (aCons (eC (.int 2)) (aCons (eTup aNil) aNil))) (aCons (eTup (aCons (eC (.int 41)) (aCons (e2 gRepT (eTup (aCons (eTup (aCons (eC (.int 0)) (aCons (eC (.int 2)) aNil))) aNil)) (eC (.int 38))) aNil))) (aCons (eTup (aCons (eC (.int 4)) (aCons (eLst (aCons (eTup (aCons (eC (.int 0)) (aCons (eC (.int 2)) aNil))) aNil)) aNil))) (aCons (eTup (aCons (eC (.int 4)) (aCons (eTup (aCons (eTup (aCons (eC (.int 0)) (aCons (eC (.bool true)) aNil))) aNil)) aNil))) aNil))))))))) (sRet (e2 gAdd (eVar 0) (eLst (aCons (eTup (aCons (eC (.int 5)) (aCons (eTup (aCons (eTup (aCons (eC (.int 0)) (aCons (eC (.int 2)) aNil))) (aCons (eTup (aCons (eC (.int 1)) (aCons (eC (.int 3)) aNil))) aNil))) aNil))) (aCons (eC (.str "4")) aNil)))))))
def F_law_bad_cuttings : List PyData → R PyData := fun ds => outR (G_law_bad_cuttings (startE 1 ds))
def N_law_of_one : List Str := ["_law_cutting_here", "_law_one", "_law_other", "_law_rest", "_law_corner"]
def G_law_of_one : Ev → Out := (sSeq (sAsg (gN 3) (eComp [4] (iS (eVar 2)) (gN 4) (e2 (gIn true) (eVar 4) (eVar 1)) (eVar 4))) (sRet (eAnd (e2 gEq (eA gLen (aCons (eVar 3) aNil)) (eC (.int 1))) (e2 (gIn false) (e2 gIx (eVar 3) (eC (.int 0))) (eCall 2 F_law_thirds (aCons (eVar 0) (aCons (eVar 1) aNil)))))))
def U_law_of_one : List PyData → R PyData := fun ds => outR (G_law_of_one (startE 5 ds))
def tab_law_of_one : List (PyData × List (List PyData × PyData)) := [(q3, [([p14, p24], (.bool true))]),
  (q5, [([p02, p24], (.bool true))]),
  (q4, [([p13, p14], (.bool true))]),
  (q6, [([p03, p13], (.bool true))]),
  (q7, [([p02, p03], (.bool true))]),
  (q8, [([p15, p25], (.bool true)), ([p15, p35], (.bool false)), ([p25, p35], (.bool true))]),
  (q13, [([p02, p25], (.bool true)), ([p02, p35], (.bool false)), ([p25, p35], (.bool true))]),
  (q10, [([p13, p15], (.bool true)), ([p13, p35], (.bool true)), ([p15, p35], (.bool true))]),
  (q9, [([p15, p24], (.bool false)), ([p15, p25], (.bool true)), ([p24, p25], (.bool true))]),
  (q14, [([p02, p24], (.bool false)), ([p02, p25], (.bool true)), ([p24, p25], (.bool true))]),
  (q16, [([p02, p03], (.bool true)), ([p02, p35], (.bool false)), ([p03, p35], (.bool true))]),
  (q15, [([p03, p13], (.bool true)), ([p03, p35], (.bool true)), ([p13, p35], (.bool false))]),
  (q12, [([p13, p14], (.bool true)), ([p13, p15], (.bool false)), ([p14, p15], (.bool true))]),
  (q11, [([p14, p15], (.bool true)), ([p14, p24], (.bool true)), ([p15, p24], (.bool false))]),
  (q19, [([p02, p04], (.bool true)), ([p02, p24], (.bool true)), ([p04, p24], (.bool true))]),
  (q17, [([p04, p14], (.bool true)), ([p04, p24], (.bool false)), ([p14, p24], (.bool true))]),
  (q18, [([p04, p13], (.bool false)), ([p04, p14], (.bool true)), ([p13, p14], (.bool true))]),
  (q20, [([p03, p04], (.bool true)), ([p03, p13], (.bool true)), ([p04, p13], (.bool false))]),
  (q21, [([p02, p03], (.bool true)), ([p02, p04], (.bool false)), ([p03, p04], (.bool true))])]
def F_law_of_one : List PyData → R PyData := tabF tab_law_of_one U_law_of_one
def N_law_rounds : List Str := ["_law_cutting_here", "_law_rows", "_law_cut", "_law_later", "_law_taken", "_law_there", "_law_one"]
def G_law_rounds : Ev → Out := (sSeq (sAsg (gN 1) (eLst (aCons (eTup (aCons (eTup aNil) (aCons (eVar 0) aNil))) aNil))) (sSeq (sFor (iS (e2 gIx (eVar 0) (eC (.int 1)))) (gN 2) (sSeq (sSetC true 3 (eLst aNil)) (sSeq (sFor (iS (eVar 1)) (gT (gsCons (gN 4) (gsCons (gN 5) gsNil))) (sIf (e2 gEq (eComp [6] (iS (eVar 4)) (gN 6) (eCall 3 F_law_of_one (aCons (eVar 0) (aCons (eVar 6) (aCons (eVar 2) aNil)))) (eVar 6)) (eLst aNil)) (sApp 3 (eTup (aCons (e2 gAdd (eVar 4) (eTup (aCons (eVar 2) aNil))) (aCons (e2 gIx (eCall 2 F_law_flip (aCons (eVar 5) (aCons (eVar 2) aNil))) (eC (.int 0))) aNil)))) sNil)) (sFrz 3 (sAsg (gN 1) (e2 gAdd (eVar 1) (eVar 3))))))) (sRet (eComp [4, 5] (iS (eVar 1)) (gT (gsCons (gN 4) (gsCons (gN 5) gsNil))) (e2 gNe (eVar 4) (eTup aNil)) (eVar 5)))))
def U_law_rounds : List PyData → R PyData := fun ds => outR (G_law_rounds (startE 7 ds))
def tab_law_rounds : List (PyData × List (List PyData × PyData)) := [(q1, [([], (.list [q2]))]),
  (q2, [([], (.list [q1]))]),
  (q3, [([], (.list [q5, q4]))]),
  (q5, [([], (.list [q3, q7]))]),
  (q4, [([], (.list [q3, q6]))]),
  (q6, [([], (.list [q4, q7]))]),
  (q7, [([], (.list [q6, q5]))]),
  (q8, [([], (.list [q13, q10, q9, q14]))]),
  (q13, [([], (.list [q8, q16, q14, q9]))]),
  (q10, [([], (.list [q8, q15, q12]))]),
  (q9, [([], (.list [q14, q8, q13, q11]))]),
  (q14, [([], (.list [q9, q13, q8, q19]))]),
  (q16, [([], (.list [q15, q13, q21, q20]))]),
  (q15, [([], (.list [q10, q16, q20, q21]))]),
  (q12, [([], (.list [q11, q10, q18, q17]))]),
  (q11, [([], (.list [q9, q17, q12, q18]))]),
  (q19, [([], (.list [q17, q14, q21]))]),
  (q17, [([], (.list [q11, q19, q18, q12]))]),
  (q18, [([], (.list [q12, q17, q11, q20]))]),
  (q20, [([], (.list [q18, q15, q21, q16]))]),
  (q21, [([], (.list [q20, q19, q16, q15]))])]
def F_law_rounds : List PyData → R PyData := tabF tab_law_rounds U_law_rounds
def N_law_few : List Str := ["_law_one", "_law_other", "_law_met", "_law_line", "_law_far", "_law_later", "_law_here", "_law_there"]
def G_law_few : Ev → Out := (sSeq (sPar3 true false false 2 3 4 (eLst (aCons (eVar 0) aNil)) (eLst (aCons (eVar 0) aNil)) (eC (.int 0))) (sSeq (sWhile 12 (eInO true 2 (eVar 1)) (sSeq (sPar false true 4 5 (e2 gAdd (eVar 4) (eC (.int 1))) (eLst aNil)) (sSeq (sFor (iS (eVar 3)) (gN 6) (sFor (iS (eCall 1 F_law_rounds (aCons (eVar 6) aNil))) (gN 7) (sIf (eInO true 2 (eVar 7)) (sSeq (sApp 2 (eVar 7)) (sApp 5 (eVar 7))) sNil))) (sFrz 5 (sAsg (gN 3) (eVar 5)))))) (sRet (eVar 4))))
def U_law_few : List PyData → R PyData := fun ds => outR (G_law_few (startE 8 ds))
def tab_law_few : List (PyData × List (List PyData × PyData)) := [(q0, [([q0], n0)]),
  (q1, [([q1], n0), ([q2], n1)]),
  (q2, [([q1], n1), ([q2], n0)]),
  (q3, [([q3], n0), ([q4], n1), ([q5], n1), ([q6], n2), ([q7], n2)]),
  (q4, [([q3], n1), ([q4], n0), ([q5], n2), ([q6], n1), ([q7], n2)]),
  (q5, [([q3], n1), ([q4], n2), ([q5], n0), ([q6], n2), ([q7], n1)]),
  (q6, [([q3], n2), ([q4], n1), ([q5], n2), ([q6], n0), ([q7], n1)]),
  (q7, [([q3], n2), ([q4], n2), ([q5], n1), ([q6], n1), ([q7], n0)]),
  (q8, [([q8], n0), ([q9], n1), ([q10], n1), ([q11], n2), ([q12], n2), ([q13], n1), ([q14], n1), ([q15], n2), ([q16], n2), ([q17], n3), ([q18], n3), ([q19], n2), ([q20], n3), ([q21], n3)]),
  (q9, [([q8], n1), ([q9], n0), ([q10], n2), ([q11], n1), ([q12], n2), ([q13], n1), ([q14], n1), ([q15], n3), ([q16], n2), ([q17], n2), ([q18], n2), ([q19], n2), ([q20], n3), ([q21], n3)]),
  (q10, [([q8], n1), ([q9], n2), ([q10], n0), ([q11], n2), ([q12], n1), ([q13], n2), ([q14], n2), ([q15], n1), ([q16], n2), ([q17], n2), ([q18], n2), ([q19], n3), ([q20], n2), ([q21], n2)]),
  (q11, [([q8], n2), ([q9], n1), ([q10], n2), ([q11], n0), ([q12], n1), ([q13], n2), ([q14], n2), ([q15], n3), ([q16], n3), ([q17], n1), ([q18], n1), ([q19], n2), ([q20], n2), ([q21], n3)]),
  (q12, [([q8], n2), ([q9], n2), ([q10], n1), ([q11], n1), ([q12], n0), ([q13], n3), ([q14], n3), ([q15], n2), ([q16], n3), ([q17], n1), ([q18], n1), ([q19], n2), ([q20], n2), ([q21], n3)]),
  (q13, [([q8], n1), ([q9], n1), ([q10], n2), ([q11], n2), ([q12], n3), ([q13], n0), ([q14], n1), ([q15], n2), ([q16], n1), ([q17], n3), ([q18], n3), ([q19], n2), ([q20], n2), ([q21], n2)]),
  (q14, [([q8], n1), ([q9], n1), ([q10], n2), ([q11], n2), ([q12], n3), ([q13], n1), ([q14], n0), ([q15], n3), ([q16], n2), ([q17], n2), ([q18], n3), ([q19], n1), ([q20], n3), ([q21], n2)]),
  (q15, [([q8], n2), ([q9], n3), ([q10], n1), ([q11], n3), ([q12], n2), ([q13], n2), ([q14], n3), ([q15], n0), ([q16], n1), ([q17], n3), ([q18], n2), ([q19], n2), ([q20], n1), ([q21], n1)]),
  (q16, [([q8], n2), ([q9], n2), ([q10], n2), ([q11], n3), ([q12], n3), ([q13], n1), ([q14], n2), ([q15], n1), ([q16], n0), ([q17], n3), ([q18], n2), ([q19], n2), ([q20], n1), ([q21], n1)]),
  (q17, [([q8], n3), ([q9], n2), ([q10], n2), ([q11], n1), ([q12], n1), ([q13], n3), ([q14], n2), ([q15], n3), ([q16], n3), ([q17], n0), ([q18], n1), ([q19], n1), ([q20], n2), ([q21], n2)]),
  (q18, [([q8], n3), ([q9], n2), ([q10], n2), ([q11], n1), ([q12], n1), ([q13], n3), ([q14], n3), ([q15], n2), ([q16], n2), ([q17], n1), ([q18], n0), ([q19], n2), ([q20], n1), ([q21], n2)]),
  (q19, [([q8], n2), ([q9], n2), ([q10], n3), ([q11], n2), ([q12], n2), ([q13], n2), ([q14], n1), ([q15], n2), ([q16], n2), ([q17], n1), ([q18], n2), ([q19], n0), ([q20], n2), ([q21], n1)]),
  (q20, [([q8], n3), ([q9], n3), ([q10], n2), ([q11], n2), ([q12], n2), ([q13], n2), ([q14], n3), ([q15], n1), ([q16], n1), ([q17], n2), ([q18], n1), ([q19], n2), ([q20], n0), ([q21], n1)]),
  (q21, [([q8], n3), ([q9], n3), ([q10], n2), ([q11], n3), ([q12], n3), ([q13], n2), ([q14], n2), ([q15], n1), ([q16], n1), ([q17], n2), ([q18], n2), ([q19], n1), ([q20], n1), ([q21], n0)])]
def F_law_few : List PyData → R PyData := tabF tab_law_few U_law_few
/-! the two defs of the law that draw once -/
def agA : Ev → Out := (sSeq (sPar false false 3 4 (eCall 2 Ffewest_exchanges (aCons (eVar 1) (aCons (eVar 2) aNil))) (eCall 2 Fleast_way (aCons (eVar 1) (aCons (eVar 2) aNil)))) (sSeq (sIf (eOr (e2 gNe (eA gLen (aCons (eVar 4) aNil)) (eVar 3)) (eOr (e2 gNe (eCall 2 Fbehind_way (aCons (eVar 1) (aCons (eVar 4) aNil))) (eVar 2)) (e2 gNotN (eCall 3 Fis_least_way (aCons (eVar 2) (aCons (eVar 1) (aCons (eCall 2 Fway_back (aCons (eVar 1) (aCons (eVar 4) aNil))) aNil)))) (eC (.bool true))))) (sRet (eC (.bool false))) sNil) (sSeq (sIf (e2 gNe (eCall 2 Fcount_least_ways (aCons (eVar 2) (aCons (eVar 1) aNil))) (eCall 2 Fcount_least_ways (aCons (eVar 1) (aCons (eVar 2) aNil)))) (sRet (eC (.bool false))) sNil) (sSeq (sIf (e2 gNe (eCall 2 Fon_least_ways (aCons (eVar 2) (aCons (eVar 1) aNil))) (eCall 2 Fon_least_ways (aCons (eVar 1) (aCons (eVar 2) aNil)))) (sRet (eC (.bool false))) sNil) (sIf (eOr (e2 gNe (eCall 2 Ffewest_exchanges (aCons (eCall 1 Fmirrored (aCons (eVar 1) aNil)) (aCons (eCall 1 Fmirrored (aCons (eVar 2) aNil)) aNil))) (eVar 3)) (e2 (gInt leI) (eA gLen (aCons (eCall 1 Flayers (aCons (eVar 1) aNil)) aNil)) (eVar 3))) (sRet (eC (.bool false))) sNil)))))
def agC1 : Ev → R PyData := (e2 gNe (eCall 2 Ffar_from_fan (aCons (eVar 1) (aCons (eC (.int 0)) aNil))) (eA gLen (aCons (eCall 1 Ffan_way (aCons (eVar 1) aNil)) aNil)))
def agC2 (dd : Int) : Ev → R PyData := (e2 (gInt gtI) (eVar 3) (eA gLen (aCons (eCall 3 Fway_by_fan (aCons (eVar 1) (aCons (eVar 2) (aCons (eC (.int dd)) aNil)))) aNil)))
def agB : Ev → Out := (sSeq (sIf (e2 (gInt gtI) (eVar 3) (eC (.int 0))) (sSeq (sAsg (gN 5) (eCall 2 Fexchanged (aCons (eVar 1) (aCons (e2 gIx (eVar 4) (eC (.int 0))) aNil)))) (sSeq (sIf (eOr (e2 gNe (eCall 2 Ffewest_exchanges (aCons (eVar 5) (aCons (eVar 2) aNil))) (e2 gSub (eVar 3) (eC (.int 1)))) (e2 gNe (eCall 2 Fcomes_for (aCons (eVar 5) (aCons (eCall 2 Fcomes_for (aCons (eVar 1) (aCons (e2 gIx (eVar 4) (eC (.int 0))) aNil))) aNil))) (e2 gIx (eVar 4) (eC (.int 0))))) (sRet (eC (.bool false))) sNil) (sIf (eOr (e2 gNe (eCall 2 Fexchanged_at_once (aCons (eVar 1) (aCons (e1 (gSl none (some 1)) (eVar 4)) aNil))) (eVar 5)) (e2 (gIn false) (e2 gIx (eVar 4) (eC (.int 0))) (eCall 2 Fshared_cuts (aCons (eVar 1) (aCons (eVar 2) aNil))))) (sRet (eC (.bool false))) sNil))) sNil) (sRet (eC (.bool true))))
def rrA : Ev → Out := (sSeq (sAsg (gN 3) (eCall 2 Ffewest_rounds (aCons (eVar 1) (aCons (eVar 2) aNil)))) (sIf (eOr (eNot (eCall 2 F_law_twins (aCons (eVar 3) (aCons (eCall 2 F_law_few (aCons (eVar 1) (aCons (eVar 2) aNil))) aNil)))) (e2 gNe (eCall 2 Ffewest_rounds (aCons (eVar 2) (aCons (eVar 1) aNil))) (eVar 3))) (sRet (eC (.bool false))) sNil))
def rrB : Ev → Out := (sSeq (sIf (eOr (e2 gNe (eCall 2 Ffewest_rounds (aCons (eCall 2 Fturned (aCons (eVar 1) (aCons (eVar 4) aNil))) (aCons (eCall 2 Fturned (aCons (eVar 2) (aCons (eVar 4) aNil))) aNil))) (eVar 3)) (e2 (gInt gtI) (eVar 3) (eCall 2 Ffewest_exchanges (aCons (eVar 1) (aCons (eVar 2) aNil))))) (sRet (eC (.bool false))) sNil) (sRet (eOr (e2 gEq (eVar 1) (eVar 2)) (eAnd (e2 (gInt leI) (eCall 2 Ffewest_exchanges (aCons (eVar 1) (aCons (eVar 2) aNil))) (e2 gMul (eVar 3) (eA (gMM maxI maxJ) (aCons (eC (.int 1)) (aCons (e2 gDiv (e2 gSub (e2 gIx (eVar 1) (eC (.int 0))) (eC (.int 2))) (eC (.int 2))) aNil))))) (e2 (gInt gtI) (eCall 1 Fmost_at_once (aCons (eVar 1) aNil)) (eC (.int 0)))))))
end PD
/-! text YC0 -/
set_option maxHeartbeats 0
namespace PD
open PySem.Spec PySem PyProof.Rows L2
theorem kneed_cutting : tabOk tabneed_cutting Uneed_cutting = true := by decide +kernel
theorem knear_of : tabOk tabnear_of Unear_of = true := by decide +kernel
theorem kthirds_of : tabOk tabthirds_of Uthirds_of = true := by decide +kernel
theorem kcut_for : tabOk tabcut_for Ucut_for = true := by decide +kernel
theorem kwith_cut : tabOk tabwith_cut Uwith_cut = true := by decide +kernel
theorem kswapped_at : tabOk tabswapped_at Uswapped_at = true := by decide +kernel
theorem knexts_of : tabOk tabnexts_of Unexts_of = true := by decide +kernel
theorem kneed_cut : tabOk tabneed_cut Uneed_cut = true := by decide +kernel
theorem kpiece_within : tabOk tabpiece_within Upiece_within = true := by decide +kernel
theorem kof_one_piece : tabOk tabof_one_piece Uof_one_piece = true := by decide +kernel
theorem kall_loose : tabOk taball_loose Uall_loose = true := by decide +kernel
theorem kround_behind : tabOk tabround_behind Uround_behind = true := by decide +kernel
theorem ksteps_to_fan : tabOk tabsteps_to_fan Usteps_to_fan = true := by decide +kernel
theorem kfan_way : tabOk tabfan_way Ufan_way = true := by decide +kernel
theorem kfar_from_fan : tabOk tabfar_from_fan Ufar_from_fan = true := by decide +kernel
theorem kmirrored : tabOk tabmirrored Umirrored = true := by decide +kernel
theorem kturned : tabOk tabturned Uturned = true := by decide +kernel
theorem kexchanged : tabOk tabexchanged Uexchanged = true := by decide +kernel
theorem kcomes_for : tabOk tabcomes_for Ucomes_for = true := by decide +kernel
theorem kexchanged_at_once : tabOk tabexchanged_at_once Uexchanged_at_once = true := by decide +kernel
theorem kneed_two : tabOk tabneed_two Uneed_two = true := by decide +kernel
end PD
/-! text YC1 -/
set_option maxHeartbeats 0
namespace PD
open PySem.Spec PySem PyProof.Rows L2
theorem kfields_of : tabOk tabfields_of Ufields_of = true := by decide +kernel
theorem kpairs_within : tabOk tabpairs_within Upairs_within = true := by decide +kernel
theorem kneed_fields : tabOk tabneed_fields Uneed_fields = true := by decide +kernel
theorem kreach_from : tabOk tabreach_from Ureach_from = true := by decide +kernel
theorem kshared_cuts : tabOk tabshared_cuts Ushared_cuts = true := by decide +kernel
theorem klayers : tabOk tablayers Ulayers = true := by decide +kernel
theorem kmost_at_once : tabOk tabmost_at_once Umost_at_once = true := by decide +kernel
end PD
/-! text YC2 -/
set_option maxHeartbeats 0
namespace PD
open PySem.Spec PySem PyProof.Rows L2
theorem kway_in : tabOk tabway_in Uway_in = true := by decide +kernel
theorem kway_steps : tabOk tabway_steps Uway_steps = true := by decide +kernel
theorem kneed_way : tabOk tabneed_way Uneed_way = true := by decide +kernel
theorem kbehind_way : tabOk tabbehind_way Ubehind_way = true := by decide +kernel
theorem kway_back : tabOk tabway_back Uway_back = true := by decide +kernel
end PD
/-! text YC3 -/
set_option maxHeartbeats 0
namespace PD
open PySem.Spec PySem PyProof.Rows L2
theorem krounds_between : tabOk tabrounds_between Urounds_between = true := by decide +kernel
theorem kfewest_rounds : tabOk tabfewest_rounds Ufewest_rounds = true := by decide +kernel
theorem k_law_thirds : tabOk tab_law_thirds U_law_thirds = true := by decide +kernel
theorem k_law_flip : tabOk tab_law_flip U_law_flip = true := by decide +kernel
theorem k_law_of_one : tabOk tab_law_of_one U_law_of_one = true := by decide +kernel
theorem k_law_rounds : tabOk tab_law_rounds U_law_rounds = true := by decide +kernel
theorem k_law_few : tabOk tab_law_few U_law_few = true := by decide +kernel
end PD
/-! text YC4 -/
set_option maxHeartbeats 0
namespace PD
open PySem.Spec PySem PyProof.Rows L2
theorem kfewest_exchanges : tabOk tabfewest_exchanges Ufewest_exchanges = true := by decide +kernel
theorem kleast_way : tabOk tableast_way Uleast_way = true := by decide +kernel
theorem kis_least_way : tabOk tabis_least_way Uis_least_way = true := by decide +kernel
theorem kcount_least_ways : tabOk tabcount_least_ways Ucount_least_ways = true := by decide +kernel
theorem kon_least_ways : tabOk tabon_least_ways Uon_least_ways = true := by decide +kernel
end PD
/-! text X1 -/
set_option maxHeartbeats 0
namespace PD
open PySem.Spec PySem PyProof.Rows L2
section
variable {ca : Nat → Addr} {P : Program} {w : World} {K : PySem.W.Frag} {mg : Str → Option Value} {base : Heap} {f : Addr} {fd : FuncData}
theorem scis_whole : FnScope Nis_whole ["value", "low", "high"] (defScope (top 14)) := ⟨rfl, rfl, rfl, by decide +kernel, rfl, by decide +kernel, by decide +kernel⟩
theorem okis_whole (B : Bi mg)  (FN : FnP K "is_whole" (top 14) f fd) (gm : mg "is_whole" = some (.ref f)) : Has ca P w K mg base "is_whole" 3 1 Fis_whole := by
  refine has_mk (ps := ["value", "low", "high"]) FN scis_whole Gis_whole gm (fun kV doc pm an cdv ct us hl => match us, hl with | [_, _, _], _ => rfl) fun cdv A outer s H E hr => ?_
  have hu := units65 hr
  have hu64 : (A.deeper (envOfC "is_whole" (defScope (top 14)) s.heap.objs.size f cdv)).units + 64 < cLine := by omega
  have hu0 : (A.deeper (envOfC "is_whole" (defScope (top 14)) s.heap.objs.size f cdv)).units < cLine := by omega
  have nd := scis_whole.nd
  have hc : (cxOf (L2N.CX P w) P w K mg base Nis_whole "is_whole" (defScope (top 14)) f cdv A outer s H E).calm = true := rfl
  have tk : L2N.Takes (cxOf (L2N.CX P w) P w K mg base Nis_whole "is_whole" (defScope (top 14)) f cdv A outer s H E) (fun cls d _ H => E cls d H) := L2N.takes_of rfl rfl rfl rfl
  have px : Passes (L2N.CX P w) (cxOf (L2N.CX P w) P w K mg base Nis_whole "is_whole" (defScope (top 14)) f cdv A outer s H E) E := L2N.passes_call tk fun _ _ _ _ h => h
  exact (okSs_one (okS_ret (okE_and (okE_isi .int rfl B.isinstance rfl B.int PyProof.Rows.boot_int (okE_var 0)) (okE_and (okE_not (okE_isi .bool rfl B.isinstance rfl B.bool PyProof.Rows.boot_bool (okE_var 0))) (okE_one (okE_chain xLe xLe gv_int gv_int (okE_var 1) (okE_var 0) (okE_var 2)))))))
theorem scare_next : FnScope Nare_next ["sides", "one", "other"] (defScope (top 15)) := ⟨rfl, rfl, rfl, by decide +kernel, rfl, by decide +kernel, by decide +kernel⟩
theorem okare_next (B : Bi mg)  (FN : FnP K "are_next" (top 15) f fd) (gm : mg "are_next" = some (.ref f)) : Has ca P w K mg base "are_next" 3 1 Fare_next := by
  refine has_mk (ps := ["sides", "one", "other"]) FN scare_next Gare_next gm (fun kV doc pm an cdv ct us hl => match us, hl with | [_, _, _], _ => rfl) fun cdv A outer s H E hr => ?_
  have hu := units65 hr
  have hu64 : (A.deeper (envOfC "are_next" (defScope (top 15)) s.heap.objs.size f cdv)).units + 64 < cLine := by omega
  have hu0 : (A.deeper (envOfC "are_next" (defScope (top 15)) s.heap.objs.size f cdv)).units < cLine := by omega
  have nd := scare_next.nd
  have hc : (cxOf (L2N.CX P w) P w K mg base Nare_next "are_next" (defScope (top 15)) f cdv A outer s H E).calm = true := rfl
  have tk : L2N.Takes (cxOf (L2N.CX P w) P w K mg base Nare_next "are_next" (defScope (top 15)) f cdv A outer s H E) (fun cls d _ H => E cls d H) := L2N.takes_of rfl rfl rfl rfl
  have px : Passes (L2N.CX P w) (cxOf (L2N.CX P w) P w K mg base Nare_next "are_next" (defScope (top 15)) f cdv A outer s H E) E := L2N.passes_call tk fun _ _ _ _ h => h
  exact (okSs_one (okS_ret (okE_cmp (op_inU hu) gv_in (okE_op op_modN gv_mod (okE_op op_sub gv_sub (okE_var 1) (okE_var 2)) (okE_var 0)) (okE_tup (okA_cons okE_int (okA_cons (okE_op op_sub gv_sub (okE_var 0) okE_int) okA_nil))))))
theorem scfits_cut : FnScope Nfits_cut ["sides", "value"] (defScope (top 16)) := ⟨rfl, rfl, rfl, by decide +kernel, rfl, by decide +kernel, by decide +kernel⟩
theorem okfits_cut (B : Bi mg) (hare_next : Has ca P w K mg base "are_next" 3 1 Fare_next) (his_whole : Has ca P w K mg base "is_whole" 3 1 Fis_whole) (FN : FnP K "fits_cut" (top 16) f fd) (gm : mg "fits_cut" = some (.ref f)) : Has ca P w K mg base "fits_cut" 2 2 Ffits_cut := by
  refine has_mk (ps := ["sides", "value"]) FN scfits_cut Gfits_cut gm (fun kV doc pm an cdv ct us hl => match us, hl with | [_, _], _ => rfl) fun cdv A outer s H E hr => ?_
  have hu := units65 hr
  have hu64 : (A.deeper (envOfC "fits_cut" (defScope (top 16)) s.heap.objs.size f cdv)).units + 64 < cLine := by omega
  have hu0 : (A.deeper (envOfC "fits_cut" (defScope (top 16)) s.heap.objs.size f cdv)).units < cLine := by omega
  have nd := scfits_cut.nd
  have hc : (cxOf (L2N.CX P w) P w K mg base Nfits_cut "fits_cut" (defScope (top 16)) f cdv A outer s H E).calm = true := rfl
  have tk : L2N.Takes (cxOf (L2N.CX P w) P w K mg base Nfits_cut "fits_cut" (defScope (top 16)) f cdv A outer s H E) (fun cls d _ H => E cls d H) := L2N.takes_of rfl rfl rfl rfl
  have px : Passes (L2N.CX P w) (cxOf (L2N.CX P w) P w K mg base Nfits_cut "fits_cut" (defScope (top 16)) f cdv A outer s H E) E := L2N.passes_call tk fun _ _ _ _ h => h
  exact (okSs_cons (okS_if (OkW.t (okW_or (okT_not (okT_val (okE_isi .tuple rfl B.isinstance rfl B.tuple PyProof.Rows.boot_tuple (okE_var 1)))) (okW_or (okT_cmp (op_neD hu64) gv_ne (xLen B (okA_cons (okE_var 1) okA_nil)) okE_int) (okW_or1 (okT_not (okT_val (xAll B hc (okA_cons (okE_comp hc nd (okI_seq (okE_var 1)) (blkOk_by (own := [("one", 2)]) (by kernel_rfl)) (by decide) (fun s H C cl fp => (okG_name 2 nd)) (fun s H C cl fp => okTs_nil) (fun s H C cl fp => (xCall his_whole hr passN (okA_cons (okE_var 2) (okA_cons okE_int (okA_cons (okE_op op_sub gv_sub (okE_var 0) okE_int) okA_nil)))))) okA_nil)))))))) (okSs_one (okS_ret okE_bl)) okSs_nil) (okSs_one (okS_ret (okE_and (okE_cmp (op_ltU hu0) gv_lt (okE_ix hu64 (okE_var 1) okE_int) (okE_ix hu64 (okE_var 1) okE_int)) (okE_one (okE_not (xCall hare_next hr px (okA_cons (okE_var 0) (okA_cons (okE_ix hu64 (okE_var 1) okE_int) (okA_cons (okE_ix hu64 (okE_var 1) okE_int) okA_nil))))))))))
theorem sccross : FnScope Ncross ["one", "other"] (defScope (top 17)) := ⟨rfl, rfl, rfl, by decide +kernel, rfl, by decide +kernel, by decide +kernel⟩
theorem okcross (B : Bi mg)  (FN : FnP K "cross" (top 17) f fd) (gm : mg "cross" = some (.ref f)) : Has ca P w K mg base "cross" 2 1 Fcross := by
  refine has_mk (ps := ["one", "other"]) FN sccross Gcross gm (fun kV doc pm an cdv ct us hl => match us, hl with | [_, _], _ => rfl) fun cdv A outer s H E hr => ?_
  have hu := units65 hr
  have hu64 : (A.deeper (envOfC "cross" (defScope (top 17)) s.heap.objs.size f cdv)).units + 64 < cLine := by omega
  have hu0 : (A.deeper (envOfC "cross" (defScope (top 17)) s.heap.objs.size f cdv)).units < cLine := by omega
  have nd := sccross.nd
  have hc : (cxOf (L2N.CX P w) P w K mg base Ncross "cross" (defScope (top 17)) f cdv A outer s H E).calm = true := rfl
  have tk : L2N.Takes (cxOf (L2N.CX P w) P w K mg base Ncross "cross" (defScope (top 17)) f cdv A outer s H E) (fun cls d _ H => E cls d H) := L2N.takes_of rfl rfl rfl rfl
  have px : Passes (L2N.CX P w) (cxOf (L2N.CX P w) P w K mg base Ncross "cross" (defScope (top 17)) f cdv A outer s H E) E := L2N.passes_call tk fun _ _ _ _ h => h
  exact (okSs_one (okS_ret (okE_or (okE_chain3 (op_ltU hu0) gv_lt (okE_ix hu64 (okE_var 0) okE_int) (okE_ix hu64 (okE_var 1) okE_int) (okE_ix hu64 (okE_var 0) okE_int) (okE_ix hu64 (okE_var 1) okE_int)) (okE_one (okE_chain3 (op_ltU hu0) gv_lt (okE_ix hu64 (okE_var 1) okE_int) (okE_ix hu64 (okE_var 0) okE_int) (okE_ix hu64 (okE_var 1) okE_int) (okE_ix hu64 (okE_var 0) okE_int))))))
theorem scrises : FnScope Nrises ["row"] (defScope (top 18)) := ⟨rfl, rfl, rfl, by decide +kernel, rfl, by decide +kernel, by decide +kernel⟩
theorem okrises (B : Bi mg)  (FN : FnP K "rises" (top 18) f fd) (gm : mg "rises" = some (.ref f)) : Has ca P w K mg base "rises" 1 1 Frises := by
  refine has_mk (ps := ["row"]) FN scrises Grises gm (fun kV doc pm an cdv ct us hl => match us, hl with | [_], _ => rfl) fun cdv A outer s H E hr => ?_
  have hu := units65 hr
  have hu64 : (A.deeper (envOfC "rises" (defScope (top 18)) s.heap.objs.size f cdv)).units + 64 < cLine := by omega
  have hu0 : (A.deeper (envOfC "rises" (defScope (top 18)) s.heap.objs.size f cdv)).units < cLine := by omega
  have nd := scrises.nd
  have hc : (cxOf (L2N.CX P w) P w K mg base Nrises "rises" (defScope (top 18)) f cdv A outer s H E).calm = true := rfl
  have tk : L2N.Takes (cxOf (L2N.CX P w) P w K mg base Nrises "rises" (defScope (top 18)) f cdv A outer s H E) (fun cls d _ H => E cls d H) := L2N.takes_of rfl rfl rfl rfl
  have px : Passes (L2N.CX P w) (cxOf (L2N.CX P w) P w K mg base Nrises "rises" (defScope (top 18)) f cdv A outer s H E) E := L2N.passes_call tk fun _ _ _ _ h => h
  exact (okSs_one (okS_ret (xAll B hc (okA_cons (okE_comp hc nd (okI_zip rfl B.zip (okE_var 0) (okE_from (okE_var 0))) (blkOk_by (own := [("one", 1), ("other", 2)]) (by kernel_rfl)) (by decide) (fun s H C cl fp => (okG_tup (by rfl) (okGs_cons (okG_name 1 nd) (okGs_cons (okG_name 2 nd) okGs_nil)) (takes_cons (takes_cons takes_nil)))) (fun s H C cl fp => okTs_nil) (fun s H C cl fp => (okE_cmp (op_ltU hu0) gv_lt (okE_var 1) (okE_var 2)))) okA_nil))))
theorem scfits_cutting : FnScope Nfits_cutting ["value"] (defScope (top 19)) := ⟨rfl, rfl, rfl, by decide +kernel, rfl, by decide +kernel, by decide +kernel⟩
theorem okfits_cutting (B : Bi mg) (hcross : Has ca P w K mg base "cross" 2 1 Fcross) (hfits_cut : Has ca P w K mg base "fits_cut" 2 2 Ffits_cut) (his_whole : Has ca P w K mg base "is_whole" 3 1 Fis_whole) (hrises : Has ca P w K mg base "rises" 1 1 Frises) (cMOST : ∃ t, mg "MOST" = some (.int 40 t)) (FN : FnP K "fits_cutting" (top 19) f fd) (gm : mg "fits_cutting" = some (.ref f)) : Has ca P w K mg base "fits_cutting" 1 3 Ffits_cutting := by
  obtain ⟨tMOST, eMOST⟩ := cMOST
  refine has_mk (ps := ["value"]) FN scfits_cutting Gfits_cutting gm (fun kV doc pm an cdv ct us hl => match us, hl with | [_], _ => rfl) fun cdv A outer s H E hr => ?_
  have hu := units65 hr
  have hu64 : (A.deeper (envOfC "fits_cutting" (defScope (top 19)) s.heap.objs.size f cdv)).units + 64 < cLine := by omega
  have hu0 : (A.deeper (envOfC "fits_cutting" (defScope (top 19)) s.heap.objs.size f cdv)).units < cLine := by omega
  have nd := scfits_cutting.nd
  have hc : (cxOf (L2N.CX P w) P w K mg base Nfits_cutting "fits_cutting" (defScope (top 19)) f cdv A outer s H E).calm = true := rfl
  have tk : L2N.Takes (cxOf (L2N.CX P w) P w K mg base Nfits_cutting "fits_cutting" (defScope (top 19)) f cdv A outer s H E) (fun cls d _ H => E cls d H) := L2N.takes_of rfl rfl rfl rfl
  have px : Passes (L2N.CX P w) (cxOf (L2N.CX P w) P w K mg base Nfits_cutting "fits_cutting" (defScope (top 19)) f cdv A outer s H E) E := L2N.passes_call tk fun _ _ _ _ h => h
  exact (okSs_cons (okS_if (OkW.t (okW_or (okT_not (okT_val (okE_isi .tuple rfl B.isinstance rfl B.tuple PyProof.Rows.boot_tuple (okE_var 0)))) (okW_or (okT_cmp (op_neD hu64) gv_ne (xLen B (okA_cons (okE_var 0) okA_nil)) okE_int) (okW_or1 (okT_not (okT_val (xCall his_whole hr px (okA_cons (okE_ix hu64 (okE_var 0) okE_int) (okA_cons okE_int (okA_cons (okE_glob rfl eMOST) okA_nil)))))))))) (okSs_one (okS_ret okE_bl)) okSs_nil) (okSs_cons (okS_asg (okE_var 0) (okG_tup hc (okGs_cons (okG_name 1 nd) (okGs_cons (okG_name 2 nd) okGs_nil)) (takes_cons (takes_cons takes_nil)))) (okSs_cons (okS_if (OkW.t (okW_or (okT_not (okT_val (okE_isi .tuple rfl B.isinstance rfl B.tuple PyProof.Rows.boot_tuple (okE_var 2)))) (okW_or (okT_cmp (op_neD hu64) gv_ne (xLen B (okA_cons (okE_var 2) okA_nil)) (okE_op op_sub gv_sub (okE_var 1) okE_int)) (okW_or1 (okT_not (okT_val (xAll B hc (okA_cons (okE_comp hc nd (okI_seq (okE_var 2)) (blkOk_by (own := [("cut", 3)]) (by kernel_rfl)) (by decide) (fun s H C cl fp => (okG_name 3 nd)) (fun s H C cl fp => okTs_nil) (fun s H C cl fp => (xCall hfits_cut hr passN (okA_cons (okE_var 1) (okA_cons (okE_var 3) okA_nil))))) okA_nil)))))))) (okSs_one (okS_ret okE_bl)) okSs_nil) (okSs_one (okS_ret (okE_and (xCall hrises hr px (okA_cons (okE_var 2) okA_nil)) (okE_one (okE_not (xAny B hc (okA_cons (okE_comp hc nd (okI_seq (okE_var 2)) (blkOk_by (own := [("one", 5)]) (by kernel_rfl)) (by decide) (fun s H C cl fp => (okG_name 5 nd)) (fun s H C cl fp => okTs_nil) (fun s H C cl fp => (xAny B (by rfl) (okA_cons (okE_comp (by rfl) nd (okI_seq (okE_var 2)) (blkOk_by (own := [("other", 4)]) (by kernel_rfl)) (by decide) (fun s H C cl fp => (okG_name 4 nd)) (fun s H C cl fp => okTs_nil) (fun s H C cl fp => (xCall hcross hr passN (okA_cons (okE_var 5) (okA_cons (okE_var 4) okA_nil))))) okA_nil)))) okA_nil))))))))))
theorem scall_ties : FnScope Nall_ties ["cutting"] (defScope (top 20)) := ⟨rfl, rfl, rfl, by decide +kernel, rfl, by decide +kernel, by decide +kernel⟩
theorem okall_ties (B : Bi mg)  (FN : FnP K "all_ties" (top 20) f fd) (gm : mg "all_ties" = some (.ref f)) : Has ca P w K mg base "all_ties" 1 1 Fall_ties := by
  refine has_mk (ps := ["cutting"]) FN scall_ties Gall_ties gm (fun kV doc pm an cdv ct us hl => match us, hl with | [_], _ => rfl) fun cdv A outer s H E hr => ?_
  have hu := units65 hr
  have hu64 : (A.deeper (envOfC "all_ties" (defScope (top 20)) s.heap.objs.size f cdv)).units + 64 < cLine := by omega
  have hu0 : (A.deeper (envOfC "all_ties" (defScope (top 20)) s.heap.objs.size f cdv)).units < cLine := by omega
  have nd := scall_ties.nd
  have hc : (cxOf (L2N.CX P w) P w K mg base Nall_ties "all_ties" (defScope (top 20)) f cdv A outer s H E).calm = true := rfl
  have tk : L2N.Takes (cxOf (L2N.CX P w) P w K mg base Nall_ties "all_ties" (defScope (top 20)) f cdv A outer s H E) (fun cls d _ H => E cls d H) := L2N.takes_of rfl rfl rfl rfl
  have px : Passes (L2N.CX P w) (cxOf (L2N.CX P w) P w K mg base Nall_ties "all_ties" (defScope (top 20)) f cdv A outer s H E) E := L2N.passes_call tk fun _ _ _ _ h => h
  exact (okSs_cons (okS_asg (okE_var 0) (okG_tup hc (okGs_cons (okG_name 1 nd) (okGs_cons (okG_name 2 nd) okGs_nil)) (takes_cons (takes_cons takes_nil)))) (okSs_one (okS_ret (xSorted B hu (okA_cons (okE_op op_addU gv_add (okE_op op_addU gv_add (okE_comp hc nd (okI_range rfl B.range (okE_op op_sub gv_sub (okE_var 1) okE_int)) (blkOk_by (own := [("one", 3)]) (by kernel_rfl)) (by decide) (fun s H C cl fp => (okG_name 3 nd)) (fun s H C cl fp => okTs_nil) (fun s H C cl fp => (okE_tup (okA_cons (okE_var 3) (okA_cons (okE_op op_addU gv_add (okE_var 3) okE_int) okA_nil))))) (okE_lst (okA_cons (okE_tup (okA_cons okE_int (okA_cons (okE_op op_sub gv_sub (okE_var 1) okE_int) okA_nil))) okA_nil))) (xList B (okA_cons (okE_var 2) okA_nil))) okA_nil)))))
theorem scnear_of : FnScope Nnear_of ["cutting"] (defScope (top 21)) := ⟨rfl, rfl, rfl, by decide +kernel, rfl, by decide +kernel, by decide +kernel⟩
theorem oknear_of (B : Bi mg) (hall_ties : Has ca P w K mg base "all_ties" 1 1 Fall_ties) (FN : FnP K "near_of" (top 21) f fd) (gm : mg "near_of" = some (.ref f)) : Has ca P w K mg base "near_of" 1 2 Unear_of := by
  refine has_mk (ps := ["cutting"]) FN scnear_of Gnear_of gm (fun kV doc pm an cdv ct us hl => match us, hl with | [_], _ => rfl) fun cdv A outer s H E hr => ?_
  have hu := units65 hr
  have hu64 : (A.deeper (envOfC "near_of" (defScope (top 21)) s.heap.objs.size f cdv)).units + 64 < cLine := by omega
  have hu0 : (A.deeper (envOfC "near_of" (defScope (top 21)) s.heap.objs.size f cdv)).units < cLine := by omega
  have nd := scnear_of.nd
  have hc : (cxOf (L2N.CX P w) P w K mg base Nnear_of "near_of" (defScope (top 21)) f cdv A outer s H E).calm = true := rfl
  have tk : L2N.Takes (cxOf (L2N.CX P w) P w K mg base Nnear_of "near_of" (defScope (top 21)) f cdv A outer s H E) (fun cls d _ H => E cls d H) := L2N.takes_of rfl rfl rfl rfl
  have px : Passes (L2N.CX P w) (cxOf (L2N.CX P w) P w K mg base Nnear_of "near_of" (defScope (top 21)) f cdv A outer s H E) E := L2N.passes_call tk fun _ _ _ _ h => h
  exact (okSs_cons (okS_setCompF 1 hc nd (okI_range rfl B.range (okE_ix hu64 (okE_var 0) okE_int)) (blkOk_by (own := [("corner", 2)]) (by kernel_rfl)) (by decide) (fun s H C cl fp => (okG_name 2 nd)) (fun s H C cl fp => okTs_nil) (fun s H C cl fp => (okE_lst okA_nil))) (okSs_cons (okS_for (passes_of rfl) hc (okI_seq (xCall hall_ties hr px (okA_cons (okE_var 0) okA_nil))) (okG_tup hc (okGs_cons (okG_name 3 nd) (okGs_cons (okG_name 4 nd) okGs_nil)) (takes_cons (takes_cons takes_nil))) (okSs_cons (okS_setI 1 hu64 (okE_op op_addU gv_add (okE_ixO 1 hu64 (okE_var 3)) (okE_lst (okA_cons (okE_var 4) okA_nil))) (okE_var 3)) (okSs_one (okS_setI 1 hu64 (okE_op op_addU gv_add (okE_ixO 1 hu64 (okE_var 4)) (okE_lst (okA_cons (okE_var 3) okA_nil))) (okE_var 4))))) (okSs_one (okS_frz 1 (okS_ret (okE_comp hc nd (okI_seq (okE_var 1)) (blkOk_by (own := [("row", 5)]) (by kernel_rfl)) (by decide) (fun s H C cl fp => (okG_name 5 nd)) (fun s H C cl fp => okTs_nil) (fun s H C cl fp => (xSorted B hu (okA_cons (okE_var 5) okA_nil)))))))))
theorem scthirds_of : FnScope Nthirds_of ["cutting", "cut"] (defScope (top 22)) := ⟨rfl, rfl, rfl, by decide +kernel, rfl, by decide +kernel, by decide +kernel⟩
theorem okthirds_of (B : Bi mg) (hnear_of : Has ca P w K mg base "near_of" 1 2 Fnear_of) (FN : FnP K "thirds_of" (top 22) f fd) (gm : mg "thirds_of" = some (.ref f)) : Has ca P w K mg base "thirds_of" 2 3 Uthirds_of := by
  refine has_mk (ps := ["cutting", "cut"]) FN scthirds_of Gthirds_of gm (fun kV doc pm an cdv ct us hl => match us, hl with | [_, _], _ => rfl) fun cdv A outer s H E hr => ?_
  have hu := units65 hr
  have hu64 : (A.deeper (envOfC "thirds_of" (defScope (top 22)) s.heap.objs.size f cdv)).units + 64 < cLine := by omega
  have hu0 : (A.deeper (envOfC "thirds_of" (defScope (top 22)) s.heap.objs.size f cdv)).units < cLine := by omega
  have nd := scthirds_of.nd
  have hc : (cxOf (L2N.CX P w) P w K mg base Nthirds_of "thirds_of" (defScope (top 22)) f cdv A outer s H E).calm = true := rfl
  have tk : L2N.Takes (cxOf (L2N.CX P w) P w K mg base Nthirds_of "thirds_of" (defScope (top 22)) f cdv A outer s H E) (fun cls d _ H => E cls d H) := L2N.takes_of rfl rfl rfl rfl
  have px : Passes (L2N.CX P w) (cxOf (L2N.CX P w) P w K mg base Nthirds_of "thirds_of" (defScope (top 22)) f cdv A outer s H E) E := L2N.passes_call tk fun _ _ _ _ h => h
  exact (okSs_cons (okS_set 2 nd (xCall hnear_of hr px (okA_cons (okE_var 0) okA_nil))) (okSs_one (okS_ret (okE_comp hc nd (okI_seq (okE_ix hu64 (okE_var 2) (okE_ix hu64 (okE_var 1) okE_int))) (blkOk_by (own := [("corner", 3)]) (by kernel_rfl)) (by decide) (fun s H C cl fp => (okG_name 3 nd)) (fun s H C cl fp => okTs_one (okT_cmp (op_inU hu) gv_in (okE_var 3) (okE_ix hu64 (okE_var 2) (okE_ix hu64 (okE_var 1) okE_int)))) (fun s H C cl fp => (okE_var 3))))))
theorem scneed_cutting : FnScope Nneed_cutting ["value"] (defScope (top 23)) := ⟨rfl, rfl, rfl, by decide +kernel, rfl, by decide +kernel, by decide +kernel⟩
theorem okneed_cutting (B : Bi mg) (hfits_cutting : Has ca P w K mg base "fits_cutting" 1 3 Ffits_cutting) (xInvalidCutting : ExC K mg "InvalidCutting" (ca 1)) (FN : FnP K "need_cutting" (top 23) f fd) (gm : mg "need_cutting" = some (.ref f)) : Has ca P w K mg base "need_cutting" 1 4 Uneed_cutting := by
  refine has_mk (ps := ["value"]) FN scneed_cutting Gneed_cutting gm (fun kV doc pm an cdv ct us hl => match us, hl with | [_], _ => rfl) fun cdv A outer s H E hr => ?_
  have hu := units65 hr
  have hu64 : (A.deeper (envOfC "need_cutting" (defScope (top 23)) s.heap.objs.size f cdv)).units + 64 < cLine := by omega
  have hu0 : (A.deeper (envOfC "need_cutting" (defScope (top 23)) s.heap.objs.size f cdv)).units < cLine := by omega
  have nd := scneed_cutting.nd
  have hc : (cxOf (L2N.CX P w) P w K mg base Nneed_cutting "need_cutting" (defScope (top 23)) f cdv A outer s H E).calm = true := rfl
  have tk : L2N.Takes (cxOf (L2N.CX P w) P w K mg base Nneed_cutting "need_cutting" (defScope (top 23)) f cdv A outer s H E) (fun cls d _ H => E cls d H) := L2N.takes_of rfl rfl rfl rfl
  have px : Passes (L2N.CX P w) (cxOf (L2N.CX P w) P w K mg base Nneed_cutting "need_cutting" (defScope (top 23)) f cdv A outer s H E) E := L2N.passes_call tk fun _ _ _ _ h => h
  exact (okSs_one (okS_if (okT_not (okT_val (xCall hfits_cutting hr px (okA_cons (okE_var 0) okA_nil)))) (okSs_one (xRaise xInvalidCutting hc tk)) okSs_nil))
theorem scneed_corner : FnScope Nneed_corner ["cutting", "value"] (defScope (top 24)) := ⟨rfl, rfl, rfl, by decide +kernel, rfl, by decide +kernel, by decide +kernel⟩
theorem okneed_corner (B : Bi mg) (his_whole : Has ca P w K mg base "is_whole" 3 1 Fis_whole) (xInvalidCorner : ExC K mg "InvalidCorner" (ca 2)) (FN : FnP K "need_corner" (top 24) f fd) (gm : mg "need_corner" = some (.ref f)) : Has ca P w K mg base "need_corner" 2 2 Fneed_corner := by
  refine has_mk (ps := ["cutting", "value"]) FN scneed_corner Gneed_corner gm (fun kV doc pm an cdv ct us hl => match us, hl with | [_, _], _ => rfl) fun cdv A outer s H E hr => ?_
  have hu := units65 hr
  have hu64 : (A.deeper (envOfC "need_corner" (defScope (top 24)) s.heap.objs.size f cdv)).units + 64 < cLine := by omega
  have hu0 : (A.deeper (envOfC "need_corner" (defScope (top 24)) s.heap.objs.size f cdv)).units < cLine := by omega
  have nd := scneed_corner.nd
  have hc : (cxOf (L2N.CX P w) P w K mg base Nneed_corner "need_corner" (defScope (top 24)) f cdv A outer s H E).calm = true := rfl
  have tk : L2N.Takes (cxOf (L2N.CX P w) P w K mg base Nneed_corner "need_corner" (defScope (top 24)) f cdv A outer s H E) (fun cls d _ H => E cls d H) := L2N.takes_of rfl rfl rfl rfl
  have px : Passes (L2N.CX P w) (cxOf (L2N.CX P w) P w K mg base Nneed_corner "need_corner" (defScope (top 24)) f cdv A outer s H E) E := L2N.passes_call tk fun _ _ _ _ h => h
  exact (okSs_one (okS_if (okT_not (okT_val (xCall his_whole hr px (okA_cons (okE_var 1) (okA_cons okE_int (okA_cons (okE_op op_sub gv_sub (okE_ix hu64 (okE_var 0) okE_int) okE_int) okA_nil)))))) (okSs_one (xRaise xInvalidCorner hc tk)) okSs_nil))
theorem scneed_cut : FnScope Nneed_cut ["cutting", "value"] (defScope (top 25)) := ⟨rfl, rfl, rfl, by decide +kernel, rfl, by decide +kernel, by decide +kernel⟩
theorem okneed_cut (B : Bi mg) (hfits_cut : Has ca P w K mg base "fits_cut" 2 2 Ffits_cut) (xInvalidCut : ExC K mg "InvalidCut" (ca 3)) (FN : FnP K "need_cut" (top 25) f fd) (gm : mg "need_cut" = some (.ref f)) : Has ca P w K mg base "need_cut" 2 3 Uneed_cut := by
  refine has_mk (ps := ["cutting", "value"]) FN scneed_cut Gneed_cut gm (fun kV doc pm an cdv ct us hl => match us, hl with | [_, _], _ => rfl) fun cdv A outer s H E hr => ?_
  have hu := units65 hr
  have hu64 : (A.deeper (envOfC "need_cut" (defScope (top 25)) s.heap.objs.size f cdv)).units + 64 < cLine := by omega
  have hu0 : (A.deeper (envOfC "need_cut" (defScope (top 25)) s.heap.objs.size f cdv)).units < cLine := by omega
  have nd := scneed_cut.nd
  have hc : (cxOf (L2N.CX P w) P w K mg base Nneed_cut "need_cut" (defScope (top 25)) f cdv A outer s H E).calm = true := rfl
  have tk : L2N.Takes (cxOf (L2N.CX P w) P w K mg base Nneed_cut "need_cut" (defScope (top 25)) f cdv A outer s H E) (fun cls d _ H => E cls d H) := L2N.takes_of rfl rfl rfl rfl
  have px : Passes (L2N.CX P w) (cxOf (L2N.CX P w) P w K mg base Nneed_cut "need_cut" (defScope (top 25)) f cdv A outer s H E) E := L2N.passes_call tk fun _ _ _ _ h => h
  exact (okSs_one (okS_if (OkW.t (okW_or (okT_not (okT_val (xCall hfits_cut hr px (okA_cons (okE_ix hu64 (okE_var 0) okE_int) (okA_cons (okE_var 1) okA_nil))))) (okW_or1 (okT_cmp (op_notInU hu) gv_in (okE_var 1) (okE_ix hu64 (okE_var 0) okE_int))))) (okSs_one (xRaise xInvalidCut hc tk)) okSs_nil))
theorem scneed_number : FnScope Nneed_number ["value", "low", "high"] (defScope (top 26)) := ⟨rfl, rfl, rfl, by decide +kernel, rfl, by decide +kernel, by decide +kernel⟩
theorem okneed_number (B : Bi mg) (his_whole : Has ca P w K mg base "is_whole" 3 1 Fis_whole) (xInvalidNumber : ExC K mg "InvalidNumber" (ca 6)) (FN : FnP K "need_number" (top 26) f fd) (gm : mg "need_number" = some (.ref f)) : Has ca P w K mg base "need_number" 3 2 Fneed_number := by
  refine has_mk (ps := ["value", "low", "high"]) FN scneed_number Gneed_number gm (fun kV doc pm an cdv ct us hl => match us, hl with | [_, _, _], _ => rfl) fun cdv A outer s H E hr => ?_
  have hu := units65 hr
  have hu64 : (A.deeper (envOfC "need_number" (defScope (top 26)) s.heap.objs.size f cdv)).units + 64 < cLine := by omega
  have hu0 : (A.deeper (envOfC "need_number" (defScope (top 26)) s.heap.objs.size f cdv)).units < cLine := by omega
  have nd := scneed_number.nd
  have hc : (cxOf (L2N.CX P w) P w K mg base Nneed_number "need_number" (defScope (top 26)) f cdv A outer s H E).calm = true := rfl
  have tk : L2N.Takes (cxOf (L2N.CX P w) P w K mg base Nneed_number "need_number" (defScope (top 26)) f cdv A outer s H E) (fun cls d _ H => E cls d H) := L2N.takes_of rfl rfl rfl rfl
  have px : Passes (L2N.CX P w) (cxOf (L2N.CX P w) P w K mg base Nneed_number "need_number" (defScope (top 26)) f cdv A outer s H E) E := L2N.passes_call tk fun _ _ _ _ h => h
  exact (okSs_one (okS_if (okT_not (okT_val (xCall his_whole hr px (okA_cons (okE_var 0) (okA_cons (okE_var 1) (okA_cons (okE_var 2) okA_nil)))))) (okSs_one (xRaise xInvalidNumber hc tk)) okSs_nil))
theorem scneed_few : FnScope Nneed_few ["many", "limit"] (defScope (top 27)) := ⟨rfl, rfl, rfl, by decide +kernel, rfl, by decide +kernel, by decide +kernel⟩
theorem okneed_few (B : Bi mg) (xTooMany : TMk ca P w K mg base) (FN : FnP K "need_few" (top 27) f fd) (gm : mg "need_few" = some (.ref f)) : Has ca P w K mg base "need_few" 2 3 Fneed_few := by
  refine has_mk (ps := ["many", "limit"]) FN scneed_few Gneed_few gm (fun kV doc pm an cdv ct us hl => match us, hl with | [_, _], _ => rfl) fun cdv A outer s H E hr => ?_
  have hu := units65 hr
  have hu64 : (A.deeper (envOfC "need_few" (defScope (top 27)) s.heap.objs.size f cdv)).units + 64 < cLine := by omega
  have hu0 : (A.deeper (envOfC "need_few" (defScope (top 27)) s.heap.objs.size f cdv)).units < cLine := by omega
  have nd := scneed_few.nd
  have hc : (cxOf (L2N.CX P w) P w K mg base Nneed_few "need_few" (defScope (top 27)) f cdv A outer s H E).calm = true := rfl
  have tk : L2N.Takes (cxOf (L2N.CX P w) P w K mg base Nneed_few "need_few" (defScope (top 27)) f cdv A outer s H E) (fun cls d _ H => E cls d H) := L2N.takes_of rfl rfl rfl rfl
  have px : Passes (L2N.CX P w) (cxOf (L2N.CX P w) P w K mg base Nneed_few "need_few" (defScope (top 27)) f cdv A outer s H E) E := L2N.passes_call tk fun _ _ _ _ h => h
  exact (okSs_one (okS_if (okT_cmp xGt gv_int (okE_var 0) (okE_var 1)) (okSs_one (raiseTM xTooMany hr hc tk (okE_var 1))) okSs_nil))
theorem sccut_for : FnScope Ncut_for ["cutting", "cut"] (defScope (top 29)) := ⟨rfl, rfl, rfl, by decide +kernel, rfl, by decide +kernel, by decide +kernel⟩
theorem okcut_for (B : Bi mg) (hthirds_of : Has ca P w K mg base "thirds_of" 2 3 Fthirds_of) (FN : FnP K "cut_for" (top 29) f fd) (gm : mg "cut_for" = some (.ref f)) : Has ca P w K mg base "cut_for" 2 4 Ucut_for := by
  refine has_mk (ps := ["cutting", "cut"]) FN sccut_for Gcut_for gm (fun kV doc pm an cdv ct us hl => match us, hl with | [_, _], _ => rfl) fun cdv A outer s H E hr => ?_
  have hu := units65 hr
  have hu64 : (A.deeper (envOfC "cut_for" (defScope (top 29)) s.heap.objs.size f cdv)).units + 64 < cLine := by omega
  have hu0 : (A.deeper (envOfC "cut_for" (defScope (top 29)) s.heap.objs.size f cdv)).units < cLine := by omega
  have nd := sccut_for.nd
  have hc : (cxOf (L2N.CX P w) P w K mg base Ncut_for "cut_for" (defScope (top 29)) f cdv A outer s H E).calm = true := rfl
  have tk : L2N.Takes (cxOf (L2N.CX P w) P w K mg base Ncut_for "cut_for" (defScope (top 29)) f cdv A outer s H E) (fun cls d _ H => E cls d H) := L2N.takes_of rfl rfl rfl rfl
  have px : Passes (L2N.CX P w) (cxOf (L2N.CX P w) P w K mg base Ncut_for "cut_for" (defScope (top 29)) f cdv A outer s H E) E := L2N.passes_call tk fun _ _ _ _ h => h
  exact (okSs_cons (okS_asg (xCall hthirds_of hr px (okA_cons (okE_var 0) (okA_cons (okE_var 1) okA_nil))) (okG_lst hc (okGs_cons (okG_name 2 nd) (okGs_cons (okG_name 3 nd) okGs_nil)) (takes_cons (takes_cons takes_nil)))) (okSs_one (okS_ret (okE_tup (okA_cons (okE_var 2) (okA_cons (okE_var 3) okA_nil))))))
theorem scwith_cut : FnScope Nwith_cut ["cutting", "cut", "there"] (defScope (top 30)) := ⟨rfl, rfl, rfl, by decide +kernel, rfl, by decide +kernel, by decide +kernel⟩
theorem okwith_cut (B : Bi mg)  (FN : FnP K "with_cut" (top 30) f fd) (gm : mg "with_cut" = some (.ref f)) : Has ca P w K mg base "with_cut" 3 1 Uwith_cut := by
  refine has_mk (ps := ["cutting", "cut", "there"]) FN scwith_cut Gwith_cut gm (fun kV doc pm an cdv ct us hl => match us, hl with | [_, _, _], _ => rfl) fun cdv A outer s H E hr => ?_
  have hu := units65 hr
  have hu64 : (A.deeper (envOfC "with_cut" (defScope (top 30)) s.heap.objs.size f cdv)).units + 64 < cLine := by omega
  have hu0 : (A.deeper (envOfC "with_cut" (defScope (top 30)) s.heap.objs.size f cdv)).units < cLine := by omega
  have nd := scwith_cut.nd
  have hc : (cxOf (L2N.CX P w) P w K mg base Nwith_cut "with_cut" (defScope (top 30)) f cdv A outer s H E).calm = true := rfl
  have tk : L2N.Takes (cxOf (L2N.CX P w) P w K mg base Nwith_cut "with_cut" (defScope (top 30)) f cdv A outer s H E) (fun cls d _ H => E cls d H) := L2N.takes_of rfl rfl rfl rfl
  have px : Passes (L2N.CX P w) (cxOf (L2N.CX P w) P w K mg base Nwith_cut "with_cut" (defScope (top 30)) f cdv A outer s H E) E := L2N.passes_call tk fun _ _ _ _ h => h
  exact (okSs_one (okS_ret (okE_tup (okA_cons (okE_ix hu64 (okE_var 0) okE_int) (okA_cons (xTuple B (okA_cons (xSorted B hu (okA_cons (okE_op op_addU gv_add (okE_comp hc nd (okI_seq (okE_ix hu64 (okE_var 0) okE_int)) (blkOk_by (own := [("other", 3)]) (by kernel_rfl)) (by decide) (fun s H C cl fp => (okG_name 3 nd)) (fun s H C cl fp => okTs_one (okT_cmp (op_neD hu64) gv_ne (okE_var 3) (okE_var 1))) (fun s H C cl fp => (okE_var 3))) (okE_lst (okA_cons (okE_var 2) okA_nil))) okA_nil)) okA_nil)) okA_nil)))))
theorem scswapped_at : FnScope Nswapped_at ["cutting", "cut"] (defScope (top 31)) := ⟨rfl, rfl, rfl, by decide +kernel, rfl, by decide +kernel, by decide +kernel⟩
theorem okswapped_at (B : Bi mg) (hcut_for : Has ca P w K mg base "cut_for" 2 4 Fcut_for) (hwith_cut : Has ca P w K mg base "with_cut" 3 1 Fwith_cut) (FN : FnP K "swapped_at" (top 31) f fd) (gm : mg "swapped_at" = some (.ref f)) : Has ca P w K mg base "swapped_at" 2 5 Uswapped_at := by
  refine has_mk (ps := ["cutting", "cut"]) FN scswapped_at Gswapped_at gm (fun kV doc pm an cdv ct us hl => match us, hl with | [_, _], _ => rfl) fun cdv A outer s H E hr => ?_
  have hu := units65 hr
  have hu64 : (A.deeper (envOfC "swapped_at" (defScope (top 31)) s.heap.objs.size f cdv)).units + 64 < cLine := by omega
  have hu0 : (A.deeper (envOfC "swapped_at" (defScope (top 31)) s.heap.objs.size f cdv)).units < cLine := by omega
  have nd := scswapped_at.nd
  have hc : (cxOf (L2N.CX P w) P w K mg base Nswapped_at "swapped_at" (defScope (top 31)) f cdv A outer s H E).calm = true := rfl
  have tk : L2N.Takes (cxOf (L2N.CX P w) P w K mg base Nswapped_at "swapped_at" (defScope (top 31)) f cdv A outer s H E) (fun cls d _ H => E cls d H) := L2N.takes_of rfl rfl rfl rfl
  have px : Passes (L2N.CX P w) (cxOf (L2N.CX P w) P w K mg base Nswapped_at "swapped_at" (defScope (top 31)) f cdv A outer s H E) E := L2N.passes_call tk fun _ _ _ _ h => h
  exact (okSs_one (okS_ret (xCall hwith_cut hr px (okA_cons (okE_var 0) (okA_cons (okE_var 1) (okA_cons (xCall hcut_for hr px (okA_cons (okE_var 0) (okA_cons (okE_var 1) okA_nil))) okA_nil))))))
theorem scway_to_fan : FnScope Nway_to_fan ["cutting"] (defScope (top 32)) := ⟨rfl, rfl, rfl, by decide +kernel, rfl, by decide +kernel, by decide +kernel⟩
theorem okway_to_fan (B : Bi mg) (hswapped_at : Has ca P w K mg base "swapped_at" 2 5 Fswapped_at) (hthirds_of : Has ca P w K mg base "thirds_of" 2 3 Fthirds_of) (FN : FnP K "way_to_fan" (top 32) f fd) (gm : mg "way_to_fan" = some (.ref f)) : Has ca P w K mg base "way_to_fan" 1 6 Fway_to_fan := by
  refine has_mk (ps := ["cutting"]) FN scway_to_fan Gway_to_fan gm (fun kV doc pm an cdv ct us hl => match us, hl with | [_], _ => rfl) fun cdv A outer s H E hr => ?_
  have hu := units65 hr
  have hu64 : (A.deeper (envOfC "way_to_fan" (defScope (top 32)) s.heap.objs.size f cdv)).units + 64 < cLine := by omega
  have hu0 : (A.deeper (envOfC "way_to_fan" (defScope (top 32)) s.heap.objs.size f cdv)).units < cLine := by omega
  have nd := scway_to_fan.nd
  have hc : (cxOf (L2N.CX P w) P w K mg base Nway_to_fan "way_to_fan" (defScope (top 32)) f cdv A outer s H E).calm = true := rfl
  have tk : L2N.Takes (cxOf (L2N.CX P w) P w K mg base Nway_to_fan "way_to_fan" (defScope (top 32)) f cdv A outer s H E) (fun cls d _ H => E cls d H) := L2N.takes_of rfl rfl rfl rfl
  have px : Passes (L2N.CX P w) (cxOf (L2N.CX P w) P w K mg base Nway_to_fan "way_to_fan" (defScope (top 32)) f cdv A outer s H E) E := L2N.passes_call tk fun _ _ _ _ h => h
  exact (okSs_cons (okS_set 1 nd (okE_tup okA_nil)) (okSs_cons (okS_setComp 2 hc nd (okI_seq (okE_ix hu64 (okE_var 0) okE_int)) (blkOk_by (own := [("cut", 3)]) (by kernel_rfl)) (by decide) (fun s H C cl fp => (okG_name 3 nd)) (fun s H C cl fp => okTs_one (okT_cmp (op_inU hu) gv_in okE_int (xCall hthirds_of hr passN (okA_cons (okE_var 0) (okA_cons (okE_var 3) okA_nil))))) (fun s H C cl fp => (okE_var 3))) (okSs_cons (okS_while 12 (passes_of rfl) (okT_cmp (op_neD hu64) gv_ne (okE_var 2) (okE_lst okA_nil)) (okSs_cons (okS_asg (okE_tup (okA_cons (okE_op op_addU gv_add (okE_var 1) (okE_tup (okA_cons (okE_ix hu64 (okE_var 2) okE_int) okA_nil))) (okA_cons (xCall hswapped_at hr px (okA_cons (okE_var 0) (okA_cons (okE_ix hu64 (okE_var 2) okE_int) okA_nil))) okA_nil))) (okG_tup hc (okGs_cons (okG_name 1 nd) (okGs_cons (okG_name 0 nd) okGs_nil)) (takes_cons (takes_cons takes_nil)))) (okSs_one (okS_setComp 2 hc nd (okI_seq (okE_ix hu64 (okE_var 0) okE_int)) (blkOk_by (own := [("cut", 3)]) (by kernel_rfl)) (by decide) (fun s H C cl fp => (okG_name 3 nd)) (fun s H C cl fp => okTs_one (okT_cmp (op_inU hu) gv_in okE_int (xCall hthirds_of hr passN (okA_cons (okE_var 0) (okA_cons (okE_var 3) okA_nil))))) (fun s H C cl fp => (okE_var 3)))))) (okSs_one (okS_ret (okE_var 1))))))
theorem sccomes_for : FnScope Ncomes_for ["cutting", "cut"] (defScope (top 33)) := ⟨rfl, rfl, rfl, by decide +kernel, rfl, by decide +kernel, by decide +kernel⟩
theorem okcomes_for (B : Bi mg) (hcut_for : Has ca P w K mg base "cut_for" 2 4 Fcut_for) (hneed_cut : Has ca P w K mg base "need_cut" 2 3 Fneed_cut) (hneed_cutting : Has ca P w K mg base "need_cutting" 1 4 Fneed_cutting) (FN : FnP K "comes_for" (top 33) f fd) (gm : mg "comes_for" = some (.ref f)) : Has ca P w K mg base "comes_for" 2 5 Ucomes_for := by
  refine has_mk (ps := ["cutting", "cut"]) FN sccomes_for Gcomes_for gm (fun kV doc pm an cdv ct us hl => match us, hl with | [_, _], _ => rfl) fun cdv A outer s H E hr => ?_
  have hu := units65 hr
  have hu64 : (A.deeper (envOfC "comes_for" (defScope (top 33)) s.heap.objs.size f cdv)).units + 64 < cLine := by omega
  have hu0 : (A.deeper (envOfC "comes_for" (defScope (top 33)) s.heap.objs.size f cdv)).units < cLine := by omega
  have nd := sccomes_for.nd
  have hc : (cxOf (L2N.CX P w) P w K mg base Ncomes_for "comes_for" (defScope (top 33)) f cdv A outer s H E).calm = true := rfl
  have tk : L2N.Takes (cxOf (L2N.CX P w) P w K mg base Ncomes_for "comes_for" (defScope (top 33)) f cdv A outer s H E) (fun cls d _ H => E cls d H) := L2N.takes_of rfl rfl rfl rfl
  have px : Passes (L2N.CX P w) (cxOf (L2N.CX P w) P w K mg base Ncomes_for "comes_for" (defScope (top 33)) f cdv A outer s H E) E := L2N.passes_call tk fun _ _ _ _ h => h
  exact (okSs_cons (okS_expr (xCall hneed_cutting hr px (okA_cons (okE_var 0) okA_nil))) (okSs_cons (okS_expr (xCall hneed_cut hr px (okA_cons (okE_var 0) (okA_cons (okE_var 1) okA_nil)))) (okSs_one (okS_ret (xCall hcut_for hr px (okA_cons (okE_var 0) (okA_cons (okE_var 1) okA_nil)))))))
theorem scexchanged : FnScope Nexchanged ["cutting", "cut"] (defScope (top 34)) := ⟨rfl, rfl, rfl, by decide +kernel, rfl, by decide +kernel, by decide +kernel⟩
theorem okexchanged (B : Bi mg) (hneed_cut : Has ca P w K mg base "need_cut" 2 3 Fneed_cut) (hneed_cutting : Has ca P w K mg base "need_cutting" 1 4 Fneed_cutting) (hswapped_at : Has ca P w K mg base "swapped_at" 2 5 Fswapped_at) (FN : FnP K "exchanged" (top 34) f fd) (gm : mg "exchanged" = some (.ref f)) : Has ca P w K mg base "exchanged" 2 6 Uexchanged := by
  refine has_mk (ps := ["cutting", "cut"]) FN scexchanged Gexchanged gm (fun kV doc pm an cdv ct us hl => match us, hl with | [_, _], _ => rfl) fun cdv A outer s H E hr => ?_
  have hu := units65 hr
  have hu64 : (A.deeper (envOfC "exchanged" (defScope (top 34)) s.heap.objs.size f cdv)).units + 64 < cLine := by omega
  have hu0 : (A.deeper (envOfC "exchanged" (defScope (top 34)) s.heap.objs.size f cdv)).units < cLine := by omega
  have nd := scexchanged.nd
  have hc : (cxOf (L2N.CX P w) P w K mg base Nexchanged "exchanged" (defScope (top 34)) f cdv A outer s H E).calm = true := rfl
  have tk : L2N.Takes (cxOf (L2N.CX P w) P w K mg base Nexchanged "exchanged" (defScope (top 34)) f cdv A outer s H E) (fun cls d _ H => E cls d H) := L2N.takes_of rfl rfl rfl rfl
  have px : Passes (L2N.CX P w) (cxOf (L2N.CX P w) P w K mg base Nexchanged "exchanged" (defScope (top 34)) f cdv A outer s H E) E := L2N.passes_call tk fun _ _ _ _ h => h
  exact (okSs_cons (okS_expr (xCall hneed_cutting hr px (okA_cons (okE_var 0) okA_nil))) (okSs_cons (okS_expr (xCall hneed_cut hr px (okA_cons (okE_var 0) (okA_cons (okE_var 1) okA_nil)))) (okSs_one (okS_ret (xCall hswapped_at hr px (okA_cons (okE_var 0) (okA_cons (okE_var 1) okA_nil)))))))
theorem scfan_way : FnScope Nfan_way ["cutting"] (defScope (top 35)) := ⟨rfl, rfl, rfl, by decide +kernel, rfl, by decide +kernel, by decide +kernel⟩
theorem okfan_way (B : Bi mg) (hneed_cutting : Has ca P w K mg base "need_cutting" 1 4 Fneed_cutting) (hway_to_fan : Has ca P w K mg base "way_to_fan" 1 6 Fway_to_fan) (FN : FnP K "fan_way" (top 35) f fd) (gm : mg "fan_way" = some (.ref f)) : Has ca P w K mg base "fan_way" 1 7 Ufan_way := by
  refine has_mk (ps := ["cutting"]) FN scfan_way Gfan_way gm (fun kV doc pm an cdv ct us hl => match us, hl with | [_], _ => rfl) fun cdv A outer s H E hr => ?_
  have hu := units65 hr
  have hu64 : (A.deeper (envOfC "fan_way" (defScope (top 35)) s.heap.objs.size f cdv)).units + 64 < cLine := by omega
  have hu0 : (A.deeper (envOfC "fan_way" (defScope (top 35)) s.heap.objs.size f cdv)).units < cLine := by omega
  have nd := scfan_way.nd
  have hc : (cxOf (L2N.CX P w) P w K mg base Nfan_way "fan_way" (defScope (top 35)) f cdv A outer s H E).calm = true := rfl
  have tk : L2N.Takes (cxOf (L2N.CX P w) P w K mg base Nfan_way "fan_way" (defScope (top 35)) f cdv A outer s H E) (fun cls d _ H => E cls d H) := L2N.takes_of rfl rfl rfl rfl
  have px : Passes (L2N.CX P w) (cxOf (L2N.CX P w) P w K mg base Nfan_way "fan_way" (defScope (top 35)) f cdv A outer s H E) E := L2N.passes_call tk fun _ _ _ _ h => h
  exact (okSs_cons (okS_expr (xCall hneed_cutting hr px (okA_cons (okE_var 0) okA_nil))) (okSs_one (okS_ret (xCall hway_to_fan hr px (okA_cons (okE_var 0) okA_nil)))))
end
end PD
/-! text X2 -/
set_option maxHeartbeats 0
namespace PD
open PySem.Spec PySem PyProof.Rows L2
section
variable {ca : Nat → Addr} {P : Program} {w : World} {K : PySem.W.Frag} {mg : Str → Option Value} {base : Heap} {f : Addr} {fd : FuncData}
theorem sctype_is_whole : FnScope Ntype_is_whole ["value"] (defScope (top 39)) := ⟨rfl, rfl, rfl, by decide +kernel, rfl, by decide +kernel, by decide +kernel⟩
theorem oktype_is_whole (B : Bi mg)  (FN : FnP K "type_is_whole" (top 39) f fd) (gm : mg "type_is_whole" = some (.ref f)) : Has ca P w K mg base "type_is_whole" 1 1 Ftype_is_whole := by
  refine has_mk (ps := ["value"]) FN sctype_is_whole Gtype_is_whole gm (fun kV doc pm an cdv ct us hl => match us, hl with | [_], _ => rfl) fun cdv A outer s H E hr => ?_
  have hu := units65 hr
  have hu64 : (A.deeper (envOfC "type_is_whole" (defScope (top 39)) s.heap.objs.size f cdv)).units + 64 < cLine := by omega
  have hu0 : (A.deeper (envOfC "type_is_whole" (defScope (top 39)) s.heap.objs.size f cdv)).units < cLine := by omega
  have nd := sctype_is_whole.nd
  have hc : (cxOf (L2N.CX P w) P w K mg base Ntype_is_whole "type_is_whole" (defScope (top 39)) f cdv A outer s H E).calm = true := rfl
  have tk : L2N.Takes (cxOf (L2N.CX P w) P w K mg base Ntype_is_whole "type_is_whole" (defScope (top 39)) f cdv A outer s H E) (fun cls d _ H => E cls d H) := L2N.takes_of rfl rfl rfl rfl
  have px : Passes (L2N.CX P w) (cxOf (L2N.CX P w) P w K mg base Ntype_is_whole "type_is_whole" (defScope (top 39)) f cdv A outer s H E) E := L2N.passes_call tk fun _ _ _ _ h => h
  exact (okSs_one (okS_ret (okE_and (okE_isi .int rfl B.isinstance rfl B.int PyProof.Rows.boot_int (okE_var 0)) (okE_one (okE_not (okE_isi .bool rfl B.isinstance rfl B.bool PyProof.Rows.boot_bool (okE_var 0)))))))
theorem scway_steps : FnScope Nway_steps ["cutting", "way"] (defScope (top 38)) := ⟨rfl, rfl, rfl, by decide +kernel, rfl, by decide +kernel, by decide +kernel⟩
theorem okway_steps (B : Bi mg) (hcut_for : Has ca P w K mg base "cut_for" 2 4 Fcut_for) (htype_is_whole : Has ca P w K mg base "type_is_whole" 1 1 Ftype_is_whole) (hwith_cut : Has ca P w K mg base "with_cut" 3 1 Fwith_cut) (cMOST_STEPS : ∃ t, mg "MOST_STEPS" = some (.int 80 t)) (FN : FnP K "way_steps" (top 38) f fd) (gm : mg "way_steps" = some (.ref f)) : Has ca P w K mg base "way_steps" 2 5 Uway_steps := by
  obtain ⟨tMOST_STEPS, eMOST_STEPS⟩ := cMOST_STEPS
  refine has_mk (ps := ["cutting", "way"]) FN scway_steps Gway_steps gm (fun kV doc pm an cdv ct us hl => match us, hl with | [_, _], _ => rfl) fun cdv A outer s H E hr => ?_
  have hu := units65 hr
  have hu64 : (A.deeper (envOfC "way_steps" (defScope (top 38)) s.heap.objs.size f cdv)).units + 64 < cLine := by omega
  have hu0 : (A.deeper (envOfC "way_steps" (defScope (top 38)) s.heap.objs.size f cdv)).units < cLine := by omega
  have nd := scway_steps.nd
  have hc : (cxOf (L2N.CX P w) P w K mg base Nway_steps "way_steps" (defScope (top 38)) f cdv A outer s H E).calm = true := rfl
  have tk : L2N.Takes (cxOf (L2N.CX P w) P w K mg base Nway_steps "way_steps" (defScope (top 38)) f cdv A outer s H E) (fun cls d _ H => E cls d H) := L2N.takes_of rfl rfl rfl rfl
  have px : Passes (L2N.CX P w) (cxOf (L2N.CX P w) P w K mg base Nway_steps "way_steps" (defScope (top 38)) f cdv A outer s H E) E := L2N.passes_call tk fun _ _ _ _ h => h
  exact (okSs_cons (okS_if (OkW.t (okW_or (okT_not (okT_val (okE_isi .tuple rfl B.isinstance rfl B.tuple PyProof.Rows.boot_tuple (okE_var 1)))) (okW_or1 (okT_cmp xGt gv_int (xLen B (okA_cons (okE_var 1) okA_nil)) (okE_glob rfl eMOST_STEPS))))) (okSs_one (okS_ret okE_non)) okSs_nil) (okSs_cons (okS_set 2 nd (okE_tup okA_nil)) (okSs_cons (okS_for (passes_of rfl) hc (okI_seq (okE_var 1)) (okG_name 3 nd) (okSs_cons (okS_if (OkW.t (okW_or (okT_not (okT_val (okE_isi .tuple rfl B.isinstance rfl B.tuple PyProof.Rows.boot_tuple (okE_var 3)))) (okW_or (okT_cmp (op_neD hu64) gv_ne (xLen B (okA_cons (okE_var 3) okA_nil)) okE_int) (okW_or1 (okT_not (okT_val (xAll B hc (okA_cons (okE_comp hc nd (okI_seq (okE_var 3)) (blkOk_by (own := [("one", 4)]) (by kernel_rfl)) (by decide) (fun s H C cl fp => (okG_name 4 nd)) (fun s H C cl fp => okTs_nil) (fun s H C cl fp => (xCall htype_is_whole hr passN (okA_cons (okE_var 4) okA_nil)))) okA_nil)))))))) (okSs_one (okS_ret okE_non)) okSs_nil) (okSs_cons (okS_if (okT_cmp (op_notInU hu) gv_in (okE_var 3) (okE_ix hu64 (okE_var 0) okE_int)) (okSs_one (okS_ret okE_non)) okSs_nil) (okSs_cons (okS_set 5 nd (xCall hcut_for hr px (okA_cons (okE_var 0) (okA_cons (okE_var 3) okA_nil)))) (okSs_one (okS_par false false 2 0 hc nd (OkE.c (okE_op op_addU gv_add (okE_var 2) (okE_tup (okA_cons (okE_var 5) okA_nil)))) (OkE.c (xCall hwith_cut hr px (okA_cons (okE_var 0) (okA_cons (okE_var 3) (okA_cons (okE_var 5) okA_nil))))))))))) (okSs_one (okS_ret (okE_tup (okA_cons (okE_var 0) (okA_cons (okE_var 2) okA_nil))))))))
theorem scleads_to : FnScope Nleads_to ["one", "other", "value"] (defScope (top 40)) := ⟨rfl, rfl, rfl, by decide +kernel, rfl, by decide +kernel, by decide +kernel⟩
theorem okleads_to (B : Bi mg) (hway_steps : Has ca P w K mg base "way_steps" 2 5 Fway_steps) (FN : FnP K "leads_to" (top 40) f fd) (gm : mg "leads_to" = some (.ref f)) : Has ca P w K mg base "leads_to" 3 6 Fleads_to := by
  refine has_mk (ps := ["one", "other", "value"]) FN scleads_to Gleads_to gm (fun kV doc pm an cdv ct us hl => match us, hl with | [_, _, _], _ => rfl) fun cdv A outer s H E hr => ?_
  have hu := units65 hr
  have hu64 : (A.deeper (envOfC "leads_to" (defScope (top 40)) s.heap.objs.size f cdv)).units + 64 < cLine := by omega
  have hu0 : (A.deeper (envOfC "leads_to" (defScope (top 40)) s.heap.objs.size f cdv)).units < cLine := by omega
  have nd := scleads_to.nd
  have hc : (cxOf (L2N.CX P w) P w K mg base Nleads_to "leads_to" (defScope (top 40)) f cdv A outer s H E).calm = true := rfl
  have tk : L2N.Takes (cxOf (L2N.CX P w) P w K mg base Nleads_to "leads_to" (defScope (top 40)) f cdv A outer s H E) (fun cls d _ H => E cls d H) := L2N.takes_of rfl rfl rfl rfl
  have px : Passes (L2N.CX P w) (cxOf (L2N.CX P w) P w K mg base Nleads_to "leads_to" (defScope (top 40)) f cdv A outer s H E) E := L2N.passes_call tk fun _ _ _ _ h => h
  exact (okSs_cons (okS_set 3 nd (xCall hway_steps hr px (okA_cons (okE_var 0) (okA_cons (okE_var 2) okA_nil)))) (okSs_one (okS_ret (okE_and (okE_cmp op_notU gv_notN (okE_var 3) okE_non) (okE_one (okE_cmp (op_eqD hu64) gv_eq (okE_ix hu64 (okE_var 3) okE_int) (okE_var 1)))))))
theorem scsteps_to_fan : FnScope Nsteps_to_fan ["cutting", "corner"] (defScope (top 41)) := ⟨rfl, rfl, rfl, by decide +kernel, rfl, by decide +kernel, by decide +kernel⟩
theorem oksteps_to_fan (B : Bi mg) (hcut_for : Has ca P w K mg base "cut_for" 2 4 Fcut_for) (hthirds_of : Has ca P w K mg base "thirds_of" 2 3 Fthirds_of) (hwith_cut : Has ca P w K mg base "with_cut" 3 1 Fwith_cut) (FN : FnP K "steps_to_fan" (top 41) f fd) (gm : mg "steps_to_fan" = some (.ref f)) : Has ca P w K mg base "steps_to_fan" 2 5 Usteps_to_fan := by
  refine has_mk (ps := ["cutting", "corner"]) FN scsteps_to_fan Gsteps_to_fan gm (fun kV doc pm an cdv ct us hl => match us, hl with | [_, _], _ => rfl) fun cdv A outer s H E hr => ?_
  have hu := units65 hr
  have hu64 : (A.deeper (envOfC "steps_to_fan" (defScope (top 41)) s.heap.objs.size f cdv)).units + 64 < cLine := by omega
  have hu0 : (A.deeper (envOfC "steps_to_fan" (defScope (top 41)) s.heap.objs.size f cdv)).units < cLine := by omega
  have nd := scsteps_to_fan.nd
  have hc : (cxOf (L2N.CX P w) P w K mg base Nsteps_to_fan "steps_to_fan" (defScope (top 41)) f cdv A outer s H E).calm = true := rfl
  have tk : L2N.Takes (cxOf (L2N.CX P w) P w K mg base Nsteps_to_fan "steps_to_fan" (defScope (top 41)) f cdv A outer s H E) (fun cls d _ H => E cls d H) := L2N.takes_of rfl rfl rfl rfl
  have px : Passes (L2N.CX P w) (cxOf (L2N.CX P w) P w K mg base Nsteps_to_fan "steps_to_fan" (defScope (top 41)) f cdv A outer s H E) E := L2N.passes_call tk fun _ _ _ _ h => h
  exact (okSs_cons (okS_par false false 2 3 hc nd (OkE.c (okE_tup okA_nil)) (OkE.c (okE_comp hc nd (okI_seq (okE_ix hu64 (okE_var 0) okE_int)) (blkOk_by (own := [("cut", 4)]) (by kernel_rfl)) (by decide) (fun s H C cl fp => (okG_name 4 nd)) (fun s H C cl fp => okTs_one (okT_cmp (op_inU hu) gv_in (okE_var 1) (xCall hthirds_of hr passN (okA_cons (okE_var 0) (okA_cons (okE_var 4) okA_nil))))) (fun s H C cl fp => (okE_var 4))))) (okSs_cons (okS_while 12 (passes_of rfl) (okT_cmp (op_neD hu64) gv_ne (okE_var 3) (okE_lst okA_nil)) (okSs_cons (okS_set 5 nd (xCall hcut_for hr px (okA_cons (okE_var 0) (okA_cons (okE_ix hu64 (okE_var 3) okE_int) okA_nil)))) (okSs_cons (okS_asg (okE_tup (okA_cons (okE_op op_addU gv_add (okE_var 2) (okE_tup (okA_cons (okE_ix hu64 (okE_var 3) okE_int) okA_nil))) (okA_cons (xCall hwith_cut hr px (okA_cons (okE_var 0) (okA_cons (okE_ix hu64 (okE_var 3) okE_int) (okA_cons (okE_var 5) okA_nil)))) okA_nil))) (okG_tup hc (okGs_cons (okG_name 2 nd) (okGs_cons (okG_name 0 nd) okGs_nil)) (takes_cons (takes_cons takes_nil)))) (okSs_one (okS_setComp 3 hc nd (okI_seq (okE_ix hu64 (okE_var 0) okE_int)) (blkOk_by (own := [("cut", 4)]) (by kernel_rfl)) (by decide) (fun s H C cl fp => (okG_name 4 nd)) (fun s H C cl fp => okTs_one (okT_cmp (op_inU hu) gv_in (okE_var 1) (xCall hthirds_of hr passN (okA_cons (okE_var 0) (okA_cons (okE_var 4) okA_nil))))) (fun s H C cl fp => (okE_var 4))))))) (okSs_one (okS_ret (okE_var 2)))))
theorem scneed_two : FnScope Nneed_two ["one", "other"] (defScope (top 42)) := ⟨rfl, rfl, rfl, by decide +kernel, rfl, by decide +kernel, by decide +kernel⟩
theorem okneed_two (B : Bi mg) (hneed_cutting : Has ca P w K mg base "need_cutting" 1 4 Fneed_cutting) (xUnlike : ExC K mg "Unlike" (ca 7)) (FN : FnP K "need_two" (top 42) f fd) (gm : mg "need_two" = some (.ref f)) : Has ca P w K mg base "need_two" 2 5 Uneed_two := by
  refine has_mk (ps := ["one", "other"]) FN scneed_two Gneed_two gm (fun kV doc pm an cdv ct us hl => match us, hl with | [_, _], _ => rfl) fun cdv A outer s H E hr => ?_
  have hu := units65 hr
  have hu64 : (A.deeper (envOfC "need_two" (defScope (top 42)) s.heap.objs.size f cdv)).units + 64 < cLine := by omega
  have hu0 : (A.deeper (envOfC "need_two" (defScope (top 42)) s.heap.objs.size f cdv)).units < cLine := by omega
  have nd := scneed_two.nd
  have hc : (cxOf (L2N.CX P w) P w K mg base Nneed_two "need_two" (defScope (top 42)) f cdv A outer s H E).calm = true := rfl
  have tk : L2N.Takes (cxOf (L2N.CX P w) P w K mg base Nneed_two "need_two" (defScope (top 42)) f cdv A outer s H E) (fun cls d _ H => E cls d H) := L2N.takes_of rfl rfl rfl rfl
  have px : Passes (L2N.CX P w) (cxOf (L2N.CX P w) P w K mg base Nneed_two "need_two" (defScope (top 42)) f cdv A outer s H E) E := L2N.passes_call tk fun _ _ _ _ h => h
  exact (okSs_cons (okS_expr (xCall hneed_cutting hr px (okA_cons (okE_var 0) okA_nil))) (okSs_cons (okS_expr (xCall hneed_cutting hr px (okA_cons (okE_var 1) okA_nil))) (okSs_one (okS_if (okT_cmp (op_neD hu64) gv_ne (okE_ix hu64 (okE_var 0) okE_int) (okE_ix hu64 (okE_var 1) okE_int)) (okSs_one (xRaise xUnlike hc tk)) okSs_nil))))
theorem scneed_way : FnScope Nneed_way ["cutting", "value"] (defScope (top 43)) := ⟨rfl, rfl, rfl, by decide +kernel, rfl, by decide +kernel, by decide +kernel⟩
theorem okneed_way (B : Bi mg) (hway_steps : Has ca P w K mg base "way_steps" 2 5 Fway_steps) (xInvalidWay : ExC K mg "InvalidWay" (ca 8)) (FN : FnP K "need_way" (top 43) f fd) (gm : mg "need_way" = some (.ref f)) : Has ca P w K mg base "need_way" 2 6 Uneed_way := by
  refine has_mk (ps := ["cutting", "value"]) FN scneed_way Gneed_way gm (fun kV doc pm an cdv ct us hl => match us, hl with | [_, _], _ => rfl) fun cdv A outer s H E hr => ?_
  have hu := units65 hr
  have hu64 : (A.deeper (envOfC "need_way" (defScope (top 43)) s.heap.objs.size f cdv)).units + 64 < cLine := by omega
  have hu0 : (A.deeper (envOfC "need_way" (defScope (top 43)) s.heap.objs.size f cdv)).units < cLine := by omega
  have nd := scneed_way.nd
  have hc : (cxOf (L2N.CX P w) P w K mg base Nneed_way "need_way" (defScope (top 43)) f cdv A outer s H E).calm = true := rfl
  have tk : L2N.Takes (cxOf (L2N.CX P w) P w K mg base Nneed_way "need_way" (defScope (top 43)) f cdv A outer s H E) (fun cls d _ H => E cls d H) := L2N.takes_of rfl rfl rfl rfl
  have px : Passes (L2N.CX P w) (cxOf (L2N.CX P w) P w K mg base Nneed_way "need_way" (defScope (top 43)) f cdv A outer s H E) E := L2N.passes_call tk fun _ _ _ _ h => h
  exact (okSs_one (okS_if (okT_cmp op_isN gv_isN (xCall hway_steps hr px (okA_cons (okE_var 0) (okA_cons (okE_var 1) okA_nil))) okE_non) (okSs_one (xRaise xInvalidWay hc tk)) okSs_nil))
theorem scbehind_way : FnScope Nbehind_way ["cutting", "way"] (defScope (top 44)) := ⟨rfl, rfl, rfl, by decide +kernel, rfl, by decide +kernel, by decide +kernel⟩
theorem okbehind_way (B : Bi mg) (hneed_cutting : Has ca P w K mg base "need_cutting" 1 4 Fneed_cutting) (hneed_way : Has ca P w K mg base "need_way" 2 6 Fneed_way) (hway_steps : Has ca P w K mg base "way_steps" 2 5 Fway_steps) (FN : FnP K "behind_way" (top 44) f fd) (gm : mg "behind_way" = some (.ref f)) : Has ca P w K mg base "behind_way" 2 7 Ubehind_way := by
  refine has_mk (ps := ["cutting", "way"]) FN scbehind_way Gbehind_way gm (fun kV doc pm an cdv ct us hl => match us, hl with | [_, _], _ => rfl) fun cdv A outer s H E hr => ?_
  have hu := units65 hr
  have hu64 : (A.deeper (envOfC "behind_way" (defScope (top 44)) s.heap.objs.size f cdv)).units + 64 < cLine := by omega
  have hu0 : (A.deeper (envOfC "behind_way" (defScope (top 44)) s.heap.objs.size f cdv)).units < cLine := by omega
  have nd := scbehind_way.nd
  have hc : (cxOf (L2N.CX P w) P w K mg base Nbehind_way "behind_way" (defScope (top 44)) f cdv A outer s H E).calm = true := rfl
  have tk : L2N.Takes (cxOf (L2N.CX P w) P w K mg base Nbehind_way "behind_way" (defScope (top 44)) f cdv A outer s H E) (fun cls d _ H => E cls d H) := L2N.takes_of rfl rfl rfl rfl
  have px : Passes (L2N.CX P w) (cxOf (L2N.CX P w) P w K mg base Nbehind_way "behind_way" (defScope (top 44)) f cdv A outer s H E) E := L2N.passes_call tk fun _ _ _ _ h => h
  exact (okSs_cons (okS_expr (xCall hneed_cutting hr px (okA_cons (okE_var 0) okA_nil))) (okSs_cons (okS_expr (xCall hneed_way hr px (okA_cons (okE_var 0) (okA_cons (okE_var 1) okA_nil)))) (okSs_one (okS_ret (okE_ix hu64 (xCall hway_steps hr px (okA_cons (okE_var 0) (okA_cons (okE_var 1) okA_nil))) okE_int)))))
theorem scway_back : FnScope Nway_back ["cutting", "way"] (defScope (top 45)) := ⟨rfl, rfl, rfl, by decide +kernel, rfl, by decide +kernel, by decide +kernel⟩
theorem okway_back (B : Bi mg) (hneed_cutting : Has ca P w K mg base "need_cutting" 1 4 Fneed_cutting) (hneed_way : Has ca P w K mg base "need_way" 2 6 Fneed_way) (hway_steps : Has ca P w K mg base "way_steps" 2 5 Fway_steps) (FN : FnP K "way_back" (top 45) f fd) (gm : mg "way_back" = some (.ref f)) : Has ca P w K mg base "way_back" 2 7 Uway_back := by
  refine has_mk (ps := ["cutting", "way"]) FN scway_back Gway_back gm (fun kV doc pm an cdv ct us hl => match us, hl with | [_, _], _ => rfl) fun cdv A outer s H E hr => ?_
  have hu := units65 hr
  have hu64 : (A.deeper (envOfC "way_back" (defScope (top 45)) s.heap.objs.size f cdv)).units + 64 < cLine := by omega
  have hu0 : (A.deeper (envOfC "way_back" (defScope (top 45)) s.heap.objs.size f cdv)).units < cLine := by omega
  have nd := scway_back.nd
  have hc : (cxOf (L2N.CX P w) P w K mg base Nway_back "way_back" (defScope (top 45)) f cdv A outer s H E).calm = true := rfl
  have tk : L2N.Takes (cxOf (L2N.CX P w) P w K mg base Nway_back "way_back" (defScope (top 45)) f cdv A outer s H E) (fun cls d _ H => E cls d H) := L2N.takes_of rfl rfl rfl rfl
  have px : Passes (L2N.CX P w) (cxOf (L2N.CX P w) P w K mg base Nway_back "way_back" (defScope (top 45)) f cdv A outer s H E) E := L2N.passes_call tk fun _ _ _ _ h => h
  exact (okSs_cons (okS_expr (xCall hneed_cutting hr px (okA_cons (okE_var 0) okA_nil))) (okSs_cons (okS_expr (xCall hneed_way hr px (okA_cons (okE_var 0) (okA_cons (okE_var 1) okA_nil)))) (okSs_one (okS_ret (okE_revT (okE_ix hu64 (xCall hway_steps hr px (okA_cons (okE_var 0) (okA_cons (okE_var 1) okA_nil))) okE_int))))))
theorem scfar_from_fan : FnScope Nfar_from_fan ["cutting", "corner"] (defScope (top 46)) := ⟨rfl, rfl, rfl, by decide +kernel, rfl, by decide +kernel, by decide +kernel⟩
theorem okfar_from_fan (B : Bi mg) (hneed_corner : Has ca P w K mg base "need_corner" 2 2 Fneed_corner) (hneed_cutting : Has ca P w K mg base "need_cutting" 1 4 Fneed_cutting) (FN : FnP K "far_from_fan" (top 46) f fd) (gm : mg "far_from_fan" = some (.ref f)) : Has ca P w K mg base "far_from_fan" 2 5 Ufar_from_fan := by
  refine has_mk (ps := ["cutting", "corner"]) FN scfar_from_fan Gfar_from_fan gm (fun kV doc pm an cdv ct us hl => match us, hl with | [_, _], _ => rfl) fun cdv A outer s H E hr => ?_
  have hu := units65 hr
  have hu64 : (A.deeper (envOfC "far_from_fan" (defScope (top 46)) s.heap.objs.size f cdv)).units + 64 < cLine := by omega
  have hu0 : (A.deeper (envOfC "far_from_fan" (defScope (top 46)) s.heap.objs.size f cdv)).units < cLine := by omega
  have nd := scfar_from_fan.nd
  have hc : (cxOf (L2N.CX P w) P w K mg base Nfar_from_fan "far_from_fan" (defScope (top 46)) f cdv A outer s H E).calm = true := rfl
  have tk : L2N.Takes (cxOf (L2N.CX P w) P w K mg base Nfar_from_fan "far_from_fan" (defScope (top 46)) f cdv A outer s H E) (fun cls d _ H => E cls d H) := L2N.takes_of rfl rfl rfl rfl
  have px : Passes (L2N.CX P w) (cxOf (L2N.CX P w) P w K mg base Nfar_from_fan "far_from_fan" (defScope (top 46)) f cdv A outer s H E) E := L2N.passes_call tk fun _ _ _ _ h => h
  exact (okSs_cons (okS_expr (xCall hneed_cutting hr px (okA_cons (okE_var 0) okA_nil))) (okSs_cons (okS_expr (xCall hneed_corner hr px (okA_cons (okE_var 0) (okA_cons (okE_var 1) okA_nil)))) (okSs_one (okS_ret (xLen B (okA_cons (okE_comp hc nd (okI_seq (okE_ix hu64 (okE_var 0) okE_int)) (blkOk_by (own := [("cut", 2)]) (by kernel_rfl)) (by decide) (fun s H C cl fp => (okG_name 2 nd)) (fun s H C cl fp => okTs_one (okT_cmp (op_notInU hu) gv_in (okE_var 1) (okE_var 2))) (fun s H C cl fp => (okE_var 2))) okA_nil))))))
theorem scway_by_fan : FnScope Nway_by_fan ["one", "other", "corner"] (defScope (top 47)) := ⟨rfl, rfl, rfl, by decide +kernel, rfl, by decide +kernel, by decide +kernel⟩
theorem okway_by_fan (B : Bi mg) (hneed_corner : Has ca P w K mg base "need_corner" 2 2 Fneed_corner) (hneed_two : Has ca P w K mg base "need_two" 2 5 Fneed_two) (hsteps_to_fan : Has ca P w K mg base "steps_to_fan" 2 5 Fsteps_to_fan) (hway_steps : Has ca P w K mg base "way_steps" 2 5 Fway_steps) (FN : FnP K "way_by_fan" (top 47) f fd) (gm : mg "way_by_fan" = some (.ref f)) : Has ca P w K mg base "way_by_fan" 3 6 Fway_by_fan := by
  refine has_mk (ps := ["one", "other", "corner"]) FN scway_by_fan Gway_by_fan gm (fun kV doc pm an cdv ct us hl => match us, hl with | [_, _, _], _ => rfl) fun cdv A outer s H E hr => ?_
  have hu := units65 hr
  have hu64 : (A.deeper (envOfC "way_by_fan" (defScope (top 47)) s.heap.objs.size f cdv)).units + 64 < cLine := by omega
  have hu0 : (A.deeper (envOfC "way_by_fan" (defScope (top 47)) s.heap.objs.size f cdv)).units < cLine := by omega
  have nd := scway_by_fan.nd
  have hc : (cxOf (L2N.CX P w) P w K mg base Nway_by_fan "way_by_fan" (defScope (top 47)) f cdv A outer s H E).calm = true := rfl
  have tk : L2N.Takes (cxOf (L2N.CX P w) P w K mg base Nway_by_fan "way_by_fan" (defScope (top 47)) f cdv A outer s H E) (fun cls d _ H => E cls d H) := L2N.takes_of rfl rfl rfl rfl
  have px : Passes (L2N.CX P w) (cxOf (L2N.CX P w) P w K mg base Nway_by_fan "way_by_fan" (defScope (top 47)) f cdv A outer s H E) E := L2N.passes_call tk fun _ _ _ _ h => h
  exact (okSs_cons (okS_expr (xCall hneed_two hr px (okA_cons (okE_var 0) (okA_cons (okE_var 1) okA_nil)))) (okSs_cons (okS_expr (xCall hneed_corner hr px (okA_cons (okE_var 0) (okA_cons (okE_var 2) okA_nil)))) (okSs_cons (okS_set 3 nd (xCall hsteps_to_fan hr px (okA_cons (okE_var 1) (okA_cons (okE_var 2) okA_nil)))) (okSs_one (okS_ret (okE_op op_addU gv_add (xCall hsteps_to_fan hr px (okA_cons (okE_var 0) (okA_cons (okE_var 2) okA_nil))) (okE_revT (okE_ix hu64 (xCall hway_steps hr px (okA_cons (okE_var 1) (okA_cons (okE_var 3) okA_nil))) okE_int))))))))
theorem scof_one_piece : FnScope Nof_one_piece ["cutting", "one", "other"] (defScope (top 50)) := ⟨rfl, rfl, rfl, by decide +kernel, rfl, by decide +kernel, by decide +kernel⟩
theorem okof_one_piece (B : Bi mg) (hthirds_of : Has ca P w K mg base "thirds_of" 2 3 Fthirds_of) (FN : FnP K "of_one_piece" (top 50) f fd) (gm : mg "of_one_piece" = some (.ref f)) : Has ca P w K mg base "of_one_piece" 3 4 Uof_one_piece := by
  refine has_mk (ps := ["cutting", "one", "other"]) FN scof_one_piece Gof_one_piece gm (fun kV doc pm an cdv ct us hl => match us, hl with | [_, _, _], _ => rfl) fun cdv A outer s H E hr => ?_
  have hu := units65 hr
  have hu64 : (A.deeper (envOfC "of_one_piece" (defScope (top 50)) s.heap.objs.size f cdv)).units + 64 < cLine := by omega
  have hu0 : (A.deeper (envOfC "of_one_piece" (defScope (top 50)) s.heap.objs.size f cdv)).units < cLine := by omega
  have nd := scof_one_piece.nd
  have hc : (cxOf (L2N.CX P w) P w K mg base Nof_one_piece "of_one_piece" (defScope (top 50)) f cdv A outer s H E).calm = true := rfl
  have tk : L2N.Takes (cxOf (L2N.CX P w) P w K mg base Nof_one_piece "of_one_piece" (defScope (top 50)) f cdv A outer s H E) (fun cls d _ H => E cls d H) := L2N.takes_of rfl rfl rfl rfl
  have px : Passes (L2N.CX P w) (cxOf (L2N.CX P w) P w K mg base Nof_one_piece "of_one_piece" (defScope (top 50)) f cdv A outer s H E) E := L2N.passes_call tk fun _ _ _ _ h => h
  exact (okSs_cons (okS_setComp 3 hc nd (okI_seq (okE_var 2)) (blkOk_by (own := [("corner", 4)]) (by kernel_rfl)) (by decide) (fun s H C cl fp => (okG_name 4 nd)) (fun s H C cl fp => okTs_one (okT_cmp (op_notInU hu) gv_in (okE_var 4) (okE_var 1))) (fun s H C cl fp => (okE_var 4))) (okSs_one (okS_ret (okE_and (okE_cmp (op_eqD hu64) gv_eq (xLen B (okA_cons (okE_var 3) okA_nil)) okE_int) (okE_one (okE_cmp (op_inU hu) gv_in (okE_ix hu64 (okE_var 3) okE_int) (xCall hthirds_of hr px (okA_cons (okE_var 0) (okA_cons (okE_var 1) okA_nil)))))))))
theorem scare_loose : FnScope Nare_loose ["cutting", "value"] (defScope (top 51)) := ⟨rfl, rfl, rfl, by decide +kernel, rfl, by decide +kernel, by decide +kernel⟩
theorem okare_loose (B : Bi mg) (hfits_cut : Has ca P w K mg base "fits_cut" 2 2 Ffits_cut) (hof_one_piece : Has ca P w K mg base "of_one_piece" 3 4 Fof_one_piece) (hrises : Has ca P w K mg base "rises" 1 1 Frises) (FN : FnP K "are_loose" (top 51) f fd) (gm : mg "are_loose" = some (.ref f)) : Has ca P w K mg base "are_loose" 2 5 Fare_loose := by
  refine has_mk (ps := ["cutting", "value"]) FN scare_loose Gare_loose gm (fun kV doc pm an cdv ct us hl => match us, hl with | [_, _], _ => rfl) fun cdv A outer s H E hr => ?_
  have hu := units65 hr
  have hu64 : (A.deeper (envOfC "are_loose" (defScope (top 51)) s.heap.objs.size f cdv)).units + 64 < cLine := by omega
  have hu0 : (A.deeper (envOfC "are_loose" (defScope (top 51)) s.heap.objs.size f cdv)).units < cLine := by omega
  have nd := scare_loose.nd
  have hc : (cxOf (L2N.CX P w) P w K mg base Nare_loose "are_loose" (defScope (top 51)) f cdv A outer s H E).calm = true := rfl
  have tk : L2N.Takes (cxOf (L2N.CX P w) P w K mg base Nare_loose "are_loose" (defScope (top 51)) f cdv A outer s H E) (fun cls d _ H => E cls d H) := L2N.takes_of rfl rfl rfl rfl
  have px : Passes (L2N.CX P w) (cxOf (L2N.CX P w) P w K mg base Nare_loose "are_loose" (defScope (top 51)) f cdv A outer s H E) E := L2N.passes_call tk fun _ _ _ _ h => h
  exact (okSs_cons (okS_if (OkW.t (okW_or (okT_not (okT_val (okE_isi .tuple rfl B.isinstance rfl B.tuple PyProof.Rows.boot_tuple (okE_var 1)))) (okW_or (okT_cmp (op_eqD hu64) gv_eq (okE_var 1) (okE_tup okA_nil)) (okW_or1 (okT_not (okT_val (xAll B hc (okA_cons (okE_comp hc nd (okI_seq (okE_var 1)) (blkOk_by (own := [("cut", 2)]) (by kernel_rfl)) (by decide) (fun s H C cl fp => (okG_name 2 nd)) (fun s H C cl fp => okTs_nil) (fun s H C cl fp => (xCall hfits_cut hr passN (okA_cons (okE_ix hu64 (okE_var 0) okE_int) (okA_cons (okE_var 2) okA_nil))))) okA_nil)))))))) (okSs_one (okS_ret okE_bl)) okSs_nil) (okSs_cons (okS_if (OkW.t (okW_or (okT_not (okT_val (xCall hrises hr px (okA_cons (okE_var 1) okA_nil)))) (okW_or1 (okT_not (okT_val (xAll B hc (okA_cons (okE_comp hc nd (okI_seq (okE_var 1)) (blkOk_by (own := [("cut", 2)]) (by kernel_rfl)) (by decide) (fun s H C cl fp => (okG_name 2 nd)) (fun s H C cl fp => okTs_nil) (fun s H C cl fp => (okE_cmp (op_inU hu) gv_in (okE_var 2) (okE_ix hu64 (okE_var 0) okE_int)))) okA_nil))))))) (okSs_one (okS_ret okE_bl)) okSs_nil) (okSs_one (okS_ret (okE_not (xAny B hc (okA_cons (okE_comp hc nd (okI_seq (okE_var 1)) (blkOk_by (own := [("one", 4)]) (by kernel_rfl)) (by decide) (fun s H C cl fp => (okG_name 4 nd)) (fun s H C cl fp => okTs_nil) (fun s H C cl fp => (xAny B (by rfl) (okA_cons (okE_comp (by rfl) nd (okI_seq (okE_var 1)) (blkOk_by (own := [("other", 3)]) (by kernel_rfl)) (by decide) (fun s H C cl fp => (okG_name 3 nd)) (fun s H C cl fp => okTs_one (okT_cmp (op_neD hu64) gv_ne (okE_var 3) (okE_var 4))) (fun s H C cl fp => (xCall hof_one_piece hr passN (okA_cons (okE_var 0) (okA_cons (okE_var 4) (okA_cons (okE_var 3) okA_nil)))))) okA_nil)))) okA_nil)))))))
theorem scround_behind : FnScope Nround_behind ["cutting", "cuts"] (defScope (top 52)) := ⟨rfl, rfl, rfl, by decide +kernel, rfl, by decide +kernel, by decide +kernel⟩
theorem okround_behind (B : Bi mg) (hcut_for : Has ca P w K mg base "cut_for" 2 4 Fcut_for) (FN : FnP K "round_behind" (top 52) f fd) (gm : mg "round_behind" = some (.ref f)) : Has ca P w K mg base "round_behind" 2 5 Uround_behind := by
  refine has_mk (ps := ["cutting", "cuts"]) FN scround_behind Ground_behind gm (fun kV doc pm an cdv ct us hl => match us, hl with | [_, _], _ => rfl) fun cdv A outer s H E hr => ?_
  have hu := units65 hr
  have hu64 : (A.deeper (envOfC "round_behind" (defScope (top 52)) s.heap.objs.size f cdv)).units + 64 < cLine := by omega
  have hu0 : (A.deeper (envOfC "round_behind" (defScope (top 52)) s.heap.objs.size f cdv)).units < cLine := by omega
  have nd := scround_behind.nd
  have hc : (cxOf (L2N.CX P w) P w K mg base Nround_behind "round_behind" (defScope (top 52)) f cdv A outer s H E).calm = true := rfl
  have tk : L2N.Takes (cxOf (L2N.CX P w) P w K mg base Nround_behind "round_behind" (defScope (top 52)) f cdv A outer s H E) (fun cls d _ H => E cls d H) := L2N.takes_of rfl rfl rfl rfl
  have px : Passes (L2N.CX P w) (cxOf (L2N.CX P w) P w K mg base Nround_behind "round_behind" (defScope (top 52)) f cdv A outer s H E) E := L2N.passes_call tk fun _ _ _ _ h => h
  exact (okSs_cons (okS_setComp 2 hc nd (okI_seq (okE_var 1)) (blkOk_by (own := [("cut", 3)]) (by kernel_rfl)) (by decide) (fun s H C cl fp => (okG_name 3 nd)) (fun s H C cl fp => okTs_nil) (fun s H C cl fp => (xCall hcut_for hr passN (okA_cons (okE_var 0) (okA_cons (okE_var 3) okA_nil))))) (okSs_one (okS_ret (okE_tup (okA_cons (okE_ix hu64 (okE_var 0) okE_int) (okA_cons (xTuple B (okA_cons (xSorted B hu (okA_cons (okE_op op_addU gv_add (okE_comp hc nd (okI_seq (okE_ix hu64 (okE_var 0) okE_int)) (blkOk_by (own := [("cut", 3)]) (by kernel_rfl)) (by decide) (fun s H C cl fp => (okG_name 3 nd)) (fun s H C cl fp => okTs_one (okT_cmp (op_notInU hu) gv_in (okE_var 3) (okE_var 1))) (fun s H C cl fp => (okE_var 3))) (okE_var 2)) okA_nil)) okA_nil)) okA_nil))))))
theorem scall_loose : FnScope Nall_loose ["cutting"] (defScope (top 53)) := ⟨rfl, rfl, rfl, by decide +kernel, rfl, by decide +kernel, by decide +kernel⟩
theorem okall_loose (B : Bi mg) (hof_one_piece : Has ca P w K mg base "of_one_piece" 3 4 Fof_one_piece) (FN : FnP K "all_loose" (top 53) f fd) (gm : mg "all_loose" = some (.ref f)) : Has ca P w K mg base "all_loose" 1 5 Uall_loose := by
  refine has_mk (ps := ["cutting"]) FN scall_loose Gall_loose gm (fun kV doc pm an cdv ct us hl => match us, hl with | [_], _ => rfl) fun cdv A outer s H E hr => ?_
  have hu := units65 hr
  have hu64 : (A.deeper (envOfC "all_loose" (defScope (top 53)) s.heap.objs.size f cdv)).units + 64 < cLine := by omega
  have hu0 : (A.deeper (envOfC "all_loose" (defScope (top 53)) s.heap.objs.size f cdv)).units < cLine := by omega
  have nd := scall_loose.nd
  have hc : (cxOf (L2N.CX P w) P w K mg base Nall_loose "all_loose" (defScope (top 53)) f cdv A outer s H E).calm = true := rfl
  have tk : L2N.Takes (cxOf (L2N.CX P w) P w K mg base Nall_loose "all_loose" (defScope (top 53)) f cdv A outer s H E) (fun cls d _ H => E cls d H) := L2N.takes_of rfl rfl rfl rfl
  have px : Passes (L2N.CX P w) (cxOf (L2N.CX P w) P w K mg base Nall_loose "all_loose" (defScope (top 53)) f cdv A outer s H E) E := L2N.passes_call tk fun _ _ _ _ h => h
  exact (okSs_cons (okS_set 1 nd (okE_lst (okA_cons (okE_tup okA_nil) okA_nil))) (okSs_cons (okS_for (passes_of rfl) hc (okI_seq (okE_ix hu64 (okE_var 0) okE_int)) (okG_name 2 nd) (okSs_one (okS_set 1 nd (okE_op op_addU gv_add (okE_var 1) (okE_comp hc nd (okI_seq (okE_var 1)) (blkOk_by (own := [("row", 3)]) (by kernel_rfl)) (by decide) (fun s H C cl fp => (okG_name 3 nd)) (fun s H C cl fp => okTs_one (okT_not (okT_val (xAny B (by rfl) (okA_cons (okE_comp (by rfl) nd (okI_seq (okE_var 3)) (blkOk_by (own := [("one", 4)]) (by kernel_rfl)) (by decide) (fun s H C cl fp => (okG_name 4 nd)) (fun s H C cl fp => okTs_nil) (fun s H C cl fp => (xCall hof_one_piece hr passN (okA_cons (okE_var 0) (okA_cons (okE_var 4) (okA_cons (okE_var 2) okA_nil)))))) okA_nil))))) (fun s H C cl fp => (okE_op op_addU gv_add (okE_var 3) (okE_tup (okA_cons (okE_var 2) okA_nil))))))))) (okSs_one (okS_ret (okE_var 1)))))
theorem scloose_between : FnScope Nloose_between ["cutting", "first", "last"] (defScope (top 54)) := ⟨rfl, rfl, rfl, by decide +kernel, rfl, by decide +kernel, by decide +kernel⟩
theorem okloose_between_step (B : Bi mg) (hthirds_of : Has ca P w K mg base "thirds_of" 2 3 Fthirds_of) (FN : FnP K "loose_between" (top 54) f fd) (gm : mg "loose_between" = some (.ref f)) (lv : Nat) (FR : List PyData → R PyData) (hloose_between : Has ca P w K mg base "loose_between" 3 (lv + 3) FR) : Has ca P w K mg base "loose_between" 3 (lv + 3 + 1) (fun ds => outR (Gloose_between FR (startE 18 ds))) := by
  refine has_mk (ps := ["cutting", "first", "last"]) FN scloose_between (Gloose_between FR) gm (fun kV doc pm an cdv ct us hl => match us, hl with | [_, _, _], _ => rfl) fun cdv A outer s H E hr => ?_
  have hu := units65 hr
  have hu64 : (A.deeper (envOfC "loose_between" (defScope (top 54)) s.heap.objs.size f cdv)).units + 64 < cLine := by omega
  have hu0 : (A.deeper (envOfC "loose_between" (defScope (top 54)) s.heap.objs.size f cdv)).units < cLine := by omega
  have nd := scloose_between.nd
  have hc : (cxOf (L2N.CX P w) P w K mg base Nloose_between "loose_between" (defScope (top 54)) f cdv A outer s H E).calm = true := rfl
  have tk : L2N.Takes (cxOf (L2N.CX P w) P w K mg base Nloose_between "loose_between" (defScope (top 54)) f cdv A outer s H E) (fun cls d _ H => E cls d H) := L2N.takes_of rfl rfl rfl rfl
  have px : Passes (L2N.CX P w) (cxOf (L2N.CX P w) P w K mg base Nloose_between "loose_between" (defScope (top 54)) f cdv A outer s H E) E := L2N.passes_call tk fun _ _ _ _ h => h
  exact (okSs_cons (okS_if (okT_cmp (op_ltU hu0) gv_lt (okE_op op_sub gv_sub (okE_var 2) (okE_var 1)) okE_int) (okSs_one (okS_ret okE_non)) okSs_nil) (okSs_cons (okS_set 3 nd (okE_ix hu64 (okE_comp hc nd (okI_seq (xCall hthirds_of hr px (okA_cons (okE_var 0) (okA_cons (okE_tup (okA_cons (okE_var 1) (okA_cons (okE_var 2) okA_nil))) okA_nil)))) (blkOk_by (own := [("corner", 4)]) (by kernel_rfl)) (by decide) (fun s H C cl fp => (okG_name 4 nd)) (fun s H C cl fp => okTs_one (okT_chain (op_ltU hu0) (op_ltU hu0) gv_lt gv_lt (okE_var 1) (okE_var 4) (okE_var 2))) (fun s H C cl fp => (okE_var 4))) okE_int)) (okSs_cons (okS_par false false 5 6 hc nd (OkE.c (xCall hloose_between hr px (okA_cons (okE_var 0) (okA_cons (okE_var 1) (okA_cons (okE_var 3) okA_nil))) (nble_refl _))) (OkE.c (xCall hloose_between hr px (okA_cons (okE_var 0) (okA_cons (okE_var 3) (okA_cons (okE_var 2) okA_nil))) (nble_refl _)))) (okSs_cons (okS_setComp 7 hc nd (okI_seq (okE_tup (okA_cons (okE_var 5) (okA_cons (okE_var 6) okA_nil)))) (blkOk_by (own := [("pair", 8)]) (by kernel_rfl)) (by decide) (fun s H C cl fp => (okG_name 8 nd)) (fun s H C cl fp => okTs_one (okT_cmp op_notU gv_notN (okE_var 8) okE_non)) (fun s H C cl fp => (okE_var 8))) (okSs_cons (okS_asg (okE_tup (okA_cons okE_int (okA_cons okE_int okA_nil))) (okG_tup hc (okGs_cons (okG_name 9 nd) (okGs_cons (okG_name 10 nd) okGs_nil)) (takes_cons (takes_cons takes_nil)))) (okSs_cons (okS_for (passes_of rfl) hc (okI_seq (okE_var 7)) (okG_tup hc (okGs_cons (okG_name 11 nd) (okGs_cons (okG_name 12 nd) okGs_nil)) (takes_cons (takes_cons takes_nil))) (okSs_one (okS_par false false 9 10 hc nd (OkE.c (okE_op op_mul gv_mul (okE_var 9) (okE_ix hu64 (okE_var 11) okE_int))) (OkE.c (okE_op op_addU gv_add (okE_var 10) (okE_ix hu64 (okE_var 11) okE_int)))))) (okSs_cons (okS_par false false 13 14 hc nd (OkE.c (okE_var 9)) (OkE.c (okE_var 10))) (okSs_cons (okS_for (passes_of rfl) hc (okI_enum rfl B.enumerate (okE_var 7)) (okG_tup hc (okGs_cons (okG_name 15 nd) (okGs_cons (okG_tup hc (okGs_cons (okG_name 11 nd) (okGs_cons (okG_name 12 nd) okGs_nil)) (takes_cons (takes_cons takes_nil))) okGs_nil)) (takes_cons (takes_cons takes_nil))) (okSs_cons (okS_set 16 nd (okE_op op_addU gv_add (okE_comp hc nd (okI_enum rfl B.enumerate (okE_var 7)) (blkOk_by (own := [("spot", 17), ("pair", 8)]) (by kernel_rfl)) (by decide) (fun s H C cl fp => (okG_tup (by rfl) (okGs_cons (okG_name 17 nd) (okGs_cons (okG_name 8 nd) okGs_nil)) (takes_cons (takes_cons takes_nil)))) (fun s H C cl fp => okTs_one (okT_cmp (op_neD hu64) gv_ne (okE_var 17) (okE_var 15))) (fun s H C cl fp => (okE_ix hu64 (okE_var 8) okE_int))) (okE_lst (okA_cons (okE_tup (okA_cons okE_int (okA_cons okE_int okA_nil))) okA_nil)))) (okSs_one (okS_par false false 13 14 hc nd (OkE.c (okE_op op_addU gv_add (okE_var 13) (okE_op op_mul gv_mul (okE_ix hu64 (okE_var 12) okE_int) (okE_ix hu64 (okE_ix hu64 (okE_var 16) okE_int) okE_int)))) (OkE.c (xMax B hc hu (okA_cons (okE_var 14) (okA_cons (okE_op op_addU gv_add (okE_op op_addU gv_add okE_int (okE_ix hu64 (okE_var 12) okE_int)) (okE_ix hu64 (okE_ix hu64 (okE_var 16) okE_int) okE_int)) okA_nil)))))))) (okSs_one (okS_ret (okE_tup (okA_cons (okE_tup (okA_cons (okE_var 13) (okA_cons (okE_var 14) okA_nil))) (okA_cons (okE_tup (okA_cons (okE_var 9) (okA_cons (okE_var 10) okA_nil))) okA_nil)))))))))))))
theorem okloose_between (B : Bi mg) (hthirds_of : Has ca P w K mg base "thirds_of" 2 3 Fthirds_of) (FN : FnP K "loose_between" (top 54) f fd) (gm : mg "loose_between" = some (.ref f)) : Has ca P w K mg base "loose_between" 3 9 Floose_between := by
  have k0 : Has ca P w K mg base "loose_between" 3 3 Floose_between_0 := has_zero (ps := ["cutting", "first", "last"]) FN gm (fun kV doc pm an cdv ct us hl => match us, hl with | [_, _, _], _ => rfl)
  have k1 := okloose_between_step (ca := ca) (P := P) (w := w) (base := base) B hthirds_of FN gm 0 _ k0
  have k2 := okloose_between_step (ca := ca) (P := P) (w := w) (base := base) B hthirds_of FN gm 1 _ k1
  have k3 := okloose_between_step (ca := ca) (P := P) (w := w) (base := base) B hthirds_of FN gm 2 _ k2
  have k4 := okloose_between_step (ca := ca) (P := P) (w := w) (base := base) B hthirds_of FN gm 3 _ k3
  have k5 := okloose_between_step (ca := ca) (P := P) (w := w) (base := base) B hthirds_of FN gm 4 _ k4
  have k6 := okloose_between_step (ca := ca) (P := P) (w := w) (base := base) B hthirds_of FN gm 5 _ k5
  exact k6
theorem scrounds_between : FnScope Nrounds_between ["one", "other"] (defScope (top 55)) := ⟨rfl, rfl, rfl, by decide +kernel, rfl, by decide +kernel, by decide +kernel⟩
theorem okrounds_between (B : Bi mg) (hall_loose : Has ca P w K mg base "all_loose" 1 5 Fall_loose) (hround_behind : Has ca P w K mg base "round_behind" 2 5 Fround_behind) (FN : FnP K "rounds_between" (top 55) f fd) (gm : mg "rounds_between" = some (.ref f)) : Has ca P w K mg base "rounds_between" 2 6 Urounds_between := by
  refine has_mk (ps := ["one", "other"]) FN scrounds_between Grounds_between gm (fun kV doc pm an cdv ct us hl => match us, hl with | [_, _], _ => rfl) fun cdv A outer s H E hr => ?_
  have hu := units65 hr
  have hu64 : (A.deeper (envOfC "rounds_between" (defScope (top 55)) s.heap.objs.size f cdv)).units + 64 < cLine := by omega
  have hu0 : (A.deeper (envOfC "rounds_between" (defScope (top 55)) s.heap.objs.size f cdv)).units < cLine := by omega
  have nd := scrounds_between.nd
  have hc : (cxOf (L2N.CX P w) P w K mg base Nrounds_between "rounds_between" (defScope (top 55)) f cdv A outer s H E).calm = true := rfl
  have tk : L2N.Takes (cxOf (L2N.CX P w) P w K mg base Nrounds_between "rounds_between" (defScope (top 55)) f cdv A outer s H E) (fun cls d _ H => E cls d H) := L2N.takes_of rfl rfl rfl rfl
  have px : Passes (L2N.CX P w) (cxOf (L2N.CX P w) P w K mg base Nrounds_between "rounds_between" (defScope (top 55)) f cdv A outer s H E) E := L2N.passes_call tk fun _ _ _ _ h => h
  exact (okSs_cons (okS_par3 true false false 2 3 4 hc nd (okF_disp hu64 (okE_var 0) okE_int) (OkE.c (okE_lst (okA_cons (okE_var 0) okA_nil))) (OkE.c okE_int)) (okSs_cons (okS_while 12 (passes_of rfl) (okT_ninO 2 hu (okE_var 1)) (okSs_cons (okS_par false false 4 5 hc nd (OkE.c (okE_op op_addU gv_add (okE_var 4) okE_int)) (OkE.c (okE_lst okA_nil))) (okSs_cons (okS_for (passes_of rfl) hc (okI_seq (okE_var 3)) (okG_name 6 nd) (okSs_one (okS_for (passes_of rfl) hc (okI_seq (okE_comp hc nd (okI_seq (okE_from (xCall hall_loose hr px (okA_cons (okE_var 6) okA_nil)))) (blkOk_by (own := [("cuts", 8)]) (by kernel_rfl)) (by decide) (fun s H C cl fp => (okG_name 8 nd)) (fun s H C cl fp => okTs_nil) (fun s H C cl fp => (xCall hround_behind hr passN (okA_cons (okE_var 6) (okA_cons (okE_var 8) okA_nil)))))) (okG_name 7 nd) (okSs_one (okS_if (okT_ninO 2 hu (okE_var 7)) (okSs_cons (okS_setI 2 hu64 (okE_var 4) (okE_var 7)) (okSs_one (okS_set 5 nd (okE_op op_addU gv_add (okE_var 5) (okE_lst (okA_cons (okE_var 7) okA_nil)))))) okSs_nil))))) (okSs_one (okS_set 3 nd (okE_var 5)))))) (okSs_one (okS_ret (okE_ixO 2 hu64 (okE_var 1))))))
theorem scexchanged_at_once : FnScope Nexchanged_at_once ["cutting", "cuts"] (defScope (top 56)) := ⟨rfl, rfl, rfl, by decide +kernel, rfl, by decide +kernel, by decide +kernel⟩
theorem okexchanged_at_once (B : Bi mg) (hare_loose : Has ca P w K mg base "are_loose" 2 5 Fare_loose) (hneed_cutting : Has ca P w K mg base "need_cutting" 1 4 Fneed_cutting) (hround_behind : Has ca P w K mg base "round_behind" 2 5 Fround_behind) (xInvalidCuts : ExC K mg "InvalidCuts" (ca 4)) (FN : FnP K "exchanged_at_once" (top 56) f fd) (gm : mg "exchanged_at_once" = some (.ref f)) : Has ca P w K mg base "exchanged_at_once" 2 6 Uexchanged_at_once := by
  refine has_mk (ps := ["cutting", "cuts"]) FN scexchanged_at_once Gexchanged_at_once gm (fun kV doc pm an cdv ct us hl => match us, hl with | [_, _], _ => rfl) fun cdv A outer s H E hr => ?_
  have hu := units65 hr
  have hu64 : (A.deeper (envOfC "exchanged_at_once" (defScope (top 56)) s.heap.objs.size f cdv)).units + 64 < cLine := by omega
  have hu0 : (A.deeper (envOfC "exchanged_at_once" (defScope (top 56)) s.heap.objs.size f cdv)).units < cLine := by omega
  have nd := scexchanged_at_once.nd
  have hc : (cxOf (L2N.CX P w) P w K mg base Nexchanged_at_once "exchanged_at_once" (defScope (top 56)) f cdv A outer s H E).calm = true := rfl
  have tk : L2N.Takes (cxOf (L2N.CX P w) P w K mg base Nexchanged_at_once "exchanged_at_once" (defScope (top 56)) f cdv A outer s H E) (fun cls d _ H => E cls d H) := L2N.takes_of rfl rfl rfl rfl
  have px : Passes (L2N.CX P w) (cxOf (L2N.CX P w) P w K mg base Nexchanged_at_once "exchanged_at_once" (defScope (top 56)) f cdv A outer s H E) E := L2N.passes_call tk fun _ _ _ _ h => h
  exact (okSs_cons (okS_expr (xCall hneed_cutting hr px (okA_cons (okE_var 0) okA_nil))) (okSs_cons (okS_if (okT_not (okT_val (xCall hare_loose hr px (okA_cons (okE_var 0) (okA_cons (okE_var 1) okA_nil))))) (okSs_one (xRaise xInvalidCuts hc tk)) okSs_nil) (okSs_one (okS_ret (xCall hround_behind hr px (okA_cons (okE_var 0) (okA_cons (okE_var 1) okA_nil)))))))
theorem scmost_at_once : FnScope Nmost_at_once ["cutting"] (defScope (top 57)) := ⟨rfl, rfl, rfl, by decide +kernel, rfl, by decide +kernel, by decide +kernel⟩
theorem okmost_at_once (B : Bi mg) (hloose_between : Has ca P w K mg base "loose_between" 3 9 Floose_between) (hneed_cutting : Has ca P w K mg base "need_cutting" 1 4 Fneed_cutting) (FN : FnP K "most_at_once" (top 57) f fd) (gm : mg "most_at_once" = some (.ref f)) : Has ca P w K mg base "most_at_once" 1 10 Umost_at_once := by
  refine has_mk (ps := ["cutting"]) FN scmost_at_once Gmost_at_once gm (fun kV doc pm an cdv ct us hl => match us, hl with | [_], _ => rfl) fun cdv A outer s H E hr => ?_
  have hu := units65 hr
  have hu64 : (A.deeper (envOfC "most_at_once" (defScope (top 57)) s.heap.objs.size f cdv)).units + 64 < cLine := by omega
  have hu0 : (A.deeper (envOfC "most_at_once" (defScope (top 57)) s.heap.objs.size f cdv)).units < cLine := by omega
  have nd := scmost_at_once.nd
  have hc : (cxOf (L2N.CX P w) P w K mg base Nmost_at_once "most_at_once" (defScope (top 57)) f cdv A outer s H E).calm = true := rfl
  have tk : L2N.Takes (cxOf (L2N.CX P w) P w K mg base Nmost_at_once "most_at_once" (defScope (top 57)) f cdv A outer s H E) (fun cls d _ H => E cls d H) := L2N.takes_of rfl rfl rfl rfl
  have px : Passes (L2N.CX P w) (cxOf (L2N.CX P w) P w K mg base Nmost_at_once "most_at_once" (defScope (top 57)) f cdv A outer s H E) E := L2N.passes_call tk fun _ _ _ _ h => h
  exact (okSs_cons (okS_expr (xCall hneed_cutting hr px (okA_cons (okE_var 0) okA_nil))) (okSs_one (okS_ret (okE_ix hu64 (okE_ix hu64 (xCall hloose_between hr px (okA_cons (okE_var 0) (okA_cons okE_int (okA_cons (okE_op op_sub gv_sub (okE_ix hu64 (okE_var 0) okE_int) okE_int) okA_nil)))) okE_int) okE_int))))
end
end PD
/-! text X3 -/
set_option maxHeartbeats 0
namespace PD
open PySem.Spec PySem PyProof.Rows L2
section
variable {ca : Nat → Addr} {P : Program} {w : World} {K : PySem.W.Frag} {mg : Str → Option Value} {base : Heap} {f : Addr} {fd : FuncData}
theorem scfewest_rounds : FnScope Nfewest_rounds ["one", "other"] (defScope (top 58)) := ⟨rfl, rfl, rfl, by decide +kernel, rfl, by decide +kernel, by decide +kernel⟩
theorem okfewest_rounds (B : Bi mg) (hneed_few : Has ca P w K mg base "need_few" 2 3 Fneed_few) (hneed_two : Has ca P w K mg base "need_two" 2 5 Fneed_two) (hrounds_between : Has ca P w K mg base "rounds_between" 2 6 Frounds_between) (cMOST_ROUNDS : ∃ t, mg "MOST_ROUNDS" = some (.int 7 t)) (FN : FnP K "fewest_rounds" (top 58) f fd) (gm : mg "fewest_rounds" = some (.ref f)) : Has ca P w K mg base "fewest_rounds" 2 7 Ufewest_rounds := by
  obtain ⟨tMOST_ROUNDS, eMOST_ROUNDS⟩ := cMOST_ROUNDS
  refine has_mk (ps := ["one", "other"]) FN scfewest_rounds Gfewest_rounds gm (fun kV doc pm an cdv ct us hl => match us, hl with | [_, _], _ => rfl) fun cdv A outer s H E hr => ?_
  have hu := units65 hr
  have hu64 : (A.deeper (envOfC "fewest_rounds" (defScope (top 58)) s.heap.objs.size f cdv)).units + 64 < cLine := by omega
  have hu0 : (A.deeper (envOfC "fewest_rounds" (defScope (top 58)) s.heap.objs.size f cdv)).units < cLine := by omega
  have nd := scfewest_rounds.nd
  have hc : (cxOf (L2N.CX P w) P w K mg base Nfewest_rounds "fewest_rounds" (defScope (top 58)) f cdv A outer s H E).calm = true := rfl
  have tk : L2N.Takes (cxOf (L2N.CX P w) P w K mg base Nfewest_rounds "fewest_rounds" (defScope (top 58)) f cdv A outer s H E) (fun cls d _ H => E cls d H) := L2N.takes_of rfl rfl rfl rfl
  have px : Passes (L2N.CX P w) (cxOf (L2N.CX P w) P w K mg base Nfewest_rounds "fewest_rounds" (defScope (top 58)) f cdv A outer s H E) E := L2N.passes_call tk fun _ _ _ _ h => h
  exact (okSs_cons (okS_expr (xCall hneed_two hr px (okA_cons (okE_var 0) (okA_cons (okE_var 1) okA_nil)))) (okSs_cons (okS_expr (xCall hneed_few hr px (okA_cons (okE_ix hu64 (okE_var 0) okE_int) (okA_cons (okE_glob rfl eMOST_ROUNDS) okA_nil)))) (okSs_one (okS_ret (xCall hrounds_between hr px (okA_cons (okE_var 0) (okA_cons (okE_var 1) okA_nil)))))))
theorem sccuts_of_both : FnScope Ncuts_of_both ["one", "other"] (defScope (top 60)) := ⟨rfl, rfl, rfl, by decide +kernel, rfl, by decide +kernel, by decide +kernel⟩
theorem okcuts_of_both (B : Bi mg)  (FN : FnP K "cuts_of_both" (top 60) f fd) (gm : mg "cuts_of_both" = some (.ref f)) : Has ca P w K mg base "cuts_of_both" 2 1 Fcuts_of_both := by
  refine has_mk (ps := ["one", "other"]) FN sccuts_of_both Gcuts_of_both gm (fun kV doc pm an cdv ct us hl => match us, hl with | [_, _], _ => rfl) fun cdv A outer s H E hr => ?_
  have hu := units65 hr
  have hu64 : (A.deeper (envOfC "cuts_of_both" (defScope (top 60)) s.heap.objs.size f cdv)).units + 64 < cLine := by omega
  have hu0 : (A.deeper (envOfC "cuts_of_both" (defScope (top 60)) s.heap.objs.size f cdv)).units < cLine := by omega
  have nd := sccuts_of_both.nd
  have hc : (cxOf (L2N.CX P w) P w K mg base Ncuts_of_both "cuts_of_both" (defScope (top 60)) f cdv A outer s H E).calm = true := rfl
  have tk : L2N.Takes (cxOf (L2N.CX P w) P w K mg base Ncuts_of_both "cuts_of_both" (defScope (top 60)) f cdv A outer s H E) (fun cls d _ H => E cls d H) := L2N.takes_of rfl rfl rfl rfl
  have px : Passes (L2N.CX P w) (cxOf (L2N.CX P w) P w K mg base Ncuts_of_both "cuts_of_both" (defScope (top 60)) f cdv A outer s H E) E := L2N.passes_call tk fun _ _ _ _ h => h
  exact (okSs_one (okS_ret (okE_comp hc nd (okI_seq (okE_ix hu64 (okE_var 0) okE_int)) (blkOk_by (own := [("cut", 2)]) (by kernel_rfl)) (by decide) (fun s H C cl fp => (okG_name 2 nd)) (fun s H C cl fp => okTs_one (okT_cmp (op_inU hu) gv_in (okE_var 2) (okE_ix hu64 (okE_var 1) okE_int))) (fun s H C cl fp => (okE_var 2)))))
theorem scsplit_by : FnScope Nsplit_by ["field", "cut"] (defScope (top 61)) := ⟨rfl, rfl, rfl, by decide +kernel, rfl, by decide +kernel, by decide +kernel⟩
theorem oksplit_by (B : Bi mg)  (FN : FnP K "split_by" (top 61) f fd) (gm : mg "split_by" = some (.ref f)) : Has ca P w K mg base "split_by" 2 1 Fsplit_by := by
  refine has_mk (ps := ["field", "cut"]) FN scsplit_by Gsplit_by gm (fun kV doc pm an cdv ct us hl => match us, hl with | [_, _], _ => rfl) fun cdv A outer s H E hr => ?_
  have hu := units65 hr
  have hu64 : (A.deeper (envOfC "split_by" (defScope (top 61)) s.heap.objs.size f cdv)).units + 64 < cLine := by omega
  have hu0 : (A.deeper (envOfC "split_by" (defScope (top 61)) s.heap.objs.size f cdv)).units < cLine := by omega
  have nd := scsplit_by.nd
  have hc : (cxOf (L2N.CX P w) P w K mg base Nsplit_by "split_by" (defScope (top 61)) f cdv A outer s H E).calm = true := rfl
  have tk : L2N.Takes (cxOf (L2N.CX P w) P w K mg base Nsplit_by "split_by" (defScope (top 61)) f cdv A outer s H E) (fun cls d _ H => E cls d H) := L2N.takes_of rfl rfl rfl rfl
  have px : Passes (L2N.CX P w) (cxOf (L2N.CX P w) P w K mg base Nsplit_by "split_by" (defScope (top 61)) f cdv A outer s H E) E := L2N.passes_call tk fun _ _ _ _ h => h
  exact (okSs_cons (okS_if (OkW.t (okW_or (okT_cmp (op_notInU hu) gv_in (okE_ix hu64 (okE_var 1) okE_int) (okE_var 0)) (okW_or1 (okT_cmp (op_notInU hu) gv_in (okE_ix hu64 (okE_var 1) okE_int) (okE_var 0))))) (okSs_one (okS_ret (okE_lst (okA_cons (okE_var 0) okA_nil)))) okSs_nil) (okSs_cons (okS_set 2 nd (xTuple B (okA_cons (okE_comp hc nd (okI_seq (okE_var 0)) (blkOk_by (own := [("corner", 3)]) (by kernel_rfl)) (by decide) (fun s H C cl fp => (okG_name 3 nd)) (fun s H C cl fp => okTs_one (okT_chain xLe xLe gv_int gv_int (okE_ix hu64 (okE_var 1) okE_int) (okE_var 3) (okE_ix hu64 (okE_var 1) okE_int))) (fun s H C cl fp => (okE_var 3))) okA_nil))) (okSs_cons (okS_set 4 nd (xTuple B (okA_cons (okE_comp hc nd (okI_seq (okE_var 0)) (blkOk_by (own := [("corner", 3)]) (by kernel_rfl)) (by decide) (fun s H C cl fp => (okG_name 3 nd)) (fun s H C cl fp => okTs_one (OkW.t (okW_or (okT_cmp xLe gv_int (okE_var 3) (okE_ix hu64 (okE_var 1) okE_int)) (okW_or1 (okT_cmp xGe gv_int (okE_var 3) (okE_ix hu64 (okE_var 1) okE_int)))))) (fun s H C cl fp => (okE_var 3))) okA_nil))) (okSs_one (okS_ret (okE_if (OkW.t (okW_or (okT_cmp (op_ltU hu0) gv_lt (xLen B (okA_cons (okE_var 2) okA_nil)) okE_int) (okW_or1 (okT_cmp (op_ltU hu0) gv_lt (xLen B (okA_cons (okE_var 4) okA_nil)) okE_int)))) (okE_lst (okA_cons (okE_var 0) okA_nil)) (okE_lst (okA_cons (okE_var 2) (okA_cons (okE_var 4) okA_nil)))))))))
theorem scfields_by : FnScope Nfields_by ["sides", "cuts"] (defScope (top 62)) := ⟨rfl, rfl, rfl, by decide +kernel, rfl, by decide +kernel, by decide +kernel⟩
theorem okfields_by (B : Bi mg) (hsplit_by : Has ca P w K mg base "split_by" 2 1 Fsplit_by) (FN : FnP K "fields_by" (top 62) f fd) (gm : mg "fields_by" = some (.ref f)) : Has ca P w K mg base "fields_by" 2 2 Ffields_by := by
  refine has_mk (ps := ["sides", "cuts"]) FN scfields_by Gfields_by gm (fun kV doc pm an cdv ct us hl => match us, hl with | [_, _], _ => rfl) fun cdv A outer s H E hr => ?_
  have hu := units65 hr
  have hu64 : (A.deeper (envOfC "fields_by" (defScope (top 62)) s.heap.objs.size f cdv)).units + 64 < cLine := by omega
  have hu0 : (A.deeper (envOfC "fields_by" (defScope (top 62)) s.heap.objs.size f cdv)).units < cLine := by omega
  have nd := scfields_by.nd
  have hc : (cxOf (L2N.CX P w) P w K mg base Nfields_by "fields_by" (defScope (top 62)) f cdv A outer s H E).calm = true := rfl
  have tk : L2N.Takes (cxOf (L2N.CX P w) P w K mg base Nfields_by "fields_by" (defScope (top 62)) f cdv A outer s H E) (fun cls d _ H => E cls d H) := L2N.takes_of rfl rfl rfl rfl
  have px : Passes (L2N.CX P w) (cxOf (L2N.CX P w) P w K mg base Nfields_by "fields_by" (defScope (top 62)) f cdv A outer s H E) E := L2N.passes_call tk fun _ _ _ _ h => h
  exact (okSs_cons (okS_set 2 nd (okE_lst (okA_cons (okE_tupRg hc rfl B.tuple rfl B.range (okE_var 0)) okA_nil))) (okSs_cons (okS_for (passes_of rfl) hc (okI_seq (okE_var 1)) (okG_name 3 nd) (okSs_cons (okS_set 4 nd (okE_lst okA_nil)) (okSs_cons (okS_for (passes_of rfl) hc (okI_seq (okE_var 2)) (okG_name 5 nd) (okSs_one (okS_set 4 nd (okE_op op_addU gv_add (okE_var 4) (xCall hsplit_by hr px (okA_cons (okE_var 5) (okA_cons (okE_var 3) okA_nil))))))) (okSs_one (okS_set 2 nd (okE_var 4)))))) (okSs_one (okS_ret (xSorted B hu (okA_cons (okE_var 2) okA_nil))))))
theorem scfields_of : FnScope Nfields_of ["one", "other"] (defScope (top 63)) := ⟨rfl, rfl, rfl, by decide +kernel, rfl, by decide +kernel, by decide +kernel⟩
theorem okfields_of (B : Bi mg) (hcuts_of_both : Has ca P w K mg base "cuts_of_both" 2 1 Fcuts_of_both) (hfields_by : Has ca P w K mg base "fields_by" 2 2 Ffields_by) (FN : FnP K "fields_of" (top 63) f fd) (gm : mg "fields_of" = some (.ref f)) : Has ca P w K mg base "fields_of" 2 3 Ufields_of := by
  refine has_mk (ps := ["one", "other"]) FN scfields_of Gfields_of gm (fun kV doc pm an cdv ct us hl => match us, hl with | [_, _], _ => rfl) fun cdv A outer s H E hr => ?_
  have hu := units65 hr
  have hu64 : (A.deeper (envOfC "fields_of" (defScope (top 63)) s.heap.objs.size f cdv)).units + 64 < cLine := by omega
  have hu0 : (A.deeper (envOfC "fields_of" (defScope (top 63)) s.heap.objs.size f cdv)).units < cLine := by omega
  have nd := scfields_of.nd
  have hc : (cxOf (L2N.CX P w) P w K mg base Nfields_of "fields_of" (defScope (top 63)) f cdv A outer s H E).calm = true := rfl
  have tk : L2N.Takes (cxOf (L2N.CX P w) P w K mg base Nfields_of "fields_of" (defScope (top 63)) f cdv A outer s H E) (fun cls d _ H => E cls d H) := L2N.takes_of rfl rfl rfl rfl
  have px : Passes (L2N.CX P w) (cxOf (L2N.CX P w) P w K mg base Nfields_of "fields_of" (defScope (top 63)) f cdv A outer s H E) E := L2N.passes_call tk fun _ _ _ _ h => h
  exact (okSs_one (okS_ret (xCall hfields_by hr px (okA_cons (okE_ix hu64 (okE_var 0) okE_int) (okA_cons (xCall hcuts_of_both hr px (okA_cons (okE_var 0) (okA_cons (okE_var 1) okA_nil))) okA_nil)))))
theorem scpiece_within : FnScope Npiece_within ["cutting", "field"] (defScope (top 64)) := ⟨rfl, rfl, rfl, by decide +kernel, rfl, by decide +kernel, by decide +kernel⟩
theorem okpiece_within (B : Bi mg)  (FN : FnP K "piece_within" (top 64) f fd) (gm : mg "piece_within" = some (.ref f)) : Has ca P w K mg base "piece_within" 2 1 Upiece_within := by
  refine has_mk (ps := ["cutting", "field"]) FN scpiece_within Gpiece_within gm (fun kV doc pm an cdv ct us hl => match us, hl with | [_, _], _ => rfl) fun cdv A outer s H E hr => ?_
  have hu := units65 hr
  have hu64 : (A.deeper (envOfC "piece_within" (defScope (top 64)) s.heap.objs.size f cdv)).units + 64 < cLine := by omega
  have hu0 : (A.deeper (envOfC "piece_within" (defScope (top 64)) s.heap.objs.size f cdv)).units < cLine := by omega
  have nd := scpiece_within.nd
  have hc : (cxOf (L2N.CX P w) P w K mg base Npiece_within "piece_within" (defScope (top 64)) f cdv A outer s H E).calm = true := rfl
  have tk : L2N.Takes (cxOf (L2N.CX P w) P w K mg base Npiece_within "piece_within" (defScope (top 64)) f cdv A outer s H E) (fun cls d _ H => E cls d H) := L2N.takes_of rfl rfl rfl rfl
  have px : Passes (L2N.CX P w) (cxOf (L2N.CX P w) P w K mg base Npiece_within "piece_within" (defScope (top 64)) f cdv A outer s H E) E := L2N.passes_call tk fun _ _ _ _ h => h
  exact (okSs_cons (okS_set 2 nd (okE_dcI hc nd (okI_enum rfl B.enumerate (okE_var 1)) (blkOk_by (own := [("at", 3), ("corner", 4)]) (by kernel_rfl)) (by decide) (fun s H C cl fp => (okG_tup (by rfl) (okGs_cons (okG_name 3 nd) (okGs_cons (okG_name 4 nd) okGs_nil)) (takes_cons (takes_cons takes_nil)))) (fun s H C cl fp => (okE_var 4)) (fun s H C cl fp => (okE_var 3)))) (okSs_cons (okS_set 5 nd (okE_op op_sub gv_sub (xLen B (okA_cons (okE_var 1) okA_nil)) okE_int)) (okSs_cons (okS_setComp 6 hc nd (okI_seq (okE_ix hu64 (okE_var 0) okE_int)) (blkOk_by (own := [("one", 7), ("other", 8)]) (by kernel_rfl)) (by decide) (fun s H C cl fp => (okG_tup (by rfl) (okGs_cons (okG_name 7 nd) (okGs_cons (okG_name 8 nd) okGs_nil)) (takes_cons (takes_cons takes_nil)))) (fun s H C cl fp => okTs_one (OkW.t (okW_and (okT_cmp (op_inU hu) gv_in (okE_var 7) (okE_var 2)) (okW_and1 (okT_cmp (op_inU hu) gv_in (okE_var 8) (okE_var 2)))))) (fun s H C cl fp => (okE_tup (okA_cons (okE_ix hu64 (okE_var 2) (okE_var 7)) (okA_cons (okE_ix hu64 (okE_var 2) (okE_var 8)) okA_nil))))) (okSs_one (okS_ret (okE_tup (okA_cons (xLen B (okA_cons (okE_var 1) okA_nil)) (okA_cons (xTuple B (okA_cons (xSorted B hu (okA_cons (okE_comp hc nd (okI_seq (okE_var 6)) (blkOk_by (own := [("pair", 9)]) (by kernel_rfl)) (by decide) (fun s H C cl fp => (okG_name 9 nd)) (fun s H C cl fp => okTs_one (okT_chain (op_ltU hu0) (op_ltU hu0) gv_lt gv_lt okE_int (okE_op op_sub gv_sub (okE_ix hu64 (okE_var 9) okE_int) (okE_ix hu64 (okE_var 9) okE_int)) (okE_var 5))) (fun s H C cl fp => (okE_var 9))) okA_nil)) okA_nil)) okA_nil))))))))
theorem scshared_cuts : FnScope Nshared_cuts ["one", "other"] (defScope (top 65)) := ⟨rfl, rfl, rfl, by decide +kernel, rfl, by decide +kernel, by decide +kernel⟩
theorem okshared_cuts (B : Bi mg) (hcuts_of_both : Has ca P w K mg base "cuts_of_both" 2 1 Fcuts_of_both) (hneed_two : Has ca P w K mg base "need_two" 2 5 Fneed_two) (FN : FnP K "shared_cuts" (top 65) f fd) (gm : mg "shared_cuts" = some (.ref f)) : Has ca P w K mg base "shared_cuts" 2 6 Ushared_cuts := by
  refine has_mk (ps := ["one", "other"]) FN scshared_cuts Gshared_cuts gm (fun kV doc pm an cdv ct us hl => match us, hl with | [_, _], _ => rfl) fun cdv A outer s H E hr => ?_
  have hu := units65 hr
  have hu64 : (A.deeper (envOfC "shared_cuts" (defScope (top 65)) s.heap.objs.size f cdv)).units + 64 < cLine := by omega
  have hu0 : (A.deeper (envOfC "shared_cuts" (defScope (top 65)) s.heap.objs.size f cdv)).units < cLine := by omega
  have nd := scshared_cuts.nd
  have hc : (cxOf (L2N.CX P w) P w K mg base Nshared_cuts "shared_cuts" (defScope (top 65)) f cdv A outer s H E).calm = true := rfl
  have tk : L2N.Takes (cxOf (L2N.CX P w) P w K mg base Nshared_cuts "shared_cuts" (defScope (top 65)) f cdv A outer s H E) (fun cls d _ H => E cls d H) := L2N.takes_of rfl rfl rfl rfl
  have px : Passes (L2N.CX P w) (cxOf (L2N.CX P w) P w K mg base Nshared_cuts "shared_cuts" (defScope (top 65)) f cdv A outer s H E) E := L2N.passes_call tk fun _ _ _ _ h => h
  exact (okSs_cons (okS_expr (xCall hneed_two hr px (okA_cons (okE_var 0) (okA_cons (okE_var 1) okA_nil)))) (okSs_one (okS_ret (xCall hcuts_of_both hr px (okA_cons (okE_var 0) (okA_cons (okE_var 1) okA_nil))))))
theorem scnexts_of : FnScope Nnexts_of ["cutting"] (defScope (top 68)) := ⟨rfl, rfl, rfl, by decide +kernel, rfl, by decide +kernel, by decide +kernel⟩
theorem oknexts_of (B : Bi mg) (hcut_for : Has ca P w K mg base "cut_for" 2 4 Fcut_for) (hwith_cut : Has ca P w K mg base "with_cut" 3 1 Fwith_cut) (FN : FnP K "nexts_of" (top 68) f fd) (gm : mg "nexts_of" = some (.ref f)) : Has ca P w K mg base "nexts_of" 1 5 Unexts_of := by
  refine has_mk (ps := ["cutting"]) FN scnexts_of Gnexts_of gm (fun kV doc pm an cdv ct us hl => match us, hl with | [_], _ => rfl) fun cdv A outer s H E hr => ?_
  have hu := units65 hr
  have hu64 : (A.deeper (envOfC "nexts_of" (defScope (top 68)) s.heap.objs.size f cdv)).units + 64 < cLine := by omega
  have hu0 : (A.deeper (envOfC "nexts_of" (defScope (top 68)) s.heap.objs.size f cdv)).units < cLine := by omega
  have nd := scnexts_of.nd
  have hc : (cxOf (L2N.CX P w) P w K mg base Nnexts_of "nexts_of" (defScope (top 68)) f cdv A outer s H E).calm = true := rfl
  have tk : L2N.Takes (cxOf (L2N.CX P w) P w K mg base Nnexts_of "nexts_of" (defScope (top 68)) f cdv A outer s H E) (fun cls d _ H => E cls d H) := L2N.takes_of rfl rfl rfl rfl
  have px : Passes (L2N.CX P w) (cxOf (L2N.CX P w) P w K mg base Nnexts_of "nexts_of" (defScope (top 68)) f cdv A outer s H E) E := L2N.passes_call tk fun _ _ _ _ h => h
  exact (okSs_one (okS_ret (okE_comp hc nd (okI_seq (okE_ix hu64 (okE_var 0) okE_int)) (blkOk_by (own := [("cut", 1)]) (by kernel_rfl)) (by decide) (fun s H C cl fp => (okG_name 1 nd)) (fun s H C cl fp => okTs_nil) (fun s H C cl fp => (okE_tup (okA_cons (okE_var 1) (okA_cons (xCall hwith_cut hr passN (okA_cons (okE_var 0) (okA_cons (okE_var 1) (okA_cons (xCall hcut_for hr passN (okA_cons (okE_var 0) (okA_cons (okE_var 1) okA_nil))) okA_nil)))) okA_nil)))))))
theorem screach_from : FnScope Nreach_from ["cutting", "goal"] (defScope (top 69)) := ⟨rfl, rfl, rfl, by decide +kernel, rfl, by decide +kernel, by decide +kernel⟩
theorem okreach_from (B : Bi mg) (hnexts_of : Has ca P w K mg base "nexts_of" 1 5 Fnexts_of) (FN : FnP K "reach_from" (top 69) f fd) (gm : mg "reach_from" = some (.ref f)) : Has ca P w K mg base "reach_from" 2 6 Ureach_from := by
  refine has_mk (ps := ["cutting", "goal"]) FN screach_from Greach_from gm (fun kV doc pm an cdv ct us hl => match us, hl with | [_, _], _ => rfl) fun cdv A outer s H E hr => ?_
  have hu := units65 hr
  have hu64 : (A.deeper (envOfC "reach_from" (defScope (top 69)) s.heap.objs.size f cdv)).units + 64 < cLine := by omega
  have hu0 : (A.deeper (envOfC "reach_from" (defScope (top 69)) s.heap.objs.size f cdv)).units < cLine := by omega
  have nd := screach_from.nd
  have hc : (cxOf (L2N.CX P w) P w K mg base Nreach_from "reach_from" (defScope (top 69)) f cdv A outer s H E).calm = true := rfl
  have tk : L2N.Takes (cxOf (L2N.CX P w) P w K mg base Nreach_from "reach_from" (defScope (top 69)) f cdv A outer s H E) (fun cls d _ H => E cls d H) := L2N.takes_of rfl rfl rfl rfl
  have px : Passes (L2N.CX P w) (cxOf (L2N.CX P w) P w K mg base Nreach_from "reach_from" (defScope (top 69)) f cdv A outer s H E) E := L2N.passes_call tk fun _ _ _ _ h => h
  exact (okSs_cons (okS_par3 true false false 2 3 4 hc nd (okF_disp hu64 (okE_var 0) (okE_tup (okA_cons okE_int (okA_cons okE_int okA_nil)))) (OkE.c (okE_lst (okA_cons (okE_var 0) okA_nil))) (OkE.c okE_int)) (okSs_cons (okS_while 12 (passes_of rfl) (OkW.t (okW_and (okT_cmp (op_neD hu64) gv_ne (okE_var 3) (okE_lst okA_nil)) (okW_and1 (okT_ninO 2 hu (okE_var 1))))) (okSs_cons (okS_par false false 4 5 hc nd (OkE.c (okE_op op_addU gv_add (okE_var 4) okE_int)) (OkE.c (okE_lst okA_nil))) (okSs_cons (okS_for (passes_of rfl) hc (okI_seq (okE_var 3)) (okG_name 6 nd) (okSs_cons (okS_set 7 nd (okE_ix hu64 (okE_ixO 2 hu64 (okE_var 6)) okE_int)) (okSs_one (okS_for (passes_of rfl) hc (okI_seq (xCall hnexts_of hr px (okA_cons (okE_var 6) okA_nil))) (okG_tup hc (okGs_cons (okG_name 8 nd) (okGs_cons (okG_name 9 nd) okGs_nil)) (takes_cons (takes_cons takes_nil))) (okSs_one (okS_if (okT_ninO 2 hu (okE_var 9)) (okSs_cons (okS_set 5 nd (okE_op op_addU gv_add (okE_var 5) (okE_lst (okA_cons (okE_var 9) okA_nil)))) (okSs_one (okS_setI 2 hu64 (okE_tup (okA_cons (okE_var 4) (okA_cons (okE_var 7) okA_nil))) (okE_var 9)))) (okSs_one (okS_if (okT_cmp (op_eqD hu64) gv_eq (okE_ix hu64 (okE_ixO 2 hu64 (okE_var 9)) okE_int) (okE_var 4)) (okSs_one (okS_setI 2 hu64 (okE_tup (okA_cons (okE_var 4) (okA_cons (okE_op op_addU gv_add (okE_ix hu64 (okE_ixO 2 hu64 (okE_var 9)) okE_int) (okE_var 7)) okA_nil))) (okE_var 9))) okSs_nil)))))))) (okSs_one (okS_set 3 nd (okE_var 5)))))) (okSs_one (okS_frz 2 (okS_ret (okE_var 2))))))
theorem scback_from : FnScope Nback_from ["found", "goal"] (defScope (top 70)) := ⟨rfl, rfl, rfl, by decide +kernel, rfl, by decide +kernel, by decide +kernel⟩
theorem okback_from (B : Bi mg) (hcut_for : Has ca P w K mg base "cut_for" 2 4 Fcut_for) (hnexts_of : Has ca P w K mg base "nexts_of" 1 5 Fnexts_of) (FN : FnP K "back_from" (top 70) f fd) (gm : mg "back_from" = some (.ref f)) : Has ca P w K mg base "back_from" 2 6 Fback_from := by
  refine has_mk (ps := ["found", "goal"]) FN scback_from Gback_from gm (fun kV doc pm an cdv ct us hl => match us, hl with | [_, _], _ => rfl) fun cdv A outer s H E hr => ?_
  have hu := units65 hr
  have hu64 : (A.deeper (envOfC "back_from" (defScope (top 70)) s.heap.objs.size f cdv)).units + 64 < cLine := by omega
  have hu0 : (A.deeper (envOfC "back_from" (defScope (top 70)) s.heap.objs.size f cdv)).units < cLine := by omega
  have nd := scback_from.nd
  have hc : (cxOf (L2N.CX P w) P w K mg base Nback_from "back_from" (defScope (top 70)) f cdv A outer s H E).calm = true := rfl
  have tk : L2N.Takes (cxOf (L2N.CX P w) P w K mg base Nback_from "back_from" (defScope (top 70)) f cdv A outer s H E) (fun cls d _ H => E cls d H) := L2N.takes_of rfl rfl rfl rfl
  have px : Passes (L2N.CX P w) (cxOf (L2N.CX P w) P w K mg base Nback_from "back_from" (defScope (top 70)) f cdv A outer s H E) E := L2N.passes_call tk fun _ _ _ _ h => h
  exact (okSs_cons (okS_par false false 2 3 hc nd (OkE.c (okE_tup okA_nil)) (OkE.c (okE_var 1))) (okSs_cons (okS_while 12 (passes_of rfl) (okT_cmp xGt gv_int (okE_ix hu64 (okE_ix hu64 (okE_var 0) (okE_var 3)) okE_int) okE_int) (okSs_cons (okS_set 4 nd (okE_op op_sub gv_sub (okE_ix hu64 (okE_ix hu64 (okE_var 0) (okE_var 3)) okE_int) okE_int)) (okSs_cons (okS_asg (okE_ix hu64 (okE_comp hc nd (okI_seq (xCall hnexts_of hr px (okA_cons (okE_var 3) okA_nil))) (blkOk_by (own := [("pair", 7)]) (by kernel_rfl)) (by decide) (fun s H C cl fp => (okG_name 7 nd)) (fun s H C cl fp => okTs_one (OkW.t (okW_and (okT_cmp (op_inU hu) gv_in (okE_ix hu64 (okE_var 7) okE_int) (okE_var 0)) (okW_and1 (okT_cmp (op_eqD hu64) gv_eq (okE_ix hu64 (okE_ix hu64 (okE_var 0) (okE_ix hu64 (okE_var 7) okE_int)) okE_int) (okE_var 4)))))) (fun s H C cl fp => (okE_var 7))) okE_int) (okG_tup hc (okGs_cons (okG_name 5 nd) (okGs_cons (okG_name 6 nd) okGs_nil)) (takes_cons (takes_cons takes_nil)))) (okSs_one (okS_par false false 2 3 hc nd (OkE.c (okE_op op_addU gv_add (okE_tup (okA_cons (xCall hcut_for hr px (okA_cons (okE_var 3) (okA_cons (okE_var 5) okA_nil))) okA_nil)) (okE_var 2))) (OkE.c (okE_var 6))))))) (okSs_one (okS_ret (okE_var 2)))))
theorem scpairs_within : FnScope Npairs_within ["one", "other"] (defScope (top 71)) := ⟨rfl, rfl, rfl, by decide +kernel, rfl, by decide +kernel, by decide +kernel⟩
theorem okpairs_within (B : Bi mg) (hfields_of : Has ca P w K mg base "fields_of" 2 3 Ffields_of) (hpiece_within : Has ca P w K mg base "piece_within" 2 1 Fpiece_within) (FN : FnP K "pairs_within" (top 71) f fd) (gm : mg "pairs_within" = some (.ref f)) : Has ca P w K mg base "pairs_within" 2 4 Upairs_within := by
  refine has_mk (ps := ["one", "other"]) FN scpairs_within Gpairs_within gm (fun kV doc pm an cdv ct us hl => match us, hl with | [_, _], _ => rfl) fun cdv A outer s H E hr => ?_
  have hu := units65 hr
  have hu64 : (A.deeper (envOfC "pairs_within" (defScope (top 71)) s.heap.objs.size f cdv)).units + 64 < cLine := by omega
  have hu0 : (A.deeper (envOfC "pairs_within" (defScope (top 71)) s.heap.objs.size f cdv)).units < cLine := by omega
  have nd := scpairs_within.nd
  have hc : (cxOf (L2N.CX P w) P w K mg base Npairs_within "pairs_within" (defScope (top 71)) f cdv A outer s H E).calm = true := rfl
  have tk : L2N.Takes (cxOf (L2N.CX P w) P w K mg base Npairs_within "pairs_within" (defScope (top 71)) f cdv A outer s H E) (fun cls d _ H => E cls d H) := L2N.takes_of rfl rfl rfl rfl
  have px : Passes (L2N.CX P w) (cxOf (L2N.CX P w) P w K mg base Npairs_within "pairs_within" (defScope (top 71)) f cdv A outer s H E) E := L2N.passes_call tk fun _ _ _ _ h => h
  exact (okSs_cons (okS_setComp 2 hc nd (okI_seq (xCall hfields_of hr px (okA_cons (okE_var 0) (okA_cons (okE_var 1) okA_nil)))) (blkOk_by (own := [("field", 3)]) (by kernel_rfl)) (by decide) (fun s H C cl fp => (okG_name 3 nd)) (fun s H C cl fp => okTs_one (okT_cmp xGt gv_int (xLen B (okA_cons (okE_var 3) okA_nil)) okE_int)) (fun s H C cl fp => (okE_var 3))) (okSs_one (okS_ret (okE_comp hc nd (okI_seq (okE_var 2)) (blkOk_by (own := [("field", 3)]) (by kernel_rfl)) (by decide) (fun s H C cl fp => (okG_name 3 nd)) (fun s H C cl fp => okTs_nil) (fun s H C cl fp => (okE_tup (okA_cons (okE_var 3) (okA_cons (xCall hpiece_within hr passN (okA_cons (okE_var 0) (okA_cons (okE_var 3) okA_nil))) (okA_cons (xCall hpiece_within hr passN (okA_cons (okE_var 1) (okA_cons (okE_var 3) okA_nil))) okA_nil)))))))))
theorem scbringing : FnScope Nbringing ["one", "other"] (defScope (top 72)) := ⟨rfl, rfl, rfl, by decide +kernel, rfl, by decide +kernel, by decide +kernel⟩
theorem okbringing (B : Bi mg) (hcut_for : Has ca P w K mg base "cut_for" 2 4 Fcut_for) (hnexts_of : Has ca P w K mg base "nexts_of" 1 5 Fnexts_of) (FN : FnP K "bringing" (top 72) f fd) (gm : mg "bringing" = some (.ref f)) : Has ca P w K mg base "bringing" 2 6 Fbringing := by
  refine has_mk (ps := ["one", "other"]) FN scbringing Gbringing gm (fun kV doc pm an cdv ct us hl => match us, hl with | [_, _], _ => rfl) fun cdv A outer s H E hr => ?_
  have hu := units65 hr
  have hu64 : (A.deeper (envOfC "bringing" (defScope (top 72)) s.heap.objs.size f cdv)).units + 64 < cLine := by omega
  have hu0 : (A.deeper (envOfC "bringing" (defScope (top 72)) s.heap.objs.size f cdv)).units < cLine := by omega
  have nd := scbringing.nd
  have hc : (cxOf (L2N.CX P w) P w K mg base Nbringing "bringing" (defScope (top 72)) f cdv A outer s H E).calm = true := rfl
  have tk : L2N.Takes (cxOf (L2N.CX P w) P w K mg base Nbringing "bringing" (defScope (top 72)) f cdv A outer s H E) (fun cls d _ H => E cls d H) := L2N.takes_of rfl rfl rfl rfl
  have px : Passes (L2N.CX P w) (cxOf (L2N.CX P w) P w K mg base Nbringing "bringing" (defScope (top 72)) f cdv A outer s H E) E := L2N.passes_call tk fun _ _ _ _ h => h
  exact (okSs_cons (okS_setComp 2 hc nd (okI_seq (xCall hnexts_of hr px (okA_cons (okE_var 0) okA_nil))) (blkOk_by (own := [("pair", 3)]) (by kernel_rfl)) (by decide) (fun s H C cl fp => (okG_name 3 nd)) (fun s H C cl fp => okTs_one (OkW.t (okW_and (okT_cmp (op_notInU hu) gv_in (okE_ix hu64 (okE_var 3) okE_int) (okE_ix hu64 (okE_var 1) okE_int)) (okW_and1 (okT_cmp (op_inU hu) gv_in (xCall hcut_for hr passN (okA_cons (okE_var 0) (okA_cons (okE_ix hu64 (okE_var 3) okE_int) okA_nil))) (okE_ix hu64 (okE_var 1) okE_int)))))) (fun s H C cl fp => (okE_var 3))) (okSs_one (okS_ret (okE_if (okT_cmp (op_neD hu64) gv_ne (okE_var 2) (okE_lst okA_nil)) (okE_ix hu64 (okE_var 2) okE_int) okE_non))))
theorem scway_in : FnScope Nway_in ["one", "other"] (defScope (top 73)) := ⟨rfl, rfl, rfl, by decide +kernel, rfl, by decide +kernel, by decide +kernel⟩
theorem okway_in_step (B : Bi mg) (hback_from : Has ca P w K mg base "back_from" 2 6 Fback_from) (hbringing : Has ca P w K mg base "bringing" 2 6 Fbringing) (hpairs_within : Has ca P w K mg base "pairs_within" 2 4 Fpairs_within) (hreach_from : Has ca P w K mg base "reach_from" 2 6 Freach_from) (FN : FnP K "way_in" (top 73) f fd) (gm : mg "way_in" = some (.ref f)) (lv : Nat) (FR : List PyData → R PyData) (hway_in : Has ca P w K mg base "way_in" 2 (lv + 6) FR) : Has ca P w K mg base "way_in" 2 (lv + 6 + 1) (fun ds => outR (Gway_in FR (startE 10 ds))) := by
  refine has_mk (ps := ["one", "other"]) FN scway_in (Gway_in FR) gm (fun kV doc pm an cdv ct us hl => match us, hl with | [_, _], _ => rfl) fun cdv A outer s H E hr => ?_
  have hu := units65 hr
  have hu64 : (A.deeper (envOfC "way_in" (defScope (top 73)) s.heap.objs.size f cdv)).units + 64 < cLine := by omega
  have hu0 : (A.deeper (envOfC "way_in" (defScope (top 73)) s.heap.objs.size f cdv)).units < cLine := by omega
  have nd := scway_in.nd
  have hc : (cxOf (L2N.CX P w) P w K mg base Nway_in "way_in" (defScope (top 73)) f cdv A outer s H E).calm = true := rfl
  have tk : L2N.Takes (cxOf (L2N.CX P w) P w K mg base Nway_in "way_in" (defScope (top 73)) f cdv A outer s H E) (fun cls d _ H => E cls d H) := L2N.takes_of rfl rfl rfl rfl
  have px : Passes (L2N.CX P w) (cxOf (L2N.CX P w) P w K mg base Nway_in "way_in" (defScope (top 73)) f cdv A outer s H E) E := L2N.passes_call tk fun _ _ _ _ h => h
  exact (okSs_cons (okS_set 2 nd (okE_tup okA_nil)) (okSs_cons (okS_for (passes_of rfl) hc (okI_seq (xCall hpairs_within hr px (okA_cons (okE_var 0) (okA_cons (okE_var 1) okA_nil)))) (okG_tup hc (okGs_cons (okG_name 3 nd) (okGs_cons (okG_name 4 nd) (okGs_cons (okG_name 5 nd) okGs_nil))) (takes_cons (takes_cons (takes_cons takes_nil)))) (okSs_cons (okS_set 6 nd (xCall hbringing hr px (okA_cons (okE_var 4) (okA_cons (okE_var 5) okA_nil)))) (okSs_cons (okS_if (okT_cmp op_notU gv_notN (okE_var 6) okE_non) (okSs_one (okS_set 7 nd (okE_op op_addU gv_add (okE_tup (okA_cons (okE_ix hu64 (okE_var 6) okE_int) okA_nil)) (xCall hway_in hr px (okA_cons (okE_ix hu64 (okE_var 6) okE_int) (okA_cons (okE_var 5) okA_nil)) (nble_refl _))))) (okSs_one (okS_set 7 nd (xCall hback_from hr px (okA_cons (xCall hreach_from hr px (okA_cons (okE_var 4) (okA_cons (okE_var 5) okA_nil))) (okA_cons (okE_var 5) okA_nil)))))) (okSs_one (okS_set 2 nd (okE_op op_addU gv_add (okE_var 2) (xTuple B (okA_cons (okE_comp hc nd (okI_seq (okE_var 7)) (blkOk_by (own := [("a", 8), ("b", 9)]) (by kernel_rfl)) (by decide) (fun s H C cl fp => (okG_tup (by rfl) (okGs_cons (okG_name 8 nd) (okGs_cons (okG_name 9 nd) okGs_nil)) (takes_cons (takes_cons takes_nil)))) (fun s H C cl fp => okTs_nil) (fun s H C cl fp => (okE_tup (okA_cons (okE_ix hu64 (okE_var 3) (okE_var 8)) (okA_cons (okE_ix hu64 (okE_var 3) (okE_var 9)) okA_nil))))) okA_nil)))))))) (okSs_one (okS_ret (okE_var 2)))))
theorem okway_in (B : Bi mg) (hback_from : Has ca P w K mg base "back_from" 2 6 Fback_from) (hbringing : Has ca P w K mg base "bringing" 2 6 Fbringing) (hpairs_within : Has ca P w K mg base "pairs_within" 2 4 Fpairs_within) (hreach_from : Has ca P w K mg base "reach_from" 2 6 Freach_from) (FN : FnP K "way_in" (top 73) f fd) (gm : mg "way_in" = some (.ref f)) : Has ca P w K mg base "way_in" 2 10 Uway_in := by
  have k0 : Has ca P w K mg base "way_in" 2 6 Fway_in_0 := has_zero (ps := ["one", "other"]) FN gm (fun kV doc pm an cdv ct us hl => match us, hl with | [_, _], _ => rfl)
  have k1 := okway_in_step (ca := ca) (P := P) (w := w) (base := base) B hback_from hbringing hpairs_within hreach_from FN gm 0 _ k0
  have k2 := okway_in_step (ca := ca) (P := P) (w := w) (base := base) B hback_from hbringing hpairs_within hreach_from FN gm 1 _ k1
  have k3 := okway_in_step (ca := ca) (P := P) (w := w) (base := base) B hback_from hbringing hpairs_within hreach_from FN gm 2 _ k2
  have k4 := okway_in_step (ca := ca) (P := P) (w := w) (base := base) B hback_from hbringing hpairs_within hreach_from FN gm 3 _ k3
  exact k4
theorem scpicks_of : FnScope Npicks_of ["many", "some"] (defScope (top 74)) := ⟨rfl, rfl, rfl, by decide +kernel, rfl, by decide +kernel, by decide +kernel⟩
theorem okpicks_of (B : Bi mg)  (FN : FnP K "picks_of" (top 74) f fd) (gm : mg "picks_of" = some (.ref f)) : Has ca P w K mg base "picks_of" 2 1 Fpicks_of := by
  refine has_mk (ps := ["many", "some"]) FN scpicks_of Gpicks_of gm (fun kV doc pm an cdv ct us hl => match us, hl with | [_, _], _ => rfl) fun cdv A outer s H E hr => ?_
  have hu := units65 hr
  have hu64 : (A.deeper (envOfC "picks_of" (defScope (top 74)) s.heap.objs.size f cdv)).units + 64 < cLine := by omega
  have hu0 : (A.deeper (envOfC "picks_of" (defScope (top 74)) s.heap.objs.size f cdv)).units < cLine := by omega
  have nd := scpicks_of.nd
  have hc : (cxOf (L2N.CX P w) P w K mg base Npicks_of "picks_of" (defScope (top 74)) f cdv A outer s H E).calm = true := rfl
  have tk : L2N.Takes (cxOf (L2N.CX P w) P w K mg base Npicks_of "picks_of" (defScope (top 74)) f cdv A outer s H E) (fun cls d _ H => E cls d H) := L2N.takes_of rfl rfl rfl rfl
  have px : Passes (L2N.CX P w) (cxOf (L2N.CX P w) P w K mg base Npicks_of "picks_of" (defScope (top 74)) f cdv A outer s H E) E := L2N.passes_call tk fun _ _ _ _ h => h
  exact (okSs_cons (okS_set 2 nd okE_int) (okSs_cons (okS_for (passes_of rfl) hc (okI_range rfl B.range (okE_var 1)) (okG_name 3 nd) (okSs_one (okS_set 2 nd (okE_op op_fdivN gv_div (okE_op op_mul gv_mul (okE_var 2) (okE_op op_sub gv_sub (okE_var 0) (okE_var 3))) (okE_op op_addU gv_add (okE_var 3) okE_int))))) (okSs_one (okS_ret (okE_var 2)))))
theorem scneed_fields : FnScope Nneed_fields ["one", "other"] (defScope (top 75)) := ⟨rfl, rfl, rfl, by decide +kernel, rfl, by decide +kernel, by decide +kernel⟩
theorem okneed_fields (B : Bi mg) (hfields_of : Has ca P w K mg base "fields_of" 2 3 Ffields_of) (hneed_few : Has ca P w K mg base "need_few" 2 3 Fneed_few) (hneed_two : Has ca P w K mg base "need_two" 2 5 Fneed_two) (cMOST_FIELD : ∃ t, mg "MOST_FIELD" = some (.int 8 t)) (FN : FnP K "need_fields" (top 75) f fd) (gm : mg "need_fields" = some (.ref f)) : Has ca P w K mg base "need_fields" 2 6 Uneed_fields := by
  obtain ⟨tMOST_FIELD, eMOST_FIELD⟩ := cMOST_FIELD
  refine has_mk (ps := ["one", "other"]) FN scneed_fields Gneed_fields gm (fun kV doc pm an cdv ct us hl => match us, hl with | [_, _], _ => rfl) fun cdv A outer s H E hr => ?_
  have hu := units65 hr
  have hu64 : (A.deeper (envOfC "need_fields" (defScope (top 75)) s.heap.objs.size f cdv)).units + 64 < cLine := by omega
  have hu0 : (A.deeper (envOfC "need_fields" (defScope (top 75)) s.heap.objs.size f cdv)).units < cLine := by omega
  have nd := scneed_fields.nd
  have hc : (cxOf (L2N.CX P w) P w K mg base Nneed_fields "need_fields" (defScope (top 75)) f cdv A outer s H E).calm = true := rfl
  have tk : L2N.Takes (cxOf (L2N.CX P w) P w K mg base Nneed_fields "need_fields" (defScope (top 75)) f cdv A outer s H E) (fun cls d _ H => E cls d H) := L2N.takes_of rfl rfl rfl rfl
  have px : Passes (L2N.CX P w) (cxOf (L2N.CX P w) P w K mg base Nneed_fields "need_fields" (defScope (top 75)) f cdv A outer s H E) E := L2N.passes_call tk fun _ _ _ _ h => h
  exact (okSs_cons (okS_expr (xCall hneed_two hr px (okA_cons (okE_var 0) (okA_cons (okE_var 1) okA_nil)))) (okSs_one (okS_expr (xCall hneed_few hr px (okA_cons (xMax B hc hu (okA_cons (okE_comp hc nd (okI_seq (xCall hfields_of hr px (okA_cons (okE_var 0) (okA_cons (okE_var 1) okA_nil)))) (blkOk_by (own := [("field", 2)]) (by kernel_rfl)) (by decide) (fun s H C cl fp => (okG_name 2 nd)) (fun s H C cl fp => okTs_nil) (fun s H C cl fp => (xLen B (okA_cons (okE_var 2) okA_nil)))) okA_nil)) (okA_cons (okE_glob rfl eMOST_FIELD) okA_nil))))))
theorem scfewest_exchanges : FnScope Nfewest_exchanges ["one", "other"] (defScope (top 76)) := ⟨rfl, rfl, rfl, by decide +kernel, rfl, by decide +kernel, by decide +kernel⟩
theorem okfewest_exchanges (B : Bi mg) (hneed_fields : Has ca P w K mg base "need_fields" 2 6 Fneed_fields) (hway_in : Has ca P w K mg base "way_in" 2 10 Fway_in) (FN : FnP K "fewest_exchanges" (top 76) f fd) (gm : mg "fewest_exchanges" = some (.ref f)) : Has ca P w K mg base "fewest_exchanges" 2 11 Ufewest_exchanges := by
  refine has_mk (ps := ["one", "other"]) FN scfewest_exchanges Gfewest_exchanges gm (fun kV doc pm an cdv ct us hl => match us, hl with | [_, _], _ => rfl) fun cdv A outer s H E hr => ?_
  have hu := units65 hr
  have hu64 : (A.deeper (envOfC "fewest_exchanges" (defScope (top 76)) s.heap.objs.size f cdv)).units + 64 < cLine := by omega
  have hu0 : (A.deeper (envOfC "fewest_exchanges" (defScope (top 76)) s.heap.objs.size f cdv)).units < cLine := by omega
  have nd := scfewest_exchanges.nd
  have hc : (cxOf (L2N.CX P w) P w K mg base Nfewest_exchanges "fewest_exchanges" (defScope (top 76)) f cdv A outer s H E).calm = true := rfl
  have tk : L2N.Takes (cxOf (L2N.CX P w) P w K mg base Nfewest_exchanges "fewest_exchanges" (defScope (top 76)) f cdv A outer s H E) (fun cls d _ H => E cls d H) := L2N.takes_of rfl rfl rfl rfl
  have px : Passes (L2N.CX P w) (cxOf (L2N.CX P w) P w K mg base Nfewest_exchanges "fewest_exchanges" (defScope (top 76)) f cdv A outer s H E) E := L2N.passes_call tk fun _ _ _ _ h => h
  exact (okSs_cons (okS_expr (xCall hneed_fields hr px (okA_cons (okE_var 0) (okA_cons (okE_var 1) okA_nil)))) (okSs_one (okS_ret (xLen B (okA_cons (xCall hway_in hr px (okA_cons (okE_var 0) (okA_cons (okE_var 1) okA_nil))) okA_nil)))))
theorem scleast_way : FnScope Nleast_way ["one", "other"] (defScope (top 77)) := ⟨rfl, rfl, rfl, by decide +kernel, rfl, by decide +kernel, by decide +kernel⟩
theorem okleast_way (B : Bi mg) (hneed_fields : Has ca P w K mg base "need_fields" 2 6 Fneed_fields) (hway_in : Has ca P w K mg base "way_in" 2 10 Fway_in) (FN : FnP K "least_way" (top 77) f fd) (gm : mg "least_way" = some (.ref f)) : Has ca P w K mg base "least_way" 2 11 Uleast_way := by
  refine has_mk (ps := ["one", "other"]) FN scleast_way Gleast_way gm (fun kV doc pm an cdv ct us hl => match us, hl with | [_, _], _ => rfl) fun cdv A outer s H E hr => ?_
  have hu := units65 hr
  have hu64 : (A.deeper (envOfC "least_way" (defScope (top 77)) s.heap.objs.size f cdv)).units + 64 < cLine := by omega
  have hu0 : (A.deeper (envOfC "least_way" (defScope (top 77)) s.heap.objs.size f cdv)).units < cLine := by omega
  have nd := scleast_way.nd
  have hc : (cxOf (L2N.CX P w) P w K mg base Nleast_way "least_way" (defScope (top 77)) f cdv A outer s H E).calm = true := rfl
  have tk : L2N.Takes (cxOf (L2N.CX P w) P w K mg base Nleast_way "least_way" (defScope (top 77)) f cdv A outer s H E) (fun cls d _ H => E cls d H) := L2N.takes_of rfl rfl rfl rfl
  have px : Passes (L2N.CX P w) (cxOf (L2N.CX P w) P w K mg base Nleast_way "least_way" (defScope (top 77)) f cdv A outer s H E) E := L2N.passes_call tk fun _ _ _ _ h => h
  exact (okSs_cons (okS_expr (xCall hneed_fields hr px (okA_cons (okE_var 0) (okA_cons (okE_var 1) okA_nil)))) (okSs_one (okS_ret (xCall hway_in hr px (okA_cons (okE_var 0) (okA_cons (okE_var 1) okA_nil))))))
theorem scis_least_way : FnScope Nis_least_way ["one", "other", "value"] (defScope (top 78)) := ⟨rfl, rfl, rfl, by decide +kernel, rfl, by decide +kernel, by decide +kernel⟩
theorem okis_least_way (B : Bi mg) (hleads_to : Has ca P w K mg base "leads_to" 3 6 Fleads_to) (hneed_fields : Has ca P w K mg base "need_fields" 2 6 Fneed_fields) (hway_in : Has ca P w K mg base "way_in" 2 10 Fway_in) (FN : FnP K "is_least_way" (top 78) f fd) (gm : mg "is_least_way" = some (.ref f)) : Has ca P w K mg base "is_least_way" 3 11 Uis_least_way := by
  refine has_mk (ps := ["one", "other", "value"]) FN scis_least_way Gis_least_way gm (fun kV doc pm an cdv ct us hl => match us, hl with | [_, _, _], _ => rfl) fun cdv A outer s H E hr => ?_
  have hu := units65 hr
  have hu64 : (A.deeper (envOfC "is_least_way" (defScope (top 78)) s.heap.objs.size f cdv)).units + 64 < cLine := by omega
  have hu0 : (A.deeper (envOfC "is_least_way" (defScope (top 78)) s.heap.objs.size f cdv)).units < cLine := by omega
  have nd := scis_least_way.nd
  have hc : (cxOf (L2N.CX P w) P w K mg base Nis_least_way "is_least_way" (defScope (top 78)) f cdv A outer s H E).calm = true := rfl
  have tk : L2N.Takes (cxOf (L2N.CX P w) P w K mg base Nis_least_way "is_least_way" (defScope (top 78)) f cdv A outer s H E) (fun cls d _ H => E cls d H) := L2N.takes_of rfl rfl rfl rfl
  have px : Passes (L2N.CX P w) (cxOf (L2N.CX P w) P w K mg base Nis_least_way "is_least_way" (defScope (top 78)) f cdv A outer s H E) E := L2N.passes_call tk fun _ _ _ _ h => h
  exact (okSs_cons (okS_expr (xCall hneed_fields hr px (okA_cons (okE_var 0) (okA_cons (okE_var 1) okA_nil)))) (okSs_one (okS_ret (okE_and (xCall hleads_to hr px (okA_cons (okE_var 0) (okA_cons (okE_var 1) (okA_cons (okE_var 2) okA_nil)))) (okE_one (okE_cmp (op_eqD hu64) gv_eq (xLen B (okA_cons (okE_var 2) okA_nil)) (xLen B (okA_cons (xCall hway_in hr px (okA_cons (okE_var 0) (okA_cons (okE_var 1) okA_nil))) okA_nil))))))))
theorem sccount_least_ways : FnScope Ncount_least_ways ["one", "other"] (defScope (top 79)) := ⟨rfl, rfl, rfl, by decide +kernel, rfl, by decide +kernel, by decide +kernel⟩
theorem okcount_least_ways (B : Bi mg) (hneed_fields : Has ca P w K mg base "need_fields" 2 6 Fneed_fields) (hpairs_within : Has ca P w K mg base "pairs_within" 2 4 Fpairs_within) (hpicks_of : Has ca P w K mg base "picks_of" 2 1 Fpicks_of) (hreach_from : Has ca P w K mg base "reach_from" 2 6 Freach_from) (FN : FnP K "count_least_ways" (top 79) f fd) (gm : mg "count_least_ways" = some (.ref f)) : Has ca P w K mg base "count_least_ways" 2 7 Ucount_least_ways := by
  refine has_mk (ps := ["one", "other"]) FN sccount_least_ways Gcount_least_ways gm (fun kV doc pm an cdv ct us hl => match us, hl with | [_, _], _ => rfl) fun cdv A outer s H E hr => ?_
  have hu := units65 hr
  have hu64 : (A.deeper (envOfC "count_least_ways" (defScope (top 79)) s.heap.objs.size f cdv)).units + 64 < cLine := by omega
  have hu0 : (A.deeper (envOfC "count_least_ways" (defScope (top 79)) s.heap.objs.size f cdv)).units < cLine := by omega
  have nd := sccount_least_ways.nd
  have hc : (cxOf (L2N.CX P w) P w K mg base Ncount_least_ways "count_least_ways" (defScope (top 79)) f cdv A outer s H E).calm = true := rfl
  have tk : L2N.Takes (cxOf (L2N.CX P w) P w K mg base Ncount_least_ways "count_least_ways" (defScope (top 79)) f cdv A outer s H E) (fun cls d _ H => E cls d H) := L2N.takes_of rfl rfl rfl rfl
  have px : Passes (L2N.CX P w) (cxOf (L2N.CX P w) P w K mg base Ncount_least_ways "count_least_ways" (defScope (top 79)) f cdv A outer s H E) E := L2N.passes_call tk fun _ _ _ _ h => h
  exact (okSs_cons (okS_expr (xCall hneed_fields hr px (okA_cons (okE_var 0) (okA_cons (okE_var 1) okA_nil)))) (okSs_cons (okS_asg (okE_tup (okA_cons okE_int (okA_cons okE_int okA_nil))) (okG_tup hc (okGs_cons (okG_name 2 nd) (okGs_cons (okG_name 3 nd) okGs_nil)) (takes_cons (takes_cons takes_nil)))) (okSs_cons (okS_for (passes_of rfl) hc (okI_seq (xCall hpairs_within hr px (okA_cons (okE_var 0) (okA_cons (okE_var 1) okA_nil)))) (okG_tup hc (okGs_cons (okG_name 4 nd) (okGs_cons (okG_name 5 nd) (okGs_cons (okG_name 6 nd) okGs_nil))) (takes_cons (takes_cons (takes_cons takes_nil)))) (okSs_cons (okS_asg (okE_ix hu64 (xCall hreach_from hr px (okA_cons (okE_var 5) (okA_cons (okE_var 6) okA_nil))) (okE_var 6)) (okG_tup hc (okGs_cons (okG_name 7 nd) (okGs_cons (okG_name 8 nd) okGs_nil)) (takes_cons (takes_cons takes_nil)))) (okSs_cons (okS_set 3 nd (okE_op op_addU gv_add (okE_var 3) (okE_var 7))) (okSs_one (okS_set 2 nd (okE_op op_mul gv_mul (okE_op op_mul gv_mul (okE_var 2) (okE_var 8)) (xCall hpicks_of hr px (okA_cons (okE_var 3) (okA_cons (okE_var 7) okA_nil))))))))) (okSs_one (okS_ret (okE_var 2))))))
theorem scon_least_ways : FnScope Non_least_ways ["one", "other"] (defScope (top 80)) := ⟨rfl, rfl, rfl, by decide +kernel, rfl, by decide +kernel, by decide +kernel⟩
theorem okon_least_ways (B : Bi mg) (hneed_fields : Has ca P w K mg base "need_fields" 2 6 Fneed_fields) (hpairs_within : Has ca P w K mg base "pairs_within" 2 4 Fpairs_within) (hreach_from : Has ca P w K mg base "reach_from" 2 6 Freach_from) (FN : FnP K "on_least_ways" (top 80) f fd) (gm : mg "on_least_ways" = some (.ref f)) : Has ca P w K mg base "on_least_ways" 2 7 Uon_least_ways := by
  refine has_mk (ps := ["one", "other"]) FN scon_least_ways Gon_least_ways gm (fun kV doc pm an cdv ct us hl => match us, hl with | [_, _], _ => rfl) fun cdv A outer s H E hr => ?_
  have hu := units65 hr
  have hu64 : (A.deeper (envOfC "on_least_ways" (defScope (top 80)) s.heap.objs.size f cdv)).units + 64 < cLine := by omega
  have hu0 : (A.deeper (envOfC "on_least_ways" (defScope (top 80)) s.heap.objs.size f cdv)).units < cLine := by omega
  have nd := scon_least_ways.nd
  have hc : (cxOf (L2N.CX P w) P w K mg base Non_least_ways "on_least_ways" (defScope (top 80)) f cdv A outer s H E).calm = true := rfl
  have tk : L2N.Takes (cxOf (L2N.CX P w) P w K mg base Non_least_ways "on_least_ways" (defScope (top 80)) f cdv A outer s H E) (fun cls d _ H => E cls d H) := L2N.takes_of rfl rfl rfl rfl
  have px : Passes (L2N.CX P w) (cxOf (L2N.CX P w) P w K mg base Non_least_ways "on_least_ways" (defScope (top 80)) f cdv A outer s H E) E := L2N.passes_call tk fun _ _ _ _ h => h
  exact (okSs_cons (okS_expr (xCall hneed_fields hr px (okA_cons (okE_var 0) (okA_cons (okE_var 1) okA_nil)))) (okSs_cons (okS_set 2 nd okE_int) (okSs_cons (okS_for (passes_of rfl) hc (okI_seq (xCall hpairs_within hr px (okA_cons (okE_var 0) (okA_cons (okE_var 1) okA_nil)))) (okG_tup hc (okGs_cons (okG_name 3 nd) (okGs_cons (okG_name 4 nd) (okGs_cons (okG_name 5 nd) okGs_nil))) (takes_cons (takes_cons (takes_cons takes_nil)))) (okSs_cons (okS_asg (okE_tup (okA_cons (xCall hreach_from hr px (okA_cons (okE_var 4) (okA_cons (okE_var 5) okA_nil))) (okA_cons (xCall hreach_from hr px (okA_cons (okE_var 5) (okA_cons (okE_var 4) okA_nil))) okA_nil))) (okG_tup hc (okGs_cons (okG_name 6 nd) (okGs_cons (okG_name 7 nd) okGs_nil)) (takes_cons (takes_cons takes_nil)))) (okSs_cons (okS_set 8 nd (okE_ix hu64 (okE_ix hu64 (okE_var 6) (okE_var 5)) okE_int)) (okSs_one (okS_set 2 nd (okE_op op_mul gv_mul (okE_var 2) (xLen B (okA_cons (okE_comp hc nd (okI_seq (okE_var 6)) (blkOk_by (own := [("some", 9)]) (by kernel_rfl)) (by decide) (fun s H C cl fp => (okG_name 9 nd)) (fun s H C cl fp => okTs_one (OkW.t (okW_and (okT_cmp (op_inU hu) gv_in (okE_var 9) (okE_var 7)) (okW_and1 (okT_cmp (op_eqD hu64) gv_eq (okE_op op_addU gv_add (okE_ix hu64 (okE_ix hu64 (okE_var 6) (okE_var 9)) okE_int) (okE_ix hu64 (okE_ix hu64 (okE_var 7) (okE_var 9)) okE_int)) (okE_var 8)))))) (fun s H C cl fp => (okE_var 9))) okA_nil)))))))) (okSs_one (okS_ret (okE_var 2))))))
theorem scmoved : FnScope Nmoved ["cutting", "steps", "sign"] (defScope (top 82)) := ⟨rfl, rfl, rfl, by decide +kernel, rfl, by decide +kernel, by decide +kernel⟩
theorem okmoved (B : Bi mg)  (FN : FnP K "moved" (top 82) f fd) (gm : mg "moved" = some (.ref f)) : Has ca P w K mg base "moved" 3 1 Fmoved := by
  refine has_mk (ps := ["cutting", "steps", "sign"]) FN scmoved Gmoved gm (fun kV doc pm an cdv ct us hl => match us, hl with | [_, _, _], _ => rfl) fun cdv A outer s H E hr => ?_
  have hu := units65 hr
  have hu64 : (A.deeper (envOfC "moved" (defScope (top 82)) s.heap.objs.size f cdv)).units + 64 < cLine := by omega
  have hu0 : (A.deeper (envOfC "moved" (defScope (top 82)) s.heap.objs.size f cdv)).units < cLine := by omega
  have nd := scmoved.nd
  have hc : (cxOf (L2N.CX P w) P w K mg base Nmoved "moved" (defScope (top 82)) f cdv A outer s H E).calm = true := rfl
  have tk : L2N.Takes (cxOf (L2N.CX P w) P w K mg base Nmoved "moved" (defScope (top 82)) f cdv A outer s H E) (fun cls d _ H => E cls d H) := L2N.takes_of rfl rfl rfl rfl
  have px : Passes (L2N.CX P w) (cxOf (L2N.CX P w) P w K mg base Nmoved "moved" (defScope (top 82)) f cdv A outer s H E) E := L2N.passes_call tk fun _ _ _ _ h => h
  exact (okSs_cons (okS_asg (okE_var 0) (okG_tup hc (okGs_cons (okG_name 3 nd) (okGs_cons (okG_name 4 nd) okGs_nil)) (takes_cons (takes_cons takes_nil)))) (okSs_cons (okS_setComp 5 hc nd (okI_seq (okE_var 4)) (blkOk_by (own := [("one", 6), ("other", 7)]) (by kernel_rfl)) (by decide) (fun s H C cl fp => (okG_tup (by rfl) (okGs_cons (okG_name 6 nd) (okGs_cons (okG_name 7 nd) okGs_nil)) (takes_cons (takes_cons takes_nil)))) (fun s H C cl fp => okTs_nil) (fun s H C cl fp => (okE_tup (okA_cons (okE_op op_modN gv_mod (okE_op op_addU gv_add (okE_op op_mul gv_mul (okE_var 2) (okE_var 6)) (okE_var 1)) (okE_var 3)) (okA_cons (okE_op op_modN gv_mod (okE_op op_addU gv_add (okE_op op_mul gv_mul (okE_var 2) (okE_var 7)) (okE_var 1)) (okE_var 3)) okA_nil))))) (okSs_one (okS_ret (okE_tup (okA_cons (okE_var 3) (okA_cons (xTuple B (okA_cons (xSorted B hu (okA_cons (okE_comp hc nd (okI_seq (okE_var 5)) (blkOk_by (own := [("pair", 8)]) (by kernel_rfl)) (by decide) (fun s H C cl fp => (okG_name 8 nd)) (fun s H C cl fp => okTs_nil) (fun s H C cl fp => (okE_tup (okA_cons (xMin B (by rfl) hu (okA_cons (okE_var 8) okA_nil)) (okA_cons (xMax B (by rfl) hu (okA_cons (okE_var 8) okA_nil)) okA_nil))))) okA_nil)) okA_nil)) okA_nil)))))))
theorem scturned : FnScope Nturned ["cutting", "steps"] (defScope (top 83)) := ⟨rfl, rfl, rfl, by decide +kernel, rfl, by decide +kernel, by decide +kernel⟩
theorem okturned (B : Bi mg) (hmoved : Has ca P w K mg base "moved" 3 1 Fmoved) (hneed_cutting : Has ca P w K mg base "need_cutting" 1 4 Fneed_cutting) (hneed_number : Has ca P w K mg base "need_number" 3 2 Fneed_number) (FN : FnP K "turned" (top 83) f fd) (gm : mg "turned" = some (.ref f)) : Has ca P w K mg base "turned" 2 5 Uturned := by
  refine has_mk (ps := ["cutting", "steps"]) FN scturned Gturned gm (fun kV doc pm an cdv ct us hl => match us, hl with | [_, _], _ => rfl) fun cdv A outer s H E hr => ?_
  have hu := units65 hr
  have hu64 : (A.deeper (envOfC "turned" (defScope (top 83)) s.heap.objs.size f cdv)).units + 64 < cLine := by omega
  have hu0 : (A.deeper (envOfC "turned" (defScope (top 83)) s.heap.objs.size f cdv)).units < cLine := by omega
  have nd := scturned.nd
  have hc : (cxOf (L2N.CX P w) P w K mg base Nturned "turned" (defScope (top 83)) f cdv A outer s H E).calm = true := rfl
  have tk : L2N.Takes (cxOf (L2N.CX P w) P w K mg base Nturned "turned" (defScope (top 83)) f cdv A outer s H E) (fun cls d _ H => E cls d H) := L2N.takes_of rfl rfl rfl rfl
  have px : Passes (L2N.CX P w) (cxOf (L2N.CX P w) P w K mg base Nturned "turned" (defScope (top 83)) f cdv A outer s H E) E := L2N.passes_call tk fun _ _ _ _ h => h
  exact (okSs_cons (okS_expr (xCall hneed_cutting hr px (okA_cons (okE_var 0) okA_nil))) (okSs_cons (okS_expr (xCall hneed_number hr px (okA_cons (okE_var 1) (okA_cons (xNeg okE_int) (okA_cons okE_int okA_nil))))) (okSs_one (okS_ret (xCall hmoved hr px (okA_cons (okE_var 0) (okA_cons (okE_var 1) (okA_cons okE_int okA_nil))))))))
theorem scmirrored : FnScope Nmirrored ["cutting"] (defScope (top 84)) := ⟨rfl, rfl, rfl, by decide +kernel, rfl, by decide +kernel, by decide +kernel⟩
theorem okmirrored (B : Bi mg) (hmoved : Has ca P w K mg base "moved" 3 1 Fmoved) (hneed_cutting : Has ca P w K mg base "need_cutting" 1 4 Fneed_cutting) (FN : FnP K "mirrored" (top 84) f fd) (gm : mg "mirrored" = some (.ref f)) : Has ca P w K mg base "mirrored" 1 5 Umirrored := by
  refine has_mk (ps := ["cutting"]) FN scmirrored Gmirrored gm (fun kV doc pm an cdv ct us hl => match us, hl with | [_], _ => rfl) fun cdv A outer s H E hr => ?_
  have hu := units65 hr
  have hu64 : (A.deeper (envOfC "mirrored" (defScope (top 84)) s.heap.objs.size f cdv)).units + 64 < cLine := by omega
  have hu0 : (A.deeper (envOfC "mirrored" (defScope (top 84)) s.heap.objs.size f cdv)).units < cLine := by omega
  have nd := scmirrored.nd
  have hc : (cxOf (L2N.CX P w) P w K mg base Nmirrored "mirrored" (defScope (top 84)) f cdv A outer s H E).calm = true := rfl
  have tk : L2N.Takes (cxOf (L2N.CX P w) P w K mg base Nmirrored "mirrored" (defScope (top 84)) f cdv A outer s H E) (fun cls d _ H => E cls d H) := L2N.takes_of rfl rfl rfl rfl
  have px : Passes (L2N.CX P w) (cxOf (L2N.CX P w) P w K mg base Nmirrored "mirrored" (defScope (top 84)) f cdv A outer s H E) E := L2N.passes_call tk fun _ _ _ _ h => h
  exact (okSs_cons (okS_expr (xCall hneed_cutting hr px (okA_cons (okE_var 0) okA_nil))) (okSs_one (okS_ret (xCall hmoved hr px (okA_cons (okE_var 0) (okA_cons okE_int (okA_cons (xNeg okE_int) okA_nil)))))))
theorem scfars_of : FnScope Nfars_of ["cutting"] (defScope (top 87)) := ⟨rfl, rfl, rfl, by decide +kernel, rfl, by decide +kernel, by decide +kernel⟩
theorem okfars_of (B : Bi mg) (hreach_from : Has ca P w K mg base "reach_from" 2 6 Freach_from) (FN : FnP K "fars_of" (top 87) f fd) (gm : mg "fars_of" = some (.ref f)) : Has ca P w K mg base "fars_of" 1 7 Ffars_of := by
  refine has_mk (ps := ["cutting"]) FN scfars_of Gfars_of gm (fun kV doc pm an cdv ct us hl => match us, hl with | [_], _ => rfl) fun cdv A outer s H E hr => ?_
  have hu := units65 hr
  have hu64 : (A.deeper (envOfC "fars_of" (defScope (top 87)) s.heap.objs.size f cdv)).units + 64 < cLine := by omega
  have hu0 : (A.deeper (envOfC "fars_of" (defScope (top 87)) s.heap.objs.size f cdv)).units < cLine := by omega
  have nd := scfars_of.nd
  have hc : (cxOf (L2N.CX P w) P w K mg base Nfars_of "fars_of" (defScope (top 87)) f cdv A outer s H E).calm = true := rfl
  have tk : L2N.Takes (cxOf (L2N.CX P w) P w K mg base Nfars_of "fars_of" (defScope (top 87)) f cdv A outer s H E) (fun cls d _ H => E cls d H) := L2N.takes_of rfl rfl rfl rfl
  have px : Passes (L2N.CX P w) (cxOf (L2N.CX P w) P w K mg base Nfars_of "fars_of" (defScope (top 87)) f cdv A outer s H E) E := L2N.passes_call tk fun _ _ _ _ h => h
  exact (okSs_cons (okS_set 1 nd (xCall hreach_from hr px (okA_cons (okE_var 0) (okA_cons okE_non okA_nil)))) (okSs_one (okS_ret (okE_dcC hu64 hc nd (okI_seq (okE_var 1)) (blkOk_by (own := [("there", 2)]) (by kernel_rfl)) (by decide) (fun s H C cl fp => (okG_name 2 nd)) (fun s H C cl fp => (okE_var 2)) (fun s H C cl fp => (okE_ix hu64 (okE_ix hu64 (okE_var 1) (okE_var 2)) okE_int))))))
theorem sclayers : FnScope Nlayers ["cutting"] (defScope (top 88)) := ⟨rfl, rfl, rfl, by decide +kernel, rfl, by decide +kernel, by decide +kernel⟩
theorem oklayers (B : Bi mg) (hfars_of : Has ca P w K mg base "fars_of" 1 7 Ffars_of) (hneed_cutting : Has ca P w K mg base "need_cutting" 1 4 Fneed_cutting) (hneed_few : Has ca P w K mg base "need_few" 2 3 Fneed_few) (cMOST_LAYERS : ∃ t, mg "MOST_LAYERS" = some (.int 8 t)) (FN : FnP K "layers" (top 88) f fd) (gm : mg "layers" = some (.ref f)) : Has ca P w K mg base "layers" 1 8 Ulayers := by
  obtain ⟨tMOST_LAYERS, eMOST_LAYERS⟩ := cMOST_LAYERS
  refine has_mk (ps := ["cutting"]) FN sclayers Glayers gm (fun kV doc pm an cdv ct us hl => match us, hl with | [_], _ => rfl) fun cdv A outer s H E hr => ?_
  have hu := units65 hr
  have hu64 : (A.deeper (envOfC "layers" (defScope (top 88)) s.heap.objs.size f cdv)).units + 64 < cLine := by omega
  have hu0 : (A.deeper (envOfC "layers" (defScope (top 88)) s.heap.objs.size f cdv)).units < cLine := by omega
  have nd := sclayers.nd
  have hc : (cxOf (L2N.CX P w) P w K mg base Nlayers "layers" (defScope (top 88)) f cdv A outer s H E).calm = true := rfl
  have tk : L2N.Takes (cxOf (L2N.CX P w) P w K mg base Nlayers "layers" (defScope (top 88)) f cdv A outer s H E) (fun cls d _ H => E cls d H) := L2N.takes_of rfl rfl rfl rfl
  have px : Passes (L2N.CX P w) (cxOf (L2N.CX P w) P w K mg base Nlayers "layers" (defScope (top 88)) f cdv A outer s H E) E := L2N.passes_call tk fun _ _ _ _ h => h
  exact (okSs_cons (okS_expr (xCall hneed_cutting hr px (okA_cons (okE_var 0) okA_nil))) (okSs_cons (okS_expr (xCall hneed_few hr px (okA_cons (okE_ix hu64 (okE_var 0) okE_int) (okA_cons (okE_glob rfl eMOST_LAYERS) okA_nil)))) (okSs_cons (okS_set 1 nd (okE_listVals hc rfl B.list (xCall hfars_of hr px (okA_cons (okE_var 0) okA_nil)))) (okSs_one (okS_ret (xTuple B (okA_cons (okE_comp hc nd (okI_range rfl B.range (okE_op op_addU gv_add (xMax B hc hu (okA_cons (okE_var 1) okA_nil)) okE_int)) (blkOk_by (own := [("far", 2)]) (by kernel_rfl)) (by decide) (fun s H C cl fp => (okG_name 2 nd)) (fun s H C cl fp => okTs_nil) (fun s H C cl fp => (okE_cnt (okE_var 1) (okE_var 2)))) okA_nil)))))))
end
end PD
/-! text X4 -/
set_option maxHeartbeats 0
namespace PD
open PySem.Spec PySem PyProof.Rows L2
section
variable {ca : Nat → Addr} {P : Program} {w : World} {K : PySem.W.Frag} {mg : Str → Option Value} {base : Heap} {f : Addr} {fd : FuncData}
theorem sc_law_kind : FnScope N_law_kind ["_law_value"] (defScope (top 96)) := ⟨rfl, rfl, rfl, by decide +kernel, rfl, by decide +kernel, by decide +kernel⟩
theorem ok_law_kind (B : Bi mg)  (FN : FnP K "_law_kind" (top 96) f fd) (gm : mg "_law_kind" = some (.ref f)) : Has ca P w K mg base "_law_kind" 1 1 F_law_kind := by
  refine has_mk (ps := ["_law_value"]) FN sc_law_kind G_law_kind gm (fun kV doc pm an cdv ct us hl => match us, hl with | [_], _ => rfl) fun cdv A outer s H E hr => ?_
  have hu := units65 hr
  have hu64 : (A.deeper (envOfC "_law_kind" (defScope (top 96)) s.heap.objs.size f cdv)).units + 64 < cLine := by omega
  have hu0 : (A.deeper (envOfC "_law_kind" (defScope (top 96)) s.heap.objs.size f cdv)).units < cLine := by omega
  have nd := sc_law_kind.nd
  have hc : (cxOf (L2N.CX P w) P w K mg base N_law_kind "_law_kind" (defScope (top 96)) f cdv A outer s H E).calm = true := rfl
  have tk : L2N.Takes (cxOf (L2N.CX P w) P w K mg base N_law_kind "_law_kind" (defScope (top 96)) f cdv A outer s H E) (fun cls d _ H => E cls d H) := L2N.takes_of rfl rfl rfl rfl
  have px : Passes (L2N.CX P w) (cxOf (L2N.CX P w) P w K mg base N_law_kind "_law_kind" (defScope (top 96)) f cdv A outer s H E) E := L2N.passes_call tk fun _ _ _ _ h => h
  exact (okSs_cons (okS_if (OkW.t (okW_or (okT_cmp op_isN gv_isN (okE_var 0) okE_non) (okW_or1 (okT_val (okE_isi2 .bool .str rfl B.isinstance rfl B.bool PyProof.Rows.boot_bool rfl B.str PyProof.Rows.boot_str (okE_var 0)))))) (okSs_one (okS_ret (okE_if (okT_cmp op_isN gv_isN (okE_var 0) okE_non) okE_int (okE_if (okT_val (okE_isi .bool rfl B.isinstance rfl B.bool PyProof.Rows.boot_bool (okE_var 0))) okE_int okE_int)))) okSs_nil) (okSs_cons (okS_if (okT_val (okE_isi2 .list .tuple rfl B.isinstance rfl B.list PyProof.Rows.boot_list rfl B.tuple PyProof.Rows.boot_tuple (okE_var 0))) (okSs_one (okS_ret (okE_if (okT_val (okE_isi .list rfl B.isinstance rfl B.list PyProof.Rows.boot_list (okE_var 0))) okE_int okE_int))) okSs_nil) (okSs_one (okS_ret (okE_if (okT_val (okE_isi .int rfl B.isinstance rfl B.int PyProof.Rows.boot_int (okE_var 0))) okE_int okE_int)))))
theorem sc_law_twins : FnScope N_law_twins ["_law_one", "_law_other"] (defScope (top 97)) := ⟨rfl, rfl, rfl, by decide +kernel, rfl, by decide +kernel, by decide +kernel⟩
theorem ok_law_twins_step (B : Bi mg) (h_law_kind : Has ca P w K mg base "_law_kind" 1 1 F_law_kind) (FN : FnP K "_law_twins" (top 97) f fd) (gm : mg "_law_twins" = some (.ref f)) (lv : Nat) (FR : List PyData → R PyData) (h_law_twins : Has ca P w K mg base "_law_twins" 2 (lv + 1) FR) : Has ca P w K mg base "_law_twins" 2 (lv + 1 + 1) (fun ds => outR (G_law_twins FR (startE 4 ds))) := by
  refine has_mk (ps := ["_law_one", "_law_other"]) FN sc_law_twins (G_law_twins FR) gm (fun kV doc pm an cdv ct us hl => match us, hl with | [_, _], _ => rfl) fun cdv A outer s H E hr => ?_
  have hu := units65 hr
  have hu64 : (A.deeper (envOfC "_law_twins" (defScope (top 97)) s.heap.objs.size f cdv)).units + 64 < cLine := by omega
  have hu0 : (A.deeper (envOfC "_law_twins" (defScope (top 97)) s.heap.objs.size f cdv)).units < cLine := by omega
  have nd := sc_law_twins.nd
  have hc : (cxOf (L2N.CX P w) P w K mg base N_law_twins "_law_twins" (defScope (top 97)) f cdv A outer s H E).calm = true := rfl
  have tk : L2N.Takes (cxOf (L2N.CX P w) P w K mg base N_law_twins "_law_twins" (defScope (top 97)) f cdv A outer s H E) (fun cls d _ H => E cls d H) := L2N.takes_of rfl rfl rfl rfl
  have px : Passes (L2N.CX P w) (cxOf (L2N.CX P w) P w K mg base N_law_twins "_law_twins" (defScope (top 97)) f cdv A outer s H E) E := L2N.passes_call tk fun _ _ _ _ h => h
  exact (okSs_cons (okS_if (okT_cmp (op_neD hu64) gv_ne (xCall h_law_kind hr px (okA_cons (okE_var 0) okA_nil)) (xCall h_law_kind hr px (okA_cons (okE_var 1) okA_nil))) (okSs_one (okS_ret okE_bl)) okSs_nil) (okSs_cons (okS_if (okT_cmp (op_inU hu) gv_in (xCall h_law_kind hr px (okA_cons (okE_var 0) okA_nil)) (okE_lst (okA_cons okE_int (okA_cons okE_int okA_nil)))) (okSs_one (okS_ret (okE_and (okE_cmp (op_eqD hu64) gv_eq (xLen B (okA_cons (okE_var 0) okA_nil)) (xLen B (okA_cons (okE_var 1) okA_nil))) (okE_one (okE_cmp (op_eqD hu64) gv_eq (okE_comp hc nd (okI_zip rfl B.zip (okE_var 0) (okE_var 1)) (blkOk_by (own := [("_law_a", 2), ("_law_b", 3)]) (by kernel_rfl)) (by decide) (fun s H C cl fp => (okG_tup (by rfl) (okGs_cons (okG_name 2 nd) (okGs_cons (okG_name 3 nd) okGs_nil)) (takes_cons (takes_cons takes_nil)))) (fun s H C cl fp => okTs_one (okT_not (okT_val (xCall h_law_twins hr passN (okA_cons (okE_var 2) (okA_cons (okE_var 3) okA_nil)) (nble_refl _))))) (fun s H C cl fp => okE_int)) (okE_lst okA_nil)))))) okSs_nil) (okSs_one (okS_ret (okE_cmp (op_eqD hu64) gv_eq (okE_var 0) (okE_var 1))))))
theorem ok_law_twins (B : Bi mg) (h_law_kind : Has ca P w K mg base "_law_kind" 1 1 F_law_kind) (FN : FnP K "_law_twins" (top 97) f fd) (gm : mg "_law_twins" = some (.ref f)) : Has ca P w K mg base "_law_twins" 2 2 F_law_twins := by
  have k0 : Has ca P w K mg base "_law_twins" 2 1 F_law_twins_0 := has_zero (ps := ["_law_one", "_law_other"]) FN gm (fun kV doc pm an cdv ct us hl => match us, hl with | [_, _], _ => rfl)
  have k1 := ok_law_twins_step (ca := ca) (P := P) (w := w) (base := base) B h_law_kind FN gm 0 _ k0
  exact k1
theorem sc_law_tied : FnScope N_law_tied ["_law_cutting_here", "_law_one", "_law_other"] (defScope (top 100)) := ⟨rfl, rfl, rfl, by decide +kernel, rfl, by decide +kernel, by decide +kernel⟩
theorem ok_law_tied (B : Bi mg)  (FN : FnP K "_law_tied" (top 100) f fd) (gm : mg "_law_tied" = some (.ref f)) : Has ca P w K mg base "_law_tied" 3 1 F_law_tied := by
  refine has_mk (ps := ["_law_cutting_here", "_law_one", "_law_other"]) FN sc_law_tied G_law_tied gm (fun kV doc pm an cdv ct us hl => match us, hl with | [_, _, _], _ => rfl) fun cdv A outer s H E hr => ?_
  have hu := units65 hr
  have hu64 : (A.deeper (envOfC "_law_tied" (defScope (top 100)) s.heap.objs.size f cdv)).units + 64 < cLine := by omega
  have hu0 : (A.deeper (envOfC "_law_tied" (defScope (top 100)) s.heap.objs.size f cdv)).units < cLine := by omega
  have nd := sc_law_tied.nd
  have hc : (cxOf (L2N.CX P w) P w K mg base N_law_tied "_law_tied" (defScope (top 100)) f cdv A outer s H E).calm = true := rfl
  have tk : L2N.Takes (cxOf (L2N.CX P w) P w K mg base N_law_tied "_law_tied" (defScope (top 100)) f cdv A outer s H E) (fun cls d _ H => E cls d H) := L2N.takes_of rfl rfl rfl rfl
  have px : Passes (L2N.CX P w) (cxOf (L2N.CX P w) P w K mg base N_law_tied "_law_tied" (defScope (top 100)) f cdv A outer s H E) E := L2N.passes_call tk fun _ _ _ _ h => h
  exact (okSs_one (okS_ret (okE_or (okE_cmp (op_inU hu) gv_in (okE_op op_modN gv_mod (okE_op op_sub gv_sub (okE_var 1) (okE_var 2)) (okE_ix hu64 (okE_var 0) okE_int)) (okE_tup (okA_cons okE_int (okA_cons (okE_op op_sub gv_sub (okE_ix hu64 (okE_var 0) okE_int) okE_int) okA_nil)))) (okE_one (okE_cmp (op_inU hu) gv_in (okE_tup (okA_cons (xMin B hc hu (okA_cons (okE_var 1) (okA_cons (okE_var 2) okA_nil))) (okA_cons (xMax B hc hu (okA_cons (okE_var 1) (okA_cons (okE_var 2) okA_nil))) okA_nil))) (okE_ix hu64 (okE_var 0) okE_int))))))
theorem sc_law_thirds : FnScope N_law_thirds ["_law_cutting_here", "_law_cut"] (defScope (top 101)) := ⟨rfl, rfl, rfl, by decide +kernel, rfl, by decide +kernel, by decide +kernel⟩
theorem ok_law_thirds (B : Bi mg) (h_law_tied : Has ca P w K mg base "_law_tied" 3 1 F_law_tied) (FN : FnP K "_law_thirds" (top 101) f fd) (gm : mg "_law_thirds" = some (.ref f)) : Has ca P w K mg base "_law_thirds" 2 2 U_law_thirds := by
  refine has_mk (ps := ["_law_cutting_here", "_law_cut"]) FN sc_law_thirds G_law_thirds gm (fun kV doc pm an cdv ct us hl => match us, hl with | [_, _], _ => rfl) fun cdv A outer s H E hr => ?_
  have hu := units65 hr
  have hu64 : (A.deeper (envOfC "_law_thirds" (defScope (top 101)) s.heap.objs.size f cdv)).units + 64 < cLine := by omega
  have hu0 : (A.deeper (envOfC "_law_thirds" (defScope (top 101)) s.heap.objs.size f cdv)).units < cLine := by omega
  have nd := sc_law_thirds.nd
  have hc : (cxOf (L2N.CX P w) P w K mg base N_law_thirds "_law_thirds" (defScope (top 101)) f cdv A outer s H E).calm = true := rfl
  have tk : L2N.Takes (cxOf (L2N.CX P w) P w K mg base N_law_thirds "_law_thirds" (defScope (top 101)) f cdv A outer s H E) (fun cls d _ H => E cls d H) := L2N.takes_of rfl rfl rfl rfl
  have px : Passes (L2N.CX P w) (cxOf (L2N.CX P w) P w K mg base N_law_thirds "_law_thirds" (defScope (top 101)) f cdv A outer s H E) E := L2N.passes_call tk fun _ _ _ _ h => h
  exact (okSs_cons (okS_setC true 2 nd (okF_lst okA_nil)) (okSs_cons (okS_for (passes_of rfl) hc (okI_range rfl B.range (okE_ix hu64 (okE_var 0) okE_int)) (okG_name 3 nd) (okSs_one (okS_if (OkW.t (okW_and (okT_cmp (op_notInU hu) gv_in (okE_var 3) (okE_var 1)) (okW_and (okT_val (xCall h_law_tied hr px (okA_cons (okE_var 0) (okA_cons (okE_ix hu64 (okE_var 1) okE_int) (okA_cons (okE_var 3) okA_nil))))) (okW_and1 (okT_val (xCall h_law_tied hr px (okA_cons (okE_var 0) (okA_cons (okE_ix hu64 (okE_var 1) okE_int) (okA_cons (okE_var 3) okA_nil))))))))) (okSs_one (okS_app 2 (okE_var 3))) okSs_nil))) (okSs_one (okS_frz 2 (okS_ret (okE_var 2))))))
theorem sc_law_flip : FnScope N_law_flip ["_law_cutting_here", "_law_cut"] (defScope (top 102)) := ⟨rfl, rfl, rfl, by decide +kernel, rfl, by decide +kernel, by decide +kernel⟩
theorem ok_law_flip (B : Bi mg) (h_law_thirds : Has ca P w K mg base "_law_thirds" 2 2 F_law_thirds) (FN : FnP K "_law_flip" (top 102) f fd) (gm : mg "_law_flip" = some (.ref f)) : Has ca P w K mg base "_law_flip" 2 3 U_law_flip := by
  refine has_mk (ps := ["_law_cutting_here", "_law_cut"]) FN sc_law_flip G_law_flip gm (fun kV doc pm an cdv ct us hl => match us, hl with | [_, _], _ => rfl) fun cdv A outer s H E hr => ?_
  have hu := units65 hr
  have hu64 : (A.deeper (envOfC "_law_flip" (defScope (top 102)) s.heap.objs.size f cdv)).units + 64 < cLine := by omega
  have hu0 : (A.deeper (envOfC "_law_flip" (defScope (top 102)) s.heap.objs.size f cdv)).units < cLine := by omega
  have nd := sc_law_flip.nd
  have hc : (cxOf (L2N.CX P w) P w K mg base N_law_flip "_law_flip" (defScope (top 102)) f cdv A outer s H E).calm = true := rfl
  have tk : L2N.Takes (cxOf (L2N.CX P w) P w K mg base N_law_flip "_law_flip" (defScope (top 102)) f cdv A outer s H E) (fun cls d _ H => E cls d H) := L2N.takes_of rfl rfl rfl rfl
  have px : Passes (L2N.CX P w) (cxOf (L2N.CX P w) P w K mg base N_law_flip "_law_flip" (defScope (top 102)) f cdv A outer s H E) E := L2N.passes_call tk fun _ _ _ _ h => h
  exact (okSs_cons (okS_set 2 nd (xTuple B (okA_cons (xCall h_law_thirds hr px (okA_cons (okE_var 0) (okA_cons (okE_var 1) okA_nil))) okA_nil))) (okSs_one (okS_ret (okE_tup (okA_cons (okE_tup (okA_cons (okE_ix hu64 (okE_var 0) okE_int) (okA_cons (xTuple B (okA_cons (xSorted B hu (okA_cons (okE_op op_addU gv_add (okE_comp hc nd (okI_seq (okE_ix hu64 (okE_var 0) okE_int)) (blkOk_by (own := [("_law_other", 3)]) (by kernel_rfl)) (by decide) (fun s H C cl fp => (okG_name 3 nd)) (fun s H C cl fp => okTs_one (okT_cmp (op_neD hu64) gv_ne (okE_var 3) (okE_var 1))) (fun s H C cl fp => (okE_var 3))) (okE_lst (okA_cons (okE_var 2) okA_nil))) okA_nil)) okA_nil)) okA_nil))) (okA_cons (okE_var 2) okA_nil))))))
theorem sc_law_moved : FnScope N_law_moved ["_law_cutting_here", "_law_steps", "_law_sign"] (defScope (top 103)) := ⟨rfl, rfl, rfl, by decide +kernel, rfl, by decide +kernel, by decide +kernel⟩
theorem ok_law_moved (B : Bi mg)  (FN : FnP K "_law_moved" (top 103) f fd) (gm : mg "_law_moved" = some (.ref f)) : Has ca P w K mg base "_law_moved" 3 1 F_law_moved := by
  refine has_mk (ps := ["_law_cutting_here", "_law_steps", "_law_sign"]) FN sc_law_moved G_law_moved gm (fun kV doc pm an cdv ct us hl => match us, hl with | [_, _, _], _ => rfl) fun cdv A outer s H E hr => ?_
  have hu := units65 hr
  have hu64 : (A.deeper (envOfC "_law_moved" (defScope (top 103)) s.heap.objs.size f cdv)).units + 64 < cLine := by omega
  have hu0 : (A.deeper (envOfC "_law_moved" (defScope (top 103)) s.heap.objs.size f cdv)).units < cLine := by omega
  have nd := sc_law_moved.nd
  have hc : (cxOf (L2N.CX P w) P w K mg base N_law_moved "_law_moved" (defScope (top 103)) f cdv A outer s H E).calm = true := rfl
  have tk : L2N.Takes (cxOf (L2N.CX P w) P w K mg base N_law_moved "_law_moved" (defScope (top 103)) f cdv A outer s H E) (fun cls d _ H => E cls d H) := L2N.takes_of rfl rfl rfl rfl
  have px : Passes (L2N.CX P w) (cxOf (L2N.CX P w) P w K mg base N_law_moved "_law_moved" (defScope (top 103)) f cdv A outer s H E) E := L2N.passes_call tk fun _ _ _ _ h => h
  exact (okSs_cons (okS_setComp 3 hc nd (okI_seq (okE_ix hu64 (okE_var 0) okE_int)) (blkOk_by (own := [("_law_a", 4), ("_law_b", 5)]) (by kernel_rfl)) (by decide) (fun s H C cl fp => (okG_tup (by rfl) (okGs_cons (okG_name 4 nd) (okGs_cons (okG_name 5 nd) okGs_nil)) (takes_cons (takes_cons takes_nil)))) (fun s H C cl fp => okTs_nil) (fun s H C cl fp => (okE_tup (okA_cons (okE_op op_modN gv_mod (okE_op op_addU gv_add (okE_op op_mul gv_mul (okE_var 2) (okE_var 4)) (okE_var 1)) (okE_ix hu64 (okE_var 0) okE_int)) (okA_cons (okE_op op_modN gv_mod (okE_op op_addU gv_add (okE_op op_mul gv_mul (okE_var 2) (okE_var 5)) (okE_var 1)) (okE_ix hu64 (okE_var 0) okE_int)) okA_nil))))) (okSs_one (okS_ret (okE_tup (okA_cons (okE_ix hu64 (okE_var 0) okE_int) (okA_cons (xTuple B (okA_cons (xSorted B hu (okA_cons (okE_comp hc nd (okI_seq (okE_var 3)) (blkOk_by (own := [("_law_pair", 6)]) (by kernel_rfl)) (by decide) (fun s H C cl fp => (okG_name 6 nd)) (fun s H C cl fp => okTs_nil) (fun s H C cl fp => (okE_tup (okA_cons (xMin B (by rfl) hu (okA_cons (okE_var 6) okA_nil)) (okA_cons (xMax B (by rfl) hu (okA_cons (okE_var 6) okA_nil)) okA_nil))))) okA_nil)) okA_nil)) okA_nil))))))
theorem sc_law_known : FnScope N_law_known [] (defScope (top 104)) := ⟨rfl, rfl, rfl, by decide +kernel, rfl, by decide +kernel, by decide +kernel⟩
theorem ok_law_known (B : Bi mg)  (FN : FnP K "_law_known" (top 104) f fd) (gm : mg "_law_known" = some (.ref f)) : Has ca P w K mg base "_law_known" 0 1 F_law_known := by
  refine has_mk (ps := []) FN sc_law_known G_law_known gm (fun kV doc pm an cdv ct us hl => match us, hl with | [], _ => rfl) fun cdv A outer s H E hr => ?_
  have hu := units65 hr
  have hu64 : (A.deeper (envOfC "_law_known" (defScope (top 104)) s.heap.objs.size f cdv)).units + 64 < cLine := by omega
  have hu0 : (A.deeper (envOfC "_law_known" (defScope (top 104)) s.heap.objs.size f cdv)).units < cLine := by omega
  have nd := sc_law_known.nd
  have hc : (cxOf (L2N.CX P w) P w K mg base N_law_known "_law_known" (defScope (top 104)) f cdv A outer s H E).calm = true := rfl
  have tk : L2N.Takes (cxOf (L2N.CX P w) P w K mg base N_law_known "_law_known" (defScope (top 104)) f cdv A outer s H E) (fun cls d _ H => E cls d H) := L2N.takes_of rfl rfl rfl rfl
  have px : Passes (L2N.CX P w) (cxOf (L2N.CX P w) P w K mg base N_law_known "_law_known" (defScope (top 104)) f cdv A outer s H E) E := L2N.passes_call tk fun _ _ _ _ h => h
  exact (okSs_cons (okS_asg (okE_tup (okA_cons (okE_tup (okA_cons okE_int (okA_cons (okE_tup (okA_cons (okE_tup (okA_cons okE_int (okA_cons okE_int okA_nil))) okA_nil)) okA_nil))) (okA_cons (okE_tup (okA_cons okE_int (okA_cons (okE_tup (okA_cons (okE_tup (okA_cons okE_int (okA_cons okE_int okA_nil))) (okA_cons (okE_tup (okA_cons okE_int (okA_cons okE_int okA_nil))) okA_nil))) okA_nil))) okA_nil))) (okG_tup hc (okGs_cons (okG_name 0 nd) (okGs_cons (okG_name 1 nd) okGs_nil)) (takes_cons (takes_cons takes_nil)))) (okSs_one (okS_ret (okE_tup (okA_cons (okE_var 0) (okA_cons (okE_var 1) (okA_cons (okE_tup (okA_cons okE_int (okA_cons (okE_tup (okA_cons (okE_tup (okA_cons okE_int (okA_cons okE_int okA_nil))) (okA_cons (okE_tup (okA_cons okE_int (okA_cons okE_int okA_nil))) (okA_cons (okE_tup (okA_cons okE_int (okA_cons okE_int okA_nil))) okA_nil)))) okA_nil))) (okA_cons (okE_tup (okA_cons okE_int (okA_cons (okE_tup (okA_cons (okE_tup (okA_cons okE_int (okA_cons okE_int okA_nil))) (okA_cons (okE_tup (okA_cons okE_int (okA_cons okE_int okA_nil))) (okA_cons (okE_tup (okA_cons okE_int (okA_cons okE_int okA_nil))) okA_nil)))) okA_nil))) (okA_cons (okE_tup (okA_cons okE_int (okA_cons (okE_tup (okA_cons (okE_tup (okA_cons okE_int (okA_cons okE_int okA_nil))) (okA_cons (okE_tup (okA_cons okE_int (okA_cons okE_int okA_nil))) (okA_cons (okE_tup (okA_cons okE_int (okA_cons okE_int okA_nil))) okA_nil)))) okA_nil))) okA_nil)))))))))
theorem sc_law_bad_cuttings : FnScope N_law_bad_cuttings [] (defScope (top 105)) := ⟨rfl, rfl, rfl, by decide +kernel, rfl, by decide +kernel, by decide +kernel⟩
theorem ok_law_bad_cuttings (B : Bi mg)  (FN : FnP K "_law_bad_cuttings" (top 105) f fd) (gm : mg "_law_bad_cuttings" = some (.ref f)) : Has ca P w K mg base "_law_bad_cuttings" 0 1 F_law_bad_cuttings := by
  refine has_mk (ps := []) FN sc_law_bad_cuttings G_law_bad_cuttings gm (fun kV doc pm an cdv ct us hl => match us, hl with | [], _ => rfl) fun cdv A outer s H E hr => ?_
  have hu := units65 hr
  have hu64 : (A.deeper (envOfC "_law_bad_cuttings" (defScope (top 105)) s.heap.objs.size f cdv)).units + 64 < cLine := by omega
  have hu0 : (A.deeper (envOfC "_law_bad_cuttings" (defScope (top 105)) s.heap.objs.size f cdv)).units < cLine := by omega
  have nd := sc_law_bad_cuttings.nd
  have hc : (cxOf (L2N.CX P w) P w K mg base N_law_bad_cuttings "_law_bad_cuttings" (defScope (top 105)) f cdv A outer s H E).calm = true := rfl
  have tk : L2N.Takes (cxOf (L2N.CX P w) P w K mg base N_law_bad_cuttings "_law_bad_cuttings" (defScope (top 105)) f cdv A outer s H E) (fun cls d _ H => E cls d H) := L2N.takes_of rfl rfl rfl rfl
  have px : Passes (L2N.CX P w) (cxOf (L2N.CX P w) P w K mg base N_law_bad_cuttings "_law_bad_cuttings" (defScope (top 105)) f cdv A outer s H E) E := L2N.passes_call tk fun _ _ _ _ h => h
  exact (okSs_cons (okS_set 0 nd (okE_lst (okA_cons okE_non (okA_cons (okE_tup okA_nil) (okA_cons okE_int (okA_cons (okE_tup (okA_cons okE_int (okA_cons (okE_tup okA_nil) okA_nil))) (okA_cons (okE_tup (okA_cons okE_int (okA_cons (okE_tup (okA_cons (okE_tup (okA_cons okE_int (okA_cons okE_int okA_nil))) (okA_cons (okE_tup (okA_cons okE_int (okA_cons okE_int okA_nil))) okA_nil))) okA_nil))) (okA_cons (okE_tup (okA_cons okE_int (okA_cons (okE_tup (okA_cons (okE_tup (okA_cons okE_int (okA_cons okE_int okA_nil))) okA_nil)) okA_nil))) (okA_cons (okE_tup (okA_cons okE_int (okA_cons (okE_tup (okA_cons (okE_tup (okA_cons okE_int (okA_cons okE_int okA_nil))) okA_nil)) okA_nil))) (okA_cons (okE_tup (okA_cons okE_int (okA_cons (okE_tup (okA_cons (okE_tup (okA_cons okE_int (okA_cons okE_int okA_nil))) (okA_cons (okE_tup (okA_cons okE_int (okA_cons okE_int okA_nil))) okA_nil))) okA_nil))) okA_nil)))))))))) (okSs_cons (okS_set 0 nd (okE_op op_addU gv_add (okE_var 0) (okE_lst (okA_cons (okE_lst (okA_cons okE_int (okA_cons (okE_tup (okA_cons (okE_tup (okA_cons okE_int (okA_cons okE_int okA_nil))) okA_nil)) okA_nil))) (okA_cons (okE_tup (okA_cons okE_bl (okA_cons (okE_tup okA_nil) okA_nil))) (okA_cons (okE_tup (okA_cons okE_int (okA_cons (okE_tup okA_nil) okA_nil))) (okA_cons (okE_tup (okA_cons okE_int (okA_cons (okE_op op_repT gv_repT (okE_tup (okA_cons (okE_tup (okA_cons okE_int (okA_cons okE_int okA_nil))) okA_nil)) okE_int) okA_nil))) (okA_cons (okE_tup (okA_cons okE_int (okA_cons (okE_lst (okA_cons (okE_tup (okA_cons okE_int (okA_cons okE_int okA_nil))) okA_nil)) okA_nil))) (okA_cons (okE_tup (okA_cons okE_int (okA_cons (okE_tup (okA_cons (okE_tup (okA_cons okE_int (okA_cons okE_bl okA_nil))) okA_nil)) okA_nil))) okA_nil))))))))) (okSs_one (okS_ret (okE_op op_addU gv_add (okE_var 0) (okE_lst (okA_cons (okE_tup (okA_cons okE_int (okA_cons (okE_tup (okA_cons (okE_tup (okA_cons okE_int (okA_cons okE_int okA_nil))) (okA_cons (okE_tup (okA_cons okE_int (okA_cons okE_int okA_nil))) okA_nil))) okA_nil))) (okA_cons okE_str okA_nil))))))))
theorem sc_law_of_one : FnScope N_law_of_one ["_law_cutting_here", "_law_one", "_law_other"] (defScope (top 107)) := ⟨rfl, rfl, rfl, by decide +kernel, rfl, by decide +kernel, by decide +kernel⟩
theorem ok_law_of_one (B : Bi mg) (h_law_thirds : Has ca P w K mg base "_law_thirds" 2 2 F_law_thirds) (FN : FnP K "_law_of_one" (top 107) f fd) (gm : mg "_law_of_one" = some (.ref f)) : Has ca P w K mg base "_law_of_one" 3 3 U_law_of_one := by
  refine has_mk (ps := ["_law_cutting_here", "_law_one", "_law_other"]) FN sc_law_of_one G_law_of_one gm (fun kV doc pm an cdv ct us hl => match us, hl with | [_, _, _], _ => rfl) fun cdv A outer s H E hr => ?_
  have hu := units65 hr
  have hu64 : (A.deeper (envOfC "_law_of_one" (defScope (top 107)) s.heap.objs.size f cdv)).units + 64 < cLine := by omega
  have hu0 : (A.deeper (envOfC "_law_of_one" (defScope (top 107)) s.heap.objs.size f cdv)).units < cLine := by omega
  have nd := sc_law_of_one.nd
  have hc : (cxOf (L2N.CX P w) P w K mg base N_law_of_one "_law_of_one" (defScope (top 107)) f cdv A outer s H E).calm = true := rfl
  have tk : L2N.Takes (cxOf (L2N.CX P w) P w K mg base N_law_of_one "_law_of_one" (defScope (top 107)) f cdv A outer s H E) (fun cls d _ H => E cls d H) := L2N.takes_of rfl rfl rfl rfl
  have px : Passes (L2N.CX P w) (cxOf (L2N.CX P w) P w K mg base N_law_of_one "_law_of_one" (defScope (top 107)) f cdv A outer s H E) E := L2N.passes_call tk fun _ _ _ _ h => h
  exact (okSs_cons (okS_setComp 3 hc nd (okI_seq (okE_var 2)) (blkOk_by (own := [("_law_corner", 4)]) (by kernel_rfl)) (by decide) (fun s H C cl fp => (okG_name 4 nd)) (fun s H C cl fp => okTs_one (okT_cmp (op_notInU hu) gv_in (okE_var 4) (okE_var 1))) (fun s H C cl fp => (okE_var 4))) (okSs_one (okS_ret (okE_and (okE_cmp (op_eqD hu64) gv_eq (xLen B (okA_cons (okE_var 3) okA_nil)) okE_int) (okE_one (okE_cmp (op_inU hu) gv_in (okE_ix hu64 (okE_var 3) okE_int) (xCall h_law_thirds hr px (okA_cons (okE_var 0) (okA_cons (okE_var 1) okA_nil)))))))))
theorem sc_law_rounds : FnScope N_law_rounds ["_law_cutting_here"] (defScope (top 106)) := ⟨rfl, rfl, rfl, by decide +kernel, rfl, by decide +kernel, by decide +kernel⟩
theorem ok_law_rounds (B : Bi mg) (h_law_flip : Has ca P w K mg base "_law_flip" 2 3 F_law_flip) (h_law_of_one : Has ca P w K mg base "_law_of_one" 3 3 F_law_of_one) (FN : FnP K "_law_rounds" (top 106) f fd) (gm : mg "_law_rounds" = some (.ref f)) : Has ca P w K mg base "_law_rounds" 1 4 U_law_rounds := by
  refine has_mk (ps := ["_law_cutting_here"]) FN sc_law_rounds G_law_rounds gm (fun kV doc pm an cdv ct us hl => match us, hl with | [_], _ => rfl) fun cdv A outer s H E hr => ?_
  have hu := units65 hr
  have hu64 : (A.deeper (envOfC "_law_rounds" (defScope (top 106)) s.heap.objs.size f cdv)).units + 64 < cLine := by omega
  have hu0 : (A.deeper (envOfC "_law_rounds" (defScope (top 106)) s.heap.objs.size f cdv)).units < cLine := by omega
  have nd := sc_law_rounds.nd
  have hc : (cxOf (L2N.CX P w) P w K mg base N_law_rounds "_law_rounds" (defScope (top 106)) f cdv A outer s H E).calm = true := rfl
  have tk : L2N.Takes (cxOf (L2N.CX P w) P w K mg base N_law_rounds "_law_rounds" (defScope (top 106)) f cdv A outer s H E) (fun cls d _ H => E cls d H) := L2N.takes_of rfl rfl rfl rfl
  have px : Passes (L2N.CX P w) (cxOf (L2N.CX P w) P w K mg base N_law_rounds "_law_rounds" (defScope (top 106)) f cdv A outer s H E) E := L2N.passes_call tk fun _ _ _ _ h => h
  exact (okSs_cons (okS_set 1 nd (okE_lst (okA_cons (okE_tup (okA_cons (okE_tup okA_nil) (okA_cons (okE_var 0) okA_nil))) okA_nil))) (okSs_cons (okS_for (passes_of rfl) hc (okI_seq (okE_ix hu64 (okE_var 0) okE_int)) (okG_name 2 nd) (okSs_cons (okS_setC true 3 nd (okF_lst okA_nil)) (okSs_cons (okS_for (passes_of rfl) hc (okI_seq (okE_var 1)) (okG_tup hc (okGs_cons (okG_name 4 nd) (okGs_cons (okG_name 5 nd) okGs_nil)) (takes_cons (takes_cons takes_nil))) (okSs_one (okS_if (okT_cmp (op_eqD hu64) gv_eq (okE_comp hc nd (okI_seq (okE_var 4)) (blkOk_by (own := [("_law_one", 6)]) (by kernel_rfl)) (by decide) (fun s H C cl fp => (okG_name 6 nd)) (fun s H C cl fp => okTs_one (okT_val (xCall h_law_of_one hr passN (okA_cons (okE_var 0) (okA_cons (okE_var 6) (okA_cons (okE_var 2) okA_nil)))))) (fun s H C cl fp => (okE_var 6))) (okE_lst okA_nil)) (okSs_one (okS_app 3 (okE_tup (okA_cons (okE_op op_addU gv_add (okE_var 4) (okE_tup (okA_cons (okE_var 2) okA_nil))) (okA_cons (okE_ix hu64 (xCall h_law_flip hr px (okA_cons (okE_var 5) (okA_cons (okE_var 2) okA_nil))) okE_int) okA_nil))))) okSs_nil))) (okSs_one (okS_frz 3 (okS_set 1 nd (okE_op op_addU gv_add (okE_var 1) (okE_var 3)))))))) (okSs_one (okS_ret (okE_comp hc nd (okI_seq (okE_var 1)) (blkOk_by (own := [("_law_taken", 4), ("_law_there", 5)]) (by kernel_rfl)) (by decide) (fun s H C cl fp => (okG_tup (by rfl) (okGs_cons (okG_name 4 nd) (okGs_cons (okG_name 5 nd) okGs_nil)) (takes_cons (takes_cons takes_nil)))) (fun s H C cl fp => okTs_one (okT_cmp (op_neD hu64) gv_ne (okE_var 4) (okE_tup okA_nil))) (fun s H C cl fp => (okE_var 5)))))))
theorem sc_law_few : FnScope N_law_few ["_law_one", "_law_other"] (defScope (top 108)) := ⟨rfl, rfl, rfl, by decide +kernel, rfl, by decide +kernel, by decide +kernel⟩
theorem ok_law_few (B : Bi mg) (h_law_rounds : Has ca P w K mg base "_law_rounds" 1 4 F_law_rounds) (FN : FnP K "_law_few" (top 108) f fd) (gm : mg "_law_few" = some (.ref f)) : Has ca P w K mg base "_law_few" 2 5 U_law_few := by
  refine has_mk (ps := ["_law_one", "_law_other"]) FN sc_law_few G_law_few gm (fun kV doc pm an cdv ct us hl => match us, hl with | [_, _], _ => rfl) fun cdv A outer s H E hr => ?_
  have hu := units65 hr
  have hu64 : (A.deeper (envOfC "_law_few" (defScope (top 108)) s.heap.objs.size f cdv)).units + 64 < cLine := by omega
  have hu0 : (A.deeper (envOfC "_law_few" (defScope (top 108)) s.heap.objs.size f cdv)).units < cLine := by omega
  have nd := sc_law_few.nd
  have hc : (cxOf (L2N.CX P w) P w K mg base N_law_few "_law_few" (defScope (top 108)) f cdv A outer s H E).calm = true := rfl
  have tk : L2N.Takes (cxOf (L2N.CX P w) P w K mg base N_law_few "_law_few" (defScope (top 108)) f cdv A outer s H E) (fun cls d _ H => E cls d H) := L2N.takes_of rfl rfl rfl rfl
  have px : Passes (L2N.CX P w) (cxOf (L2N.CX P w) P w K mg base N_law_few "_law_few" (defScope (top 108)) f cdv A outer s H E) E := L2N.passes_call tk fun _ _ _ _ h => h
  exact (okSs_cons (okS_par3 true false false 2 3 4 hc nd (okF_lst (okA_cons (okE_var 0) okA_nil)) (OkE.c (okE_lst (okA_cons (okE_var 0) okA_nil))) (OkE.c okE_int)) (okSs_cons (okS_while 12 (passes_of rfl) (okT_ninO 2 hu (okE_var 1)) (okSs_cons (okS_par false true 4 5 hc nd (OkE.c (okE_op op_addU gv_add (okE_var 4) okE_int)) (okF_lst okA_nil)) (okSs_cons (okS_for (passes_of rfl) hc (okI_seq (okE_var 3)) (okG_name 6 nd) (okSs_one (okS_for (passes_of rfl) hc (okI_seq (xCall h_law_rounds hr px (okA_cons (okE_var 6) okA_nil))) (okG_name 7 nd) (okSs_one (okS_if (okT_ninO 2 hu (okE_var 7)) (okSs_cons (okS_app 2 (okE_var 7)) (okSs_one (okS_app 5 (okE_var 7)))) okSs_nil))))) (okSs_one (okS_frz 5 (okS_set 3 nd (okE_var 5))))))) (okSs_one (okS_ret (okE_var 4)))))
end
end PD
/-! text Z1 -/
set_option maxHeartbeats 5000000
namespace PD
open PySem.Spec PySem PyProof.Rows L2

/-! ### the drawn numbers: a list of two ints that changes -/
def SprAt (H : Hp) (a : Addr) : Prop := ∃ i j : Int, 0 ≤ i ∧ 0 ≤ j ∧ H a = some (.lst [.int i, .int j])
/-- all but the drawn numbers stay -/
def Gs (a : Addr) (H H' : Hp) : Prop := (∀ b o, b ≠ a → H b = some o → H' b = some o) ∧ SprAt H' a
theorem SprAt.some {H : Hp} {a : Addr} (h : SprAt H a) : ∃ o, H a = some o := by
  obtain ⟨i, j, _, _, e⟩ := h
  exact ⟨_, e⟩
theorem SprAt.sub {H H' : Hp} {a : Addr} (h : SprAt H a) (s : Sub H H') : SprAt H' a := by
  obtain ⟨i, j, h1, h2, e⟩ := h
  exact ⟨i, j, h1, h2, s _ _ e⟩
theorem Gs.of {a : Addr} {H H' : Hp} (s : Sub H H') (h : SprAt H a) : Gs a H H' := ⟨fun b o _ e => s b o e, h.sub s⟩
theorem Gs.trans {a : Addr} {H H1 H2 : Hp} (g : Gs a H H1) (k : Gs a H1 H2) : Gs a H H2 := ⟨fun b o n e => k.1 b o n (g.1 b o n e), k.2⟩
theorem Gs.upd {a : Addr} {H : Hp} {i j : Int} (hi : 0 ≤ i) (hj : 0 ≤ j) : Gs a H (L2.upd H a (.lst [.int i, .int j])) := ⟨fun b o n e => by rw [upd_ne n]; exact e, i, j, hi, hj, upd_same⟩
/-- what is frozen stays frozen -/
theorem Gs.subI {a : Addr} {Hi H H' : Hp} (g : Gs a H H') (s : Sub Hi H) (n : Hi a = none) : Sub Hi H' := fun b o e => g.1 b o (ne_of_none e n) (s b o e)
theorem Ex.spr {a : Addr} {Hi He Hi' H' : Hp} (x : Ex Hi He Hi' H') (n : Hi a = none) (h : SprAt He a) : Hi' a = none ∧ SprAt H' a := by
  obtain ⟨o, e⟩ := h.some
  exact ⟨x.keepN n e, h.sub x.al⟩
def spPick : Sp := fun vs H Q _ => ∃ a m, vs = [.ref a, .int m] ∧ SprAt H a ∧ 0 < m ∧ m ≤ 1000 ∧ ∀ d H', 0 ≤ d → d < m → Gs a H H' → (∀ b, H b = none → H' b = none) → Q (.int d) H'
def HasS (P : Program) (w : World) (K : PySem.W.Frag) (mg : Str → Option Value) (base : Heap) (x : Str) (k : Nat) (sp : Sp) : Prop :=
  ∃ f fd ps, FnOk P w K mg base (L2N.CX P w) k f fd ps sp ∧ mg x = some (.ref f) ∧ PySem.W.keepIn K (.ref f) = true ∧ Binds K fd ps []
section
variable {ca : Nat → Addr} {E : XK} {X : Cx} {pos p : Pos} {e : Expr} {es : List Expr}
theorem pCallS {x : Str} {j k : Nat} {sp : Sp} {t : TA} (h : HasS X.prog X.w X.K X.mg X.base x j sp) (hr : Room k X.A) (hx : Passes (L2N.CX X.prog X.w) X E) (ha : PA X (e :: es) t) (hjk : Nat.ble j k = true := by rfl) (hg : Gl X x := by rfl)
    (hdb : (x == ("__debug__" : Str)) = false := by decide) (he : starEach (e :: es) X.env = (false, eval e X.env) :: starEach es X.env := by rfl) (hpl : (backTo pos (starEach es X.env)).any (·.1) = false := by rfl) : PE X (.Call (.Name x p) (e :: es) [] pos) (tCall sp [] E t) := by
  obtain ⟨f, fd, ps, h1, h2, h3, h4⟩ := h
  exact pe_call (h1.mono (Nat.le_of_ble_eq_true hjk)) hr hg h2 h3 h4 .nil hx ha hdb he hpl
theorem pCallH {x : Str} {n j k : Nat} {F : List PyData → R PyData} {t : TA} (h : Has ca X.prog X.w X.K X.mg X.base x n j F) (hr : Room k X.A) (hx : Passes (L2N.CX X.prog X.w) X E) (ha : PA X (e :: es) t) (hjk : Nat.ble j k = true := by rfl) (hg : Gl X x := by rfl)
    (hdb : (x == ("__debug__" : Str)) = false := by decide) (he : starEach (e :: es) X.env = (false, eval e X.env) :: starEach es X.env := by rfl) (hpl : (backTo pos (starEach es X.env)).any (·.1) = false := by rfl) : PE X (.Call (.Name x p) (e :: es) [] pos) (tCall (spF ca n F) [] E t) := by
  obtain ⟨f, fd, ps, h1, h2, h3, h4⟩ := h
  exact pe_call (h1.mono (Nat.le_of_ble_eq_true hjk)) hr hg h2 h3 h4 .nil hx ha hdb he hpl

/-! ### a head of statements -/
def OkPre (ca : Nat → Addr) (E : XK) (X : Cx) (ss rest : List Stmt) (F : Ev → Out) : Prop := ∀ tr, PSs X rest tr → ∃ t, PSs X ss t ∧ ∀ (Hi0 He : Hp) (env : Ev) (σ : St) (Hi H : Hp) (D : Ends), Slots He env σ Hi H → Ex Hi0 He Hi H → PO ca E Hi0 He (F env) { D with nx := tr D } → t D σ H
theorem okPre_one {st : Stmt} {rest : List Stmt} {f : Ev → Out} (h : OkS ca E X st f) : OkPre ca E X (st :: rest) rest f := fun tr hr => by
  obtain ⟨t, p, q⟩ := h
  exact ⟨_, pss_cons p hr, fun Hi0 He env σ Hi H D S x h => q Hi0 He env σ Hi H _ S x h⟩
theorem okPre_cons {st : Stmt} {ss rest : List Stmt} {f g : Ev → Out} (h : OkS ca E X st f) (k : OkPre ca E X ss rest g) : OkPre ca E X (st :: ss) rest (sSeq f g) := fun tr hr => by
  obtain ⟨t, p, q⟩ := h
  obtain ⟨t2, p2, q2⟩ := k tr hr
  refine ⟨_, pss_cons p p2, fun Hi0 He env σ Hi H D S x h => q Hi0 He env σ Hi H _ S x ?_⟩
  unfold sSeq at h
  cases e : f env with
  | stuck => rw [e] at h; exact h
  | next env' =>
    rw [e] at h
    exact fun σ' Hi' H' S' x' => q2 Hi0 He env' σ' Hi' H' D S' x' h
  | ret d => rw [e] at h; exact h
  | exc c => rw [e] at h; exact h
end

/-! ### what is not stored stays -/
def Fr0 (F : Ev → Out) : Prop := ∀ env env', F env = .next env' → env'[0]? = env[0]?
theorem fr_nil : Fr0 sNil := fun env env' h => by cases h; rfl
theorem thenV_next {r : R PyData} {k : PyData → Out} {env : Ev} (h : thenV r k = .next env) : ∃ d, r = .ok d ∧ k d = .next env := by
  cases r with
  | stuck => cases h
  | exc c => cases h
  | ok d => exact ⟨d, rfl, h⟩
theorem fr_ret {f : Ev → R PyData} : Fr0 (sRet f) := fun env env' h => by
  obtain ⟨d, _, h⟩ := thenV_next h
  cases h
theorem fr_seq {f g : Ev → Out} (hf : Fr0 f) (hg : Fr0 g) : Fr0 (sSeq f g) := fun env env' h => by
  unfold sSeq at h
  cases e : f env with
  | next e1 => rw [e] at h; exact (hg _ _ h).trans (hf _ _ e)
  | stuck => rw [e] at h; cases h
  | ret d => rw [e] at h; cases h
  | exc c => rw [e] at h; cases h
theorem fr_if {c : Ev → R PyData} {f g : Ev → Out} (hf : Fr0 f) (hg : Fr0 g) : Fr0 (sIf c f g) := fun env env' h => by
  unfold sIf at h
  cases e : asB (c env) with
  | stuck => rw [e] at h; cases h
  | exc k => rw [e] at h; cases h
  | ok b =>
    rw [e] at h
    cases b with
    | true => exact hf _ _ h
    | false => exact hg _ _ h
theorem fr_asg (i : Nat) {f : Ev → R PyData} (hi : i ≠ 0) : Fr0 (sAsg (gN i) f) := fun env env' h => by
  obtain ⟨d, _, h⟩ := thenV_next h
  unfold stG gN at h
  split at h
  · rename_i e he
    split at he
    · cases he
      cases h
      exact List.getElem?_set_ne hi
    · cases he
  · cases h
theorem putC_next {b : Bool} {i : Nat} {d : PyData} {k : Ev → Out} {env env' : Ev} (h : putC b i d k env = .next env') : k (env.set i (some (mkSl b d))) = .next env' := by
  unfold putC at h
  split at h
  · exact h
  · cases h
theorem fr_par {b1 b2 : Bool} (i j : Nat) {f g : Ev → R PyData} (hi : i ≠ 0) (hj : j ≠ 0) : Fr0 (sPar b1 b2 i j f g) := fun env env' h => by
  obtain ⟨d, _, h⟩ := thenV_next h
  obtain ⟨d2, _, h⟩ := thenV_next h
  have h2 := putC_next (putC_next h)
  cases h2
  rw [List.getElem?_set_ne hj, List.getElem?_set_ne hi]
/-- nothing owned -/
def noOwn : Ev → Bool
  | [] => true
  | some (.own _) :: _ => false
  | _ :: r => noOwn r
theorem noOwn_ok : ∀ {env : Ev} {i : Nat} {d : PyData}, noOwn env = true → env[i]? = some (some (.own d)) → False
  | [], i, d, _, h => by simp at h
  | none :: r, 0, d, _, h => by simp at h
  | some (.imm _) :: r, 0, d, _, h => by simp at h
  | some (.raw _) :: r, 0, d, _, h => by simp at h
  | some (.own _) :: r, _, d, h, _ => by cases h
  | none :: r, i + 1, d, h, h2 => noOwn_ok (env := r) (i := i) h (by simpa using h2)
  | some (.imm _) :: r, i + 1, d, h, h2 => noOwn_ok (env := r) (i := i) h (by simpa using h2)
  | some (.raw _) :: r, i + 1, d, h, h2 => noOwn_ok (env := r) (i := i) h (by simpa using h2)
/-- at another heap -/
theorem Slots.at {He He' : Hp} {env : Ev} {σ : St} {Hi H Hi' H' : Hp} (S : Slots He env σ Hi H) (n : noOwn env = true) (s : Sub Hi Hi') : Slots He' env σ Hi' H' :=
  ⟨S.len, fun i d e => by obtain ⟨v, h, r⟩ := S.imm i d e; exact ⟨v, h, r.sub s⟩, fun i d e => (noOwn_ok n e).elim, S.raw, fun i j d d' a e _ _ _ => (noOwn_ok n e).elim⟩
def isF (r : R PyData) : Bool := match asB r with
  | .ok false => true
  | _ => false
theorem isF_ok {r : R PyData} (h : isF r = true) : asB r = .ok false := by
  unfold isF at h
  split at h
  · assumption
  · cases h
def retT (o : Out) : Bool := match o with
  | .ret (.bool true) => true
  | _ => false
theorem retT_ok {o : Out} (h : retT o = true) : o = .ret (.bool true) := by
  unfold retT at h
  split at h
  · rfl
  · cases h
def allLt (n : Nat) (f : Int → Bool) : Bool := match n with
  | 0 => true
  | n + 1 => match f (.ofNat n) with
    | true => allLt n f
    | false => false
theorem allLt_ok {f : Int → Bool} : ∀ {n : Nat} {d : Int}, allLt n f = true → 0 ≤ d → d < n → f d = true
  | 0, d, _, h0, h1 => by omega
  | n + 1, d, h, h0, h1 => by
    unfold allLt at h
    split at h
    · rename_i e
      by_cases hd : d = n
      · subst hd
        exact e
      · exact allLt_ok h h0 (by omega)
    · cases h
/-- the slots of a def whose first parameter is the drawn numbers -/
theorem slots_spr {He Hi H : Hp} {a : Addr} {vs : List V} {ds : List PyData} {N : List Str} (r : RpAll Hi vs ds) (h : vs.length + 1 ≤ N.length) : Slots He (some (.raw a) :: startE (N.length - 1) ds) (L2.start N (.ref a :: vs)) Hi H := by
  have hN : ∃ x N', N = x :: N' := by
    cases N with
    | nil => simp at h
    | cons x N' => exact ⟨x, N', rfl⟩
  obtain ⟨x, N', rfl⟩ := hN
  have S := slots_start (N := N') (H := H) r
  have e1 : L2.start (x :: N') (.ref a :: vs) = some (.ref a) :: L2.start N' vs := by
    unfold L2.start
    simp
  rw [e1]
  have hl : (x :: N').length - 1 = N'.length := rfl
  rw [hl]
  refine ⟨by rw [List.length_cons, List.length_cons, S.len], fun i d e => ?_, fun i d e => ?_, fun i d e => ?_, fun i j d d' b e1 e2 h1 h2 => ?_⟩
  · cases i with
    | zero => simp at e
    | succ i => exact S.imm i d (by simpa using e)
  · cases i with
    | zero => simp at e
    | succ i =>
      have e' : (startE N'.length ds)[i]? = some (some (.own d)) := by simpa using e
      unfold startE at e'
      by_cases hi : i < ds.length
      · rw [List.getElem?_append_left (by simpa using hi), List.getElem?_map] at e'
        cases z : ds[i]? with
        | none => rw [z] at e'; cases e'
        | some d' => rw [z] at e'; cases e'
      · rw [List.getElem?_append_right (by simpa using hi), List.getElem?_replicate] at e'
        split at e' <;> cases e'
  · cases i with
    | zero =>
      simp at e
      subst e
      rfl
    | succ i => exact S.raw i d (by simpa using e)
  · cases i with
    | zero => simp at e1
    | succ i =>
      cases j with
      | zero => simp at e2
      | succ j =>
        have := S.dis i j d d' b (by simpa using e1) (by simpa using e2) (by simpa using h1) (by simpa using h2)
        rw [this]
end PD
/-! text Z2 -/
set_option maxHeartbeats 0
namespace PD
open PySem.Spec PySem PyProof.Rows L2
def cutsOf (n : Nat) : List PyData := match n with
  | 3 => [q0]
  | 4 => [q1, q2]
  | 5 => [q3, q4, q5, q6, q7]
  | 6 => [q8, q9, q10, q11, q12, q13, q14, q15, q16, q17, q18, q19, q20, q21]
  | _ => []
def allPairs (f : Nat → PyData → PyData → Bool) : Bool := [3, 4, 5, 6].all fun n => (cutsOf n).all fun x => (cutsOf n).all fun y => f n x y
theorem allPairs_ok {f : Nat → PyData → PyData → Bool} (h : allPairs f = true) {n : Nat} (h1 : 3 ≤ n) (h2 : n ≤ 6) {x y : PyData} (hx : x ∈ cutsOf n) (hy : y ∈ cutsOf n) : f n x y = true := by
  unfold allPairs at h
  have hn : n ∈ [3, 4, 5, 6] := by
    have : n = 3 ∨ n = 4 ∨ n = 5 ∨ n = 6 := by omega
    rcases this with rfl | rfl | rfl | rfl <;> simp
  exact List.all_eq_true.mp (List.all_eq_true.mp (List.all_eq_true.mp h n hn) x hx) y hy
def chkAg (a : Addr) (n : Nat) (x y : PyData) : Bool := match agA (some (.raw a) :: startE 5 [x, y]) with
  | .next env => noOwn env && (okIs (e2 gIx (eVar 1) (eC (.int 0)) env) (.int n) && (isF (agC1 env) && (allLt n (fun d => isF (agC2 d env)) && retT (agB env))))
  | _ => false
def chkRr (a : Addr) (n : Nat) (x y : PyData) : Bool := match rrA (some (.raw a) :: startE 4 [x, y]) with
  | .next env => noOwn env && (okIs (e2 gIx (eVar 1) (eC (.int 0)) env) (.int n) && (Nat.blt 4 env.length && allLt n (fun d => retT (rrB (env.set 4 (some (.imm (.int d))))))))
  | _ => false
theorem kAg (a : Addr) : allPairs (chkAg a) = true := by kernel_rfl
theorem kRr (a : Addr) : allPairs (chkRr a) = true := by kernel_rfl
end PD
/-! text Z3 -/
set_option maxHeartbeats 0
namespace PD
open PySem.Spec PySem PyProof.Rows L2
def N_law_agree : List Str := ["_law_spring_here", "_law_one", "_law_other", "_law_far", "_law_way", "_law_there"]
theorem sc_law_agree : FnScope N_law_agree ["_law_spring_here", "_law_one", "_law_other"] (defScope (top 109)) := ⟨rfl, rfl, rfl, by decide +kernel, rfl, by decide +kernel, by decide +kernel⟩
def N_law_rounds_right : List Str := ["_law_spring_here", "_law_one", "_law_other", "_law_told", "_law_steps"]
theorem sc_law_rounds_right : FnScope N_law_rounds_right ["_law_spring_here", "_law_one", "_law_other"] (defScope (top 110)) := ⟨rfl, rfl, rfl, by decide +kernel, rfl, by decide +kernel, by decide +kernel⟩
theorem bnd_ok {α β : Type} {r : R α} {f : α → R β} {b : β} (h : r.bind f = .ok b) : ∃ a, r = .ok a ∧ f a = .ok b := by
  cases r with
  | ok a => exact ⟨a, rfl, h⟩
  | stuck => cases h
  | exc c => cases h
theorem asB_ok {r : R PyData} {b : Bool} (h : asB r = .ok b) : r = .ok (.bool b) := by
  cases r with
  | ok d => cases d <;> cases h; rfl
  | stuck => cases h
  | exc c => cases h
theorem eVar_ok {i : Nat} {env : Ev} {d : PyData} (h : eVar i env = .ok d) : env[i]? = some (some (.imm d)) := by
  unfold eVar at h
  split at h
  · rename_i e
    cases h
    exact e
  · cases h
/-- what the second test asks -/
def C2ok (F : List PyData → R PyData) (env : Ev) (d : Int) : Prop := ∃ far x y w l, env[3]? = some (some (.imm (.int far))) ∧ env[1]? = some (some (.imm x)) ∧ env[2]? = some (some (.imm y)) ∧ F [x, y, .int d] = .ok w ∧ gLen [w] = .ok (.int l) ∧ gtI far l = false
theorem c2_data {env : Ev} {d : Int} (h : asB (agC2 d env) = .ok false) : C2ok Fway_by_fan env d := by
  have h1 := asB_ok h
  obtain ⟨u, e1, h2⟩ := bnd_ok h1
  obtain ⟨v, e2, h3⟩ := bnd_ok h2
  obtain ⟨ws, e4, e5⟩ := bnd_ok e2
  obtain ⟨w, e6, e7⟩ := bnd_ok e4
  obtain ⟨ds, e8, e9⟩ := bnd_ok e6
  obtain ⟨x, f1, f2⟩ := bnd_ok e8
  obtain ⟨r1, f3, f4⟩ := bnd_ok f2
  obtain ⟨y, f5, f6⟩ := bnd_ok f3
  obtain ⟨r2, f7, f8⟩ := bnd_ok f6
  cases f8
  cases f4
  obtain ⟨z, g1, g2⟩ := bnd_ok f7
  obtain ⟨z2, g3, g4⟩ := bnd_ok g2
  cases g4
  cases g1
  cases g3
  obtain ⟨z3, k1, k2⟩ := bnd_ok e7
  cases k1
  cases k2
  cases u with
  | int far =>
    cases v with
    | int l =>
      have h4 : (R.ok (PyData.bool (gtI far l)) : R PyData) = .ok (.bool false) := h3
      injection h4 with h4
      injection h4 with h4
      exact ⟨far, x, y, w, l, eVar_ok e1, eVar_ok f1, eVar_ok f5, e9, e5, h4⟩
    | _ => cases h3
  | _ => cases h3
theorem rp_len {K : PySem.W.Frag} {Hi H : Hp} {v : V} {w : PyData} {l : Int} (r : Rp Hi v w) (s : Sub Hi H) (h : gLen [w] = .ok (.int l)) : ∃ n : Nat, LenV K v H n ∧ (n : Int) = l := by
  have g := gv_len (K := K) (ca := fun _ => 0) (E := E0) [w] [v] Hi H (fun u _ => u = .int l) (.cons r .nil) s (by
    rw [h]
    intro v' Hi' H' _ r'
    cases r'
    rfl)
  obtain ⟨x, n, e, hl, q⟩ := g
  cases e
  exact ⟨n, hl, V.int.inj q⟩
/-! ### a body that may draw, and says true -/
def OkR (ca : Nat → Addr) (E : XK) (X : Cx) (ss : List Stmt) (G : Ev → Prop) : Prop := ∃ t, PSs X ss t ∧ ∀ (a : Addr) (env : Ev) (σ : St) (Hi H : Hp) (D : Ends), noOwn env = true → Slots H env σ Hi H → env[0]? = some (some (.raw a)) → SprAt H a → Hi a = none → Sub Hi H → G env →
  (∀ H', Gs a H H' → D.rt (.bl true) H') → t D σ H
section
variable {ca : Nat → Addr} {E : XK} {X : Cx} {ss rest : List Stmt}
theorem okR_pd {F : Ev → Out} (h : OkSs ca E X ss F) : OkR ca E X ss fun env => F env = .ret (.bool true) := by
  obtain ⟨t, p, q⟩ := h
  refine ⟨t, p, fun a env σ Hi H D n S hr sp na s g hq => q Hi H env σ Hi H D S (.refl s) ?_⟩
  rw [g]
  intro v Hi' H' x r
  cases r
  exact hq H' (.of x.al sp)
theorem okR_pre {F : Ev → Out} {G : Ev → Prop} (h : OkPre ca E X ss rest F) (fr : Fr0 F) (hk : OkR ca E X rest G) : OkR ca E X ss fun env => ∃ env', F env = .next env' ∧ noOwn env' = true ∧ G env' := by
  obtain ⟨tr, pr, qr⟩ := hk
  obtain ⟨t, p, q⟩ := h tr pr
  refine ⟨t, p, fun a env σ Hi H D n S hr sp na s ⟨env', e, n', g⟩ hq => q Hi H env σ Hi H D S (.refl s) ?_⟩
  rw [e]
  intro σ' Hi' H' S' x
  obtain ⟨na', sp'⟩ := x.spr na sp
  exact qr a env' σ' Hi' H' D n' (S'.at n' (.refl _)) ((fr _ _ e).trans hr) sp' na' x.le g fun H2 g2 => hq H2 ((Gs.of x.al sp).trans g2)
theorem okR_asg {k : Nat} {G : Ev → Prop} {x : Str} {px p2 p3 pos pos2 : Pos} {eIx : Expr} {fIx : Ev → R PyData} (i : Nat) (hi0 : i ≠ 0) (hpick : HasS X.prog X.w X.K X.mg X.base "_law_pick" 2 spPick) (hr : Room k X.A) (hx : Passes (L2N.CX X.prog X.w) X E) (hN : X.N.Nodup)
    (hIx : OkE ca E X eIx fIx) (hk : OkR ca E X rest G) (hjk : Nat.ble 2 k = true := by rfl) (hg : Gl X "_law_pick" := by rfl) (h0 : X.N[0]? = some ("_law_spring_here" : Str) := by rfl) (hv : Vis X.env.scope "_law_spring_here" := by exact Or.inl rfl)
    (hi : X.N[i]? = some x := by rfl) (hxl : Loc X.env.scope x := by first | exact Or.inl rfl | exact Or.inr rfl) (hf : X.fn x = true ∨ X.env.scope.names.lookup x = some .local := by first | exact .inl rfl | exact .inr rfl)
    (he : starEach [.Name "_law_spring_here" p3, eIx] X.env = (false, eval (.Name "_law_spring_here" p3) X.env) :: starEach [eIx] X.env := by rfl) (he2 : starEach [eIx] X.env = (false, eval eIx X.env) :: starEach [] X.env := by rfl) (hpl : (backTo pos2 (starEach [eIx] X.env)).any (·.1) = false := by rfl)
    (hsw : swapsWith (.Call (.Name "_law_pick" p2) [.Name "_law_spring_here" p3, eIx] [] pos2) (some (.Name x px)) pos.line X.env = pure false := by rfl) :
    OkR ca E X (.Assign [.Name x px] (.Call (.Name "_law_pick" p2) [.Name "_law_spring_here" p3, eIx] [] pos2) pos :: rest)
      fun env => ∃ m, fIx env = .ok (.int m) ∧ 0 < m ∧ m ≤ 1000 ∧ i < env.length ∧ ∀ d, 0 ≤ d → d < m → noOwn (env.set i (some (.imm (.int d)))) = true ∧ G (env.set i (some (.imm (.int d)))) := by
  obtain ⟨tr, pr, qr⟩ := hk
  obtain ⟨tI, pI, qI⟩ := hIx
  refine ⟨_, pss_cons (ps_set hN hi hxl (pCallS hpick hr hx (pa_cons (pe_var h0 hv (by decide) (by decide)) (pa_cons pI pa_nil he2) he) hjk hg (by decide) he hpl) hsw hf) pr, fun a env σ Hi H D n S h1 sp na s ⟨m, em, m0, m1, hl, g⟩ hq => ?_⟩
  refine ⟨_, S.raw 0 a h1, qI H env σ Hi H _ S s ?_⟩
  rw [em]
  intro v Hi' H' x r
  cases r
  obtain ⟨na', sp'⟩ := x.spr na sp
  refine ⟨a, m, rfl, sp', m0, m1, fun d H2 d0 d1 g2 _ => ?_⟩
  obtain ⟨n2, g3⟩ := g d d0 d1
  have S2 : Slots H2 (env.set i (some (.imm (.int d)))) (σ.set i (some (.int d))) Hi' H2 := ((S.ex x).at (He' := H2) (H' := H2) n (.refl _)).set (.int d) hl
  exact qr a _ _ Hi' H2 D n2 S2 (by rw [List.getElem?_set_ne hi0]; exact h1) g2.2 na' (g2.subI x.le na') g3 fun H3 g4 => hq H3 (((Gs.of x.al sp).trans g2).trans g4)
/-- if c1 or far > len(way(one, other, drawn)): return False -/
theorem okR_if {k j : Nat} {G : Ev → Prop} {F : List PyData → R PyData} {p1 p2 p3 p4 p5 p6 p7 p8 p9 p10 p11 p12 p13 p14 : Pos} {c1 eIx : Expr} {f1 fIx fr : Ev → R PyData} {er : Expr} (B : Bi X.mg) (hpick : HasS X.prog X.w X.K X.mg X.base "_law_pick" 2 spPick) (hway : Has ca X.prog X.w X.K X.mg X.base "way_by_fan" 3 j F) (hr : Room k X.A) (hx : Passes (L2N.CX X.prog X.w) X E)
    (hc1 : OkT ca E X c1 f1) (hIx : OkE ca E X eIx fIx) (hret : OkE ca E X er fr) (hk : OkR ca E X rest G) (hjk : Nat.ble 2 k = true := by rfl) (hjk2 : Nat.ble j k = true := by rfl) (hg : Gl X "_law_pick" := by rfl) (hg2 : Gl X "way_by_fan" := by rfl) (hg3 : Gl X "len" := by rfl)
    (h0 : X.N[0]? = some ("_law_spring_here" : Str) := by rfl) (h1 : X.N[1]? = some ("_law_one" : Str) := by rfl) (h2 : X.N[2]? = some ("_law_other" : Str) := by rfl) (h3 : X.N[3]? = some ("_law_far" : Str) := by rfl)
    (v0 : Vis X.env.scope "_law_spring_here" := by exact Or.inl rfl) (v1 : Vis X.env.scope "_law_one" := by exact Or.inl rfl) (v2 : Vis X.env.scope "_law_other" := by exact Or.inl rfl) (v3 : Vis X.env.scope "_law_far" := by exact Or.inl rfl)
    (he : starEach [.Name "_law_spring_here" p3, eIx] X.env = (false, eval (.Name "_law_spring_here" p3) X.env) :: starEach [eIx] X.env := by rfl) (he2 : starEach [eIx] X.env = (false, eval eIx X.env) :: starEach [] X.env := by rfl) (hpl : (backTo p4 (starEach [eIx] X.env)).any (·.1) = false := by rfl)
    (k1 : ∀ z : Expr, starEach [.Name "_law_one" p6, .Name "_law_other" p7, z] X.env = (false, eval (.Name "_law_one" p6) X.env) :: starEach [.Name "_law_other" p7, z] X.env := by intro _; rfl)
    (k2 : ∀ z : Expr, starEach [.Name "_law_other" p7, z] X.env = (false, eval (.Name "_law_other" p7) X.env) :: starEach [z] X.env := by intro _; rfl)
    (k3 : starEach [.Call (.Name "_law_pick" p2) [.Name "_law_spring_here" p3, eIx] [] p4] X.env = (false, eval (.Call (.Name "_law_pick" p2) [.Name "_law_spring_here" p3, eIx] [] p4) X.env) :: starEach [] X.env := by rfl)
    (k4 : (backTo p8 (starEach [.Name "_law_other" p7, .Call (.Name "_law_pick" p2) [.Name "_law_spring_here" p3, eIx] [] p4] X.env)).any (·.1) = false := by rfl)
    (k5 : starEach [.Call (.Name "way_by_fan" p5) [.Name "_law_one" p6, .Name "_law_other" p7, .Call (.Name "_law_pick" p2) [.Name "_law_spring_here" p3, eIx] [] p4] [] p8] X.env = (false, eval (.Call (.Name "way_by_fan" p5) [.Name "_law_one" p6, .Name "_law_other" p7, .Call (.Name "_law_pick" p2) [.Name "_law_spring_here" p3, eIx] [] p4] [] p8) X.env) :: starEach [] X.env := by rfl) :
    OkR ca E X (.If (.BoolOp .Or [c1, .Compare (.Name "_law_far" p1) [.Gt] [.Call (.Name "len" p9) [.Call (.Name "way_by_fan" p5) [.Name "_law_one" p6, .Name "_law_other" p7, .Call (.Name "_law_pick" p2) [.Name "_law_spring_here" p3, eIx] [] p4] [] p8] [] p10] p11] p12) [.Return (some er) p13] [] p14 :: rest)
      fun env => ∃ m, fIx env = .ok (.int m) ∧ 0 < m ∧ m ≤ 1000 ∧ asB (f1 env) = .ok false ∧ (∀ d, 0 ≤ d → d < m → C2ok F env d) ∧ G env := by
  obtain ⟨tr, pr, qr⟩ := hk
  obtain ⟨tI, pI, qI⟩ := hIx
  obtain ⟨tc, pc, qc⟩ := hc1
  obtain ⟨tR, pR, qR⟩ := okSs_one (okS_ret (pos := p13) hret)
  have pPick := pCallS (p := p2) (pos := p4) hpick hr hx (pa_cons (pe_var h0 v0 (by decide) (by decide)) (pa_cons pI pa_nil he2) he) hjk hg (by decide) he hpl
  have pWay := pCallH (pos := p8) (p := p5) hway hr hx (pa_cons (pe_var h1 v1 (by decide) (by decide)) (pa_cons (pe_var h2 v2 (by decide) (by decide)) (pa_cons pPick pa_nil k3) (k2 _)) (k1 _)) hjk2 hg2 (by decide) (k1 _) k4
  have pLen := pe_callB (p := p9) (pos := p10) call_len hg3 B.len boot_len (pa_cons pWay pa_nil k5) (by decide) (by decide) k5 rfl
  refine ⟨_, pss_cons (ps_if (pw_or pc (pw_or1 (pt_cmpR (pos := p11) xGt (pe_var h3 v3 (by decide) (by decide)) pLen rfl))).pt pR pss_nil) pr, fun a env σ Hi H D n S g1 sp na s ⟨m, em, m0, m1, ec, hd, g⟩ hq => ?_⟩
  refine qc H env σ Hi H _ S s ?_
  rw [ec]
  intro Hi1 H1 x1
  obtain ⟨na1, sp1⟩ := x1.spr na sp
  have S1 : Slots H1 env σ Hi1 H1 := S.at n x1.im
  rw [if_neg Bool.false_ne_true]
  obtain ⟨far, x, y, w0, l0, e3, e1, e2, _⟩ := hd 0 (by omega) m0
  obtain ⟨v3', f3, r3⟩ := S1.imm 3 _ e3
  obtain ⟨v1', f1', r1⟩ := S1.imm 1 _ e1
  obtain ⟨v2', f2, r2⟩ := S1.imm 2 _ e2
  cases r3
  refine ⟨_, f3, _, f1', _, f2, _, S1.raw 0 a g1, qI H1 env σ Hi1 H1 _ S1 x1.le ?_⟩
  rw [em]
  intro vm Hi2 H2 x2 rm
  cases rm
  obtain ⟨na2, sp2⟩ := x2.spr na1 sp1
  refine ⟨a, m, rfl, sp2, m0, m1, fun d H3 d0 d1 g3 _ => ?_⟩
  obtain ⟨far', x', y', w, l, q3, q1, q2, qF, qL, qg⟩ := hd d d0 d1
  rw [e3] at q3
  rw [e1] at q1
  rw [e2] at q2
  cases q3
  cases q1
  cases q2
  have s3 := g3.subI x2.le na2
  refine ⟨[x, y, .int d], Hi2, s3, .cons (r1.sub x2.im) (.cons (r2.sub x2.im) (.cons (.int d) .nil)), rfl, ?_⟩
  rw [qF]
  intro wv Hi4 H4 x4 r4
  obtain ⟨na4, sp4⟩ := x4.spr na2 g3.2
  obtain ⟨ln, hl, rfl⟩ := rp_len (K := X.K) r4 x4.le qL
  refine ⟨wv, ln, rfl, hl, far, _, rfl, rfl, false, by show V.bl (gtI far ln) = _; rw [qg], ?_⟩
  show tr D σ H4
  have S4 : Slots H4 env σ Hi4 H4 := S1.at n (x2.im.trans x4.im)
  exact qr a env σ Hi4 H4 D n S4 g1 sp4 na4 x4.le g fun H5 g5 => hq H5 ((((Gs.of x1.al sp).trans (Gs.of x2.al sp1)).trans g3).trans ((Gs.of x4.al g3.2).trans g5))
end
/-- the promises of the two defs of the law that draw -/
def spTwo : Sp := fun vs H Q _ => ∃ a v1 v2 Hi n x y, vs = [.ref a, v1, v2] ∧ SprAt H a ∧ Hi a = none ∧ Sub Hi H ∧ Rp Hi v1 x ∧ Rp Hi v2 y ∧ 3 ≤ n ∧ n ≤ 6 ∧ x ∈ cutsOf n ∧ y ∈ cutsOf n ∧ ∀ H', Gs a H H' → Q (.bl true) H'
theorem spTwo_len : ∀ vs H Q E, spTwo vs H Q E → vs.length = 3 := fun vs H Q E ⟨a, v1, v2, Hi, n, x, y, e, _⟩ => by rw [e]; rfl
theorem fr_agA : Fr0 agA := fr_seq (fr_par 3 4 (by decide) (by decide)) (fr_seq (fr_if fr_ret fr_nil) (fr_seq (fr_if fr_ret fr_nil) (fr_seq (fr_if fr_ret fr_nil) (fr_if fr_ret fr_nil))))
theorem fr_rrA : Fr0 rrA := fr_seq (fr_asg 3 (by decide)) (fr_if fr_ret fr_nil)
theorem ag_all {a : Addr} {n : Nat} {x y : PyData} (h1 : 3 ≤ n) (h2 : n ≤ 6) (hx : x ∈ cutsOf n) (hy : y ∈ cutsOf n) :
    ∃ env', agA (some (.raw a) :: startE 5 [x, y]) = .next env' ∧ noOwn env' = true ∧ ∃ m, (e2 gIx (eVar 1) (eC (.int 0))) env' = .ok (.int m) ∧ 0 < m ∧ m ≤ 1000 ∧ asB (agC1 env') = .ok false ∧ (∀ d, 0 ≤ d → d < m → C2ok Fway_by_fan env' d) ∧ agB env' = .ret (.bool true) := by
  have h := allPairs_ok (kAg a) h1 h2 hx hy
  unfold chkAg at h
  split at h
  · rename_i env' e
    simp only [Bool.and_eq_true] at h
    obtain ⟨q1, q2, q3, q4, q5⟩ := h
    exact ⟨env', e, q1, n, okIs_ok q2, by omega, by omega, isF_ok q3, fun d d0 d1 => c2_data (isF_ok (allLt_ok (f := fun d => isF (agC2 d env')) q4 d0 d1)), retT_ok q5⟩
  · cases h
theorem rr_all {a : Addr} {n : Nat} {x y : PyData} (h1 : 3 ≤ n) (h2 : n ≤ 6) (hx : x ∈ cutsOf n) (hy : y ∈ cutsOf n) :
    ∃ env', rrA (some (.raw a) :: startE 4 [x, y]) = .next env' ∧ noOwn env' = true ∧ ∃ m, (e2 gIx (eVar 1) (eC (.int 0))) env' = .ok (.int m) ∧ 0 < m ∧ m ≤ 1000 ∧ 4 < env'.length ∧ ∀ d, 0 ≤ d → d < m → noOwn (env'.set 4 (some (.imm (.int d)))) = true ∧ rrB (env'.set 4 (some (.imm (.int d)))) = .ret (.bool true) := by
  have h := allPairs_ok (kRr a) h1 h2 hx hy
  unfold chkRr at h
  split at h
  · rename_i env' e
    simp only [Bool.and_eq_true] at h
    obtain ⟨q1, q2, q3, q4⟩ := h
    refine ⟨env', e, q1, n, okIs_ok q2, by omega, by omega, Nat.le_of_ble_eq_true q3, fun d d0 d1 => ⟨?_, retT_ok (allLt_ok (f := fun d => retT (rrB (env'.set 4 (some (.imm (.int d)))))) q4 d0 d1)⟩⟩
    have gen : ∀ (l : Ev) (i : Nat), noOwn l = true → noOwn (l.set i (some (.imm (.int d)))) = true := by
      intro l
      induction l with
      | nil => intro i h; exact h
      | cons c l ih =>
        intro i h
        cases i with
        | zero =>
          cases c with
          | none => exact h
          | some c => cases c <;> first | exact h | cases h
        | succ i =>
          cases c with
          | none => exact ih i h
          | some c => cases c <;> first | exact ih i h | cases h
    exact gen env' 4 q1
  · cases h
section
variable {ca : Nat → Addr} {P : Program} {w : World} {K : PySem.W.Frag} {mg : Str → Option Value} {base : Heap} {f : Addr} {fd : FuncData}
theorem ok_law_agree (B : Bi mg) (hpick : HasS P w K mg base "_law_pick" 2 spPick) (hbehind_way : Has ca P w K mg base "behind_way" 2 7 Fbehind_way) (hcomes_for : Has ca P w K mg base "comes_for" 2 5 Fcomes_for) (hcount_least_ways : Has ca P w K mg base "count_least_ways" 2 7 Fcount_least_ways) (hexchanged : Has ca P w K mg base "exchanged" 2 6 Fexchanged) (hexchanged_at_once : Has ca P w K mg base "exchanged_at_once" 2 6 Fexchanged_at_once) (hfan_way : Has ca P w K mg base "fan_way" 1 7 Ffan_way) (hfar_from_fan : Has ca P w K mg base "far_from_fan" 2 5 Ffar_from_fan) (hfewest_exchanges : Has ca P w K mg base "fewest_exchanges" 2 11 Ffewest_exchanges) (his_least_way : Has ca P w K mg base "is_least_way" 3 11 Fis_least_way) (hlayers : Has ca P w K mg base "layers" 1 8 Flayers) (hleast_way : Has ca P w K mg base "least_way" 2 11 Fleast_way) (hmirrored : Has ca P w K mg base "mirrored" 1 5 Fmirrored) (hon_least_ways : Has ca P w K mg base "on_least_ways" 2 7 Fon_least_ways) (hshared_cuts : Has ca P w K mg base "shared_cuts" 2 6 Fshared_cuts) (hway_back : Has ca P w K mg base "way_back" 2 7 Fway_back) (hway_by_fan : Has ca P w K mg base "way_by_fan" 3 6 Fway_by_fan) (FN : FnP K "_law_agree" (top 109) f fd) (gm : mg "_law_agree" = some (.ref f)) : HasS P w K mg base "_law_agree" 12 spTwo := by
  refine ⟨f, fd, ["_law_spring_here", "_law_one", "_law_other"], FN.ok sc_law_agree spTwo_len fun cdv A outer s H vs Q E hr hsp => ?_, gm, FN.kp, FN.bindsN (fun kV doc pm an cdv ct us hl => match us, hl with | [_, _, _], _ => rfl)⟩
  have hu := units65 hr
  have hu64 : (A.deeper (envOfC "_law_agree" (defScope (top 109)) s.heap.objs.size f cdv)).units + 64 < cLine := by omega
  have hu0 : (A.deeper (envOfC "_law_agree" (defScope (top 109)) s.heap.objs.size f cdv)).units < cLine := by omega
  have nd := sc_law_agree.nd
  have hc : (cxOf (L2N.CX P w) P w K mg base N_law_agree "_law_agree" (defScope (top 109)) f cdv A outer s H E).calm = true := rfl
  have tk : L2N.Takes (cxOf (L2N.CX P w) P w K mg base N_law_agree "_law_agree" (defScope (top 109)) f cdv A outer s H E) (fun cls d _ H => E cls d H) := L2N.takes_of rfl rfl rfl rfl
  have px : Passes (L2N.CX P w) (cxOf (L2N.CX P w) P w K mg base N_law_agree "_law_agree" (defScope (top 109)) f cdv A outer s H E) E := L2N.passes_call tk fun _ _ _ _ h => h
  obtain ⟨t, p, q⟩ := (show OkR ca E (cxOf (L2N.CX P w) P w K mg base N_law_agree "_law_agree" (defScope (top 109)) f cdv A outer s H E) (defBody (top 109)) (fun env => ∃ env', agA env = .next env' ∧ noOwn env' = true ∧ ∃ m, (e2 gIx (eVar 1) (eC (.int 0))) env' = .ok (.int m) ∧ 0 < m ∧ m ≤ 1000 ∧ asB (agC1 env') = .ok false ∧ (∀ d, 0 ≤ d → d < m → C2ok Fway_by_fan env' d) ∧ agB env' = .ret (.bool true)) from okR_pre (okPre_cons (okS_par false false 3 4 hc nd (OkE.c (xCall hfewest_exchanges hr px (okA_cons (okE_var 1) (okA_cons (okE_var 2) okA_nil)))) (OkE.c (xCall hleast_way hr px (okA_cons (okE_var 1) (okA_cons (okE_var 2) okA_nil))))) (okPre_cons (okS_if (OkW.t (okW_or (okT_cmp (op_neD hu64) gv_ne (xLen B (okA_cons (okE_var 4) okA_nil)) (okE_var 3)) (okW_or (okT_cmp (op_neD hu64) gv_ne (xCall hbehind_way hr px (okA_cons (okE_var 1) (okA_cons (okE_var 4) okA_nil))) (okE_var 2)) (okW_or1 (okT_cmp op_notU gv_notN (xCall his_least_way hr px (okA_cons (okE_var 2) (okA_cons (okE_var 1) (okA_cons (xCall hway_back hr px (okA_cons (okE_var 1) (okA_cons (okE_var 4) okA_nil))) okA_nil)))) okE_bl))))) (okSs_one (okS_ret okE_bl)) okSs_nil) (okPre_cons (okS_if (okT_cmp (op_neD hu64) gv_ne (xCall hcount_least_ways hr px (okA_cons (okE_var 2) (okA_cons (okE_var 1) okA_nil))) (xCall hcount_least_ways hr px (okA_cons (okE_var 1) (okA_cons (okE_var 2) okA_nil)))) (okSs_one (okS_ret okE_bl)) okSs_nil) (okPre_cons (okS_if (okT_cmp (op_neD hu64) gv_ne (xCall hon_least_ways hr px (okA_cons (okE_var 2) (okA_cons (okE_var 1) okA_nil))) (xCall hon_least_ways hr px (okA_cons (okE_var 1) (okA_cons (okE_var 2) okA_nil)))) (okSs_one (okS_ret okE_bl)) okSs_nil) (okPre_one (okS_if (OkW.t (okW_or (okT_cmp (op_neD hu64) gv_ne (xCall hfewest_exchanges hr px (okA_cons (xCall hmirrored hr px (okA_cons (okE_var 1) okA_nil)) (okA_cons (xCall hmirrored hr px (okA_cons (okE_var 2) okA_nil)) okA_nil))) (okE_var 3)) (okW_or1 (okT_cmp xLe gv_int (xLen B (okA_cons (xCall hlayers hr px (okA_cons (okE_var 1) okA_nil)) okA_nil)) (okE_var 3))))) (okSs_one (okS_ret okE_bl)) okSs_nil)))))) fr_agA (okR_if B hpick hway_by_fan hr px (okT_cmp (op_neD hu64) gv_ne (xCall hfar_from_fan hr px (okA_cons (okE_var 1) (okA_cons okE_int okA_nil))) (xLen B (okA_cons (xCall hfan_way hr px (okA_cons (okE_var 1) okA_nil)) okA_nil))) (okE_ix hu64 (okE_var 1) okE_int) okE_bl (okR_pd (okSs_cons (okS_if (okT_cmp xGt gv_int (okE_var 3) okE_int) (okSs_cons (okS_set 5 nd (xCall hexchanged hr px (okA_cons (okE_var 1) (okA_cons (okE_ix hu64 (okE_var 4) okE_int) okA_nil)))) (okSs_cons (okS_if (OkW.t (okW_or (okT_cmp (op_neD hu64) gv_ne (xCall hfewest_exchanges hr px (okA_cons (okE_var 5) (okA_cons (okE_var 2) okA_nil))) (okE_op op_sub gv_sub (okE_var 3) okE_int)) (okW_or1 (okT_cmp (op_neD hu64) gv_ne (xCall hcomes_for hr px (okA_cons (okE_var 5) (okA_cons (xCall hcomes_for hr px (okA_cons (okE_var 1) (okA_cons (okE_ix hu64 (okE_var 4) okE_int) okA_nil))) okA_nil))) (okE_ix hu64 (okE_var 4) okE_int))))) (okSs_one (okS_ret okE_bl)) okSs_nil) (okSs_one (okS_if (OkW.t (okW_or (okT_cmp (op_neD hu64) gv_ne (xCall hexchanged_at_once hr px (okA_cons (okE_var 1) (okA_cons (okE_to (okE_var 4)) okA_nil))) (okE_var 5)) (okW_or1 (okT_cmp (op_inU hu) gv_in (okE_ix hu64 (okE_var 4) okE_int) (xCall hshared_cuts hr px (okA_cons (okE_var 1) (okA_cons (okE_var 2) okA_nil))))))) (okSs_one (okS_ret okE_bl)) okSs_nil)))) okSs_nil) (okSs_one (okS_ret okE_bl))))))
  obtain ⟨a, v1, v2, Hi, n, x, y, e, sp, na, sb, r1, r2, n3, n6, hx, hy, hq⟩ := hsp
  subst e
  refine ⟨t, p, q a _ _ Hi H _ rfl (slots_spr (N := N_law_agree) (.cons r1 (.cons r2 .nil)) (by show 2 + 1 ≤ List.length N_law_agree; decide)) rfl sp na sb ?_ hq⟩
  exact ag_all n3 n6 hx hy
theorem ok_law_rounds_right (B : Bi mg) (hpick : HasS P w K mg base "_law_pick" 2 spPick) (h_law_few : Has ca P w K mg base "_law_few" 2 5 F_law_few) (h_law_twins : Has ca P w K mg base "_law_twins" 2 2 F_law_twins) (hfewest_exchanges : Has ca P w K mg base "fewest_exchanges" 2 11 Ffewest_exchanges) (hfewest_rounds : Has ca P w K mg base "fewest_rounds" 2 7 Ffewest_rounds) (hmost_at_once : Has ca P w K mg base "most_at_once" 1 10 Fmost_at_once) (hturned : Has ca P w K mg base "turned" 2 5 Fturned) (FN : FnP K "_law_rounds_right" (top 110) f fd) (gm : mg "_law_rounds_right" = some (.ref f)) : HasS P w K mg base "_law_rounds_right" 12 spTwo := by
  refine ⟨f, fd, ["_law_spring_here", "_law_one", "_law_other"], FN.ok sc_law_rounds_right spTwo_len fun cdv A outer s H vs Q E hr hsp => ?_, gm, FN.kp, FN.bindsN (fun kV doc pm an cdv ct us hl => match us, hl with | [_, _, _], _ => rfl)⟩
  have hu := units65 hr
  have hu64 : (A.deeper (envOfC "_law_rounds_right" (defScope (top 110)) s.heap.objs.size f cdv)).units + 64 < cLine := by omega
  have hu0 : (A.deeper (envOfC "_law_rounds_right" (defScope (top 110)) s.heap.objs.size f cdv)).units < cLine := by omega
  have nd := sc_law_rounds_right.nd
  have hc : (cxOf (L2N.CX P w) P w K mg base N_law_rounds_right "_law_rounds_right" (defScope (top 110)) f cdv A outer s H E).calm = true := rfl
  have tk : L2N.Takes (cxOf (L2N.CX P w) P w K mg base N_law_rounds_right "_law_rounds_right" (defScope (top 110)) f cdv A outer s H E) (fun cls d _ H => E cls d H) := L2N.takes_of rfl rfl rfl rfl
  have px : Passes (L2N.CX P w) (cxOf (L2N.CX P w) P w K mg base N_law_rounds_right "_law_rounds_right" (defScope (top 110)) f cdv A outer s H E) E := L2N.passes_call tk fun _ _ _ _ h => h
  obtain ⟨t, p, q⟩ := (show OkR ca E (cxOf (L2N.CX P w) P w K mg base N_law_rounds_right "_law_rounds_right" (defScope (top 110)) f cdv A outer s H E) (defBody (top 110)) (fun env => ∃ env', rrA env = .next env' ∧ noOwn env' = true ∧ ∃ m, (e2 gIx (eVar 1) (eC (.int 0))) env' = .ok (.int m) ∧ 0 < m ∧ m ≤ 1000 ∧ 4 < env'.length ∧ ∀ d, 0 ≤ d → d < m → noOwn (env'.set 4 (some (.imm (.int d)))) = true ∧ rrB (env'.set 4 (some (.imm (.int d)))) = .ret (.bool true)) from okR_pre (okPre_cons (okS_set 3 nd (xCall hfewest_rounds hr px (okA_cons (okE_var 1) (okA_cons (okE_var 2) okA_nil)))) (okPre_one (okS_if (OkW.t (okW_or (okT_not (okT_val (xCall h_law_twins hr px (okA_cons (okE_var 3) (okA_cons (xCall h_law_few hr px (okA_cons (okE_var 1) (okA_cons (okE_var 2) okA_nil))) okA_nil))))) (okW_or1 (okT_cmp (op_neD hu64) gv_ne (xCall hfewest_rounds hr px (okA_cons (okE_var 2) (okA_cons (okE_var 1) okA_nil))) (okE_var 3))))) (okSs_one (okS_ret okE_bl)) okSs_nil))) fr_rrA (okR_asg 4 (by decide) hpick hr px nd (okE_ix hu64 (okE_var 1) okE_int) (okR_pd (okSs_cons (okS_if (OkW.t (okW_or (okT_cmp (op_neD hu64) gv_ne (xCall hfewest_rounds hr px (okA_cons (xCall hturned hr px (okA_cons (okE_var 1) (okA_cons (okE_var 4) okA_nil))) (okA_cons (xCall hturned hr px (okA_cons (okE_var 2) (okA_cons (okE_var 4) okA_nil))) okA_nil))) (okE_var 3)) (okW_or1 (okT_cmp xGt gv_int (okE_var 3) (xCall hfewest_exchanges hr px (okA_cons (okE_var 1) (okA_cons (okE_var 2) okA_nil))))))) (okSs_one (okS_ret okE_bl)) okSs_nil) (okSs_one (okS_ret (okE_or (okE_cmp (op_eqD hu64) gv_eq (okE_var 1) (okE_var 2)) (okE_one (okE_and (okE_cmp xLe gv_int (xCall hfewest_exchanges hr px (okA_cons (okE_var 1) (okA_cons (okE_var 2) okA_nil))) (okE_op op_mul gv_mul (okE_var 3) (xMax B hc hu (okA_cons okE_int (okA_cons (okE_op op_fdivN gv_div (okE_op op_sub gv_sub (okE_ix hu64 (okE_var 1) okE_int) okE_int) okE_int) okA_nil))))) (okE_one (okE_cmp xGt gv_int (xCall hmost_at_once hr px (okA_cons (okE_var 1) okA_nil)) okE_int)))))))))))
  obtain ⟨a, v1, v2, Hi, n, x, y, e, sp, na, sb, r1, r2, n3, n6, hx, hy, hq⟩ := hsp
  subst e
  refine ⟨t, p, q a _ _ Hi H _ rfl (slots_spr (N := N_law_rounds_right) (.cons r1 (.cons r2 .nil)) (by show 2 + 1 ≤ List.length N_law_rounds_right; decide)) rfl sp na sb ?_ hq⟩
  exact rr_all n3 n6 hx hy
end
end PD
/-! text Z4 -/
set_option maxHeartbeats 5000000
namespace PD
open PySem.Spec PySem PyProof.Rows L2

def N_law_pick : List Str := ["_law_spring_here", "_law_many", "_law_digit"]
theorem sc_law_pick : FnScope N_law_pick ["_law_spring_here", "_law_many"] (defScope (top 94)) := ⟨rfl, rfl, rfl, by decide +kernel, rfl, by decide +kernel, by decide +kernel⟩
theorem spPick_len : ∀ vs H Q E, spPick vs H Q E → vs.length = 2 := fun vs H Q E ⟨a, m, e, _⟩ => by rw [e]; rfl
section
variable {ca : Nat → Addr} {P : Program} {w : World} {K : PySem.W.Frag} {mg : Str → Option Value} {base : Heap} {f : Addr} {fd : FuncData}
theorem gs_keep {a : Addr} {H : Hp} {o : HO} (h : SprAt H a) : ∀ b, H b = none → L2.upd H a o b = none := fun b e => by
  obtain ⟨o', h'⟩ := h.some
  rw [upd_ne (by intro z; subst z; rw [h'] at e; cases e)]
  exact e
theorem pInt {X : Cx} {a : Expr} {t : TA} {p pos : Pos} (B : Bi X.mg) (ha : PA X [a] t) (hg : Gl X "int" := by rfl) (he : starEach [a] X.env = (false, eval a X.env) :: starEach [] X.env := by rfl) :
    PE X (.Call (.Name "int" p) [a] [] pos) (tCB (fun xs H Q => (∃ i, xs = [.int i] ∧ Q (.int i) H) ∨ ∃ k, xs = [.bl k] ∧ Q (.int (if k then 1 else 0)) H) t) := pe_callTy call_int1 hg B.int PyProof.Rows.boot_int ha (by decide) (by decide) he rfl
theorem ok_law_pick (B : Bi mg) (FN : FnP K "_law_pick" (top 94) f fd) (gm : mg "_law_pick" = some (.ref f)) : HasS P w K mg base "_law_pick" 1 spPick := by
  refine ⟨f, fd, ["_law_spring_here", "_law_many"], FN.ok sc_law_pick spPick_len fun cdv A outer s H vs Q E hr hsp => ?_, gm, FN.kp, FN.bindsN (fun kV doc pm an cdv ct us hl => match us, hl with | [_, _], _ => rfl)⟩
  have nd := sc_law_pick.nd
  refine ⟨_, pss_cons (ps_if (pt_cmpR op_gt (pe_ix ix_list (pv 0) pe_int fun _ _ => rfl) pe_int (nomark _))
      (pss_cons (ps_set (i := 2) nd rfl (Or.inl rfl) (pe_op op_modN (pInt B (pa_cons (pe_ix ix_list (pv 0) pe_int fun _ _ => rfl) pa_nil)) (pv 1)))
        (pss_cons (ps_asg (pe_op op_fdivN (pe_ix ix_list (pv 0) pe_int fun _ _ => rfl) (pv 1)) (pg_sub (pv 0) pe_int set_list)) (pss_one (ps_ret (pv 2))))) pss_nil)
    (pss_cons (ps_asg (pe_op op_modN (pInt B (pa_cons (pe_op op_add (pe_op op_mul (pe_ix ix_list (pv 0) pe_int fun _ _ => rfl) pe_int) pe_int) pa_nil)) pe_int) (pg_sub (pv 0) pe_int set_list))
      (pss_one (ps_ret (pe_op op_modN (pInt B (pa_cons (pe_op op_fdivN (pe_ix ix_list (pv 0) pe_int fun _ _ => rfl) pe_int) pa_nil)) (pv 1))))), ?_⟩
  obtain ⟨a, m, e, sp, m0, m1, hq⟩ := hsp
  subst e
  obtain ⟨i, j, hi, hj, ha⟩ := id sp
  have hm : m ≠ 0 := by omega
  have hmn : m.natAbs < 1073741824 := by omega
  by_cases hpos : 0 < i
  · have e1 : decide ((0 : Int) < i) = true := decide_eq_true hpos
    refine ⟨_, rfl, a, _, 0, .int i, rfl, rfl, .of ha, rfl, i, 0, rfl, rfl, true, by show V.bl (decide ((0 : Int) < i)) = _; rw [e1], iteT ?_⟩
    refine ⟨_, rfl, a, _, 0, .int i, rfl, rfl, .of ha, rfl, .inl ⟨i, rfl, _, rfl, i, m, rfl, rfl, hm, ?_⟩⟩
    refine ⟨_, rfl, a, _, 0, .int i, rfl, rfl, .of ha, rfl, _, rfl, i, m, rfl, rfl, ⟨hm, hmn⟩, ?_⟩
    refine ⟨_, rfl, a, _, 0, 0, rfl, rfl, ha, rfl, ?_⟩
    refine ⟨_, rfl, ?_⟩
    exact hq _ _ (Int.fmod_nonneg_of_pos _ m0) (Int.fmod_lt_of_pos _ m0) (Gs.upd (by rw [Int.fdiv_eq_ediv_of_nonneg _ (by omega)]; exact Int.ediv_nonneg hi (by omega)) hj) (gs_keep sp)
  · have e1 : decide ((0 : Int) < i) = false := decide_eq_false hpos
    refine ⟨_, rfl, a, _, 0, .int i, rfl, rfl, .of ha, rfl, i, 0, rfl, rfl, false, by show V.bl (decide ((0 : Int) < i)) = _; rw [e1], iteF ?_⟩
    refine ⟨_, rfl, a, _, 1, .int j, rfl, rfl, .of ha, rfl, j, 318665857834, rfl, rfl, .inr ⟨by decide, by decide⟩, _, _, rfl, rfl, .inl ⟨_, rfl, _, _, rfl, rfl, (by show (999999999959 : Int) ≠ 0; decide), ?_⟩⟩
    refine ⟨_, rfl, a, _, 1, 1, rfl, rfl, ha, rfl, ?_⟩
    refine ⟨_, rfl, a, _, 1, _, rfl, rfl, .of upd_same, rfl, _, 3181, rfl, rfl, ⟨(by show (3181 : Int) ≠ 0; decide), (by show Int.natAbs 3181 < 1073741824; decide)⟩, .inl ⟨_, rfl, _, rfl, _, m, rfl, rfl, hm, ?_⟩⟩
    exact hq _ _ (Int.fmod_nonneg_of_pos _ m0) (Int.fmod_lt_of_pos _ m0) (Gs.upd hi (Int.fmod_nonneg_of_pos _ (by decide))) (gs_keep sp)
end
end PD
/-! text Z5 -/
set_option maxHeartbeats 0
namespace PD
open PySem.Spec PySem PyProof.Rows L2
def N_law_cuts_in : List Str := ["_law_spring_here", "_law_first", "_law_last", "_law_third", "_law_found", "_law_pair"]
theorem sc_law_cuts_in : FnScope N_law_cuts_in ["_law_spring_here", "_law_first", "_law_last"] (defScope (top 98)) := ⟨rfl, rfl, rfl, by decide +kernel, rfl, by decide +kernel, by decide +kernel⟩
def cu0 : Ev → Out := (sIf (e2 gLt (e2 gSub (eVar 2) (eVar 1)) (eC (.int 2))) (sRet (eLst aNil)) sNil)
def cu4 : Ev → Out := (sRet (e2 gAdd (eVar 4) (eComp [5] (iS (eTup (aCons (eTup (aCons (eVar 1) (aCons (eVar 3) aNil))) (aCons (eTup (aCons (eVar 3) (aCons (eVar 2) aNil))) aNil)))) (gN 5) (e2 (gInt gtI) (e2 gSub (e2 gIx (eVar 5) (eC (.int 1))) (e2 gIx (eVar 5) (eC (.int 0)))) (eC (.int 1))) (eVar 5))))
def prD (i j : Int) : PyData := .tuple [.int i, .int j]
def prsL (f t l : Int) : List PyData := (if gtI (t - f) 1 = true then [prD f t] else []) ++ (if gtI (l - t) 1 = true then [prD t l] else [])
/-- all that may come -/
def cutsL : Nat → Int → Int → List (List PyData)
  | 0, _, _ => [[]]
  | m + 1, f, l => if l - f < 2 then [[]] else (List.range (l - f - 1).toNat).flatMap fun (d : Nat) => (cutsL m f (f + 1 + (d : Int))).flatMap fun x => (cutsL m (f + 1 + (d : Int)) l).map fun y => (x ++ y) ++ prsL f (f + 1 + (d : Int)) l
theorem prsL_len (f t l : Int) : (prsL f t l).length ≤ 2 := by
  unfold prsL
  rw [List.length_append]
  split <;> split <;> simp
theorem cutsL_len : ∀ (m : Nat) (f l : Int) (ds : List PyData), ds ∈ cutsL m f l → ds.length ≤ 2 * ((l - f).toNat - 1)
  | 0, f, l, ds, h => by
    simp [cutsL] at h
    subst h
    simp
  | m + 1, f, l, ds, h => by
    unfold cutsL at h
    split at h
    · simp at h
      subst h
      simp
    · rename_i hn
      obtain ⟨d, hd, h⟩ := List.mem_flatMap.mp h
      obtain ⟨x, hx, h⟩ := List.mem_flatMap.mp h
      obtain ⟨y, hy, rfl⟩ := List.mem_map.mp h
      have h1 := cutsL_len m _ _ x hx
      have h2 := cutsL_len m _ _ y hy
      have h3 := prsL_len f (f + 1 + d) l
      have h4 := List.mem_range.mp hd
      rw [List.length_append, List.length_append]
      omega
def spC : Nat → Sp
  | 0 => fun _ _ _ _ => False
  | m + 1 => fun vs H Q _ => ∃ a f l Hi, vs = [.ref a, .int f, .int l] ∧ SprAt H a ∧ l - f ≤ m ∧ m ≤ 100 ∧ Hi a = none ∧ Sub Hi H ∧
    ∀ v H' ds Hi', ds ∈ cutsL (m + 1) f l → Gs a H H' → Sub Hi Hi' → Hi' a = none → Sub Hi' H' → Rp Hi' v (.list ds) → Q v H'
theorem spC_len : ∀ (m : Nat) vs H Q E, spC m vs H Q E → vs.length = 3
  | 0, vs, H, Q, E, h => h.elim
  | m + 1, vs, H, Q, E, ⟨a, f, l, Hi, e, _⟩ => by rw [e]; rfl
theorem HasS.up {P : Program} {w : World} {K : PySem.W.Frag} {mg : Str → Option Value} {base : Heap} {x : Str} {j k : Nat} {sp : Sp} (h : HasS P w K mg base x j sp) (hjk : j ≤ k) : HasS P w K mg base x k sp := by
  obtain ⟨f, fd, ps, h1, h2⟩ := h
  exact ⟨f, fd, ps, h1.mono hjk, h2⟩
theorem cu0_eq (a : Addr) (f l : Int) : cu0 [some (.raw a), some (.imm (.int f)), some (.imm (.int l)), none, none, none] = if l - f < 2 then .ret (.list []) else .next [some (.raw a), some (.imm (.int f)), some (.imm (.int l)), none, none, none] := by
  have h : cu0 [some (.raw a), some (.imm (.int f)), some (.imm (.int l)), none, none, none] = (match decide (l - f < 2) with
    | true => .ret (.list [])
    | false => .next [some (.raw a), some (.imm (.int f)), some (.imm (.int l)), none, none, none]) := rfl
  rw [h]
  by_cases z : l - f < 2
  · rw [decide_eq_true z, if_pos z]
  · rw [decide_eq_false z, if_neg z]
theorem cu4_eq (a : Addr) (f l t : Int) (ds : List PyData) (hl : ds.length ≤ 3000) : cu4 [some (.raw a), some (.imm (.int f)), some (.imm (.int l)), some (.imm (.int t)), some (.imm (.list ds)), none] = .ret (.list (ds ++ prsL f t l)) := by
  have hp := prsL_len f t l
  have e : eComp [5] (iS (eTup (aCons (eTup (aCons (eVar 1) (aCons (eVar 3) aNil))) (aCons (eTup (aCons (eVar 3) (aCons (eVar 2) aNil))) aNil)))) (gN 5) (e2 (gInt gtI) (e2 gSub (e2 gIx (eVar 5) (eC (.int 1))) (e2 gIx (eVar 5) (eC (.int 0)))) (eC (.int 1))) (eVar 5)
      [some (.raw a), some (.imm (.int f)), some (.imm (.int l)), some (.imm (.int t)), some (.imm (.list ds)), none] = .ok (.list (prsL f t l)) := by
    have h : eComp [5] (iS (eTup (aCons (eTup (aCons (eVar 1) (aCons (eVar 3) aNil))) (aCons (eTup (aCons (eVar 3) (aCons (eVar 2) aNil))) aNil)))) (gN 5) (e2 (gInt gtI) (e2 gSub (e2 gIx (eVar 5) (eC (.int 1))) (e2 gIx (eVar 5) (eC (.int 0)))) (eC (.int 1))) (eVar 5)
      [some (.raw a), some (.imm (.int f)), some (.imm (.int l)), some (.imm (.int t)), some (.imm (.list ds)), none] =
      ((match gtI (t - f) 1 with
        | true => (R.ok (prD f t)).bindN fun y => (((match gtI (l - t) 1 with
          | true => (R.ok (prD t l)).bindN fun y => ((R.ok []).bindN fun ys => .ok (y :: ys))
          | false => .ok []) : R (List PyData)).bindN fun ys => .ok (y :: ys))
        | false => (match gtI (l - t) 1 with
          | true => (R.ok (prD t l)).bindN fun y => ((R.ok []).bindN fun ys => .ok (y :: ys))
          | false => .ok [])) : R (List PyData)).bindN fun ys => .ok (.list ys) := rfl
    rw [h]
    unfold prsL
    cases gtI (t - f) 1 <;> cases gtI (l - t) 1 <;> rfl
  have h : cu4 [some (.raw a), some (.imm (.int f)), some (.imm (.int l)), some (.imm (.int t)), some (.imm (.list ds)), none] = thenV ((R.ok (PyData.list ds)).bind fun x => (eComp [5] (iS (eTup (aCons (eTup (aCons (eVar 1) (aCons (eVar 3) aNil))) (aCons (eTup (aCons (eVar 3) (aCons (eVar 2) aNil))) aNil)))) (gN 5) (e2 (gInt gtI) (e2 gSub (e2 gIx (eVar 5) (eC (.int 1))) (e2 gIx (eVar 5) (eC (.int 0)))) (eC (.int 1))) (eVar 5)
      [some (.raw a), some (.imm (.int f)), some (.imm (.int l)), some (.imm (.int t)), some (.imm (.list ds)), none]).bind fun y => gAdd x y) .ret := rfl
  rw [h, e]
  show thenV (gAdd (.list ds) (.list (prsL f t l))) .ret = _
  unfold gAdd
  dsimp only
  rw [if_pos (Nat.ble_eq_true_of_le (by omega))]
  rfl
theorem slots3 (a : Addr) (f l : Int) (u3 u4 u5 : Option V) {He Hi H : Hp} : Slots He [some (.raw a), some (.imm (.int f)), some (.imm (.int l)), none, none, none] [some (.ref a), some (.int f), some (.int l), u3, u4, u5] Hi H := by
  refine ⟨rfl, fun i d e => ?_, fun i d e => ?_, fun i b e => ?_, fun i j d d' b e _ _ _ => ?_⟩
  · match i, e with
    | 0, e => cases e
    | 1, e => cases e; exact ⟨_, rfl, .int _⟩
    | 2, e => cases e; exact ⟨_, rfl, .int _⟩
    | 3, e => cases e
    | 4, e => cases e
    | 5, e => cases e
    | k + 6, e => simp at e
  · exfalso
    match i, e with
    | 0, e => cases e
    | 1, e => cases e
    | 2, e => cases e
    | 3, e => cases e
    | 4, e => cases e
    | 5, e => cases e
    | k + 6, e => simp at e
  · match i, e with
    | 0, e => cases e; rfl
    | 1, e => cases e
    | 2, e => cases e
    | 3, e => cases e
    | 4, e => cases e
    | 5, e => cases e
    | k + 6, e => simp at e
  · exfalso
    match i, e with
    | 0, e => cases e
    | 1, e => cases e
    | 2, e => cases e
    | 3, e => cases e
    | 4, e => cases e
    | 5, e => cases e
    | k + 6, e => simp at e
section
variable {P : Program} {w : World} {K : PySem.W.Frag} {mg : Str → Option Value} {base : Heap} {f : Addr} {fd : FuncData}
theorem ok_law_cuts_in_step (B : Bi mg) (hpick : HasS P w K mg base "_law_pick" 1 spPick) (FN : FnP K "_law_cuts_in" (top 98) f fd) (gm : mg "_law_cuts_in" = some (.ref f)) (m : Nat) (hself : HasS P w K mg base "_law_cuts_in" (m + 1) (spC m)) : HasS P w K mg base "_law_cuts_in" (m + 2) (spC (m + 1)) := by
  refine ⟨f, fd, ["_law_spring_here", "_law_first", "_law_last"], FN.ok sc_law_cuts_in (spC_len _) fun cdv A outer s H vs Q E hr hsp => ?_, gm, FN.kp, FN.bindsN (fun kV doc pm an cdv ct us hl => match us, hl with | [_, _, _], _ => rfl)⟩
  have hu := units65 hr
  have hu64 : (A.deeper (envOfC "_law_cuts_in" (defScope (top 98)) s.heap.objs.size f cdv)).units + 64 < cLine := by omega
  have hu0 : (A.deeper (envOfC "_law_cuts_in" (defScope (top 98)) s.heap.objs.size f cdv)).units < cLine := by omega
  have nd := sc_law_cuts_in.nd
  have hc : (cxOf (L2N.CX P w) P w K mg base N_law_cuts_in "_law_cuts_in" (defScope (top 98)) f cdv A outer s H E).calm = true := rfl
  have tk : L2N.Takes (cxOf (L2N.CX P w) P w K mg base N_law_cuts_in "_law_cuts_in" (defScope (top 98)) f cdv A outer s H E) (fun cls d _ H => E cls d H) := L2N.takes_of rfl rfl rfl rfl
  have px : Passes (L2N.CX P w) (cxOf (L2N.CX P w) P w K mg base N_law_cuts_in "_law_cuts_in" (defScope (top 98)) f cdv A outer s H E) E := L2N.passes_call tk fun _ _ _ _ h => h
  have h0 : OkPre (fun _ => 0) E (cxOf (L2N.CX P w) P w K mg base N_law_cuts_in "_law_cuts_in" (defScope (top 98)) f cdv A outer s H E) (defBody (top 98)) ((defBody (top 98)).drop 1) cu0 := okPre_one (okS_if (okT_cmp (op_ltU hu0) gv_lt (okE_op op_sub gv_sub (okE_var 2) (okE_var 1)) okE_int) (okSs_one (okS_ret (okE_lst okA_nil))) okSs_nil)
  obtain ⟨t4, p4, q4⟩ := (show OkSs (fun _ => 0) E (cxOf (L2N.CX P w) P w K mg base N_law_cuts_in "_law_cuts_in" (defScope (top 98)) f cdv A outer s H E) ((defBody (top 98)).drop 4) cu4 from (okSs_one (okS_ret (okE_op op_addU gv_add (okE_var 4) (okE_comp hc nd (okI_seq (okE_tup (okA_cons (okE_tup (okA_cons (okE_var 1) (okA_cons (okE_var 3) okA_nil))) (okA_cons (okE_tup (okA_cons (okE_var 3) (okA_cons (okE_var 2) okA_nil))) okA_nil)))) (blkOk_by (own := [("_law_pair", 5)]) (by kernel_rfl)) (by decide) (fun s H C cl fp => (okG_name 5 nd)) (fun s H C cl fp => okTs_one (okT_cmp xGt gv_int (okE_op op_sub gv_sub (okE_ix hu64 (okE_var 5) okE_int) (okE_ix hu64 (okE_var 5) okE_int)) okE_int)) (fun s H C cl fp => (okE_var 5)))))))
  have hp2 := hpick.up (k := m + 1) (by omega)
  have pt := (pss_cons (ps_set (i := 4) nd rfl (Or.inl rfl) (pe_op op_addU (pCallS hself hr px (pa_cons (pv 0) (pa_cons (pv 1) (pa_cons (pv 3) pa_nil))) (nble_refl _)) (pCallS hself hr px (pa_cons (pv 0) (pa_cons (pv 3) (pa_cons (pv 2) pa_nil))) (nble_refl _)))) p4 : PSs (cxOf (L2N.CX P w) P w K mg base N_law_cuts_in "_law_cuts_in" (defScope (top 98)) f cdv A outer s H E) ((defBody (top 98)).drop 3) _)
  obtain ⟨a, f1, l1, Hi, e, sp, hlm, hm, na, sb, hq⟩ := hsp
  subst e
  obtain ⟨tt, ptt, qtt⟩ : ∃ tt, PSs (cxOf (L2N.CX P w) P w K mg base N_law_cuts_in "_law_cuts_in" (defScope (top 98)) f cdv A outer s H E) ((defBody (top 98)).drop 3) tt ∧ ∀ (D : Ends) (u4 u5 : Option V) (d : Int) (Hi1 H1 H3 : Hp), D.rt = Q → 2 ≤ l1 - f1 → 0 ≤ d → d < l1 - f1 - 1 → Gs a H H1 → Sub Hi Hi1 → Hi1 a = none → Sub Hi1 H1 → Gs a H1 H3 →
      tt D [some (.ref a), some (.int f1), some (.int l1), some (.int (f1 + 1 + d)), u4, u5] H3 := by
    refine ⟨_, pt, fun D u4 u5 d Hi1 H1 H3 hD h2 d0 d1 g1 s1 na1 sb1 g3 => ?_⟩
    cases m with
    | zero => omega
    | succ m =>
      have sb3 : Sub Hi1 H3 := g3.subI sb1 na1
      refine ⟨_, rfl, _, rfl, _, rfl, a, f1, f1 + 1 + d, Hi1, rfl, g3.2, by omega, by omega, na1, sb3, fun v H4 ds Hi4 hds g4 s4 na4 sb4 r4 => ?_⟩
      refine ⟨_, rfl, _, rfl, _, rfl, a, f1 + 1 + d, l1, Hi4, rfl, g4.2, by omega, by omega, na4, sb4, fun u H5 es Hi5 hes g5 s5 na5 sb5 r5 => ?_⟩
      have k1 := cutsL_len _ _ _ _ hds
      have k2 := cutsL_len _ _ _ _ hes
      refine gv_add (ca := fun _ => 0) (E := E0) (.list ds) (.list es) v u Hi5 H5 _ (r4.sub s5) r5 sb5 ?_
      have e1 : gAdd (.list ds) (.list es) = .ok (.list (ds ++ es)) := by
        unfold gAdd
        dsimp only
        rw [if_pos (Nat.ble_eq_true_of_le (by omega))]
      rw [e1]
      intro w6 Hi6 H6 x6 r6
      obtain ⟨na6, sp6⟩ := x6.spr na5 g5.2
      have S6 : Slots H6 [some (.raw a), some (.imm (.int f1)), some (.imm (.int l1)), some (.imm (.int (f1 + 1 + d))), some (.imm (.list (ds ++ es))), none] [some (.ref a), some (.int f1), some (.int l1), some (.int (f1 + 1 + d)), some w6, u5] Hi6 H6 := by
        have Sb : Slots H6 [some (.raw a), some (.imm (.int f1)), some (.imm (.int l1)), none, none, none] [some (.ref a), some (.int f1), some (.int l1), u4, u4, u5] Hi6 H6 := by
          exact slots3 a f1 l1 u4 u4 u5
        exact (Sb.set (i := 3) (.int _) (by show 3 < 6; decide)).set (i := 4) r6 (by show 4 < 6; decide)
      refine q4 Hi6 H6 _ _ Hi6 H6 D S6 (.refl x6.le) ?_
      rw [cu4_eq a f1 l1 (f1 + 1 + d) (ds ++ es) (by rw [List.length_append]; omega)]
      intro v7 Hi7 H7 x7 r7
      obtain ⟨na7, sp7⟩ := x7.spr na6 sp6
      rw [hD]
      refine hq v7 H7 _ Hi7 ?_ (((((g1.trans g3).trans g4).trans g5).trans (.of x6.al g5.2)).trans (.of x7.al sp6)) (((((s1.trans s4).trans s5).trans x6.im).trans x7.im)) na7 x7.le r7
      unfold cutsL
      rw [if_neg (by omega)]
      have ed : ((d.toNat : Nat) : Int) = d := Int.toNat_of_nonneg d0
      refine List.mem_flatMap.mpr ⟨d.toNat, List.mem_range.mpr (by omega), ?_⟩
      rw [ed]
      exact List.mem_flatMap.mpr ⟨ds, hds, List.mem_map.mpr ⟨es, hes, rfl⟩⟩
  have pm := (pss_cons (ps_set (i := 3) nd rfl (Or.inl rfl) (pe_op op_add (pe_op op_add (pv 1) pe_int) (pCallS hp2 hr px (pa_cons (pv 0) (pa_cons (pe_op op_sub (pe_op op_sub (pv 2) (pv 1)) pe_int) pa_nil)) (nble_refl _))))
    (pss_cons (ps_if (pt_cmpR op_eq (pCallS hp2 hr px (pa_cons (pv 0) (pa_cons pe_int pa_nil)) (nble_refl _)) pe_int (nomark _)) (pss_one (ps_set (i := 3) nd rfl (Or.inl rfl) (pe_op op_add (pv 1) pe_int))) pss_nil) ptt) : PSs (cxOf (L2N.CX P w) P w K mg base N_law_cuts_in "_law_cuts_in" (defScope (top 98)) f cdv A outer s H E) ((defBody (top 98)).drop 1) _)
  obtain ⟨t, p, q⟩ := h0 _ pm
  refine ⟨t, p, ?_⟩
  have S0 : Slots H [some (.raw a), some (.imm (.int f1)), some (.imm (.int l1)), none, none, none] (L2.start N_law_cuts_in [.ref a, .int f1, .int l1]) Hi H := slots_spr (N := N_law_cuts_in) (ds := [.int f1, .int l1]) (.cons (.int _) (.cons (.int _) .nil)) (by show 2 + 1 ≤ List.length N_law_cuts_in; decide)
  refine q Hi H _ _ Hi H _ S0 (.refl sb) ?_
  rw [cu0_eq]
  by_cases hlt : l1 - f1 < 2
  · rw [if_pos hlt]
    intro v Hi' H' x r
    refine hq v H' [] Hi' ?_ (.of x.al sp) x.im (x.spr na sp).1 x.le r
    unfold cutsL
    rw [if_pos hlt]
    simp
  · rw [if_neg hlt]
    intro σ1 Hi1 H1 S1 x1
    obtain ⟨na1, sp1⟩ := x1.spr na sp
    have e0 := S1.raw 0 a rfl
    obtain ⟨w1, e1, r1⟩ := S1.imm 1 _ rfl
    obtain ⟨w2, e2, r2⟩ := S1.imm 2 _ rfl
    cases r1
    cases r2
    have hl6 : σ1.length = 6 := S1.len
    obtain ⟨u0, u1, u2, u3, u4, u5, rfl⟩ : ∃ u0 u1 u2 u3 u4 u5, σ1 = [u0, u1, u2, u3, u4, u5] := by
      match σ1, hl6 with
      | [u0, u1, u2, u3, u4, u5], _ => exact ⟨u0, u1, u2, u3, u4, u5, rfl⟩
    cases e0
    cases e1
    cases e2
    refine ⟨_, rfl, f1, 1, rfl, rfl, _, rfl, _, rfl, _, rfl, l1, f1, rfl, rfl, _, _, rfl, rfl, a, l1 - f1 - 1, rfl, sp1, by omega, by omega, fun d H2 d0 d1 g2 fr2 => ⟨_, d, rfl, rfl, ?_⟩⟩
    refine ⟨_, rfl, a, 4, rfl, g2.2, by decide, by decide, fun d2 H3 c0 c1 g3 fr3 => ⟨rfl, _, rfl, ?_⟩⟩
    have g1 : Gs a H H1 := .of x1.al sp
    by_cases hz : d2 = 0
    · rw [decide_eq_true (show V.int d2 = V.int 0 by rw [hz])]
      refine iteT ⟨_, rfl, f1, 1, rfl, rfl, ?_⟩
      have := qtt { nx := fun x H' => Q V.non H', rt := Q } u4 u5 0 Hi1 H1 H3 rfl (by omega) (Int.le_refl _) (by omega) g1 x1.im na1 x1.le (g2.trans g3)
      rw [Int.add_zero] at this
      exact this
    · rw [decide_eq_false (show ¬ V.int d2 = V.int 0 from fun z => hz (V.int.inj z))]
      refine iteF ?_
      exact qtt { nx := fun x H' => Q V.non H', rt := Q } u4 u5 d Hi1 H1 H3 rfl (by omega) d0 d1 g1 x1.im na1 x1.le (g2.trans g3)
end
end PD
/-! text Z6 -/
set_option maxHeartbeats 5000000
namespace PD
open PySem.Spec PySem PyProof.Rows L2

def N_law_cutting : List Str := ["_law_spring_here", "_law_sides"]
theorem sc_law_cutting : FnScope N_law_cutting ["_law_spring_here", "_law_sides"] (defScope (top 99)) := ⟨rfl, rfl, rfl, by decide +kernel, rfl, by decide +kernel, by decide +kernel⟩
def chkCt (n : Nat) : Bool := (cutsL 7 0 (.ofNat n - 1)).all fun ds => match gSorted [.list ds] with
  | .ok (.list es) => Nat.ble es.length 4000 && (cutsOf n).any fun q => pdEq q (.tuple [.int (.ofNat n), .tuple es])
  | _ => false
theorem kCt : [3, 4, 5, 6].all chkCt = true := by decide +kernel
theorem ct_ok {n : Nat} (h1 : 3 ≤ n) (h2 : n ≤ 6) {ds : List PyData} (h : ds ∈ cutsL 7 0 ((n : Int) - 1)) : ∃ es, gSorted [.list ds] = .ok (.list es) ∧ es.length ≤ 4000 ∧ PyData.tuple [.int n, .tuple es] ∈ cutsOf n := by
  have hn : n ∈ [3, 4, 5, 6] := by
    have : n = 3 ∨ n = 4 ∨ n = 5 ∨ n = 6 := by omega
    rcases this with rfl | rfl | rfl | rfl <;> simp
  have q := List.all_eq_true.mp kCt n hn
  unfold chkCt at q
  have q2 := List.all_eq_true.mp q ds h
  split at q2
  · rename_i es e
    simp only [Bool.and_eq_true] at q2
    obtain ⟨x, hx, he⟩ := List.any_eq_true.mp q2.2
    refine ⟨es, e, Nat.le_of_ble_eq_true q2.1, ?_⟩
    rw [show PyData.tuple [.int n, .tuple es] = x from (pdEq_ok _ _ he).symm]
    exact hx
  · cases q2
def spCt : Sp := fun vs H Q _ => ∃ a n Hi, vs = [.ref a, .int (n : Nat)] ∧ SprAt H a ∧ 3 ≤ n ∧ n ≤ 6 ∧ Hi a = none ∧ Sub Hi H ∧
  ∀ v H' d Hi', d ∈ cutsOf n → Gs a H H' → Sub Hi Hi' → Hi' a = none → Sub Hi' H' → Rp Hi' v d → Q v H'
theorem spCt_len : ∀ vs H Q E, spCt vs H Q E → vs.length = 2 := fun vs H Q E ⟨a, n, Hi, e, _⟩ => by rw [e]; rfl
section
variable {P : Program} {w : World} {K : PySem.W.Frag} {mg : Str → Option Value} {base : Heap} {f : Addr} {fd : FuncData}
theorem ok_law_cuts_in (B : Bi mg) (hpick : HasS P w K mg base "_law_pick" 1 spPick) (FN : FnP K "_law_cuts_in" (top 98) f fd) (gm : mg "_law_cuts_in" = some (.ref f)) : HasS P w K mg base "_law_cuts_in" 8 (spC 7) := by
  have h0 : HasS P w K mg base "_law_cuts_in" 1 (spC 0) := ⟨f, fd, ["_law_spring_here", "_law_first", "_law_last"], ⟨fun vs H Q E z => z.elim, fun A outer s H args us vs Q E _ _ _ _ z => z.elim⟩, gm, FN.kp, FN.bindsN (fun kV doc pm an cdv ct us hl => match us, hl with | [_, _, _], _ => rfl)⟩
  have h1 := ok_law_cuts_in_step B hpick FN gm 0 h0
  have h2 := ok_law_cuts_in_step B hpick FN gm 1 h1
  have h3 := ok_law_cuts_in_step B hpick FN gm 2 h2
  have h4 := ok_law_cuts_in_step B hpick FN gm 3 h3
  have h5 := ok_law_cuts_in_step B hpick FN gm 4 h4
  have h6 := ok_law_cuts_in_step B hpick FN gm 5 h5
  exact ok_law_cuts_in_step B hpick FN gm 6 h6
theorem pSorted {X : Cx} {a : Expr} {t : TA} {p pos : Pos} (B : Bi X.mg) (hu : X.A.units + 65 < cLine) (ha : PA X [a] t) (hg : Gl X "sorted" := by rfl) (he : starEach [a] X.env = (false, eval a X.env) :: starEach [] X.env := by rfl) :
    PE X (.Call (.Name "sorted" p) [a] [] pos) (tCB (rSortU X.K) t) := pe_callB (cr_sortU (by omega)) hg B.sorted boot_sorted ha (by decide) (by decide) he rfl
theorem pTuple {X : Cx} {a : Expr} {t : TA} {p pos : Pos} (B : Bi X.mg) (ha : PA X [a] t) (hg : Gl X "tuple" := by rfl) (he : starEach [a] X.env = (false, eval a X.env) :: starEach [] X.env := by rfl) :
    PE X (.Call (.Name "tuple" p) [a] [] pos) (tCB (fun xs H Q => ∃ p ys, xs = [.ref p] ∧ ((SqL X.K H p ys ∧ ∀ l, H l = none → Q (.ref l) (upd H l (.tup ys))) ∨ (SqT X.K H p ys ∧ Q (.ref p) H))) t) := pe_callTy call_tuple_of hg B.tuple PyProof.Rows.boot_tuple ha (by decide) (by decide) he rfl
theorem ok_law_cutting (B : Bi mg) (hcuts : HasS P w K mg base "_law_cuts_in" 8 (spC 7)) (FN : FnP K "_law_cutting" (top 99) f fd) (gm : mg "_law_cutting" = some (.ref f)) : HasS P w K mg base "_law_cutting" 9 spCt := by
  refine ⟨f, fd, ["_law_spring_here", "_law_sides"], FN.ok sc_law_cutting spCt_len fun cdv A outer s H vs Q E hr hsp => ?_, gm, FN.kp, FN.bindsN (fun kV doc pm an cdv ct us hl => match us, hl with | [_, _], _ => rfl)⟩
  have hu := units65 hr
  have tk : L2N.Takes (cxOf (L2N.CX P w) P w K mg base N_law_cutting "_law_cutting" (defScope (top 99)) f cdv A outer s H E) (fun cls d _ H => E cls d H) := L2N.takes_of rfl rfl rfl rfl
  have px : Passes (L2N.CX P w) (cxOf (L2N.CX P w) P w K mg base N_law_cutting "_law_cutting" (defScope (top 99)) f cdv A outer s H E) E := L2N.passes_call tk fun _ _ _ _ h => h
  refine ⟨_, pss_one (ps_ret (pe_tup (pa_cons (pv 1) (pa_cons (pTuple B (pa_cons (pSorted B hu (pa_cons (pCallS hcuts hr px (pa_cons (pv 0) (pa_cons pe_int (pa_cons (pe_op op_sub (pv 1) pe_int) pa_nil)))) pa_nil)) pa_nil)) pa_nil)))), ?_⟩
  obtain ⟨a, n, Hi, e, sp, n3, n6, na, sb, hq⟩ := hsp
  subst e
  refine ⟨_, rfl, _, rfl, _, rfl, n, 1, rfl, rfl, a, 0, (n : Int) - 1, Hi, rfl, sp, (by show (n : Int) - 1 - 0 ≤ 6; omega), (by show 6 ≤ 100; decide), na, sb, fun v H1 ds Hi1 hds g1 s1 na1 sb1 r1 => ?_⟩
  obtain ⟨es, e1, hl, hm⟩ := ct_ok n3 n6 hds
  unfold L2.tNil
  dsimp only
  refine gv_sorted (ca := fun _ => 0) (E := E0) [.list ds] [v] Hi1 H1 _ (.cons r1 .nil) sb1 ?_
  rw [e1]
  intro v2 Hi2 H2 x2 r2
  obtain ⟨na2, sp2⟩ := x2.spr na1 g1.2
  cases r2 with
  | @lst a2 xs _ e2 rx =>
  refine ⟨a2, xs, rfl, .inl ⟨.of (x2.le _ _ e2), fun l hl => ?_⟩⟩
  have x3 : Ex Hi2 H2 (upd Hi2 l (.tup xs)) (upd H2 l (.tup xs)) := .new x2.le hl
  have r3 : Rp (upd Hi2 l (.tup xs)) (.ref l) (.tuple es) := .tup upd_same (rx.sub x3.im)
  obtain ⟨na3, sp3⟩ := x3.spr na2 sp2
  refine ⟨by show 2 ≤ sizeLine; decide, fun p hp => ?_⟩
  have x4 : Ex _ _ (upd (upd Hi2 l (.tup xs)) p (.tup [.int n, .ref l])) (upd (upd H2 l (.tup xs)) p (.tup [.int n, .ref l])) := .new x3.le hp
  obtain ⟨na4, sp4⟩ := x4.spr na3 sp3
  exact hq _ _ _ _ hm (((g1.trans (.of x2.al g1.2)).trans (.of x3.al sp2)).trans (.of x4.al sp3)) (((s1.trans x2.im).trans x3.im).trans x4.im) na4 x4.le (.tup upd_same (.cons (.int _) (.cons (r3.sub x4.im) .nil)))
end
end PD
/-! text Z7 -/
set_option maxHeartbeats 5000000
namespace PD
open PySem.Spec PySem PyProof.Rows L2

def N_law_spring : List Str := ["_law_script", "_law_at", "_law_cell", "_law_mixed"]
theorem sc_law_spring : FnScope N_law_spring ["_law_script", "_law_at"] (defScope (top 93)) := ⟨rfl, rfl, rfl, by decide +kernel, rfl, by decide +kernel, by decide +kernel⟩
def spSpring (K : PySem.W.Frag) : Sp := fun vs H Q _ => ∃ a k ns, vs = [.ref a, .int (k : Nat)] ∧ SqL K H a (List.map V.int ns) ∧ ∀ p i j, H p = none → 0 ≤ i → 0 ≤ j → Q (.ref p) (upd H p (.lst [.int i, .int j]))
theorem spSpring_len (K : PySem.W.Frag) : ∀ vs H Q E, spSpring K vs H Q E → vs.length = 2 := fun vs H Q E ⟨a, n, Hi, e, _⟩ => by rw [e]; rfl
section
variable {P : Program} {w : World} {K : PySem.W.Frag} {mg : Str → Option Value} {base : Heap} {f : Addr} {fd : FuncData}
theorem ok_law_spring (B : Bi mg) (babs : mg "abs" = none) (FN : FnP K "_law_spring" (top 93) f fd) (gm : mg "_law_spring" = some (.ref f)) : HasS P w K mg base "_law_spring" 1 (spSpring K) := by
  refine ⟨f, fd, ["_law_script", "_law_at"], FN.ok sc_law_spring (spSpring_len K) fun cdv A outer s H vs Q E hr hsp => ?_, gm, FN.kp, FN.bindsN (fun kV doc pm an cdv ct us hl => match us, hl with | [_, _], _ => rfl)⟩
  have nd := sc_law_spring.nd
  have pt := (pss_cons (ps_set (i := 3) nd rfl (Or.inl rfl) (pe_op op_modN (pInt B (pa_cons (pe_op op_add (pe_op op_add (pe_op op_mul (pv 2) pe_int) (pe_op op_mul pe_int (pv 1))) pe_int) pa_nil)) pe_int))
    (pss_one (ps_ret (pe_lst (pa_cons (pe_ifExp (pt_cmpR op_ge (pv 2) (pe_op op_pow pe_int pe_int) (nomark _)) (pv 2) pe_int) (pa_cons (pv 3) pa_nil))))) :
    PSs (cxOf (L2N.CX P w) P w K mg base N_law_spring "_law_spring" (defScope (top 93)) f cdv A outer s H E) ((defBody (top 93)).drop 2) _)
  obtain ⟨a, k, ns, e, hS, hq⟩ := hsp
  subst e
  obtain ⟨tt, ptt, qtt⟩ : ∃ tt, PSs (cxOf (L2N.CX P w) P w K mg base N_law_spring "_law_spring" (defScope (top 93)) f cdv A outer s H E) ((defBody (top 93)).drop 2) tt ∧ ∀ (D : Ends) (c : Int) (u3 : Option V), D.rt = Q → 0 ≤ c → tt D [some (.ref a), some (.int k), some (.int c), u3] H := by
    refine ⟨_, pt, fun D c u3 hD hc => ?_⟩
    refine ⟨_, rfl, c, 1709, rfl, rfl, .inr ⟨by decide, by decide⟩, _, rfl, 523987, k, rfl, rfl, .inl ⟨by decide, by decide⟩, _, _, rfl, rfl, _, _, rfl, rfl, .inl ⟨_, rfl, _, _, rfl, rfl, (by show (999999999959 : Int) ≠ 0; decide), ?_⟩⟩
    refine ⟨_, rfl, 10, 18, rfl, rfl, ⟨by decide, by decide, by decide⟩, c, _, rfl, rfl, ?_⟩
    by_cases hb : (10 : Int) ^ (18 : Int).toNat ≤ c
    · refine ⟨true, by show V.bl (decide ((10 : Int) ^ (18 : Int).toNat ≤ c)) = _; rw [decide_eq_true hb], iteT ?_⟩
      refine ⟨_, rfl, _, rfl, (by show 2 ≤ sizeLine; decide), fun p hp => ?_⟩
      rw [hD]
      exact hq p c _ hp hc (Int.fmod_nonneg_of_pos _ (by decide))
    · refine ⟨false, by show V.bl (decide ((10 : Int) ^ (18 : Int).toNat ≤ c)) = _; rw [decide_eq_false hb], iteF ?_⟩
      refine ⟨_, rfl, (by show 2 ≤ sizeLine; decide), fun p hp => ?_⟩
      rw [hD]
      exact hq p 0 _ hp (Int.le_refl _) (Int.fmod_nonneg_of_pos _ (by decide))
  refine ⟨_, pss_cons (ps_set (i := 2) nd rfl (Or.inl rfl) pe_int) (pss_cons (ps_if (pt_cmpR op_lt (pv 1) (pe_callB call_len rfl B.len boot_len (pa_cons (pv 0) pa_nil)) (nomark _))
    (pss_one (ps_set (i := 2) nd rfl (Or.inl rfl) (pe_callB call_abs rfl babs boot_abs (pa_cons (pe_ix ix_list (pv 0) (pv 1) fun _ _ => rfl) pa_nil)))) pss_nil) ptt), ?_⟩
  refine ⟨_, rfl, _, rfl, _, (ns.map V.int).length, rfl, .inl ⟨_, hS, rfl⟩, k, _, rfl, rfl, ?_⟩
  have hl : ((ns.map V.int).length : Int) = ns.length := by rw [List.length_map]
  by_cases hlt : (k : Int) < ns.length
  · refine ⟨true, by show V.bl (decide ((k : Int) < ((ns.map V.int).length : Int))) = _; rw [hl, decide_eq_true hlt], iteT ?_⟩
    have hk : k < ns.length := by omega
    obtain ⟨x, hx⟩ : ∃ x, ns[k]? = some x := ⟨ns[k], List.getElem?_eq_getElem hk⟩
    have hat : atI (ns.map V.int) (k : Int) = some (.int x) := by
      unfold atI
      have : ixN (ns.map V.int).length (k : Int) = some k := by
        unfold ixN
        rw [List.length_map, if_pos (by omega), if_pos (by omega)]
        simp
      rw [this]
      show (ns.map V.int)[k]? = _
      rw [List.getElem?_map, hx]
      rfl
    refine ⟨_, rfl, _, rfl, a, _, k, _, rfl, rfl, hS, hat, x, rfl, ?_⟩
    refine qtt _ _ none rfl ?_
    split <;> omega
  · refine ⟨false, by show V.bl (decide ((k : Int) < ((ns.map V.int).length : Int))) = _; rw [hl, decide_eq_false hlt], iteF ?_⟩
    exact qtt _ 53 none rfl (by decide)
end
end PD
/-! text Z8 -/
set_option maxHeartbeats 5000000
namespace PD
open PySem.Spec PySem PyProof.Rows L2

/-! ### a callee at a greater base: all that stands and is not tracked -/
theorem frs_none {base h : Heap} : ∀ {l : List Env}, h.FunFrames base l → ∀ L ∈ frs l, base.get? L = none
  | [], _, L, hL => absurd (show L ∈ ([] : List Addr) from hL) (by simp)
  | env :: l, h, L, hL => by
    obtain ⟨hk, ⟨L', o, hf, hn, ho, hd⟩, hr⟩ := h
    unfold frs at hL
    rw [List.filterMap_cons, hf] at hL
    rcases List.mem_cons.mp hL with rfl | hL
    · exact hn
    · exact frs_none hr L hL
theorem rebase {X : Cx} {pins : List (Addr × Obj)} {σ : St} {H : Hp} {s : Shared} (I : Inv X pins σ H s) :
    ∃ b : Heap, (∀ a o, b.get? a = some o → s.heap.get? a = some o ∧ H a = none ∧ a ∉ frs X.stack) ∧ (∀ a o, s.heap.get? a = some o → H a = none → a ∉ frs X.stack → b.get? a = some o) ∧ Env0 X.prog X.w X.K X.mg b X.A X.stack s H := by
  let l : List Addr := (List.range s.heap.objs.size).filter fun a => (H a).isSome || decide (a ∈ frs X.stack)
  have h1 : ∀ a o, (PySem.W.hideAll s.heap l).get? a = some o → s.heap.get? a = some o ∧ H a = none ∧ a ∉ frs X.stack := fun a o e => by
    have e1 := PySem.W.of_hideAll l e
    have nl : a ∉ l := fun z => by
      rw [PySem.W.hideAll_none l z] at e
      cases e
    have hz : ¬ ((H a).isSome || decide (a ∈ frs X.stack)) = true := fun z => nl (List.mem_filter.mpr ⟨List.mem_range.mpr (Heap.lt_size e1), z⟩)
    rw [Bool.or_eq_true, not_or] at hz
    refine ⟨e1, ?_, fun z => hz.2 (decide_eq_true z)⟩
    cases q : H a with
    | none => rfl
    | some o => rw [q] at hz; exact absurd rfl hz.1
  have h2 : ∀ a o, s.heap.get? a = some o → H a = none → a ∉ frs X.stack → (PySem.W.hideAll s.heap l).get? a = some o := fun a o e n f => by
    refine PySem.W.hideAll_get l e fun z => ?_
    have z2 := (List.mem_filter.mp z).2
    rw [n] at z2
    simp at z2
    exact f z2
  have kp : ∀ a o, X.base.get? a = some o → (PySem.W.hideAll s.heap l).get? a = some o := fun a o e => by
    obtain ⟨e1, e2⟩ := I.bs a o e
    refine h2 a o e1 e2 fun z => ?_
    rw [frs_none I.stack a z] at e
    cases e
  have hM : Mod X.K X.mg (PySem.W.hideAll s.heap l) := by
    obtain ⟨m1, m2, ⟨mb, m3, m4⟩, m5⟩ := I.ok.mod
    exact ⟨m1.keeps kp, m2.keeps kp, ⟨mb, m3.keeps kp, m4⟩, m5.keeps kp⟩
  refine ⟨PySem.W.hideAll s.heap l, h1, h2, I.ok.frames, hM, fun a o e => ⟨(h1 a o e).1, (h1 a o e).2.1⟩, Nat.le_of_eq (PySem.W.hideAll_size _ _), funFrames_none I.stack fun L hL => ?_, I.stkFree, I.hok, I.bare⟩
  cases q : (PySem.W.hideAll s.heap l).get? L with
  | none => rfl
  | some o => exact absurd hL (h1 L o q).2.2
end PD
/-! text Z9 -/
set_option maxHeartbeats 5000000
namespace PD
open PySem.Spec PySem PyProof.Rows L2
open LamX (CodeO Tabs TabB ExtN LamS lamEnv)

/-! ### a lambda's call, from any frame, at a base that holds it -/
abbrev lamCxB (X : Cx) (b : Heap) (A : Around) (outer : List Env) (s : Shared) (H : Hp) (E : XK) (scope : Scope) (f c' : Addr) : Cx := { LamX.lamCx X A outer s H E scope f c' with base := b, xe := fun e s' => wpAny (model X.prog X.w) (A.deeper (lamEnv X scope s.heap.objs.size f c')) (leaving (lamEnv X scope s.heap.objs.size f c') e) (fun _ s'' => L2N.CX X.prog X.w outer H s E e s'') (fun e' s'' => L2N.CX X.prog X.w outer H s E e' s'') s' }
theorem cell_nofr {X : Cx} {pins : List (Addr × Obj)} {σ : L2.St} {H : Hp} {s : Shared} (I : Inv X pins σ H s) (fn : ∀ y, X.fn y = true) {y : Str} {c : Addr} (h : X.env.cells.lookup y = some c) : c ∉ frs X.stack := fun z => by
  rcases List.mem_cons.mp (I.stkSub c z) with e | e
  · obtain ⟨m, ⟨o, es, ep, h1, h2, _⟩, _⟩ := I.loc
    obtain ⟨v, o2, h3, h4⟩ := I.cell y c h
    rw [e, h1] at h3
    cases h3
    rw [h2] at h4
    cases h4
  · obtain ⟨_, o, h1, _⟩ := I.ok.funs.mem e
    have h2 := I.ok.cab y c (fn y) h
    exact absurd (Heap.lt_size h1) (Nat.not_lt_of_le h2)
section
variable {X : Cx} {pins : List (Addr × Obj)} {σ : L2.St} {H HZ : Hp} {s s1 : Shared} {b : Heap}
theorem lam_start3 (fn : ∀ y, X.fn y = true) {A : Around} {outer : List Env} {E : XK} {scope : Scope} {f c' : Addr} {h₁ : Heap} {tk : Nat} (I : Inv X pins σ H s) (L : LamS X.env.scope scope) (hb : ∀ a o, s.heap.get? a = some o → H a = none → a ∉ frs X.stack → b.get? a = some o)
    (e0 : Env0 X.prog X.w X.K X.mg b A outer s1 HZ) (hd : A.handled = none) (ns : h₁.Ns s1.heap.objs.size fun y => ([] : List (Str × Value)).reverse.lookup y) (up : ∀ a o, s1.heap.get? a = some o → h₁.get? a = some o) :
    Inv (lamCxB X b A outer s1 HZ E scope f c') [] σ HZ { s1 with heap := h₁, toks := tk } := by
  have held := L.has I.ok
  -- the lambda's cells are the frame's
  have ours : ∀ {y : Str} {a : Addr}, (cloFrom X.env.cells scope.names []).lookup y = some a → X.env.cells.lookup y = some a := fun {y a} e => (cloFrom_mem (PySem.mem_of_lookup e)).elim (fun no => nomatch no) fun ⟨m, ea⟩ => by
    obtain ⟨a1, g⟩ := held _ m rfl
    rw [ea, show X.env.cells.lookup y = some a1 from g] <;> rfl
  have theirs : ∀ {y : Str}, scope.names.lookup y = some .free → ∃ a, (cloFrom X.env.cells scope.names []).lookup y = some a := fun {y} e => mem_lookup (cloFrom_has (cells := X.env.cells) (acc := []) (show (y, NameKind.free) ∈ scope.names from PySem.mem_of_lookup e))
  have notOwn : ∀ {y : Str} {k : NameKind}, scope.names.lookup y = some k → k ≠ .local ∧ k ≠ .cell := fun e => L.own _ (PySem.mem_of_lookup e)
  -- they stand at the base
  have base : ∀ {y : Str} {a : Addr} {v : Option Value}, X.env.cells.lookup y = some a → s.heap.IsCell a v → h₁.IsCell a v ∧ HZ a = none := fun {y a v} e ⟨o, g, d⟩ => by
    have z := e0.bs a o (hb a o g (I.freeC y a e) (cell_nofr I fn e))
    exact ⟨⟨o, up _ _ z.1, d⟩, z.2⟩
  have noEx : ∀ a : Addr, a ∉ (lamCxB X b A outer s1 HZ E scope f c').ex := fun a => List.not_mem_nil (a := a)
  refine ⟨⟨e0.mod, L.kind, rfl, rfl, Nat.le_refl _, fun y z a e1 e2 => I.ok.inj y z a (ours e1) (ours e2), fun y k => ?_, fun y a z => absurd (show false = true from z) Bool.false_ne_true, fun _ => hd, Around.frames_deeper e0.frames, .inr ⟨rfl, rfl⟩, fun a m => (noEx a m).elim, e0.bs, e0.bsz, fun a _ _ => noEx a,
      fun a m => (noEx a m).elim, e0.funs, e0.frf⟩, rfl, e0.bare, .kept up, ⟨_, ns, fun i y v e1 e2 e3 => ?_⟩, fun y a e => (I.cell y a (ours e)).imp fun v c => (base (ours e) c).1, e0.hok.fresh (Nat.le_refl _), fun y a e => (I.cell y a (ours e)).elim fun v c => (base (ours e) c).2,
      fun q mq => absurd (show q ∈ ([] : List (Addr × Obj)) from mq) List.not_mem_nil, e0.hok.kept up, I.len⟩
  · exact (show scope.names.lookup y = some .cell ∨ scope.names.lookup y = some .free from k).elim (fun c => absurd rfl (notOwn c).2) theirs
  · have free : scope.names.lookup y = some .free := (show Vis scope y from e3).elim (fun c => absurd rfl (notOwn c).1) fun c => c.elim (fun c => absurd rfl (notOwn c).2) id
    have above := L.free _ (PySem.mem_of_lookup free) rfl
    obtain ⟨_, _, at_⟩ := I.loc
    obtain ⟨u, ru, lk⟩ := at_ i y v e1 e2 (.inr above)
    obtain ⟨a, ga⟩ := theirs free
    refine ⟨u, ru, .inr ⟨.inr free, a, ga, ?_⟩⟩
    cases lk with
    | inl q =>
      have loc : X.env.scope.names.lookup y = some .local := q.1
      exact above.elim (fun c => by rw [show X.env.scope.names.lookup y = some .cell from c] at loc; cases loc) fun c => by rw [show X.env.scope.names.lookup y = some .free from c] at loc; cases loc
    | inr q =>
      obtain ⟨_, a2, g2, c2⟩ := q
      cases (ours ga).symm.trans g2
      exact (base g2 c2).1
theorem lam_ok (fn : ∀ y, X.fn y = true) {f c' : Addr} {pm ctv : Value} {params : Arguments} {body : Expr} {scope : Scope} {k : Nat} {tb : XK → TE} (I : Inv X pins σ H s) (L : LamS X.env.scope scope) (hb : ∀ a o, s.heap.get? a = some o → H a = none → a ∉ frs X.stack → b.get? a = some o)
    (hf : s.heap.get? f = some (PySem.W.kla_obj "<lambda>" (X.env.qual ++ "<lambda>") params body scope (cloFrom X.env.cells scope.names []) pm c' ctv)) (hfn : H f = none) (hfr : f ∉ frs X.stack)
    (bd : bindArgs (PySem.W.kla_fn "<lambda>" (X.env.qual ++ "<lambda>") params body scope (cloFrom X.env.cells scope.names []) pm (.ref c') ctv) ⟨[], []⟩ = pure [])
    (hbody : ∀ (A : Around) (outer : List Env) (s : Shared) (H : Hp) (E : XK), Room k (A.deeper (lamEnv X scope s.heap.objs.size f c')) → PE (lamCxB X b A outer s H E scope f c') body (tb E)) :
    ∀ (A : Around) (outer : List Env) (s1 : Shared) (HZ : Hp) (Q : VK) (E : XK), Room (k + 1) A → Env0 X.prog X.w X.K X.mg b A outer s1 HZ → HZ c' = some (CodeO c' (X.env.qual ++ "<lambda>")) → tb E σ HZ Q →
      codeAny (model X.prog X.w) A (.call (.ref f) ⟨[], []⟩) (CR (L2N.CX X.prog X.w) outer X.prog X.w HZ s1 Q E) s1 := fun A outer s1 HZ Q E room e0 code ask => by
  obtain ⟨⟨oc, fs, nt, gc, dc, named⟩, _, _⟩ := e0.hok c' _ code
  have bs := fun a o g => (e0.bs a o g).1
  refine PySem.W.kla_callFunE room.depth (bs f _ (hb f _ hf hfn hfr)) rfl L.co L.gen rfl ⟨c', oc, fs, nt, rfl, gc, dc, named⟩ ?_
  rw [bd]
  refine wpAny_pure (wpAny_newFunctionEnv (fun y m => (L.own y m).2) (fun y m => (List.not_mem_nil m).elim) (fun h₁ ns ext => ⟨(e0.mod.nolimit.keeps bs).fresh _ ext, show codeAny _ _ (.expr body (lamEnv X scope s1.heap.objs.size f c')) _ _ from PySem.W.kla_codeExpr ?_⟩) L.kind)
  have J := lam_start3 (E := E) (f := f) (c' := c') (tk := s1.toks + ([] : List (Str × Value)).length) fn I L hb e0 room.hd ns fun a o g => ext.extBut a o (Nat.ne_of_lt (Heap.lt_size g)) (Heap.get?_push_of_some _ g)
  exact wpAny_mono ((hbody _ _ s1 HZ E (room.deeper _)).run [] _ _ HZ Q J ask) (fun v z ⟨u, G, K, ru, q⟩ => ⟨u, G, K.os, K.bare, K.base, K.hok, ru, q⟩) fun _ _ q => q
end
end PD
/-! text ZL -/
set_option maxHeartbeats 0
namespace PD
open PySem.Spec PySem PyProof.Rows L2
open LamX (CodeO Tabs TabS TabB ExtN)
def Nlaw : List Str := ["_law_script", "_law_k", "_law_spring_here", "_law_sides", "_law_one", "_law_other", "_law_square", "_law_five", "_law_star", "_law_path"]
theorem sclaw : FnScope Nlaw ["_law_script"] (defScope (top 112)) := ⟨rfl, rfl, rfl, by decide +kernel, rfl, by decide +kernel, by decide +kernel⟩
def lwB : Ev → Out := (sSeq (sAsg (gT (gsCons (gN 6) (gsCons (gN 7) (gsCons (gN 8) (gsCons (gN 9) (gsCons (gN 5) gsNil)))))) (fun _ => F_law_known [])) (sSeq (sIf (eOr (e2 gNe (eCall 2 Ffewest_rounds (aCons (eVar 9) (aCons (eTup (aCons (eC (.int 6)) (aCons (eTup (aCons (eTup (aCons (eC (.int 1)) (aCons (eC (.int 5)) aNil))) (aCons (eTup (aCons (eC (.int 2)) (aCons (eC (.int 4)) aNil))) (aCons (eTup (aCons (eC (.int 2)) (aCons (eC (.int 5)) aNil))) aNil)))) aNil))) aNil))) (eC (.int 1))) (e2 gNe (eCall 2 Ffewest_rounds (aCons (eVar 7) (aCons (eTup (aCons (eC (.int 5)) (aCons (eTup (aCons (eTup (aCons (eC (.int 1)) (aCons (eC (.int 3)) aNil))) (aCons (eTup (aCons (eC (.int 1)) (aCons (eC (.int 4)) aNil))) aNil))) aNil))) aNil))) (eC (.int 2)))) (sRet (eC (.bool false))) sNil) (sRet (eAnd (e2 gEq (eCall 2 Ffewest_rounds (aCons (eVar 8) (aCons (eVar 8) aNil))) (eC (.int 0))) (e2 gEq (eCall 2 Ffewest_rounds (aCons (eVar 6) (aCons (eTup (aCons (eC (.int 4)) (aCons (eTup (aCons (eTup (aCons (eC (.int 1)) (aCons (eC (.int 3)) aNil))) aNil)) aNil))) aNil))) (eC (.int 1)))))))
theorem kLw : retT (lwB [none, none, none, none, none, none, none, none, none, none]) = true := by decide +kernel
def spRef (T : List (Addr × Str)) : Sp := fun vs H Q _ => ∃ v Hi n x, vs = [v] ∧ Sub Hi H ∧ Rp Hi v x ∧ 3 ≤ n ∧ n ≤ 6 ∧ x ∈ cutsOf n ∧ Tabs T H ∧ ∀ H', ExtN H H' → Tabs T H' → Q (.bl true) H'
def spLaw (K : PySem.W.Frag) (T : List (Addr × Str)) : Sp := fun vs H Q _ => ∃ a ns, vs = [.ref a] ∧ SqL K H a (List.map V.int ns) ∧ Tabs T H ∧ ∀ H', Q (.bl true) H'
theorem spLaw_len (K : PySem.W.Frag) (T : List (Addr × Str)) : ∀ vs H Q E, spLaw K T vs H Q E → vs.length = 1 := fun vs H Q E ⟨a, ns, e, _⟩ => by rw [e]; rfl
theorem Gs.other {a : Addr} {H H' : Hp} (g : Gs a H H') (sp : SprAt H a) {b : Addr} {o : HO} (h : H b = some o) (n : ∀ xs, o ≠ .lst xs) : H' b = some o := by
  refine g.1 b o (fun z => ?_) h
  subst z
  obtain ⟨i, j, _, _, e⟩ := sp
  rw [e] at h
  cases h
  exact n _ rfl
theorem Tabs.gs {T : List (Addr × Str)} {a : Addr} {H H' : Hp} (t : Tabs T H) (sp : SprAt H a) (g : Gs a H H') : Tabs T H' := fun p hp => by
  obtain ⟨ps, h1, h2, h3⟩ := t p hp
  refine ⟨ps, g.other sp h1 (fun xs z => by cases z), h2, fun pos cv hc => ?_⟩
  obtain ⟨c, e1, e2⟩ := h3 pos cv hc
  exact ⟨c, e1, g.other sp e2 (fun xs z => by unfold CodeO at z; cases z)⟩
/-- a list of the law stays: it is not the drawn numbers -/
theorem SqL.gs {K : PySem.W.Frag} {a b : Addr} {H H' : Hp} {xs : List V} (h : SqL K H b xs) (hb : b ≠ a) (g : Gs a H H') : SqL K H' b xs := by
  rcases h with (h | ⟨o, h⟩) | h
  · exact .inl (.inl (g.1 b _ hb h))
  · exact .inl (.inr ⟨o, g.1 b _ hb h⟩)
  · exact .inr h
theorem SqL.extN {K : PySem.W.Frag} {b : Addr} {H H' : Hp} {xs : List V} (h : SqL K H b xs) (g : ExtN H H') : SqL K H' b xs := by
  rcases h with (h | ⟨o, h⟩) | h
  · exact .inl (.inl (g b _ h fun ps z => by cases z))
  · exact .inl (.inr ⟨o, g b _ h fun ps z => by cases z⟩)
  · exact .inr h
theorem slots_none {He Hi H : Hp} {σ : St} {n : Nat} (h : σ.length = n) : Slots He (List.replicate n none) σ Hi H := by
  have no : ∀ (i : Nat) (sl : Sl), (List.replicate n (none : Option Sl))[i]? = some (some sl) → False := fun i sl e => by
    rw [List.getElem?_replicate] at e
    split at e <;> cases e
  exact ⟨by rw [List.length_replicate]; exact h, fun i d e => (no i _ e).elim, fun i d e => (no i _ e).elim, fun i d e => (no i _ e).elim, fun i j d d' a e _ _ _ => (no i _ e).elim⟩
section
variable {P : Program} {w : World} {K : PySem.W.Frag} {mg : Str → Option Value} {base : Heap} {f : Addr} {fd : FuncData} {ca : Nat → Addr}
theorem pMax {X : Cx} {e : Expr} {es : List Expr} {t : TA} {p pos : Pos} (B : Bi X.mg) (hc : X.calm = true) (hu : X.A.units + 65 < cLine) (ha : PA X (e :: es) t) (hg : Gl X "max" := by rfl) (he : starEach (e :: es) X.env = (false, eval e X.env) :: starEach es X.env := by rfl) (hpl : (backTo pos (starEach es X.env)).any (·.1) = false := by rfl) :
    PE X (.Call (.Name "max" p) (e :: es) [] pos) (tCB (rMM X.K maxI maxJ) t) := pe_callB (cr_max2 hc (by omega)) hg B.max PyProof.Rows.boot_max ha (by decide) (by decide) he hpl
theorem pMin {X : Cx} {e : Expr} {es : List Expr} {t : TA} {p pos : Pos} (B : Bi X.mg) (hc : X.calm = true) (hu : X.A.units + 65 < cLine) (ha : PA X (e :: es) t) (hg : Gl X "min" := by rfl) (he : starEach (e :: es) X.env = (false, eval e X.env) :: starEach es X.env := by rfl) (hpl : (backTo pos (starEach es X.env)).any (·.1) = false := by rfl) :
    PE X (.Call (.Name "min" p) (e :: es) [] pos) (tCB (rMM X.K minI minJ) t) := pe_callB (cr_min2 hc (by omega)) hg B.min PyProof.Rows.boot_min ha (by decide) (by decide) he hpl
theorem ok_law {T : List (Addr × Str)} (B : Bi mg) (hspring : HasS P w K mg base "_law_spring" 1 (spSpring K)) (hpick : HasS P w K mg base "_law_pick" 1 spPick) (hcut : HasS P w K mg base "_law_cutting" 9 spCt) (hag : HasS P w K mg base "_law_agree" 12 spTwo) (hrr : HasS P w K mg base "_law_rounds_right" 12 spTwo)
    (href : HasS P w K mg base "_law_refused" 30 (spRef T)) (hfewest_rounds : Has ca P w K mg base "fewest_rounds" 2 7 Ffewest_rounds) (h_law_known : Has ca P w K mg base "_law_known" 0 1 F_law_known) (FN : FnP K "law" (top 112) f fd) : FnOk P w K mg base (L2N.CX P w) 31 f fd ["_law_script"] (spLaw K T) := by
  refine FN.ok sclaw (spLaw_len K T) fun cdv A outer s H vs Q E hr hsp => ?_
  have hu := units65 hr
  have hu64 : (A.deeper (envOfC "law" (defScope (top 112)) s.heap.objs.size f cdv)).units + 64 < cLine := by omega
  have hu0 : (A.deeper (envOfC "law" (defScope (top 112)) s.heap.objs.size f cdv)).units < cLine := by omega
  have nd := sclaw.nd
  have hc : (cxOf (L2N.CX P w) P w K mg base Nlaw "law" (defScope (top 112)) f cdv A outer s H E).calm = true := rfl
  have tk : L2N.Takes (cxOf (L2N.CX P w) P w K mg base Nlaw "law" (defScope (top 112)) f cdv A outer s H E) (fun cls d _ H => E cls d H) := L2N.takes_of rfl rfl rfl rfl
  have px : Passes (L2N.CX P w) (cxOf (L2N.CX P w) P w K mg base Nlaw "law" (defScope (top 112)) f cdv A outer s H E) E := L2N.passes_call tk fun _ _ _ _ h => h
  obtain ⟨tB, pB, qB⟩ := (show OkSs ca E (cxOf (L2N.CX P w) P w K mg base Nlaw "law" (defScope (top 112)) f cdv A outer s H E) ((defBody (top 112)).drop 1) lwB from (okSs_cons (okS_asg (xCall0 h_law_known hr px) (okG_tup hc (okGs_cons (okG_name 6 nd) (okGs_cons (okG_name 7 nd) (okGs_cons (okG_name 8 nd) (okGs_cons (okG_name 9 nd) (okGs_cons (okG_name 5 nd) okGs_nil))))) (takes_cons (takes_cons (takes_cons (takes_cons (takes_cons takes_nil))))))) (okSs_cons (okS_if (OkW.t (okW_or (okT_cmp (op_neD hu64) gv_ne (xCall hfewest_rounds hr px (okA_cons (okE_var 9) (okA_cons (okE_tup (okA_cons okE_int (okA_cons (okE_tup (okA_cons (okE_tup (okA_cons okE_int (okA_cons okE_int okA_nil))) (okA_cons (okE_tup (okA_cons okE_int (okA_cons okE_int okA_nil))) (okA_cons (okE_tup (okA_cons okE_int (okA_cons okE_int okA_nil))) okA_nil)))) okA_nil))) okA_nil))) okE_int) (okW_or1 (okT_cmp (op_neD hu64) gv_ne (xCall hfewest_rounds hr px (okA_cons (okE_var 7) (okA_cons (okE_tup (okA_cons okE_int (okA_cons (okE_tup (okA_cons (okE_tup (okA_cons okE_int (okA_cons okE_int okA_nil))) (okA_cons (okE_tup (okA_cons okE_int (okA_cons okE_int okA_nil))) okA_nil))) okA_nil))) okA_nil))) okE_int)))) (okSs_one (okS_ret okE_bl)) okSs_nil) (okSs_one (okS_ret (okE_and (okE_cmp (op_eqD hu64) gv_eq (xCall hfewest_rounds hr px (okA_cons (okE_var 8) (okA_cons (okE_var 8) okA_nil))) okE_int) (okE_one (okE_cmp (op_eqD hu64) gv_eq (xCall hfewest_rounds hr px (okA_cons (okE_var 6) (okA_cons (okE_tup (okA_cons okE_int (okA_cons (okE_tup (okA_cons (okE_tup (okA_cons okE_int (okA_cons okE_int okA_nil))) okA_nil)) okA_nil))) okA_nil))) okE_int))))))))
  obtain ⟨tRf, pRf, qRf⟩ := okSs_nil (ca := ca) (E := E) (X := (cxOf (L2N.CX P w) P w K mg base Nlaw "law" (defScope (top 112)) f cdv A outer s H E))
  refine ⟨_, pss_cons (ps_for (passes_of rfl) hc (pi_range1 rfl B.range (pa_cons (pMax B hc hu (pa_cons pe_int (pa_cons (pMin B hc hu (pa_cons pe_int (pa_cons (pe_callB call_len rfl B.len boot_len (pa_cons (pv 0) pa_nil)) pa_nil))) pa_nil))) pa_nil)) (pg_name (i := 1) nd rfl (Or.inl rfl))
    (pss_cons (ps_set (i := 2) nd rfl (Or.inl rfl) (pCallS hspring hr px (pa_cons (pv 0) (pa_cons (pv 1) pa_nil))))
    (pss_cons (ps_set (i := 3) nd rfl (Or.inl rfl) (pe_op op_add pe_int (pCallS hpick hr px (pa_cons (pv 2) (pa_cons pe_int pa_nil)))))
    (pss_cons (ps_par (i := 4) (j := 5) hc nd rfl rfl (by decide) rfl rfl (pa_cons (pCallS hcut hr px (pa_cons (pv 2) (pa_cons (pv 3) pa_nil))) (pa_cons (pCallS hcut hr px (pa_cons (pv 2) (pa_cons (pv 3) pa_nil))) pa_nil)) rfl rfl)
    (pss_one (ps_if (pw_or (pt_not (pt_val (pCallS hag hr px (pa_cons (pv 2) (pa_cons (pv 4) (pa_cons (pv 5) pa_nil)))) (by intro _; rfl))) (pw_or (pt_not (pt_val (pCallS hrr hr px (pa_cons (pv 2) (pa_cons (pv 4) (pa_cons (pv 5) pa_nil)))) (by intro _; rfl)))
      (pw_or1 (pt_not (pt_val (pCallS href hr px (pa_cons (pv 4) pa_nil)) (by intro _; rfl)))))).pt (pss_one (ps_ret pe_bl)) pss_nil)))))) pB, ?_⟩
  obtain ⟨a, ns, e, hS, hT, hq⟩ := hsp
  subst e
  refine ⟨_, rfl, _, (ns.map V.int).length, rfl, .inl ⟨_, hS, rfl⟩, .inr ⟨2, _, rfl, .inr ⟨1, _, rfl, _, rfl, ?_, ?_, ?_⟩⟩⟩
  · unfold maxJ minJ
    split <;> split <;> omega
  · unfold maxJ minJ
    split <;> split <;> omega
  refine for_range (fun i σ Hx => σ.length = 10 ∧ σ[0]? = some (some (.ref a)) ∧ SqL K Hx a (List.map V.int ns) ∧ Tabs T Hx) ⟨rfl, rfl, hS, hT⟩ (fun i σ H0 hi ⟨hl10, h0, hS0, hT0⟩ => ?_) (fun σ H0 ⟨hl10, h0, hS0, hT0⟩ => ?_)
  · obtain ⟨u0, u1, u2, u3, u4, u5, u6, u7, u8, u9, rfl⟩ : ∃ u0 u1 u2 u3 u4 u5 u6 u7 u8 u9, σ = [u0, u1, u2, u3, u4, u5, u6, u7, u8, u9] := by
      match σ, hl10 with
      | [u0, u1, u2, u3, u4, u5, u6, u7, u8, u9], _ => exact ⟨u0, u1, u2, u3, u4, u5, u6, u7, u8, u9, rfl⟩
    cases h0
    refine ⟨_, rfl, _, rfl, a, i, ns, (by rw [Int.zero_add]; rfl), hS0, fun p i' j' hp hi' hj' => ?_⟩
    have sp1 : SprAt (upd H0 p (.lst [.int i', .int j'])) p := ⟨i', j', hi', hj', upd_same⟩
    refine ⟨_, rfl, p, 4, rfl, sp1, by decide, by decide, fun d H2 d0 d1 g2 _ => ⟨3, d, rfl, rfl, ?_⟩⟩
    have en : (((3 + d).toNat : Nat) : Int) = 3 + d := Int.toNat_of_nonneg (by omega)
    have n3 : 3 ≤ (3 + d).toNat := by omega
    have n6 : (3 + d).toNat ≤ 6 := by omega
    refine ⟨_, rfl, _, rfl, p, (3 + d).toNat, fun _ => none, (by rw [en]; rfl), g2.2, n3, n6, rfl, (fun _ _ e => by cases e), fun v1 H3 x Hi3 hx g3 s3 na3 sb3 r3 => ?_⟩
    refine ⟨_, rfl, _, rfl, p, (3 + d).toNat, Hi3, (by rw [en]; rfl), g3.2, n3, n6, na3, sb3, fun v2 H4 y Hi4 hy g4 s4 na4 sb4 r4 => ⟨v1, v2, rfl, ?_⟩⟩
    have r3' := r3.sub s4
    refine ⟨_, rfl, _, rfl, _, rfl, p, v1, v2, Hi4, (3 + d).toNat, x, y, rfl, g4.2, na4, sb4, r3', r4, n3, n6, hx, hy, fun H5 g5 => ⟨true, rfl, iteF ?_⟩⟩
    have sb5 := g5.subI sb4 na4
    refine ⟨_, rfl, _, rfl, _, rfl, p, v1, v2, Hi4, (3 + d).toNat, x, y, rfl, g5.2, na4, sb5, r3', r4, n3, n6, hx, hy, fun H6 g6 => ⟨true, rfl, iteF ?_⟩⟩
    have sb6 := g6.subI sb5 na4
    have T1 : Tabs T (upd H0 p (.lst [.int i', .int j'])) := hT0.ext fun b o e => by rw [upd_ne (ne_of_none e hp)]; exact e
    have T6 : Tabs T H6 := Tabs.gs (Tabs.gs (Tabs.gs (Tabs.gs (Tabs.gs T1 sp1 g2) g2.2 g3) g3.2 g4) g4.2 g5) g5.2 g6
    refine ⟨_, rfl, v1, Hi4, (3 + d).toNat, x, rfl, sb6, r3', n3, n6, hx, T6, fun H7 eN T7 => ⟨true, rfl, iteF ?_⟩⟩
    refine ⟨rfl, rfl, SqL.extN hS0 fun b o e nt => ?_, T7⟩
    have nb : b ≠ p := ne_of_none e hp
    exact eN b o (g6.1 b o nb (g5.1 b o nb (g4.1 b o nb (g3.1 b o nb (g2.1 b o nb (by rw [upd_ne nb]; exact e)))))) nt
  · refine qB (fun _ => none) H0 (List.replicate 10 none) σ (fun _ => none) H0 _ (slots_none hl10) (.refl fun _ _ e => by cases e) ?_
    have e : lwB (List.replicate 10 none) = .ret (.bool true) := retT_ok kLw
    rw [e]
    intro v Hi' H' x r
    cases r
    exact hq H'
end
end PD
/-! text H1 -/
set_option maxHeartbeats 5000000
namespace PD
open PySem.Spec PySem PyProof.Rows L2 HotX L2H

/-! ### the end of a list's or a tuple's iterator while an exception is handled -/
section
variable {prog : Program} {w : World} {A : Around} {E : Value → Shared → Prop}
theorem seq_end_hot {s : Shared} {it l x1 : Addr} {i : Nat} {items : Array Value} {Q : Option Value → Shared → Prop} (hot : HotAt A x1 s.heap) (at_ : (s.heap.IsListIter it l i ∧ s.heap.IsList l items) ∨ (IsTupIter s.heap it l i ∧ IsTup s.heap l items))
    (past : items[i]? = none) (ne : x1 ≠ it) (fin : ∀ h', Heap.ExtBut it s.heap h' → Q none { s with heap := h' }) : wpAny (model prog w) A (pyNext (.ref it)) Q E s := by
  obtain ⟨handled, ox, fs, gx, dx, cx⟩ := hot
  obtain ⟨o, ol, n, go, d, gl, dl⟩ : ∃ o ol n, s.heap.get? it = some o ∧ o.data = .fields #[.ref l, .int i 0] ∧ s.heap.get? l = some ol ∧ ol.data = .seq items n := by
    rcases at_ with ⟨⟨o, a, _, b⟩, ol, c, _, n, e⟩ | ⟨⟨o, a, _, b⟩, ol, c, _, n, e⟩ <;> exact ⟨o, ol, n, a, b, c, e⟩
  have off : ¬ ((Value.ref l == Value.none) = true) := Bool.false_ne_true
  have stand : ∀ {b : Addr} {u : Obj}, b ≠ it → s.heap.get? b = some u → ∀ o1, ((s.heap.update it (Obj.mapFields fun x => x.setIfInBounds 0 Value.none)).push o1).get? b = some u := fun nb e o1 =>
    Heap.get?_push_of_some o1 ((Heap.get?_update_other _ _ (Ne.symm nb)).trans e)
  unfold pyNext
  rcases at_ with ⟨hi, _⟩ | ⟨hi, _⟩
  case' inl => refine wpAny_bind (wpAny_attempt (wpAny_callSpecial?_slot (name := "__next__") hi.typeIs slot_listiter_next (wpAny_call_entry slot_listiter_next hi.typeIs entry_listiter_next ?_ (args_listiter_next _))))
  case' inr => refine wpAny_bind (wpAny_attempt (wpAny_callSpecial?_slot (name := "__next__") hi.typeIs slot_tupleiter_next (wpAny_call_entry slot_tupleiter_next hi.typeIs entry_tupleiter_next ?_ (args_tupleiter_next _))))
  all_goals
    show wpAny _ _ (field (.ref it) 0 >>= fun _ => _) _ _ _
    refine wpAny_bind (wpAny_field go d (x := .ref l) rfl (show wpAny _ _ (if (Value.ref l == Value.none) = true then _ else _) _ _ _ from ?_))
    rw [if_neg off]
    refine (show wpAny _ _ (field (.ref it) 1 >>= fun _ => _) _ _ _ from wpAny_bind (wpAny_field go d (x := .int i 0) rfl (show wpAny _ _ (seqItems? (.ref l) >>= _) _ _ _ from wpAny_bind (wpAny_seqItems gl dl ?_))))
    simp only [past, Int.toNat_natCast]
    refine wpAny_bind (wpAny_rule (wpAny_bind (wpAny_setField go d (by simp) (show wpAny _ _ (newExc (.type "StopIteration") [] >>= _) _ _ _ from wpAny_bind ?_))))
    simp only [newTuple, newExc]
    refine wpAny_bind (wpAny_newObj_type (wpAny_bind (m := firstArgMember _ _) (wpAny_of_eq (a := Value.none) (by first | rfl | (simp only [firstArgMember]; rfl)) (wpAny_newObj_type ?_ (by size_fits)))) (by size_fits))
    have gx2 := stand ne gx
    refine raiseNew_hot ⟨handled, ox, fs, Heap.get?_push_of_some _ (gx2 _), dx, cx⟩ (Nat.ne_of_lt (Heap.lt_size (gx2 _))) (Heap.get?_push_size _ rfl) rfl (by first | (simp; done) | (simp; omega) | (simp only [Array.size_append]; simp; omega)) ?_
    refine wpAny_bind (wpAny_isInstance (T := "StopIteration") (b := true) ⟨_, Heap.get?_update_self _ (Heap.get?_push_size _ rfl) rfl, rfl⟩ isSubtype_stop (wpAny_pure (fin _ fun b u nb e => ?_)))
    have e2 := stand nb e
    rw [Heap.get?_update_other _ _ (Nat.ne_of_gt (Heap.lt_size (e2 _)))]
    exact Heap.get?_push_of_some _ (e2 _)
theorem unpack_hot {s : Shared} {x1 t : Addr} {items : Array Value} {Q : List Value → Shared → Prop} (hot : HotAt A x1 s.heap) (tup : IsTup s.heap t items) (fin : ∀ h', Heap.ExtBut s.heap.objs.size s.heap h' → Q items.toList { s with heap := h' }) :
    wpAny (model prog w) A (unpackItems (.ref t) items.size none) Q E s := by
  obtain ⟨handled, ox, fs, gx, dx, cx⟩ := hot
  obtain ⟨ot, gt, _⟩ := id tup
  have new : ∀ {a : Addr} {u : Obj}, s.heap.get? a = some u → a ≠ s.heap.objs.size := fun e => Nat.ne_of_lt (Heap.lt_size e)
  have whole : List.take items.size (List.drop 0 items.toList) = items.toList := List.take_of_length_le (Nat.le_of_eq (by simp))
  have some_not : ¬ (items.toList.length < items.size) := by simp
  unfold unpackItems
  refine wpAny_bind (show wpAny _ _ (notIterableAtAll _) _ _ _ from ?_)
  unfold notIterableAtAll
  refine wpAny_bind (wpAny_specialOf tup.typeIs slot_tuple_iter.lookup (wpAny_pure ?_))
  simp only [Bool.false_eq_true, ↓reduceIte]
  refine wpAny_bind (wpAny_holding (iter_tuple tup (wpAny_bind (wpAny_holding (draw_tuple (new gt) items.size 0 _ _ ⟨_, Heap.get?_push_size _ rfl, rfl, rfl⟩ (tup.push _) (by omega) fun h₁ done ex => ?_)))))
  rw [whole, if_neg (by simp)]
  refine wpAny_bind (wpAny_holding (seq_end_hot ⟨handled, ox, fs, ex.extBut x1 ox (new gx) (Heap.get?_push_of_some _ gx), dx, cx⟩ (.inr ⟨done, (tup.push _).extBut ex.extBut (new gt)⟩) (by simp) (new gx) fun h₂ ex2 => ?_))
  simp only [Option.isSome_none, ↓reduceIte, Bool.false_eq_true]
  exact wpAny_pure (fin h₂ fun b o nb e => ex2 b o nb (ex.extBut b o nb (Heap.get?_push_of_some _ e)))
theorem assign_hot {s : Shared} {env : Env} {elts : List Expr} {x1 : Nat} {x2 : Addr} {pos : Pos} {t : Addr} {items : Array Value} {Q : Unit → Shared → Prop} (hot : HotAt A x2 s.heap) (tup : IsTup s.heap t items) (len : (assignEach elts env).length = items.size)
    (star : (assignEach elts env).findIdx? (·.1) = none) (fin : ∀ h', Heap.ExtBut s.heap.objs.size s.heap h' → wpAny (model prog w) A (assignInOrder ((assignEach elts env).map (·.2)) items.toList) Q E { s with heap := h' }) :
    wpAny (model prog w) A (assign (.Tuple elts x1 pos) env (.ref t)) Q E s := by
  rw [assign_Tuple]
  refine wpAny_bind (wpAny_standAt (show wpAny _ _ (unpack _ _) _ _ _ from ?_))
  unfold unpack
  rw [star, len]
  exact wpAny_bind (wpAny_holding (unpack_hot hot tup fin))
end
/-- a list's turns there -/
theorem turn_listH {P : Program} {w : World} {K : PySem.W.Frag} {tg : Expr} (a it : Addr) : TurnH P w K tg (Itl K a) [it] it (fun i h => h.IsListIter it a i) where
  mem := List.mem_singleton_self it
  obj := fun _ _ ⟨o, g, _, d⟩ b hb => ⟨o, by rw [List.mem_singleton.mp hb]; exact g, fun v z => by rw [z] at d; cases d⟩
  keep := fun _ _ _ st k => st.at fun o => k it (List.mem_singleton_self it) o
  item := fun X eP ew eK _ i pins s σ H E I fp st ⟨xs, x, sq, at_⟩ => by
    subst eP ew eK
    obtain ⟨els, vals, pl, _⟩ := I.list sq
    obtain ⟨u, gu, ru⟩ := vals.get at_
    have f := fp it (List.mem_singleton_self it)
    refine wpAny_pyNext_list_item st pl.isList (x := u) (by simpa using gu) fun h' st' sb => ?_
    obtain ⟨o, e, c, d⟩ := id st'
    have I1 : Inv X pins σ H { s with heap := h' } := I.turned (t' := s.toks) (fun b o nb => (sb.2 b nb).trans) f.1 f.2.1 f.2.2.2.1 f.2.2.2.2.1 f.2.2.2.2.2
    exact ⟨u, rfl, go_of (s := { s with heap := h' }) e c d (by decide) ⟨x, H, I1, ru, ⟨rfl, fun ys sy => by rw [I.list_inj sy sq, at_]⟩, st', fun b hb => (fp b hb).1⟩⟩
  done := fun X eP ew eK ⟨p0, h0, m0⟩ i pins s σ H E I fp st ⟨xs, sq, past⟩ => by
    subst eP ew eK
    obtain ⟨els, vals, pl, _⟩ := I.list sq
    have f := fp it (List.mem_singleton_self it)
    have mp := List.mem_append_left pins m0
    obtain ⟨handled, v1, d1, c1⟩ := h0
    have len := vals.length
    exact seq_end_hot ⟨handled, p0.2, v1, (I.pin p0 mp).1, d1, c1⟩ (.inl ⟨st, pl.isList⟩) (Array.getElem?_eq_none (by simp; omega)) (f.2.2.2.2.2 p0 mp) fun h' eb => ⟨rfl, I.turned (t' := s.toks) (fun b o nb => eb b o nb) f.1 f.2.1 f.2.2.2.1 f.2.2.2.2.1 f.2.2.2.2.2⟩
  self := fun _ _ _ _ _ st => wpAny_pyIter_listiter st
section
variable {X : Cx}
theorem pi_listH {tg l : Expr} {tl : TE} (hl : PE X l tl) : PIH X tg l (iList X.K tl) := ⟨fun pins z σ G R I ask => by
  refine thn (hl.run pins z σ G _ I ask) fun v z1 ⟨x, G1, I1, rx, a, ex, ⟨xs, sq⟩, y⟩ => ?_
  rw [ex] at rx
  cases rx
  obtain ⟨els, _, pl, _⟩ := I1.list sq
  exact wpAny_pyIter_list pl.isList ⟨_, [z1.heap.objs.size], _, _, G1, rfl, I1.kept (t' := z1.toks) fun b o => Heap.get?_push_of_some _, turn_listH a _, ⟨_, Heap.get?_push_size _ rfl, rfl, rfl⟩, fun b hb => by
    rw [List.mem_singleton.mp hb]
    exact I1.fpOk (Nat.le_refl _) (I1.hok.fresh (Nat.le_refl _)), y⟩⟩
theorem pg_tupH {es : List Expr} {k : Nat} {t : TGs} {n : Nat} {pos : Pos} (hc : HotC X) (h : PGs X es t) (len : (assignEach es X.env).length = n := by rfl) (star : (assignEach es X.env).findIdx? (·.1) = none := by rfl) :
    PG X (.Tuple es k pos) (gTup X.K n t) := ⟨fun pins z σ G v u Q I rv ⟨a, xs, ea, sq, nx, ask⟩ => by
  rw [ea] at rv
  cases rv
  obtain ⟨els, vals, tup, _⟩ := I.tuple sq
  obtain ⟨x1, hot⟩ := hc.at I
  exact assign_hot hot tup (by rw [len, ← nx, vals.length]; simp) star fun h' ex => h.run pins _ σ G xs _ Q (I.kept (t' := z.toks) fun b o e => ex b o (Nat.ne_of_lt (Heap.lt_size e)) e) (by simpa using vals) ask⟩
/-- a comprehension's block where p0's exception is handled -/
abbrev blkH (p0 : Addr × Obj) (X : Cx) (s : Shared) (H : Hp) (scope : Scope) (cenv : Env) (fp : List Addr) : Cx := blkP X [p0] s H scope cenv fp
theorem blkH_of {p0 : Addr × Obj} {pins : List (Addr × Obj)} {σ τ : L2.St} {H : Hp} {s z : Shared} {scope : Scope} {ce : Env} {fp : List Addr} (m0 : p0 ∈ X.pn) (I : Inv X pins σ H s) (J : Inv (X.blk s H scope ce fp) [] τ H z) (hce : ce.locals = s.heap.objs.size)
    (ks : ∀ b o, s.heap.get? b = some o → z.heap.get? b = some o) : Inv (blkH p0 X s H scope ce fp) [] τ H z := by
  have P := I.pin p0 (List.mem_append_left _ m0)
  obtain ⟨k1, k2, k3, k4, k5, k6, k7, k8, k9, k10, k11, k12, k13, k14, k15, k16, k17, k18⟩ := J.ok
  refine ⟨⟨k1, k2, k3, k4, k5, k6, k7, k8, k9, k10, k11, k12, k13, k14, k15, k16, k17, k18⟩, J.os, J.bare, J.base, J.loc, J.cell, J.free, J.freeC, fun q mq => ?_, J.hok, J.len⟩
  rw [show q = p0 by simpa using mq]
  exact ⟨ks _ _ P.1, P.2.1, fun e => Nat.lt_irrefl s.heap.objs.size (by have lt := Heap.lt_size P.1; rwa [show p0.1 = s.heap.objs.size from e.trans hce] at lt), fun mf => (List.mem_cons.mp (I.stkSub p0.1 mf)).elim P.2.2.1 P.2.2.2.1, P.2.2.2.2⟩
/-- the loop of [.. for ..], inside such a block -/
theorem lch_loop {p0 : Addr × Obj} {pins : List (Addr × Obj)} {fp : List Addr} {s3 s4 : Shared} {H3 : Hp} {ce : Env} {σ : L2.St} {is : List Nat} {Q : VK} {elt tg iter : Expr} {ifs : List Expr} {scope : Scope} {pos : Pos} {g : TG} {tt : TT} {te : TE} {use : Option (Value → Sem Unit)} {Qf : Value → Shared → Prop}
    {it D : Addr} {tn : Nat → Heap → Prop} {J : It} {W : Nat → Nat → Hp → Prop} {m0 : Nat} (h0 : Hot1 X.A p0) (hp : ∀ b ∈ fp, p0.1 ≠ b) (I3 : Inv X pins σ H3 s3) (f3 : ∀ b ∈ fp, FpOk X pins H3 b) (cL : ce.locals = s3.heap.objs.size)
    (pg : PG (blkH p0 X s3 H3 scope ce fp) tg g) (pt : PTs (blkH p0 X s3 H3 scope ce fp) ifs tt) (pe : PE (blkH p0 X s3 H3 scope ce fp) elt te) (T : TurnH X.prog X.w X.K tg J fp it tn)
    (turn : ∀ i m H, W i m H → (J.stop i H ∧ Q (.ref D) H) ∨ (J.go i H ∧ ∃ Nx : Hp → Prop, (∀ H', Nx H' → ∃ m', m' < m ∧ W (i + 1) m' H') ∧ ∀ x H', J.yld i H x H' → g x (L2.wipe σ is) H' fun σ2 H2 => L2.wipe σ2 is = L2.wipe σ is ∧ tt σ2 H2 fun b H3 =>
      if b = true then te σ2 H3 fun y H4 => ∃ acc, H4 D = some (.lst acc) ∧ acc.length + 1 ≤ sizeLine ∧ Nx (upd H4 D (.lst (acc ++ [y]))) else Nx H3))
    (w0 : W 0 m0 H3) (I4 : Inv (blkH p0 X s3 H3 scope ce fp) [] (L2.wipe σ is) H3 s4) (t4 : tn 0 s4.heap)
    (hRR : ∀ D C s' m H', Inv X pins σ H' s' → Q (.ref D) H' → s'.heap.Ns C m → FpOk X pins H' C → compPost (model X.prog X.w) X.A X.xe use Qf (.ref D) C (.ok .next) s') :
    codeAny (model X.prog X.w) X.A (.compLoop (.ListComp elt [⟨tg, iter, ifs, 0⟩] scope pos) 0 (.ref it) (.ref D) ce) (compPost (model X.prog X.w) X.A X.xe use Qf (.ref D) s3.heap.objs.size) s4 := by
  have ap : ∀ p ∈ [p0], ∀ b ∈ fp, p.1 ≠ b := fun p mp => by rw [List.mem_singleton.mp mp]; exact hp
  have hc : HotC (blkH p0 X s3 H3 scope ce fp) := ⟨p0, h0, List.mem_singleton_self _⟩
  refine compLoop_any (fun n z => ∃ i G, Inv (blkH p0 X s3 H3 scope ce fp) [] (L2.wipe σ is) G z ∧ tn i z.heap ∧ (∀ b ∈ fp, G b = none) ∧ W i n G) (fun n z ⟨i, G, Jz, t, no, w⟩ => ?_) m0 ⟨0, H3, I4, t4, fun b hb => (f3 b hb).1, w0⟩
  rcases turn i n G w with ⟨stop, done⟩ | ⟨go, Nx, less, step⟩
  · refine thnF (T.done (blkH p0 X s3 H3 scope ce fp) rfl rfl rfl hc i [] z _ G (fun _ _ => False) Jz (blk_in Jz no ap) t stop) fun r z1 ⟨er, J1⟩ => ?_
    obtain ⟨a, ⟨m, b⟩, c⟩ := blk_out I3 f3 cL J1
    rw [er]
    exact hRR D _ z1 m G a done b c
  · refine thnF (T.item (blkH p0 X s3 H3 scope ce fp) rfl rfl rfl hc i [] z _ G (fun _ _ => False) Jz (blk_in Jz no ap) t go) fun r z1 ⟨u, er, y1⟩ => ?_
    rw [er]
    refine thnF y1 fun _ z2 ⟨x, G2, J2, ru, y, t2, n2⟩ => ?_
    have last : ∀ {τ : L2.St} {z' : Shared} {G' : Hp}, L2.wipe τ is = L2.wipe σ is → Inv (blkH p0 X s3 H3 scope ce fp) ([] ++ pinsAt fp z2.heap) τ G' z' → Nx G' → ∃ m, m < n ∧ ∃ i G, Inv (blkH p0 X s3 H3 scope ce fp) [] (L2.wipe σ is) G z' ∧ tn i z'.heap ∧ (∀ b ∈ fp, G b = none) ∧ W i m G := fun ew J' nx => by
      obtain ⟨m', lt, w'⟩ := less _ nx
      obtain ⟨a, b, c⟩ := blk_turn T.obj T.keep t2 ew J'
      exact ⟨m', lt, i + 1, _, a, b, c, w'⟩
    refine thnF (pg.run _ z2 _ G2 x u _ (J2.pinned (blk_in J2 n2 ap) (T.obj _ _ t2)) ru (step x G2 y)) fun _ z3 ⟨σ3, G3, J3, ew, q3⟩ => thnF (pt.run _ z3 σ3 G3 _ J3 q3) fun b z4 ⟨G4, J4, q4⟩ => ?_
    cases b with
    | false => exact last ew J4 q4
    | true => exact thnF (pe.run _ z4 σ3 G4 _ J4 q4) fun vv z5 ⟨yv, G5, J5, r5, acc, a1, a2, nx⟩ => L2.app_ok (X := blkH p0 X s3 H3 scope ce fp) J5 a1 a2 r5 fun z6 J6 => last ew J6 nx
/-- [.. for ..] at its place, while p0's exception is handled -/
theorem pe_lcH {p0 : Addr × Obj} {elt tg iter : Expr} {ifs : List Expr} {scope : Scope} {own : List (Str × Nat)} {pos : Pos} {wi : TI} {g : TG} {tt : TT} {te : TE} (h0 : Hot1 X.A p0) (hp0 : p0 ∈ X.pn) (hN : X.N.Nodup) (hi : PIH X tg iter wi) (ok : BlkOk X.N X.env.scope scope own)
    (hg : ∀ (z : Shared) (G : Hp) (C : Addr) (cl : List (Str × Addr)) (fp : List Addr), PG (blkH p0 X z G scope (compEnvC scope cl C X.env) fp) tg g)
    (ht : ∀ (z : Shared) (G : Hp) (C : Addr) (cl : List (Str × Addr)) (fp : List Addr), PTs (blkH p0 X z G scope (compEnvC scope cl C X.env) fp) ifs tt)
    (he : ∀ (z : Shared) (G : Hp) (C : Addr) (cl : List (Str × Addr)) (fp : List Addr), PE (blkH p0 X z G scope (compEnvC scope cl C X.env) fp) elt te) (hs : ∀ x, foldedSetIterable iter X.env x = pure x := by intro _; rfl) :
    PE X (.ListComp elt [⟨tg, iter, ifs, 0⟩] scope pos) (tLc wi g tt te (own.map (·.2))) := by
  refine ⟨fun pins z σ G Q I ask => ?_⟩
  rw [eval_ListComp]
  refine wpAny_comprehension_free rfl hs (closure_ok fun y hy e => I.ok.has _ (ok.free y hy e)) ok.kind (fun y hy e => by rw [ok.uniq y hy, e]) (thn (hi.run pins z σ G _ I ask) fun _ _ y1 => thn y1 fun _ z2 ⟨it, fp, tn, J, G2, ei, I2, T, t2, f2, q⟩ => ?_)
  rw [ei]
  obtain ⟨W, ⟨m0, w0⟩, turn⟩ := q z2.heap.objs.size (I2.hok.fresh (Nat.le_refl _))
  refine wpAny_newObj_type (newEnv_comp ?_) (Nat.zero_le sizeLine)
  have I3 := I2.laid (t' := z2.toks) (h' := z2.heap.push { cls := .type "list", data := .seq ([] : List Value).toArray }) (a := z2.heap.objs.size) (o := .lst []) (fun b o e => Heap.get?_push_of_some _ e) (Nat.le_refl _) ⟨Nat.zero_le _, [], 0, .nil, Heap.get?_push_size _ rfl⟩
  have lt : ∀ b ∈ fp, b < z2.heap.objs.size := fun b hb => (T.obj _ _ t2 b hb).elim fun o e => Heap.lt_size e.1
  have f3 := fp_up (o := .lst []) f2 lt
  have up : ∀ b o, z2.heap.get? b = some o → (pushCells ((z2.heap.push { cls := .type "list", data := .seq ([] : List Value).toArray }).push { cls := .type "dict", data := .dict #[] }) scope.names).get? b = some o := fun b o e => pushCells_keeps _ _ _ _ (Heap.get?_push_of_some _ (Heap.get?_push_of_some _ e))
  have I4 := blkH_of hp0 I3 (block_start I3 ok hN fun b hb => ⟨f3 b hb, by rw [Heap.size_push]; exact Nat.lt_succ_of_lt (lt b hb)⟩) rfl fun b o e => pushCells_keeps _ _ _ _ (Heap.get?_push_of_some _ e)
  have run := lch_loop (elt := elt) (iter := iter) (pos := pos) (use := none) h0 (fun b hb => (f2 b hb).2.2.2.2.2 p0 (List.mem_append_left _ hp0)) I3 f3 rfl (hg _ _ _ _ _) (ht _ _ _ _ _) (he _ _ _ _ _) T turn w0 I4 (T.keep 0 _ _ t2 fun b _ o e => up b o e) (Qf := EP X pins σ Q) fun D C z' m G' I' done hn f => ⟨m, hn, fun h'' sb => ?_⟩
  · exact codeAny_compStart_list run (T.self X.A 0 _ _ _ (T.keep 0 _ _ t2 fun b _ o e => up b o e) run)
  · obtain ⟨a1, a2, _, a3, a4, a5⟩ := f
    exact ⟨.ref D, G', I'.turned (t' := z'.toks) (fun b o hb e => (sb.2 b hb).trans e) a1 a2 a3 a4 a5, rfl, done⟩
end
end PD
/-! text H2 -/
set_option maxHeartbeats 5000000
namespace PySem.W
open PyProof.Rows PySem.Calls PySem Builtin Builtin.Getset_descriptor Builtin.ObjectAttr
/-! ### e.__class__ of an exception of our own, whatever stands of its dict -/
/-- x is of the class D -/
def TyAt (h : Heap) (x D : Addr) : Prop := ∃ ox, h.get? x = some ox ∧ ox.cls = .ref D
section
variable {prog : Program} {w : World} {K : Frag} {x D : Addr}
theorem TyAt.type {M : Model} {h : Heap} (I : TyAt h x D) : Looks M h (typeOf (.ref x)) (.ref D) := by
  obtain ⟨ox, g, c⟩ := I
  rw [← c]
  exact (Looks.ld g).andThen .now
/-- a data descriptor of the class, for any instance -/
theorem find_bind {M : Model} {h : Heap} {C : Addr} {name : Str} {a g : Value} (X : K.In h) (fa : findIn K (.ref C) name = some (some a)) (sg : specialIn K a "__get__" = some (some g)) (ta : takesIn K a = some true) : Looks M h (find (.ref x) (.ref C) name) (.bind g a) := by
  have data : Looks M h (dataDescriptor? (some a) (some g)) (some (g, a)) := (looks_takesIn X ta).andThen .now
  have get : Looks M h (getOf (some a)) (some g) := looks_specialIn X sg
  exact (looks_findIn X fa).andThen (get.andThen (data.andThen (.tag .now)))
theorem class_of {A : Around} {R : Result → Shared → Prop} {s : Shared} {tp : Value} (X : K.In s.heap) (I : TyAt s.heap x D) (hm : mroIn K D (.type "object") = some true) (fin : R (.ok (.ret (.ref D))) s) :
    codeAny (model prog w) A (.call (.builtin "getset_descriptor.__get__") ⟨[.builtin "object.__class__", .ref x, tp], []⟩) R s := by
  obtain ⟨hp, gs, dr, tk, oss⟩ := s
  have ty := I.type (M := model prog w)
  have sub := looks_mroIn (M := model prog w) X hm
  refine codeAny_call_builtin KF.slot_gs.plain KF.entry_gs (KF.slot_gs.check _ _ _ _ _ _ _ _ KF.type_class (KF.args_gs _ _ _) (show wpAny _ _ (Builtin.«getset_descriptor.__get__» _) _ _ _ from ?_))
  unfold Builtin.«getset_descriptor.__get__»
  unfold descrGet
  rw [dga_obj]
  refine wpAny_bind (wpAny_pure (show wpAny _ _ (descrGetter _ _) _ _ _ from ?_))
  simp only [descrGetter, descrCheckInstance, descrNameAndClass, isInstance, KF.owner_class]
  repeat lk
  refine ⟨Code.quiet_builtin _ (by decide +kernel), codeAny_builtin KF.entry_class (show wpAny _ _ (Builtin.«object.__class__» _) _ _ _ from ?_)⟩
  unfold Builtin.«object.__class__»
  unfold shownTypeOf
  repeat lk
  exact fin
/-- what the class must say (L2.ExcC, member by member) -/
theorem own_class {A : Around} {E : Value → Shared → Prop} {s : Shared} {Q : Option Value → Shared → Prop} (C : L2.ExcC K D) (X : K.In s.heap) (I : TyAt s.heap x D) (fin : Q (some (.ref D)) { s with toks := s.toks + 1 }) : wpAny (model prog w) A (getAttr? (.ref x) "__class__") Q E s := by
  obtain ⟨hp, gs, dr, tk, oss⟩ := s
  have ty := I.type (M := model prog w)
  have other : (Value.builtin "BaseException.__getattribute__" == Value.builtin "object.__getattribute__") = false := by decide +kernel
  unfold getAttr?
  unfold getAttrBy?
  unfold getAttrBy
  refine wpAny_bind (wpAny_mkText (wpAny_bind (wpAny_attempt (wpAny_holding (wpAny_bind (ty.at (wpAny_bind ((looks_findIn X C.hg).at (show wpAny _ _ (if (onTheHeap (Value.ref D) && (Value.builtin "BaseException.__getattribute__" == Value.builtin "object.__getattribute__")) = true then _ else _) _ _ _ from ?_)))))))))
  rw [other, if_neg (show ¬ ((onTheHeap (Value.ref D) && false) = true) from Bool.false_ne_true)]
  unfold getAttrByItsOwn
  unfold hookBefore
  refine wpAny_bind (show wpAny _ _ (if onTheHeap (Value.ref D) = true then _ else _) _ _ _ from ?_)
  rw [if_pos (show onTheHeap (Value.ref D) = true from rfl)]
  refine (looks_findIn X C.hk).at (wpAny_bind (wpAny_attempt (wpAny_holding (show wpAny _ _ (callGetattribute _ _ _ _) _ _ _ from ?_))))
  unfold callGetattribute
  rw [if_neg (show ¬ ((false && onTheHeap (Value.builtin "BaseException.__getattribute__")) = true) from Bool.false_ne_true)]
  unfold boundAndCalled
  rw [F.excAttr_ValueError.ga.bind (.ref x)]
  refine wpAny_bind (wpAny_pure (show wpAny _ _ (call (.builtin "BaseException.__getattribute__") [.ref x, .str "__class__" tk]) _ _ _ from wpAny_call (codeAny_call_builtin F.excAttr_ValueError.ga.plain F.entry_bexc_ga
    (@check_slot (model prog w) _ _ ⟨hp, gs, dr, tk + 1, oss⟩ "BaseException.__getattribute__" "BaseException" "__getattribute__" (.ref x) [.str "__class__" tk] [] _ (by decide +kernel) (by decide +kernel) (ty.andThen (looks_subIn X C.hs)) (F.args_bexc_ga (.ref x) (.str "__class__" tk)) (show wpAny _ _ (Builtin.«object.__getattribute__» _) _ _ _ from ?_)))))
  unfold Builtin.«object.__getattribute__»
  refine wpAny_bind (wpAny_of_eq (a := ((Value.ref x : Value), [Value.str "__class__" tk])) (by first | rfl | (simp only [slotArgs]; rfl)) (wpAny_bind (wpAny_pure (wpAny_bind (ty.at (wpAny_bind ((find_bind (x := x) X C.ha C.hn C.ht).at ?_)))))))
  refine (show wpAny _ _ (holding _ (call (.builtin "getset_descriptor.__get__") [.builtin "object.__class__", .ref x, .ref D]) >>= ret) _ _ _ from wpAny_bind (wpAny_holding (wpAny_call (class_of (s := ⟨hp, gs, dr, tk + 1, oss⟩) X I C.hm (wpAny_pure (show wpAny _ _ (handedOut (.ref D)) _ _ _ from ?_))))))
  rw [handedOut_of (rfl : handedIn (.ref D) = true)]
  first | exact wpAny_pure fin | exact wpAny_pure (wpAny_pure fin) | exact wpAny_pure (wpAny_bind (wpAny_pure (wpAny_pure fin)))
theorem kit_own (C : L2.ExcC K D) : KitX K (.ref x) (.ref D) (fun h => TyAt h x D) := by
  obtain ⟨cd, hc, _⟩ := any_some C.hd
  obtain ⟨o, lo, ho⟩ : ∃ o, K.lookup D = some o ∧ o.data = .cls cd := by
    unfold clsIn at hc
    split at hc
    · rename_i c d c2 sl e
      cases hc
      exact ⟨_, e, rfl⟩
    · cases hc
  have ne : ∀ (h : Heap) (tp : Addr) (dd : Option Addr) (its : List Value) (n : Nat) (sl : Array (Option Value)), K.In h → h.get? tp = some ⟨.type "tuple", dd, .seq its.toArray n, sl⟩ → (Value.ref D == .ref tp) = false := fun h tp dd its n sl X g => beq_eq_false_iff_ne.mpr fun e => by
    cases e
    rw [X _ _ lo] at g
    rw [Option.some.inj g] at ho
    cases ho
  exact ⟨fun _ _ _ I => I.type, fun _ _ X _ A Q E s k q => ks_wpAny_isType_cls (k _ _ (X _ _ lo)) ho q, ne, fun X I fin => own_class C X I fin⟩
end
end PySem.W
namespace PD
open PySem.Spec PySem PyProof.Rows L2 HotX L2H
/-! ### a def called while the exception p is handled -/
structure FnHP (P : Program) (w : World) (K : PySem.W.Frag) (mg : Str → Option Value) (base : Heap) (CX : CXT) (k : Nat) (f : Addr) (fd : FuncData) (ps : List Str) (p : Addr × Obj) (sp : Sp) : Prop where
  len : ∀ vs G W Ex, sp vs G W Ex → vs.length = ps.length
  run : ∀ (A : Around) (outer : List Env) (z : Shared) (G : Hp) (args : Args) (us : List Value) (vs : List V) (W : VK) (Ex : XK), RoomH k A → Hot1 A p → PinOk outer G z p → Env0 P w K mg base A outer z G → BindsTo z fd args (ps.zip us) → Vals vs us → sp vs G W Ex →
    codeAny (model P w) A (.call (.ref f) args) (CR CX outer P w G z W Ex) z
section
variable {p : Addr × Obj} {CX : CXT} {k : Nat} {f : Addr} {ps : List Str} {sp : Sp}
theorem fn_ofHP {P : Program} {w : World} {K : PySem.W.Frag} {mg : Str → Option Value} {base : Heap} {nm qual : Str} {params : Arguments} {body : List Stmt} {scope : Scope} {dV kV doc pm cdv ct oc : Value} {an od : Option Addr} {osl : Array (Option Value)} {N : List Str}
    (lk : K.lookup f = some ⟨oc, od, .func (PySem.W.fnOf nm qual params body scope dV kV doc pm an cdv ct), osl⟩) (hcd : PySem.W.codeIn K cdv qual = true) (S : FnScope N ps scope) (len : ∀ vs G W Ex, sp vs G W Ex → vs.length = ps.length)
    (walk : ∀ (A : Around) (outer : List Env) (z : Shared) (G : Hp) (vs : List V) (W : VK) (Ex : XK), Hot1 A p → RoomH k (A.deeper (envOfC qual scope z.heap.objs.size f cdv)) → sp vs G W Ex →
      ∃ t, PSs (cxH CX P w K mg base N qual scope f cdv A outer z G Ex p) body t ∧ t { nx := fun _ => W .non, rt := W } (L2.start N vs) G) :
    FnHP P w K mg base CX (k + 1) f (PySem.W.fnOf nm qual params body scope dV kV doc pm an cdv ct) ps p sp := by
  refine ⟨len, fun A outer z G args us vs W Ex room hot pin e0 bd r ask => ?_⟩
  have up : ∀ a o, base.get? a = some o → z.heap.get? a = some o := fun a o g => (e0.bs a o g).1
  have X := e0.mod.kin.keeps up
  have kinds : ∀ y ∈ ps.zip us, scope.names.lookup y.1 = some .local ∨ (scope.names.lookup y.1 = some .cell ∧ ((cellsFrom (z.heap.objs.size + 1) scope.names []).lookup y.1).isSome = true) := fun y my =>
    (S.par y.1 (List.of_mem_zip (show (y.1, y.2) ∈ ps.zip us from my)).1).imp id fun c => ⟨c, PySem.W.cellsFrom_some _ _ _ (Or.inl c)⟩
  refine codeAny_call_function room.depth (X _ _ lk) rfl S.co S.gen rfl (PySem.W.codeRec_of X hcd) (bd _ _ _ _ (wpAny_newFunctionEnv_cells S.kind kinds fun env he z1 ic => ?_))
  cases he
  refine ⟨(e0.mod.nolimit.keeps up).keeps ic.toInCall.keep, codeAny_func ?_⟩
  obtain ⟨t, ht, go⟩ := walk A outer z G vs W Ex hot (room.deeper _) ask
  have end_ : ∀ {τ : L2.St} {G' : Hp} {y : V} {u : Value} {z' : Shared}, Inv (cxH CX P w K mg base N qual scope f cdv A outer z G Ex p) [] τ G' z' → RelV y u → W y G' → CE outer P w G z W u z' := fun J a b => ⟨_, _, J.os, J.bare, J.base, J.hok, a, b⟩
  refine wpAny_mono (ht.run [] z1 (L2.start N vs) G _ (inv_startH S pin e0 (len _ _ _ _ ask) r ic) go) (fun fl z' q => ?_) fun _ _ q => q
  match fl, q with
  | .ret u, ⟨_, _, _, J, a, b⟩ => exact end_ J a b
  | .next, ⟨_, _, J, b⟩ => exact end_ (y := .non) (u := .none) J rfl b
  | .brk, ⟨_, _, _, no⟩ => exact no.elim
  | .cont, ⟨_, _, _, no⟩ => exact no.elim
variable {X : Cx} {fd : FuncData} {Ex : L2.St → XK} {x : Str} {q pos : Pos} {e : Expr} {es : List Expr} {t : TA}
/-- f(e, ..) there -/
theorem pe_callHP (F : FnHP X.prog X.w X.K X.mg X.base CX k f fd ps p sp) (room : RoomH k X.A) (hot : Hot1 X.A p) (mp : p ∈ X.pn) (hg : Gl X x) (hm : X.mg x = some (.ref f)) (hk : PySem.W.keepIn X.K (.ref f) = true) (hb : Binds X.K fd ps []) (hx : ∀ σ, PassesAt CX X σ (Ex σ))
    (ha : PA X (e :: es) t) (hdb : (x == ("__debug__" : Str)) = false := by decide) (first : starEach (e :: es) X.env = (false, eval e X.env) :: starEach es X.env := by rfl) (plain : (backTo pos (starEach es X.env)).any (·.1) = false := by rfl) :
    PE X (.Call (.Name x q) (e :: es) [] pos) (tCallS sp Ex t) := ⟨fun pins z σ G W I ask => by
  refine wpAny_Call_Name_kw (ld_glob I hg hm (PySem.W.callWith_K (h₀ := X.base) I.ok.mod.kin hk (thn (ha.run pos pins z σ G _ I ask) fun us z1 ⟨vs, G1, J, r, want⟩ => ⟨J.kIn, ?_⟩) first plain) hdb)
  have P1 := J.pin p (List.mem_append_left _ mp)
  have bd := hb z1 us J.kIn (by rw [List.append_nil, ← r.length, F.len _ _ _ _ want])
  rw [List.append_nil] at bd
  refine wpAny_call (codeAny_mono (F.run X.A X.stack z1 G1 ⟨us, []⟩ us vs W (Ex σ) room hot ⟨P1.1, P1.2.1, fun mf => (List.mem_cons.mp (J.stkSub p.1 mf)).elim P1.2.2.1 P1.2.2.2.1, P1.2.2.2.2⟩ J.env0 bd r want) fun res z' hq => ?_)
  match res, hq with
  | .error er, hq => exact hx σ pins G1 z1 er z' J hq
  | .ok (.ret u), hq => exact J.after hq⟩
end

/-! ### isinstance of the exception at hand -/
/-- (nothing is asked of its dict) -/
def DkO (_ : Option Addr) (_ : Hp) : Prop := True
theorem DkO.sub {d : Option Addr} {H H' : Hp} (_ : DkO d H) (_ : Sub H H') : DkO d H' := trivial
def rIsP (K : PySem.W.Frag) (D a : Addr) (d : Option Addr) : List V → Hp → VK → Prop := fun xs H Q => ∃ (c : V) (cv : Value) (b : Bool), xs = [.ref a, c] ∧ (∀ u, RelV c u → u = cv) ∧ PySem.W.kitOne K (.ref D) cv = some b ∧ DkO d H ∧ Q (.bl b) H
theorem call_isP {X : Cx} {a D : Addr} {oe : Obj} {d : Option Addr} (C : ExcC X.K D) (hz : Zc (.ref D) d oe) (hf : ∃ vs, oe.data = .fields vs) (hp : (a, oe) ∈ X.pn) : CallR X (.builtin "isinstance") (rIsP X.K D a d) :=
  fun pins z σ G xs us W I r ⟨c, cv, b, ex, only, e, _, want⟩ => by
    subst ex
    obtain ⟨u1, u2, eu, r1, r2⟩ := vals2 r
    subst eu
    cases r1
    cases only u2 r2
    exact PySem.W.kia_one (PySem.W.kit_own C) I.kIn ⟨oe, (I.pin (a, oe) (List.mem_append_left _ hp)).1, hz.1⟩ e (fun no => nomatch no) fun tk => ⟨.bl b, G, I.kept (t' := tk) fun _ _ g => g, rfl, want⟩
end PD
/-! text H3 -/
set_option maxHeartbeats 5000000
namespace PD
open PySem.Spec PySem PyProof.Rows L2 HotX L2H

/-! ### _law_error -/
def N_law_error : List Str := ["_law_e", "_law_some", "_law_name", "_law_good"]
theorem sc_law_error : FnScope N_law_error ["_law_e"] (defScope (top 90)) := ⟨rfl, rfl, rfl, by decide +kernel, rfl, by decide +kernel, by decide +kernel⟩
/-- the classes by name -/
structure ErrG (ca : Nat → Addr) (mg : Str → Option Value) : Prop where
  g1 : mg "InvalidCutting" = some (.ref (ca 1))
  g2 : mg "InvalidCorner" = some (.ref (ca 2))
  g4 : mg "InvalidCuts" = some (.ref (ca 4))
  g5 : mg "InvalidSides" = some (.ref (ca 5))
  g7 : mg "Unlike" = some (.ref (ca 7))
  g8 : mg "InvalidWay" = some (.ref (ca 8))
  g9 : mg "InvalidField" = some (.ref (ca 9))
  g10 : mg "TooMany" = some (.ref (ca 10))
  gv : mg "ValueError" = none
/-- what the class D is -/
structure ErrK (ca : Nat → Addr) (K : PySem.W.Frag) (D : Addr) (b1 b7 b10 : Bool) : Prop where
  cc : ExcC K D
  k1 : PySem.W.kitOne K (.ref D) (.ref (ca 1)) = some b1
  k2 : PySem.W.kitOne K (.ref D) (.ref (ca 2)) = some false
  k4 : PySem.W.kitOne K (.ref D) (.ref (ca 4)) = some false
  k5 : PySem.W.kitOne K (.ref D) (.ref (ca 5)) = some false
  k7 : PySem.W.kitOne K (.ref D) (.ref (ca 7)) = some b7
  k8 : PySem.W.kitOne K (.ref D) (.ref (ca 8)) = some false
  k9 : PySem.W.kitOne K (.ref D) (.ref (ca 9)) = some false
  k10 : PySem.W.kitOne K (.ref D) (.ref (ca 10)) = some b10
  kv : PySem.W.kitOne K (.ref D) (.type "ValueError") = some true
def errPairs (b1 b7 b10 : Bool) : List (Str × Bool) := [("cutting", b1), ("corner", false), ("sides", false), ("way", false), ("field", false), ("cuts", false), ("unlike", b7), ("many", b10), ("value", true)]
def filtB (l : List (Str × Bool)) : List Str := match l with
  | [] => []
  | (x, b) :: r => match b with
    | true => x :: filtB r
    | false => filtB r
theorem filtB_app : ∀ (l : List (Str × Bool)) (x : Str) (b : Bool), filtB (l ++ [(x, b)]) = filtB l ++ (match b with | true => [x] | false => [])
  | [], x, true => rfl
  | [], x, false => rfl
  | (y, true) :: r, x, b => by
    show y :: filtB (r ++ [(x, b)]) = y :: (filtB r ++ _)
    rw [filtB_app r x b]
  | (y, false) :: r, x, b => filtB_app r x b
def errT (b1 b7 b10 : Bool) : Str := Txt.join " " (filtB (errPairs b1 b7 b10))
def spEr (a : Addr) (d : Option Addr) (b1 b7 b10 : Bool) : Sp := fun vs H Q _ => vs = [.ref a] ∧ DkO d H ∧ ∀ H', Sub H H' → Q (.str (errT b1 b7 b10)) H'
/-- pairs that stand -/
def Pw (H : Hp) : List Addr → List (Str × Bool) → Prop
  | [], [] => True
  | p :: ps, x :: xs => H p = some (.tup [.str x.1, .bl x.2]) ∧ Pw H ps xs
  | _, _ => False
theorem Pw.mono {H H' : Hp} : ∀ {ps : List Addr} {xs : List (Str × Bool)}, (∀ b xs, H b = some (.tup xs) → H' b = some (.tup xs)) → Pw H ps xs → Pw H' ps xs
  | [], [], _, _ => trivial
  | p :: ps, x :: xs, s, h => ⟨s _ _ h.1, Pw.mono s h.2⟩
  | [], _ :: _, _, h => h.elim
  | _ :: _, [], _, h => h.elim
theorem Pw.app {H : Hp} : ∀ {ps qs : List Addr} {xs ys : List (Str × Bool)}, Pw H ps xs → Pw H qs ys → Pw H (ps ++ qs) (xs ++ ys)
  | [], qs, [], ys, _, h => h
  | p :: ps, qs, x :: xs, ys, h, k => ⟨h.1, Pw.app h.2 k⟩
  | [], _, _ :: _, _, h, _ => h.elim
  | _ :: _, _, [], _, h, _ => h.elim
theorem Pw.len {H : Hp} : ∀ {ps : List Addr} {xs : List (Str × Bool)}, Pw H ps xs → ps.length = xs.length
  | [], [], _ => rfl
  | p :: ps, x :: xs, h => by rw [List.length_cons, List.length_cons, Pw.len h.2]
  | [], _ :: _, h => h.elim
  | _ :: _, [], h => h.elim
theorem Pw.get {H : Hp} : ∀ {ps : List Addr} {xs : List (Str × Bool)} {i : Nat} {p : Addr}, Pw H ps xs → ps[i]? = some p → ∃ x, xs[i]? = some x ∧ H p = some (.tup [.str x.1, .bl x.2])
  | p :: ps, x :: xs, 0, q, h, e => by
    cases (show some p = some q from e)
    exact ⟨x, rfl, h.1⟩
  | p :: ps, x :: xs, i + 1, q, h, e => Pw.get (i := i) h.2 e
  | [], [], i, q, _, e => by simp at e
  | [], _ :: _, _, _, h, _ => h.elim
  | _ :: _, [], _, _, h, _ => h.elim
def LsB (H : Hp) (l : Addr) (xs : List (Str × Bool)) : Prop := ∃ ps, H l = some (.lst (ps.map V.ref)) ∧ Pw H ps xs
theorem LsB.sub {H H' : Hp} {l : Addr} {xs : List (Str × Bool)} (h : LsB H l xs) (s : Sub H H') : LsB H' l xs := by
  obtain ⟨ps, e, p⟩ := h
  exact ⟨ps, s _ _ e, p.mono fun b xs e => s _ _ e⟩
/-- (name, isinstance(e, class)) -/
abbrev tPr (K : PySem.W.Frag) (D a : Addr) (d : Option Addr) (nm : Str) (c : V) : TE := tTup (tCons (tC (.str nm)) (tCons (tCB (rIsP K D a d) (tCons (tVar 0) (tCons (tC c) tNil))) tNil))
theorem rd_pr {K : PySem.W.Frag} {D a : Addr} {d : Option Addr} {nm : Str} {c : V} {cv : Value} {b : Bool} {σ : L2.St} {H : Hp} {Q : VK} (h0 : σ[0]? = some (some (.ref a))) (hc : ∀ u, RelV c u → u = cv) (hk : PySem.W.kitOne K (.ref D) cv = some b) (dk : DkO d H)
    (h : ∀ p, H p = none → Q (.ref p) (upd H p (.tup [.str nm, .bl b]))) : tPr K D a d nm c σ H Q :=
  ⟨_, h0, c, cv, b, rfl, hc, hk, dk, (by show 2 ≤ sizeLine; decide), h⟩
theorem sub_upd {H : Hp} {p : Addr} {o : HO} (h : H p = none) : Sub H (upd H p o) := fun b o' e => by rw [upd_ne (ne_of_none e h)]; exact e
theorem rd_two {K : PySem.W.Frag} {D a : Addr} {d : Option Addr} {n1 n2 : Str} {c1 c2 : V} {v1 v2 : Value} {b1 b2 : Bool} {σ : L2.St} {H : Hp} {Q : VK} (h0 : σ[0]? = some (some (.ref a))) (hc1 : ∀ u, RelV c1 u → u = v1) (hk1 : PySem.W.kitOne K (.ref D) v1 = some b1)
    (hc2 : ∀ u, RelV c2 u → u = v2) (hk2 : PySem.W.kitOne K (.ref D) v2 = some b2) (dk : DkO d H) (h : ∀ l H', Sub H H' → H l = none → LsB H' l [(n1, b1), (n2, b2)] → Q (.ref l) H') : tLst (tCons (tPr K D a d n1 c1) (tCons (tPr K D a d n2 c2) tNil)) σ H Q := by
  refine rd_pr (Q := fun x H1 => tPr K D a d n2 c2 σ H1 fun y H2 => [x, y].length ≤ sizeLine ∧ ∀ l, H2 l = none → Q (.ref l) (upd H2 l (.lst [x, y]))) h0 hc1 hk1 dk fun p hp => rd_pr h0 hc2 hk2 (dk.sub (sub_upd hp)) fun q hq => ⟨(by show 2 ≤ sizeLine; decide), fun l hl => ?_⟩
  have s1 := sub_upd (o := .tup [.str n1, .bl b1]) hp
  have s2 := sub_upd (o := .tup [.str n2, .bl b2]) hq
  have s3 := sub_upd (o := .lst [.ref p, .ref q]) hl
  refine h l _ ((s1.trans s2).trans s3) ?_ ⟨[p, q], upd_same, s3 _ _ (s2 _ _ upd_same), s3 _ _ upd_same, trivial⟩
  cases e : H l with
  | none => rfl
  | some o =>
    rw [s2 _ _ (s1 _ _ e)] at hl
    cases hl
section
variable {ca : Nat → Addr} {P : Program} {w : World} {K : PySem.W.Frag} {mg : Str → Option Value} {base : Heap} {f : Addr} {fd : FuncData}
theorem pIsP {X : Cx} {D a : Addr} {oe : Obj} {d : Option Addr} {nm : Str} {c : V} {e2 : Expr} {k : Nat} {p0 p1 pos : Pos} (B : Bi X.mg) (C : ExcC X.K D) (hz : Zc (.ref D) d oe) (hf : ∃ vs, oe.data = .fields vs) (hp : (a, oe) ∈ X.pn) (hN : X.N[0]? = some ("_law_e" : Str)) (hv : Vis X.env.scope "_law_e") (hc : PE X e2 (tC c)) (hg : Gl X "isinstance" := by rfl)
    (hs : starEach [.Name "_law_e" p0, e2] X.env = (false, eval (.Name "_law_e" p0) X.env) :: starEach [e2] X.env := by rfl) (hs2 : starEach [e2] X.env = (false, eval e2 X.env) :: starEach [] X.env := by rfl) (hpl : (backTo p1 (starEach [e2] X.env)).any (·.1) = false := by rfl)
    {j : Nat} {i : Pos} {q : Pos} (hs3 : starEach [.Constant (.str nm) j i, .Call (.Name "isinstance" q) [.Name "_law_e" p0, e2] [] p1] X.env = (false, eval (.Constant (.str nm) j i) X.env) :: starEach [.Call (.Name "isinstance" q) [.Name "_law_e" p0, e2] [] p1] X.env := by rfl) (hs4 : starEach [.Call (.Name "isinstance" q) [.Name "_law_e" p0, e2] [] p1] X.env = (false, eval (.Call (.Name "isinstance" q) [.Name "_law_e" p0, e2] [] p1) X.env) :: starEach [] X.env := by rfl) :
    PE X (.Tuple [.Constant (.str nm) j i, .Call (.Name "isinstance" q) [.Name "_law_e" p0, e2] [] p1] k pos) (tPr X.K D a d nm c) :=
  pe_tup (pa_cons pe_str (pa_cons (pe_callB (call_isP C hz hf hp) hg B.isinstance PyProof.Rows.boot_isinstance (pa_cons (pe_var hN hv) (pa_cons hc pa_nil hs2) hs) (by decide) (by decide) hs hpl) pa_nil hs4) hs3)
end
end PD
/-! text H4 -/
set_option maxHeartbeats 5000000
namespace PD
open PySem.Spec PySem PyProof.Rows L2 HotX L2H
section
variable {ca : Nat → Addr} {P : Program} {w : World} {K : PySem.W.Frag} {mg : Str → Option Value} {base : Heap} {f : Addr} {fd : FuncData}
theorem rd_asg {te : TE} {g : TG} {tz : TS} {D : Ends} {σ : L2.St} {H : Hp} (h : te σ H fun x H1 => g x σ H1 (tz D)) : tSeq (tAsg te g) tz D σ H := h
theorem rd_app1 {te : TE} {l : Addr} {σ : L2.St} {H : Hp} {Q : VK} (h : te σ H fun y H2 => rAppend (.ref l) [y] H2 Q) : tCons te tNil σ H (fun xs H2 => rAppend (.ref l) xs H2 Q) := h
theorem rd_cat {l m : Addr} {xs ys : List (Str × Bool)} {H : Hp} {Q : VK} (h1 : LsB H l xs) (h2 : LsB H m ys) (hz : xs.length + ys.length ≤ 100) (h : ∀ p H', Sub H H' → H p = none → LsB H' p (xs ++ ys) → Q (.ref p) H') : rCat (.ref l) (.ref m) H Q := by
  obtain ⟨ps, e1, p1⟩ := h1
  obtain ⟨qs, e2, p2⟩ := h2
  refine ⟨l, m, _, _, rfl, rfl, e1, e2, ?_, fun p hp => h p _ (sub_upd hp) hp ⟨ps ++ qs, by rw [upd_same, List.map_append], (p1.app p2).mono fun b xs e => sub_upd hp _ _ e⟩⟩
  rw [List.length_map, List.length_map, p1.len, p2.len]
  exact Nat.le_trans hz (by decide)
theorem rd_lc {l : Addr} {xs : List (Str × Bool)} {σ : L2.St} {H : Hp} {Q : VK} (hl : σ[1]? = some (some (.ref l))) (h4 : σ.length = 4) (hL : LsB H l xs) (hz : xs.length ≤ 1000)
    (h : ∀ D H', Sub H H' → H' D = some (.lst ((filtB xs).map V.str)) → Q (.ref D) H') :
    tLc (iList K (tVar 1)) (gTup K 2 (gCons (gName 2) (gCons (gName 3) gNil))) (tB (tVar 3)) (tVar 2) [2, 3] σ H Q := by
  obtain ⟨u0, u1, u2, u3, rfl⟩ : ∃ u0 u1 u2 u3, σ = [u0, u1, u2, u3] := by
    match σ, h4 with
    | [u0, u1, u2, u3], _ => exact ⟨u0, u1, u2, u3, rfl⟩
  cases hl
  obtain ⟨ps, hL, hP⟩ := id hL
  have pl := hP.len
  refine ⟨_, rfl, l, rfl, ⟨_, .inl (.inl hL)⟩, fun D hD => ⟨fun i m H' => m + i = xs.length ∧ Sub H H' ∧ H' D = some (.lst ((filtB (xs.take i)).map V.str)), ⟨xs.length, Nat.add_zero _, sub_upd hD, upd_same⟩, fun i m H' ⟨hm, sb, hd⟩ => ?_⟩⟩
  by_cases hi : i < xs.length
  · refine .inr ⟨?_, ⟨fun H'' => m ≠ 0 ∧ (m - 1) + (i + 1) = xs.length ∧ Sub H H'' ∧ H'' D = some (.lst ((filtB (xs.take (i + 1))).map V.str)), fun H'' ⟨n0, h1, h2, h3⟩ => ⟨m - 1, by omega, h1, h2, h3⟩, fun x H'' hy => ?_⟩⟩
    · obtain ⟨p, hp⟩ : ∃ p, ps[i]? = some p := ⟨ps[i]'(by omega), List.getElem?_eq_getElem (by omega)⟩
      exact ⟨_, .ref p, .inl (.inl (sb _ _ hL)), by rw [List.getElem?_map, hp]; rfl⟩
    · obtain ⟨p, hp⟩ : ∃ p, ps[i]? = some p := ⟨ps[i]'(by omega), List.getElem?_eq_getElem (by omega)⟩
      obtain ⟨rfl, hx⟩ := hy
      have hx' := hx _ (.inl (.inl (sb _ _ hL)))
      rw [List.getElem?_map, hp] at hx'
      cases (show some (V.ref p) = some x from hx')
      obtain ⟨y, ey, hpy⟩ := hP.get hp
      refine ⟨p, _, rfl, .inl (.inl (sb _ _ hpy)), rfl, _, _, rfl, _, _, rfl, rfl, rfl, _, rfl, y.2, rfl, ?_⟩
      have tk : xs.take (i + 1) = xs.take i ++ [(y.1, y.2)] := by
        rw [List.take_add_one, ey]
        rfl
      have e0 : m ≠ 0 := by omega
      cases hb : y.2 with
      | false =>
        refine iteF ⟨e0, by omega, sb, ?_⟩
        rw [tk, filtB_app, hb]
        show _ = some (HO.lst ((filtB (xs.take i) ++ []).map V.str))
        rw [List.append_nil]
        exact hd
      | true =>
        refine iteT ⟨_, rfl, _, hd, ?_, e0, by omega, fun b o e => ?_, ?_⟩
        · rw [List.length_map]
          have : ∀ l : List (Str × Bool), (filtB l).length ≤ l.length := fun l => by
            induction l with
            | nil => exact Nat.le_refl _
            | cons a r ih =>
              obtain ⟨a, c⟩ := a
              cases c
              · exact Nat.le_succ_of_le ih
              · exact Nat.succ_le_succ ih
          have h1 := this (xs.take i)
          rw [List.length_take] at h1
          exact Nat.lt_of_lt_of_le (show _ < 2000 by omega) (by decide)
        · rw [upd_ne (ne_of_none e hD)]
          exact sb _ _ e
        · rw [tk, filtB_app, hb, upd_same]
          show _ = some (HO.lst ((filtB (xs.take i) ++ [y.1]).map V.str))
          rw [List.map_append]
          rfl
  · refine .inl ⟨⟨_, .inl (.inl (sb _ _ hL)), by rw [List.length_map]; omega⟩, h D H' sb ?_⟩
    rw [hd, List.take_of_length_le (by omega)]
def scErr : Scope := { kind := .function, names := [(".0", .local), ("_law_name", .local), ("_law_good", .local)], isGenerator := false, isCoroutine := false }
theorem ok_law_error {D : Addr} {d : Option Addr} {oe : Obj} {a : Addr} {b1 b7 b10 : Bool} (B : Bi mg) (G : ErrG ca mg) (C : ErrK ca K D b1 b7 b10) (hz : Zc (.ref D) d oe) (hf : ∃ vs, oe.data = .fields vs) (FN : FnP K "_law_error" (top 90) f fd) :
    FnHP P w K mg base (L2N.CX P w) 1 f fd ["_law_e"] (a, oe) (spEr a d b1 b7 b10) := by
  obtain ⟨oc, od, dV, kV, doc, pm, an, cdv, ct, osl, rfl, lk, hcd, _, _⟩ := FN.ex
  refine fn_ofHP lk hcd sc_law_error (fun vs H Q E h => by rw [h.1]; rfl) fun A outer s0 H0 vs Q E hot hr hsp => ?_
  have nd := sc_law_error.nd
  have hp : ∀ y ∈ [(a, oe)], y ∈ (cxH (L2N.CX P w) P w K mg base N_law_error "_law_error" (defScope (top 90)) f cdv A outer s0 H0 E (a, oe)).pn := fun y h => h
  have hm : (a, oe) ∈ [(a, oe)] := List.mem_singleton_self _
  have hot' : Hot1 (cxH (L2N.CX P w) P w K mg base N_law_error "_law_error" (defScope (top 90)) f cdv A outer s0 H0 E (a, oe)).A (a, oe) := ⟨hot.1, hot.2⟩
  have rc : ∀ (c : Addr) (u : Value), RelV (.ref c) u → u = .ref c := fun c u h => h
  have hg : ∀ (q1 q2 q3 : Pos) (n : Nat) (s : Shared) (H : Hp) (C : Addr) (cl : List (Str × Addr)) (fp : List Addr), PG (blkH (a, oe) (cxH (L2N.CX P w) P w K mg base N_law_error "_law_error" (defScope (top 90)) f cdv A outer s0 H0 E (a, oe)) s H scErr (compEnvC scErr cl C (cxH (L2N.CX P w) P w K mg base N_law_error "_law_error" (defScope (top 90)) f cdv A outer s0 H0 E (a, oe)).env) fp) (.Tuple [.Name "_law_name" q1, .Name "_law_good" q2] n q3) (gTup K 2 (gCons (gName 2) (gCons (gName 3) gNil))) := fun q1 q2 q3 n s H C cl fp =>
    pg_tupH ⟨_, ⟨hot'.1, hot'.2⟩, List.mem_singleton_self _⟩ (pgs_cons (pg_name (i := 2) nd rfl (Or.inl rfl) (.inr rfl)) (pgs_cons (pg_name (i := 3) nd rfl (Or.inl rfl) (.inr rfl)) pgs_nil))
  refine ⟨_, pss_cons (ps_set (i := 1) nd rfl (Or.inl rfl) (pe_lst (pa_cons (pIsP B C.cc hz hf hm rfl (Or.inl rfl) (pe_glob (v := .ref (ca 1)) (by rfl) G.g1 rfl)) (pa_cons (pIsP B C.cc hz hf hm rfl (Or.inl rfl) (pe_glob (v := .ref (ca 2)) (by rfl) G.g2 rfl)) pa_nil))))
    (pss_cons (ps_set (i := 1) nd rfl (Or.inl rfl) (pe_op op_cat (pv 1) (pe_lst (pa_cons (pIsP B C.cc hz hf hm rfl (Or.inl rfl) (pe_glob (v := .ref (ca 5)) (by rfl) G.g5 rfl)) (pa_cons (pIsP B C.cc hz hf hm rfl (Or.inl rfl) (pe_glob (v := .ref (ca 8)) (by rfl) G.g8 rfl)) pa_nil)))))
    (pss_cons (ps_set (i := 1) nd rfl (Or.inl rfl) (pe_op op_cat (pv 1) (pe_lst (pa_cons (pIsP B C.cc hz hf hm rfl (Or.inl rfl) (pe_glob (v := .ref (ca 9)) (by rfl) G.g9 rfl)) (pa_cons (pIsP B C.cc hz hf hm rfl (Or.inl rfl) (pe_glob (v := .ref (ca 4)) (by rfl) G.g4 rfl)) pa_nil)))))
    (pss_cons (ps_set (i := 1) nd rfl (Or.inl rfl) (pe_op op_cat (pv 1) (pe_lst (pa_cons (pIsP B C.cc hz hf hm rfl (Or.inl rfl) (pe_glob (v := .ref (ca 7)) (by rfl) G.g7 rfl)) (pa_cons (pIsP B C.cc hz hf hm rfl (Or.inl rfl) (pe_glob (v := .ref (ca 10)) (by rfl) G.g10 rfl)) pa_nil)))))
    (pss_cons (ps_expr (pe_bm PySem.F.plainAttrs_list PySem.F.slot_list_append PySem.F.type_list_append mt_append (pv 1) (pa_cons (pIsP B C.cc hz hf hm rfl (Or.inl rfl) (pe_bltn (v := .ty "ValueError") (u := .type "ValueError") (by rfl) G.gv (by decide +kernel) rfl)) pa_nil)))
    (pss_one (ps_ret (pe_join pe_str (pe_lcH hot' hm nd (pi_listH (pv 1)) (blkOk_by (own := [("_law_name", 2), ("_law_good", 3)]) (by kernel_rfl))
      (hg _ _ _ _)
      (fun s H C cl fp => pts_one (pt_val (pv 3))) (fun s H C cl fp => pv 2))))))))), ?_⟩
  obtain ⟨e, dk, hq⟩ := hsp
  subst e
  have rt : ∀ u, RelV (.ty "ValueError") u → u = .type "ValueError" := fun u h => h
  refine rd_asg ?_
  refine rd_two rfl (rc _) C.k1 (rc _) C.k2 dk fun l1 H1 s1 n1 L1 => ?_
  refine ⟨_, rfl, rd_two rfl (rc _) C.k5 (rc _) C.k8 (dk.sub s1) fun l2 H2 s2 n2 L2' => rd_cat (L1.sub s2) L2' (by show 4 ≤ 100; decide) fun l3 H3 s3 n3 L3 => ?_⟩
  have t3 := (s1.trans s2).trans s3
  refine ⟨_, rfl, rd_two rfl (rc _) C.k9 (rc _) C.k4 (dk.sub t3) fun l4 H4 s4 n4 L4 => rd_cat (L3.sub s4) L4 (by show 6 ≤ 100; decide) fun l5 H5 s5 n5 L5 => ?_⟩
  have t5 := (t3.trans s4).trans s5
  refine ⟨_, rfl, rd_two rfl (rc _) C.k7 (rc _) C.k10 (dk.sub t5) fun l6 H6 s6 n6 L6 => rd_cat (L5.sub s6) L6 (by show 8 ≤ 100; decide) fun l7 H7 s7 n7 L7 => ?_⟩
  have t6 := t5.trans s6
  have n7' : H0 l7 = none := by
    cases e : H0 l7 with
    | none => rfl
    | some o =>
      rw [t6 _ _ e] at n7
      cases n7
  have t7 := t6.trans s7
  obtain ⟨ps, eL, eP⟩ := id L7
  refine ⟨_, rfl, .inl ⟨rfl, _, .inl (.inl eL)⟩, rd_app1 (rd_pr rfl rt C.kv (dk.sub t7) fun p hp => ?_)⟩
  have s8 := sub_upd (o := .tup [.str "value", .bl true]) hp
  have e8 := s8 _ _ eL
  have np : p ≠ l7 := fun z => by rw [z, eL] at hp; cases hp
  refine ⟨l7, _, _, rfl, rfl, e8, ?_, ?_⟩
  · rw [List.length_map, eP.len]
    exact Nat.lt_of_lt_of_le (show 8 < 100 by decide) (by decide)
  have s9 : Sub H0 (upd (upd H7 p (.tup [.str "value", .bl true])) l7 (.lst (ps.map V.ref ++ [.ref p]))) := fun b o e => by
    rw [upd_ne (ne_of_none e n7')]
    exact s8 _ _ (t7 _ _ e)
  have L9 : LsB (upd (upd H7 p (.tup [.str "value", .bl true])) l7 (.lst (ps.map V.ref ++ [.ref p]))) l7 (errPairs b1 b7 b10) := by
    refine ⟨ps ++ [p], ?_, Pw.app (ys := [("value", true)]) (eP.mono fun b xs e => ?_) ⟨?_, trivial⟩⟩
    · rw [upd_same, List.map_append]
      rfl
    · have nb : b ≠ l7 := fun z => by
        rw [z, eL] at e
        cases e
      rw [upd_ne nb]
      exact s8 _ _ e
    · rw [upd_ne np, upd_same]
  refine ⟨⟨_, rfl⟩, rd_lc rfl rfl L9 (by show 9 ≤ 1000; decide) fun D' H' s' hD => ⟨_, D', filtB (errPairs b1 b7 b10), rfl, rfl, .inl (.inl (.inl hD)), ?_, hq H' (s9.trans s')⟩⟩
  cases b1 <;> cases b7 <;> cases b10 <;> decide +kernel
end
end PD
/-! text H5 -/
set_option maxHeartbeats 5000000
namespace PD
open PySem.Spec PySem PyProof.Rows L2 HotX L2H

/-! ### _law_came -/
/-- the lambda at fl raises the class C, where J holds -/
structure Raiser (P : Program) (w : World) (K : PySem.W.Frag) (mg : Str → Option Value) (b : Heap) (k : Nat) (fl : Addr) (C : Addr) (J : Hp → Prop) : Prop where
  fa : PySem.W.FnAt fl b
  mono : ∀ H H', J H → Sub H H' → J H'
  run : ∀ (A : Around) (outer : List Env) (s : Shared) (H : Hp) (Q : VK) (E : XK), Room k A → Env0 P w K mg b A outer s H → J H → (∀ d H', Sub H H' → E (.ref C) d H') →
    codeAny (model P w) A (.call (.ref fl) ⟨[], []⟩) (CR (L2N.CX P w) outer P w H s Q E) s
def N_law_came : List Str := ["_law_call", "_law_found", "_law_name", "_law_e"]
theorem sc_law_came : FnScope N_law_came ["_law_call"] (defScope (top 91)) := ⟨rfl, rfl, rfl, by decide +kernel, rfl, by decide +kernel, by decide +kernel⟩
def spCm (fl : Addr) (J : Hp → Prop) (txt : Str) : Sp := fun vs H Q _ => vs = [.ref fl] ∧ J H ∧ ∀ p H', Sub H H' → H' p = some (.tup [.non, .str txt]) → Q (.ref p) H'
theorem passNE {X : Cx} (σ : L2.St) : PassesAt (L2N.CX X.prog X.w) X σ (fun _ _ _ => False) := fun _ _ _ _ _ _ h => by
  obtain ⟨_, _, _, _, _, _, _, _, _, _, _, _, z⟩ := h
  exact False.elim z
section
variable {ca : Nat → Addr} {P : Program} {w : World} {K : PySem.W.Frag} {mg : Str → Option Value} {base : Heap} {f : Addr} {fd : FuncData}
/-- x(), x a local that holds the lambda -/
theorem pe_lamc {X : Cx} {W : WX} {k i : Nat} {fl C : Addr} {J : Hp → Prop} {x : Str} {p1 p2 : Pos} (R : Raiser X.prog X.w X.K X.mg X.base k fl C J) (hr : Room k X.A) (tk : L2N.Takes X W) (hN : X.N[i]? = some x) (hv : Vis X.env.scope x) (hd : (x == ("__debug__" : Str)) = false := by decide) (hcd : (x == ("__classdict__" : Str)) = false := by decide) :
    PE X (.Call (.Name x p1) [] [] p2) (fun σ H Q => σ[i]? = some (some (.ref fl)) ∧ J H ∧ ∀ d H', Sub H H' → W (.ref C) d σ H') := by
  refine ⟨fun pins s σ H Q I h => ?_⟩
  obtain ⟨hs, hj, hW⟩ := h
  refine wpAny_Call_Name_kw (thn ((pe_var (pos := p1) (i := i) hN hv hd hcd).run pins s σ H (fun v H1 => v = .ref fl ∧ H1 = H) I ⟨.ref fl, hs, rfl, rfl⟩) fun u s1 ⟨v, H1, I1, r1, q1⟩ => ?_)
  obtain ⟨ev, eH⟩ := q1
  subst ev
  rw [eH] at I1
  obtain rfl : u = Value.ref fl := r1
  obtain ⟨a1, a2, a3, a4, e⟩ := R.fa
  refine PySem.W.callWith_F0 ⟨a1, a2, a3, a4, I1.bk _ _ e⟩ ?_
  refine wpAny_call (codeAny_mono (R.run X.A X.stack s1 H Q (fun cls d H' => W cls d σ H') hr I1.env0 hj fun d H' sb => hW d H' sb) fun r s' hq => ?_)
  cases r with
  | error e => exact tk _ _ (L2N.XE.of_call I1 (fun _ _ _ h => h) hq)
  | ok fl =>
    cases fl with
    | ret u => exact I1.after hq
    | next => exact False.elim hq
    | brk => exact False.elim hq
    | cont => exact False.elim hq
theorem ok_law_came {fl D cW : Addr} {J : Hp → Prop} {b1 b7 b10 : Bool} (B : Bi mg) (G : ErrG ca mg) (C : ErrK ca K D b1 b7 b10) (hW : mg "WorldError" = some (.ref cW)) (hx : PySem.W.exmOne K (.ref D) (.ref cW) = some true)
    (R : Raiser P w K mg base 12 fl D J) {fe : Addr} {fde : FuncData} (FE : FnP K "_law_error" (top 90) fe fde) (ge : mg "_law_error" = some (.ref fe)) (FN : FnP K "_law_came" (top 91) f fd) :
    FnOk P w K mg base (L2N.CX P w) 13 f fd ["_law_call"] (spCm fl J (errT b1 b7 b10)) := by
  refine FN.ok sc_law_came (fun vs H Q E h => by rw [h.1]; rfl) fun cdv A outer s0 H0 vs Q E hr hsp => ?_
  have nd := sc_law_came.nd
  have hc : (cxOf (L2N.CX P w) P w K mg base N_law_came "_law_came" (defScope (top 91)) f cdv A outer s0 H0 E).calm = true := rfl
  have tk : L2N.Takes (cxOf (L2N.CX P w) P w K mg base N_law_came "_law_came" (defScope (top 91)) f cdv A outer s0 H0 E) (fun cls d _ H => E cls d H) := L2N.takes_of rfl rfl rfl rfl
  refine ⟨_, pss_cons (ps_asg (pe_tup (pa_cons pe_non (pa_cons pe_str pa_nil))) (pg_tup hc (pgs_cons (pg_name (i := 1) nd rfl (Or.inl rfl) (.inr rfl)) (pgs_cons (pg_name (i := 2) nd rfl (Or.inl rfl) (.inr rfl)) pgs_nil))))
    (pss_cons (L2N.ps_try_as (c := .ref cW) (i := 3) (Wout := fun cls d _ H => E cls d H) (ts := fun a cls d Dn σ H => cls = .ref D ∧ σ[3]? = some (some (.ref a)) ∧ ∀ H', Sub H H' → Dn.nx (σ.set 2 (some (.str (errT b1 b7 b10)))) H')
      rfl rfl nd rfl rfl ⟨rfl, by decide, .inl hW⟩ tk
      (fun W pn xe tk' pp => pss_one (ps_set (i := 1) nd rfl (Or.inl rfl) (pe_lamc (i := 0) R hr tk' rfl (Or.inl rfl))))
      (fun a oe cls d pn hz hf => ?_))
    (pss_one (ps_ret (pe_tup (pa_cons (pv 1) (pa_cons (pv 2) pa_nil)))))), ?_⟩
  · refine ⟨fun pins s σ H Dn I ⟨ec, h3, hk⟩ => ?_⟩
    subst ec
    have F := ok_law_error (P := P) (w := w) (base := base) (a := a) B G C hz.zc hf FE
    obtain ⟨vs', hd⟩ := hf
    refine PSs.run (t := tAsg (tCallS (spEr a d b1 b7 b10) (fun _ _ _ _ => False) (tCons (tVar 3) tNil)) (gName 2)) ?_ pins s σ H Dn I ⟨_, h3, rfl, trivial, hk⟩
    exact pss_one (ps_set (i := 2) nd rfl (Or.inl rfl) (pe_callHP (Ex := fun _ _ _ _ => False) F ⟨(hr.mono (by decide : 1 ≤ 12)).dp, (hr.mono (by decide : 1 ≤ 12)).un⟩ ⟨rfl, vs', hd, hz.2.2 vs' hd⟩ List.mem_cons_self rfl ge FE.kp
      (FE.bindsN (fun kV doc pm an cdv ct us hl => match us, hl with | [_], _ => rfl)) passNE (pa_cons (pv 3) pa_nil)))
  · obtain ⟨e, hj, hq⟩ := hsp
    subst e
    refine ⟨(by show 2 ≤ sizeLine; decide), fun q hn => ⟨q, _, rfl, .inl (.inl upd_same), rfl, _, _, rfl, _, _, rfl, rfl, ?_⟩⟩
    have s0 := sub_upd (o := .tup [.non, .str ""]) hn
    refine ⟨rfl, R.mono _ _ hj s0, fun d H' sb => ⟨true, hx, fun _ a ha => ⟨rfl, rfl, fun H'' sb2 => ?_⟩, fun z => by cases z⟩⟩
    exact ⟨_, rfl, _, rfl, (by show 2 ≤ sizeLine; decide), fun p hp => hq p _ (((s0.trans sb).trans sb2).trans (sub_upd hp)) upd_same⟩
end
end PD
/-! text H6 -/
set_option maxHeartbeats 5000000
namespace PD
open PySem.Spec PySem PyProof.Rows L2 HotX L2H

/-! ### _law_all_say, of a list of one lambda -/
def N_law_all_say : List Str := ["_law_calls", "_law_name", "_law_call"]
theorem sc_law_all_say : FnScope N_law_all_say ["_law_calls", "_law_name"] (defScope (top 92)) := ⟨rfl, rfl, rfl, by decide +kernel, rfl, by decide +kernel, by decide +kernel⟩
def spSay (fl : Addr) (J : Hp → Prop) (nm txt : Str) : Sp := fun vs H Q _ => ∃ l, vs = [.ref l, .str nm] ∧ nm ++ " value" = txt ∧ nm.length ≤ 1000 ∧ H l = some (.lst [.ref fl]) ∧ J H ∧ ∀ H', Sub H H' → Q (.bl true) H'
theorem rd_ne {K : PySem.W.Frag} {H : Hp} {p q : Addr} {txt : Str} {Q : VK} (h1 : H p = some (.tup [.non, .str txt])) (h2 : H q = some (.tup [.non, .str txt])) (hs : SeqAt.shaped (.tuple [.none, .str txt]) = true) (h : Q (.bl false) H) : rNeD K (.ref p) (.ref q) H Q := by
  refine ⟨.tuple [.none, .str txt], .tuple [.none, .str txt], .tup (.inl (.inl h1)) (.cons .non (.cons (.str _) .nil)), .tup (.inl (.inl h2)) (.cons .non (.cons (.str _) .nil)), hs, hs, ?_⟩
  have e : PyData.eqv (.tuple [.none, .str txt]) (.tuple [.none, .str txt]) = true := by
    simp [PyData.eqv, PyData.eqvAll]
  rw [e]
  exact h
theorem rd_eq0 {K : PySem.W.Frag} {H : Hp} {p q : Addr} {Q : VK} (h1 : H p = some (.lst [])) (h2 : H q = some (.lst [])) (h : Q (.bl true) H) : rEqD K (.ref p) (.ref q) H Q := by
  refine ⟨.list [], .list [], .lst (.inl (.inl h1)) .nil, .lst (.inl (.inl h2)) .nil, rfl, rfl, ?_⟩
  have e : PyData.eqv (.list []) (.list []) = true := by
    simp [PyData.eqv, PyData.eqvAll]
  rw [e]
  exact h
section
variable {ca : Nat → Addr} {P : Program} {w : World} {K : PySem.W.Frag} {mg : Str → Option Value} {base : Heap} {f : Addr} {fd : FuncData}
theorem ok_law_all_say {fl : Addr} {J : Hp → Prop} {nm txt : Str} (hJ : ∀ H H', J H → Sub H H' → J H') (hs : SeqAt.shaped (.tuple [.none, .str txt]) = true) (hcame : HasS P w K mg base "_law_came" 13 (spCm fl J txt)) (FN : FnP K "_law_all_say" (top 92) f fd) :
    FnOk P w K mg base (L2N.CX P w) 14 f fd ["_law_calls", "_law_name"] (spSay fl J nm txt) := by
  refine FN.ok sc_law_all_say (fun vs H Q E h => by obtain ⟨l, e, _⟩ := h; rw [e]; rfl) fun cdv A outer s0 H0 vs Q E hr hsp => ?_
  have nd := sc_law_all_say.nd
  have hu64 : (A.deeper (envOfC "_law_all_say" (defScope (top 92)) s0.heap.objs.size f cdv)).units + 64 < cLine := by have := units65 hr; omega
  have hc : (cxOf (L2N.CX P w) P w K mg base N_law_all_say "_law_all_say" (defScope (top 92)) f cdv A outer s0 H0 E).calm = true := rfl
  refine ⟨_, pss_one (ps_ret (pe_cmpR (op_eqD hu64) (pe_lc hc nd (pi_list (pv 0)) (blkOk_by (own := [("_law_call", 2)]) (by kernel_rfl)) (fun s H C cl fp => pg_name (i := 2) (by exact nd) (by rfl) (Or.inl (by rfl)) (by exact .inr rfl))
    (fun s H C cl fp => pts_one (pt_cmpR (show OpR _ _ (rNeD K) from op_neD hu64) (pCallS hcame hr passN (pa_cons (pv 2) pa_nil)) (pe_tup (pa_cons pe_non (pa_cons (pe_op op_add_str (pv 1) pe_str) pa_nil))) (nomark _)))
    (fun s H C cl fp => pv 2)) (pe_lst pa_nil) (nomark _))), ?_⟩
  obtain ⟨l, e, et, hz, hl, hj, hq⟩ := hsp
  subst e
  refine ⟨_, rfl, l, rfl, ⟨_, .inl (.inl hl)⟩, fun D hD => ⟨fun i m H' => m + i = 1 ∧ Sub H0 H' ∧ H' D = some (.lst []), ⟨1, rfl, sub_upd hD, upd_same⟩, fun i m H' ⟨hm, sb, hd⟩ => ?_⟩⟩
  by_cases hi : i = 0
  · subst hi
    refine .inr ⟨⟨_, .ref fl, .inl (.inl (sb _ _ hl)), rfl⟩, fun H'' => m = 1 ∧ Sub H0 H'' ∧ H'' D = some (.lst []), fun H'' ⟨e1, h1, h2⟩ => ⟨0, by omega, rfl, h1, h2⟩, fun x H'' hy => ?_⟩
    obtain ⟨rfl, hx⟩ := hy
    have hx' := hx _ (.inl (.inl (sb _ _ hl)))
    cases (show some (V.ref fl) = some x from hx')
    refine ⟨rfl, _, rfl, rfl, hJ _ _ hj sb, fun p H1 s1 hp => ⟨_, rfl, _, _, rfl, rfl, ?_, ?_, fun q hn => rd_ne (sub_upd hn _ _ hp) (by rw [upd_same, et]) hs ⟨false, rfl, iteF ⟨by omega, (sb.trans s1).trans (sub_upd hn), sub_upd hn _ _ (s1 _ _ hd)⟩⟩⟩⟩
    · show nm.length + 6 ≤ sizeLine
      exact Nat.le_trans (show _ ≤ 2000 by omega) (by decide)
    · show 2 ≤ sizeLine
      decide
  · refine .inl ⟨⟨_, .inl (.inl (sb _ _ hl)), by show 1 ≤ i; omega⟩, (by show 0 ≤ sizeLine; decide), fun q hn => rd_eq0 (sub_upd hn _ _ hd) upd_same (hq _ (sb.trans (sub_upd hn)))⟩
end
end PD
/-! text H7 -/
set_option maxHeartbeats 5000000
namespace PD
open PySem.Spec PySem PyProof.Rows L2 HotX L2H
open LamX (CodeO Tabs TabS TabB ExtN LamS lamEnv lam_make2)

/-! ### _law_all_say([lambda: ..], name), at its place -/
def tSay (T : List (Addr × Str)) (tb : XK → TE) (C : Addr) : TE := fun σ H Q => Tabs T H ∧ (∀ H1, ExtN H H1 → ∀ HZ, Sub H1 HZ → ∀ (E : XK) (Q' : VK), (∀ d H', Sub HZ H' → E (.ref C) d H') → tb E σ HZ Q') ∧ ∀ H', ExtN H H' → Tabs T H' → Q (.bl true) H'
theorem pe_say {X : Cx} {T : List (Addr × Str)} {c P0 fs C : Addr} {k j : Nat} {tb : XK → TE} {E : XK} {nm txt : Str} {fds : FuncData} {params : Arguments} {body : Expr} {scope : Scope} {lp lpos p q pos : Pos}
    (fn : ∀ y, X.fn y = true) (TB : TabB X.base X.mg c P0) (hcode : X.env.code = .ref c) (hm : (P0, X.env.qual ++ "<lambda>") ∈ T) (hu : ∀ p ∈ T, p.1 = P0 → p.2 = X.env.qual ++ "<lambda>") (hdef : defaultsOf params X.env = ([], [])) (L : LamS X.env.scope scope)
    (hbind : ∀ (pm : Value) (c' : Addr) (ctv : Value), bindArgs (PySem.W.kla_fn "<lambda>" (X.env.qual ++ "<lambda>") params body scope (cloFrom X.env.cells scope.names []) pm (.ref c') ctv) ⟨[], []⟩ = pure [])
    (hbody : ∀ (b : Heap) (f c' : Addr) (A : Around) (outer : List Env) (s : Shared) (H : Hp) (E : XK), Room k (A.deeper (lamEnv X scope s.heap.objs.size f c')) → PE (lamCxB X b A outer s H E scope f c') body (tb E))
    (hsay : ∀ (b : Heap) (fl : Addr) (J : Hp → Prop), Raiser X.prog X.w X.K X.mg b (k + 1) fl C J → FnOk X.prog X.w X.K X.mg b (L2N.CX X.prog X.w) 14 fs fds ["_law_calls", "_law_name"] (spSay fl J nm txt))
    (hr : Room 14 X.A) (hx : Passes (L2N.CX X.prog X.w) X E) (gs : X.mg "_law_all_say" = some (.ref fs)) (kp : PySem.W.keepIn X.K (.ref fs) = true) (hb : Binds X.K fds ["_law_calls", "_law_name"] []) (het : nm ++ " value" = txt) (hnm : nm.length ≤ 1000) (hg : Gl X "_law_all_say" := by rfl)
    (h1 : starEach [.List [.Lambda params body scope lp] lpos, .Constant (.str nm) j q] X.env = (false, eval (.List [.Lambda params body scope lp] lpos) X.env) :: starEach [.Constant (.str nm) j q] X.env := by rfl) (h2 : starEach [.Constant (.str nm) j q] X.env = (false, eval (.Constant (.str nm) j q) X.env) :: starEach [] X.env := by rfl)
    (h3 : starEach [.Lambda params body scope lp] X.env = (false, eval (.Lambda params body scope lp) X.env) :: starEach [] X.env := by rfl) (hpl : (backTo pos (starEach [.Constant (.str nm) j q] X.env)).any (·.1) = false := by rfl) :
    PE X (.Call (.Name "_law_all_say" p) [.List [.Lambda params body scope lp] lpos, .Constant (.str nm) j q] [] pos) (tSay T tb C) := by
  refine ⟨fun pins s σ H Q I ⟨hT, htb, hq⟩ => ?_⟩
  refine wpAny_Call_Name_kw (ld_glob I hg gs ?_ (by decide))
  refine PySem.W.callWith_K (h₀ := X.base) I.ok.mod.kin kp ?_ h1 hpl
  rw [h1]
  show wpAny _ _ (spliced ((false, eval (.List [.Lambda params body scope lp] lpos) X.env) :: backTo pos (starEach [.Constant (.str nm) j q] X.env))) _ _ s
  refine Calls.spliced_cons ?_
  refine wpAny_List_spliced ?_
  rw [h3]
  refine Calls.spliced_cons (lam_make2 I TB hcode hm hu hT hdef (L.has I.ok) fun f c' pm ctv H1 s1 I1 xN T1 hf hfn hfr hc => ?_)
  refine Calls.spliced_nil ⟨by show 1 ≤ sizeLine; decide, ?_⟩
  have hl : H1 s1.heap.objs.size = none := I1.hok.fresh (Nat.le_refl _)
  have I2 : Inv X pins σ (upd H1 s1.heap.objs.size (.lst [.ref f])) { s1 with heap := s1.heap.push { cls := .type "list", data := .seq #[Value.ref f] } } :=
    I1.laid (t' := s1.toks) (fun b u e => Heap.get?_push_of_some _ e) (Nat.le_refl _) ⟨(by show 1 ≤ sizeLine; decide), [.ref f], 0, .cons rfl .nil, Heap.get?_push_size _ rfl⟩
  generalize hl2 : s1.heap.objs.size = l at hl I2
  have hfl : f ≠ l := fun z => by
    rw [z] at hf
    exact absurd (Heap.lt_size hf) (by rw [hl2]; exact Nat.lt_irrefl _)
  have hf2 : (s1.heap.push { cls := .type "list", data := .seq #[Value.ref f] }).get? f = some (PySem.W.kla_obj "<lambda>" (X.env.qual ++ "<lambda>") params body scope (cloFrom X.env.cells scope.names []) pm c' ctv) := Heap.get?_push_of_some _ hf
  have sb2 := sub_upd (o := .lst [.ref f]) hl
  rw [h2]
  show wpAny _ _ (spliced ((false, eval (.Constant (.str nm) j q) X.env) :: [])) _ _ _
  refine Calls.spliced_cons (Calls.Constant_str (Calls.spliced_nil ?_))
  have I3 := I2.tok (s1.toks + 1)
  refine ⟨I3.kIn, ?_⟩
  obtain ⟨b, b1, b2, e0⟩ := rebase I3
  have hn3 : upd H1 l (.lst [.ref f]) f = none := by rw [upd_ne hfl]; exact hfn
  have hb3 := b2 f _ hf2 hn3 hfr
  have hbb : ∀ a o, (s1.heap.push { cls := .type "list", data := .seq #[Value.ref f] }).get? a = some o → upd H1 l (.lst [.ref f]) a = none → a ∉ frs X.stack → b.get? a = some o := b2
  have LO := lam_ok fn (k := k) (tb := tb) I3 L hbb hf2 hn3 hfr (hbind pm c' ctv) (fun A outer s H E hr => hbody b f c' A outer s H E hr)
  have R : Raiser X.prog X.w X.K X.mg b (k + 1) f C (fun HZ => HZ c' = some (CodeO c' (X.env.qual ++ "<lambda>")) ∧ Sub H1 HZ) :=
    ⟨⟨_, _, _, _, hb3⟩, fun H H' h s => ⟨s _ _ h.1, h.2.trans s⟩, fun A outer s HZ Q' E' hr' e0' hj hE => LO A outer s HZ Q' E' hr' e0' hj.1 (htb H1 xN HZ hj.2 E' Q' hE)⟩
  have F := hsay b f _ R
  have bb := hb _ [.ref l, .str nm (s1.toks)] I3.kIn rfl
  refine wpAny_call (codeAny_mono (F.run X.A X.stack _ _ ⟨[.ref l, .str nm s1.toks], []⟩ [.ref l, .str nm s1.toks] [.ref l, .str nm] Q E hr e0 bb (.cons rfl (.cons ⟨_, rfl⟩ .nil)) ⟨l, rfl, het, hnm, upd_same, ⟨sb2 _ _ hc, sb2⟩, fun H' s' => hq H' (xN.trans (ExtN.of (sb2.trans s'))) ((T1.ext sb2).ext s')⟩) fun r s' hq' => ?_)
  cases r with
  | error e => exact hx pins _ _ _ e s' I3 hq'
  | ok fl =>
    cases fl with
    | ret u => exact I3.after hq'
    | next => exact False.elim hq'
    | brk => exact False.elim hq'
    | cont => exact False.elim hq'
end PD
/-! text H8a -/
set_option maxHeartbeats 5000000
namespace PD
open PySem.Spec PySem PyProof.Rows L2 HotX L2H
open LamX (CodeO Tabs TabS TabB ExtN LamS lamEnv lam_make2)
/-! data stands whatever a code table gains -/
mutual
theorem Rp.extN {H H' : Hp} (s : ExtN H H') : ∀ {v : V} {d : PyData}, Rp H v d → Rp H' v d
  | _, _, .non => .non
  | _, _, .bl b => .bl b
  | _, _, .int b => .int b
  | _, _, .str b => .str b
  | _, _, .lst e r => .lst (s _ _ e (fun _ z => by cases z)) (RpAll.extN s r)
  | _, _, .tup e r => .tup (s _ _ e (fun _ z => by cases z)) (RpAll.extN s r)
  | _, _, .dct e r => .dct (s _ _ e (fun _ z => by cases z)) (RpC.extN s r)
  | _, _, .dci e r => .dci (s _ _ e (fun _ z => by cases z)) (RpI.extN s r)
theorem RpAll.extN {H H' : Hp} (s : ExtN H H') : ∀ {vs : List V} {ds : List PyData}, RpAll H vs ds → RpAll H' vs ds
  | _, _, .nil => .nil
  | _, _, .cons r t => .cons (Rp.extN s r) (RpAll.extN s t)
theorem RpC.extN {H H' : Hp} (s : ExtN H H') : ∀ {xs : List (CK × Addr × Value)} {kvs : List (PyData × PyData)}, RpC H xs kvs → RpC H' xs kvs
  | _, _, .nil => .nil
  | _, _, .cons k e r t => .cons (Rp.extN s k) e (Rp.extN s r) (RpC.extN s t)
theorem RpI.extN {H H' : Hp} (s : ExtN H H') : ∀ {xs : List (Key × V)} {kvs : List (PyData × PyData)}, RpI H xs kvs → RpI H' xs kvs
  | _, _, .nil => .nil
  | _, _, .cons r t => .cons (Rp.extN s r) (RpI.extN s t)
end
end PD
/-! text H8b -/
set_option maxHeartbeats 5000000
namespace PD
open PySem.Spec PySem PyProof.Rows L2 HotX L2H
open LamX (CodeO Tabs TabS TabB ExtN LamS lamEnv lam_make2)
/-! ### what fewest_rounds refuses -/
def oddsOf : List PyData := match F_law_bad_cuttings [] with
  | .ok (.list l) => l
  | _ => []
def eightD : PyData := .tuple [.int 8, .tuple [.tuple [.int 0, .int 2], .tuple [.int 0, .int 3], .tuple [.int 0, .int 4], .tuple [.int 0, .int 5], .tuple [.int 0, .int 6]]]
def threeD : PyData := .tuple [.int 3, .tuple []]
def isExc (c : Nat) (r : R PyData) : Bool := match r with
  | .exc d => Nat.beq c d
  | _ => false
theorem isExc_ok {c : Nat} {r : R PyData} (h : isExc c r = true) : r = .exc c := by
  cases r with
  | exc d =>
    have e : c = d := Nat.eq_of_beq_eq_true h
    rw [e]
  | ok d => cases h
  | stuck => cases h
def isLst (r : R PyData) : Bool := match r with
  | .ok (.list _) => true
  | _ => false
theorem kOdds : isLst (F_law_bad_cuttings []) = true := by kernel_rfl
theorem odds_eq : F_law_bad_cuttings [] = .ok (.list oddsOf) := by
  have k := kOdds
  unfold oddsOf
  revert k
  generalize F_law_bad_cuttings [] = r
  intro k
  cases r with
  | ok d =>
    cases d with
    | list l => rfl
    | _ => cases k
  | stuck => cases k
  | exc c => cases k
def chkRef : Bool := [3, 4, 5, 6].all fun n => (cutsOf n).all fun x => oddsOf.all fun o => isExc 1 (Ffewest_rounds [x, o])
theorem kRef : chkRef = true := by kernel_rfl
theorem kMany : isExc 10 (Ffewest_rounds [eightD, eightD]) = true := by kernel_rfl
theorem kUnlike : isExc 7 (Ffewest_rounds [eightD, threeD]) = true := by kernel_rfl
theorem ref_odd {n : Nat} {x o : PyData} (h1 : 3 ≤ n) (h2 : n ≤ 6) (hx : x ∈ cutsOf n) (ho : o ∈ oddsOf) : Ffewest_rounds [x, o] = .exc 1 := by
  have k := kRef
  unfold chkRef at k
  have hn : n ∈ [3, 4, 5, 6] := by
    rcases (show n = 3 ∨ n = 4 ∨ n = 5 ∨ n = 6 by omega) with h | h | h | h <;> subst h <;> decide
  exact isExc_ok (List.all_eq_true.mp (List.all_eq_true.mp (List.all_eq_true.mp k n hn) x hx) o ho)
end PD
/-! text H8 -/
set_option maxHeartbeats 5000000
namespace PD
open PySem.Spec PySem PyProof.Rows L2 HotX L2H
open LamX (CodeO Tabs TabS TabB ExtN LamS lamEnv lam_make2)
/-! ### _law_refused -/
def N_law_refused : List Str := ["_law_one", "_law_odd", "_law_eight"]
theorem sc_law_refused : FnScope N_law_refused ["_law_one"] (defScope (top 111)) := ⟨rfl, rfl, rfl, by decide +kernel, rfl, by decide +kernel, by decide +kernel⟩
def refQ : Str := (envOfC "_law_refused" (defScope (top 111)) 0 0 .none).qual ++ "<lambda>"
def refT (P0 : Addr) : List (Addr × Str) := [(P0, refQ)]
theorem spRef_len (T : List (Addr × Str)) : ∀ vs H Q E, spRef T vs H Q E → vs.length = 1 := fun vs H Q E ⟨v, Hi, n, x, e, _⟩ => by rw [e]; rfl
section
variable {ca : Nat → Addr} {P : Program} {w : World} {K : PySem.W.Frag} {mg : Str → Option Value} {base : Heap} {f : Addr} {fd : FuncData}
theorem passB {X : Cx} {b : Heap} {A : Around} {outer : List Env} {s : Shared} {H : Hp} {E : XK} {scope : Scope} {f c' : Addr} : Passes (L2N.CX X.prog X.w) (lamCxB X b A outer s H E scope f c') E :=
  L2N.passes_call (X := lamCxB X b A outer s H E scope f c') (W := fun cls d _ H => E cls d H) (L2N.takes_of rfl rfl rfl rfl) fun _ _ _ _ h => h
/-- the defs that _law_refused's calls reach -/
structure RefG (ca : Nat → Addr) (P : Program) (w : World) (K : PySem.W.Frag) (mg : Str → Option Value) (cW fs : Addr) (fds : FuncData) : Prop where
  B : Bi mg
  G : ErrG ca mg
  C1 : ErrK ca K (ca 1) true false false
  C7 : ErrK ca K (ca 7) false true false
  C10 : ErrK ca K (ca 10) false false true
  hW : mg "WorldError" = some (.ref cW)
  x1 : PySem.W.exmOne K (.ref (ca 1)) (.ref cW) = some true
  x7 : PySem.W.exmOne K (.ref (ca 7)) (.ref cW) = some true
  x10 : PySem.W.exmOne K (.ref (ca 10)) (.ref cW) = some true
  fe : ∃ f fd, FnP K "_law_error" (top 90) f fd ∧ mg "_law_error" = some (.ref f)
  fc : ∃ f fd, FnP K "_law_came" (top 91) f fd ∧ mg "_law_came" = some (.ref f)
  sy : FnP K "_law_all_say" (top 92) fs fds
  gs : mg "_law_all_say" = some (.ref fs)
  few : ∀ b, Has ca P w K mg b "fewest_rounds" 2 7 Ffewest_rounds
theorem RefG.say {cW fs : Addr} {fds : FuncData} (R : RefG ca P w K mg cW fs fds) {D : Addr} {b1 b7 b10 : Bool} (C : ErrK ca K D b1 b7 b10) (hx : PySem.W.exmOne K (.ref D) (.ref cW) = some true) {nm txt : Str} (ht : errT b1 b7 b10 = txt) (hs : SeqAt.shaped (.tuple [.none, .str txt]) = true) (b : Heap) (fl : Addr) (J : Hp → Prop)
    (Ra : Raiser P w K mg b (11 + 1) fl D J) : FnOk P w K mg b (L2N.CX P w) 14 fs fds ["_law_calls", "_law_name"] (spSay fl J nm txt) := by
  obtain ⟨fe, fde, FE, ge⟩ := R.fe
  obtain ⟨fc, fdc, FC, gc⟩ := R.fc
  have h1 := ok_law_came (base := b) R.B R.G C R.hW hx Ra FE ge FC
  rw [ht] at h1
  exact ok_law_all_say Ra.mono hs ⟨fc, fdc, _, h1, gc, FC.kp, FC.bindsN (fun kV doc pm an cdv ct us hl => match us, hl with | [_], _ => rfl)⟩ R.sy
def notE : Stmt → Expr
  | .If (.UnaryOp .Not e _) _ _ _ => e
  | .Return (some e) _ => e
  | _ => .Constant .none 0 ⟨0, 0, 0, 0⟩
def forB : Stmt → List Stmt
  | .For _ _ b _ _ => b
  | _ => []
def atS (l : List Stmt) (n : Nat) : Stmt := l.getD n (.Pass ⟨0, 0, 0, 0⟩)
def eR0 : Expr := notE (atS (forB (atS (defBody (top 111)) 0)) 0)
def eR1 : Expr := notE (atS (defBody (top 111)) 2)
def eR2 : Expr := notE (atS (defBody (top 111)) 3)
def lamSc : Expr → Scope
  | .Call _ [.List [.Lambda _ _ sc _] _, _] _ _ => sc
  | _ => defScope (top 111)
theorem lsc (e : Expr) (h : LamX.lamSB (defScope (top 111)) (lamSc e) = true) : LamS (defScope (top 111)) (lamSc e) := LamX.lamS_by h
theorem lR0 : LamX.lamSB (defScope (top 111)) (lamSc eR0) = true := by kernel_rfl
theorem say0 {c P0 cW fs : Addr} {fds : FuncData} {A : Around} {outer : List Env} {s0 : Shared} {H0 : Hp} {E : XK} (R : RefG ca P w K mg cW fs fds) (TB : TabB base mg c P0) (hr : Room 14 (A.deeper (envOfC "_law_refused" (defScope (top 111)) s0.heap.objs.size f (.ref c)))) :
    PE (cxOf (L2N.CX P w) P w K mg base N_law_refused "_law_refused" (defScope (top 111)) f (.ref c) A outer s0 H0 E) eR0 (tSay (refT P0) (fun E => tCall (spF ca 2 Ffewest_rounds) [] E (tCons (tVar 0) (tCons (tVar 1) tNil))) (ca 1)) := by
  have hu : ∀ p ∈ refT P0, p.1 = P0 → p.2 = refQ := fun p hp _ => by rw [List.mem_singleton.mp hp]
  have hmT : (P0, refQ) ∈ refT P0 := List.mem_singleton_self _
  have bs : Binds K fds ["_law_calls", "_law_name"] [] := R.sy.bindsN (fun kV doc pm an cdv ct us hl => match us, hl with | [_, _], _ => rfl)
  have SC := fun b fl J => R.say (nm := "cutting") (txt := "cutting value") R.C1 R.x1 (by decide +kernel) (by decide +kernel) b fl J
  have tk : L2N.Takes (cxOf (L2N.CX P w) P w K mg base N_law_refused "_law_refused" (defScope (top 111)) f (.ref c) A outer s0 H0 E) (fun cls d _ H => E cls d H) := L2N.takes_of rfl rfl rfl rfl
  have px : Passes (L2N.CX P w) (cxOf (L2N.CX P w) P w K mg base N_law_refused "_law_refused" (defScope (top 111)) f (.ref c) A outer s0 H0 E) E := L2N.passes_call tk fun _ _ _ _ h => h
  have L := lsc eR0 lR0
  have fr0 : (lamSc eR0).names.lookup ("_law_one" : Str) = some .free := by kernel_rfl
  have fr1 : (lamSc eR0).names.lookup ("_law_odd" : Str) = some .free := by kernel_rfl
  refine pe_say (X := (cxOf (L2N.CX P w) P w K mg base N_law_refused "_law_refused" (defScope (top 111)) f (.ref c) A outer s0 H0 E)) (k := 11) (E := E) (scope := lamSc eR0) (params := ?pp) (body := ?bb) (c := c) (P0 := P0) (C := ca 1) (fs := fs) (fds := fds) (nm := "cutting") (txt := "cutting value") (tb := (fun E => tCall (spF ca 2 Ffewest_rounds) [] E (tCons (tVar 0) (tCons (tVar 1) tNil)))) (fun _ => rfl) TB ?g1 hmT hu ?h1 L ?h2 ?h3 SC hr px R.gs R.sy.kp bs ?h4 (by decide)
  case g1 => rfl
  case h1 => rfl
  case h4 => rfl
  case h2 => exact fun _ _ _ => rfl
  case h3 =>
    intro b f' c' A' outer' s' H' E' hr'
    exact pCallH (R.few b) hr' (passB (X := (cxOf (L2N.CX P w) P w K mg base N_law_refused "_law_refused" (defScope (top 111)) f (.ref c) A outer s0 H0 E))) (pa_cons (pe_var (i := 0) (x := "_law_one") rfl (.inr (.inr fr0))) (pa_cons (pe_var (i := 1) (x := "_law_odd") rfl (.inr (.inr fr1))) pa_nil))
theorem lR1 : LamX.lamSB (defScope (top 111)) (lamSc eR1) = true := by kernel_rfl
theorem say1 {c P0 cW fs : Addr} {fds : FuncData} {A : Around} {outer : List Env} {s0 : Shared} {H0 : Hp} {E : XK} (R : RefG ca P w K mg cW fs fds) (TB : TabB base mg c P0) (hr : Room 14 (A.deeper (envOfC "_law_refused" (defScope (top 111)) s0.heap.objs.size f (.ref c)))) :
    PE (cxOf (L2N.CX P w) P w K mg base N_law_refused "_law_refused" (defScope (top 111)) f (.ref c) A outer s0 H0 E) eR1 (tSay (refT P0) (fun E => tCall (spF ca 2 Ffewest_rounds) [] E (tCons (tVar 2) (tCons (tVar 2) tNil))) (ca 10)) := by
  have hu : ∀ p ∈ refT P0, p.1 = P0 → p.2 = refQ := fun p hp _ => by rw [List.mem_singleton.mp hp]
  have hmT : (P0, refQ) ∈ refT P0 := List.mem_singleton_self _
  have bs : Binds K fds ["_law_calls", "_law_name"] [] := R.sy.bindsN (fun kV doc pm an cdv ct us hl => match us, hl with | [_, _], _ => rfl)
  have SC := fun b fl J => R.say (nm := "many") (txt := "many value") R.C10 R.x10 (by decide +kernel) (by decide +kernel) b fl J
  have tk : L2N.Takes (cxOf (L2N.CX P w) P w K mg base N_law_refused "_law_refused" (defScope (top 111)) f (.ref c) A outer s0 H0 E) (fun cls d _ H => E cls d H) := L2N.takes_of rfl rfl rfl rfl
  have px : Passes (L2N.CX P w) (cxOf (L2N.CX P w) P w K mg base N_law_refused "_law_refused" (defScope (top 111)) f (.ref c) A outer s0 H0 E) E := L2N.passes_call tk fun _ _ _ _ h => h
  have L := lsc eR1 lR1
  have fr0 : (lamSc eR1).names.lookup ("_law_eight" : Str) = some .free := by kernel_rfl
  have fr1 : (lamSc eR1).names.lookup ("_law_eight" : Str) = some .free := by kernel_rfl
  refine pe_say (X := (cxOf (L2N.CX P w) P w K mg base N_law_refused "_law_refused" (defScope (top 111)) f (.ref c) A outer s0 H0 E)) (k := 11) (E := E) (scope := lamSc eR1) (params := ?pp) (body := ?bb) (c := c) (P0 := P0) (C := ca 10) (fs := fs) (fds := fds) (nm := "many") (txt := "many value") (tb := (fun E => tCall (spF ca 2 Ffewest_rounds) [] E (tCons (tVar 2) (tCons (tVar 2) tNil)))) (fun _ => rfl) TB ?g1 hmT hu ?h1 L ?h2 ?h3 SC hr px R.gs R.sy.kp bs ?h4 (by decide)
  case g1 => rfl
  case h1 => rfl
  case h4 => rfl
  case h2 => exact fun _ _ _ => rfl
  case h3 =>
    intro b f' c' A' outer' s' H' E' hr'
    exact pCallH (R.few b) hr' (passB (X := (cxOf (L2N.CX P w) P w K mg base N_law_refused "_law_refused" (defScope (top 111)) f (.ref c) A outer s0 H0 E))) (pa_cons (pe_var (i := 2) (x := "_law_eight") rfl (.inr (.inr fr0))) (pa_cons (pe_var (i := 2) (x := "_law_eight") rfl (.inr (.inr fr1))) pa_nil))
theorem lR2 : LamX.lamSB (defScope (top 111)) (lamSc eR2) = true := by kernel_rfl
theorem say2 {c P0 cW fs : Addr} {fds : FuncData} {A : Around} {outer : List Env} {s0 : Shared} {H0 : Hp} {E : XK} (R : RefG ca P w K mg cW fs fds) (TB : TabB base mg c P0) (hr : Room 14 (A.deeper (envOfC "_law_refused" (defScope (top 111)) s0.heap.objs.size f (.ref c)))) :
    PE (cxOf (L2N.CX P w) P w K mg base N_law_refused "_law_refused" (defScope (top 111)) f (.ref c) A outer s0 H0 E) eR2 (tSay (refT P0) (fun E => tCall (spF ca 2 Ffewest_rounds) [] E (tCons (tVar 2) (tCons (tTup (tCons (tC (.int 3)) (tCons (tTup tNil) tNil))) tNil))) (ca 7)) := by
  have hu : ∀ p ∈ refT P0, p.1 = P0 → p.2 = refQ := fun p hp _ => by rw [List.mem_singleton.mp hp]
  have hmT : (P0, refQ) ∈ refT P0 := List.mem_singleton_self _
  have bs : Binds K fds ["_law_calls", "_law_name"] [] := R.sy.bindsN (fun kV doc pm an cdv ct us hl => match us, hl with | [_, _], _ => rfl)
  have SC := fun b fl J => R.say (nm := "unlike") (txt := "unlike value") R.C7 R.x7 (by decide +kernel) (by decide +kernel) b fl J
  have tk : L2N.Takes (cxOf (L2N.CX P w) P w K mg base N_law_refused "_law_refused" (defScope (top 111)) f (.ref c) A outer s0 H0 E) (fun cls d _ H => E cls d H) := L2N.takes_of rfl rfl rfl rfl
  have px : Passes (L2N.CX P w) (cxOf (L2N.CX P w) P w K mg base N_law_refused "_law_refused" (defScope (top 111)) f (.ref c) A outer s0 H0 E) E := L2N.passes_call tk fun _ _ _ _ h => h
  have L := lsc eR2 lR2
  have fr0 : (lamSc eR2).names.lookup ("_law_eight" : Str) = some .free := by kernel_rfl
  refine pe_say (X := (cxOf (L2N.CX P w) P w K mg base N_law_refused "_law_refused" (defScope (top 111)) f (.ref c) A outer s0 H0 E)) (k := 11) (E := E) (scope := lamSc eR2) (params := ?pp) (body := ?bb) (c := c) (P0 := P0) (C := ca 7) (fs := fs) (fds := fds) (nm := "unlike") (txt := "unlike value") (tb := (fun E => tCall (spF ca 2 Ffewest_rounds) [] E (tCons (tVar 2) (tCons (tTup (tCons (tC (.int 3)) (tCons (tTup tNil) tNil))) tNil)))) (fun _ => rfl) TB ?g1 hmT hu ?h1 L ?h2 ?h3 SC hr px R.gs R.sy.kp bs ?h4 (by decide)
  case g1 => rfl
  case h1 => rfl
  case h4 => rfl
  case h2 => exact fun _ _ _ => rfl
  case h3 =>
    intro b f' c' A' outer' s' H' E' hr'
    exact pCallH (R.few b) hr' (passB (X := (cxOf (L2N.CX P w) P w K mg base N_law_refused "_law_refused" (defScope (top 111)) f (.ref c) A outer s0 H0 E))) (pa_cons (pe_var (i := 2) (x := "_law_eight") rfl (.inr (.inr fr0))) (pa_cons (pe_tup (pa_cons pe_int (pa_cons (pe_tup pa_nil) pa_nil))) pa_nil))
theorem ok_law_refused {c P0 cW fs : Addr} {fds : FuncData} (R : RefG ca P w K mg cW fs fds) (TB : TabB base mg c P0) (hcode : fd.code = .ref c) (FN : FnP K "_law_refused" (top 111) f fd) (hbad : Has ca P w K mg base "_law_bad_cuttings" 0 1 F_law_bad_cuttings) :
    FnOk P w K mg base (L2N.CX P w) 15 f fd ["_law_one"] (spRef (refT P0)) := by
  obtain ⟨oc, od, dV, kV, doc, pm, an, cdv, ct, osl, rfl, lk, hcd, _, _⟩ := FN.ex
  obtain rfl : cdv = .ref c := hcode
  refine fn_of lk hcd sc_law_refused (spRef_len _) fun A outer s0 H0 vs Q E hr hsp => ?_
  have nd := sc_law_refused.nd
  have hc : (cxOf (L2N.CX P w) P w K mg base N_law_refused "_law_refused" (defScope (top 111)) f (.ref c) A outer s0 H0 E).calm = true := rfl
  have tk : L2N.Takes (cxOf (L2N.CX P w) P w K mg base N_law_refused "_law_refused" (defScope (top 111)) f (.ref c) A outer s0 H0 E) (fun cls d _ H => E cls d H) := L2N.takes_of rfl rfl rfl rfl
  have px : Passes (L2N.CX P w) (cxOf (L2N.CX P w) P w K mg base N_law_refused "_law_refused" (defScope (top 111)) f (.ref c) A outer s0 H0 E) E := L2N.passes_call tk fun _ _ _ _ h => h
  obtain ⟨fb, fdb, psb, hb1, hb2, hb3, hb4⟩ := hbad
  obtain ⟨t8, p8, q8⟩ := (show OkE ca E (cxOf (L2N.CX P w) P w K mg base N_law_refused "_law_refused" (defScope (top 111)) f (.ref c) A outer s0 H0 E) (match (defBody (top 111)).getD 1 (.Pass ⟨0, 0, 0, 0⟩) with | .Assign _ e _ => e | _ => .Constant .none 0 ⟨0, 0, 0, 0⟩) (eTup (aCons (eC (.int 8)) (aCons (eTup (aCons (eTup (aCons (eC (.int 0)) (aCons (eC (.int 2)) aNil))) (aCons (eTup (aCons (eC (.int 0)) (aCons (eC (.int 3)) aNil))) (aCons (eTup (aCons (eC (.int 0)) (aCons (eC (.int 4)) aNil))) (aCons (eTup (aCons (eC (.int 0)) (aCons (eC (.int 5)) aNil))) (aCons (eTup (aCons (eC (.int 0)) (aCons (eC (.int 6)) aNil))) aNil)))))) aNil))) from (okE_tup (okA_cons okE_int (okA_cons (okE_tup (okA_cons (okE_tup (okA_cons okE_int (okA_cons okE_int okA_nil))) (okA_cons (okE_tup (okA_cons okE_int (okA_cons okE_int okA_nil))) (okA_cons (okE_tup (okA_cons okE_int (okA_cons okE_int okA_nil))) (okA_cons (okE_tup (okA_cons okE_int (okA_cons okE_int okA_nil))) (okA_cons (okE_tup (okA_cons okE_int (okA_cons okE_int okA_nil))) okA_nil)))))) okA_nil))))
  refine ⟨_, pss_cons (ps_for (passes_of rfl) hc (pi_list (pe_call0 (hb1.mono (show 1 ≤ 14 by decide)) hr rfl hb2 hb3 hb4 .nil px)) (pg_name (i := 1) nd rfl (Or.inr rfl) (.inl rfl))
      (pss_one (ps_if (pt_not (pt_val (say0 R TB hr) (by intro _; rfl))) (pss_one (ps_ret pe_bl)) pss_nil)))
    (pss_cons (ps_set (i := 2) nd rfl (Or.inr rfl) p8)
    (pss_cons (ps_if (pt_not (pt_val (say1 R TB hr) (by intro _; rfl))) (pss_one (ps_ret pe_bl)) pss_nil)
    (pss_one (ps_ret (say2 R TB hr))))), ?_⟩
  obtain ⟨v, Hi, n, x, e, sb, rx, n3, n6, hx, hT, hq⟩ := hsp
  subst e
  refine ⟨[], Hi, sb, .nil, rfl, ?_⟩
  rw [odds_eq]
  intro v' Hi' H1 x1 r1
  cases r1 with
  | @lst a xs _ ea ra =>
  have sq : SqL K H1 a xs := .inl (.inl (x1.le _ _ ea))
  have rx1 : Rp H1 v x := rx.sub (sb.trans x1.al)
  have ra1 : RpAll H1 xs oddsOf := ra.sub x1.le
  refine ⟨a, rfl, ⟨xs, sq⟩, for_list (xs := xs) (fun i σ H => (∃ u1 u2, σ = [some v, u1, u2]) ∧ ExtN H1 H ∧ Tabs (refT P0) H) ⟨⟨none, none, rfl⟩, .refl _, hT.ext x1.al⟩ (fun i σ H _ hp => SqL.extN sq hp.2.1) (fun i x' σ H hi ⟨⟨u1, u2, hσ⟩, e1, T1⟩ => ?_) fun σ H ⟨⟨u1, u2, hσ⟩, e1, T1⟩ => ?_⟩
  · subst hσ
    refine ⟨T1, fun H2 e2 HZ s2 E' Q' hE => ?_, fun H2 e2 T2 => ⟨true, rfl, iteF ⟨⟨some x', u2, rfl⟩, e1.trans e2, T2⟩⟩⟩
    have eN : ∀ {u : V} {o : PyData}, Rp H1 u o → Rp HZ u o := fun r => ((r.extN e1).extN e2).sub s2
    have hlt : i < oddsOf.length := by
      rw [← ra.length]
      exact (List.getElem?_eq_some_iff.mp hi).1
    have ho : oddsOf[i]? = some oddsOf[i] := List.getElem?_eq_getElem hlt
    refine ⟨v, rfl, x', rfl, [x, oddsOf[i]], HZ, .refl _, .cons (eN rx1) (.cons (eN (ra1.at ho hi)) .nil), rfl, ?_⟩
    rw [ref_odd n3 n6 hx (List.mem_of_getElem? ho)]
    exact fun Hi' H' dx y => hE dx H' y.al
  · subst hσ
    refine q8 (fun _ => none) (List.replicate 3 none) _ (fun _ => none) H _ (slots_none rfl) (fun _ _ z => by cases z) ?_
    rw [show (eTup (aCons (eC (.int 8)) (aCons (eTup (aCons (eTup (aCons (eC (.int 0)) (aCons (eC (.int 2)) aNil))) (aCons (eTup (aCons (eC (.int 0)) (aCons (eC (.int 3)) aNil))) (aCons (eTup (aCons (eC (.int 0)) (aCons (eC (.int 4)) aNil))) (aCons (eTup (aCons (eC (.int 0)) (aCons (eC (.int 5)) aNil))) (aCons (eTup (aCons (eC (.int 0)) (aCons (eC (.int 6)) aNil))) aNil)))))) aNil))) (List.replicate 3 none) = .ok eightD by kernel_rfl]
    intro v8 Hi8 H8 x8 r8
    have r8' : Rp H8 v8 eightD := r8.sub x8.le
    refine ⟨T1.ext x8.al, fun H2 e2 HZ s2 E' Q' hE => ?_, fun H2 e2 T2 => ⟨true, rfl, iteF ?_⟩⟩
    · have rz : Rp HZ v8 eightD := (r8'.extN e2).sub s2
      refine ⟨v8, rfl, v8, rfl, [eightD, eightD], HZ, .refl _, .cons rz (.cons rz .nil), rfl, ?_⟩
      rw [isExc_ok kMany]
      exact fun Hi' H' dx y => hE dx H' y.al
    · refine ⟨T2, fun H3 e3 HZ s3 E' Q' hE => ?_, fun H3 e3 T3 => hq H3 (((ExtN.of x1.al).trans e1).trans (((ExtN.of x8.al).trans e2).trans e3)) T3⟩
      have rz : Rp HZ v8 eightD := ((r8'.extN e2).extN e3).sub s3
      refine ⟨v8, rfl, Nat.zero_le _, fun p hp => ⟨(by show 2 ≤ sizeLine; decide), fun q hq' => ?_⟩⟩
      have sp := Sub.up (o := .tup []) hp
      have sq' := Sub.up (o := .tup [.int 3, .ref p]) hq'
      refine ⟨[eightD, threeD], _, .refl _, .cons (rz.sub (sp.trans sq')) (.cons (.tup upd_same (.cons (.int 3) (.cons (.tup (sq' _ _ upd_same) .nil) .nil))) .nil), rfl, ?_⟩
      rw [isExc_ok kUnlike]
      exact fun Hi' H' dx y => hE dx H' ((sp.trans sq').trans y.al)
end
end PD
/-! text HD3 -/
set_option maxHeartbeats 0
namespace PD
open PySem.Spec PySem PyProof.Rows L2 HotX L2H
def caN (K : PySem.W.Frag) (n : Nat) : Addr := He.ga K (match n with
  | 1 => "InvalidCutting"
  | 2 => "InvalidCorner"
  | 3 => "InvalidCut"
  | 4 => "InvalidCuts"
  | 5 => "InvalidSides"
  | 6 => "InvalidNumber"
  | 7 => "Unlike"
  | 8 => "InvalidWay"
  | 9 => "InvalidField"
  | 10 => "TooMany"
  | _ => "WorldError")
theorem sameO_ok {a b : Option Bool} (h : sameO a b = true) : a = b := of_decide_eq_true h
theorem and2 {a b : Bool} (h : (a && b) = true) : a = true ∧ b = true := Bool.and_eq_true_iff.mp h
section
variable {K : PySem.W.Frag} {h : Heap} {mg : Str → Option Value} {w : World}
theorem excB_ok {D : Addr} (c : excB K D = true) : ExcC K D := by
  obtain ⟨c1, c⟩ := and2 c
  obtain ⟨c2, c⟩ := and2 c
  obtain ⟨c3, c⟩ := and2 c
  obtain ⟨c4, c⟩ := and2 c
  obtain ⟨c5, c⟩ := and2 c
  obtain ⟨c6, c⟩ := and2 c
  obtain ⟨c7, c8⟩ := and2 c
  exact ⟨He.eqO_ok c1, He.eqO_ok c2, sameO_ok c3, c4, He.eqO_ok c5, He.eqO_ok c6, sameO_ok c7, sameO_ok c8⟩
theorem kitB_ok {D : Addr} {b1 b7 b10 : Bool} (c : kitB K D b1 b7 b10 = true) : ErrK (caN K) K D b1 b7 b10 := by
  obtain ⟨c, c3⟩ := and2 c
  obtain ⟨c1, c2⟩ := and2 c
  have z := fun (p : Str × Bool) hp => sameO_ok (List.all_eq_true.mp c2 p hp)
  exact ⟨excB_ok c1, z ("InvalidCutting", b1) (by simp), z ("InvalidCorner", false) (by simp), z ("InvalidCuts", false) (by simp), z ("InvalidSides", false) (by simp), z ("Unlike", b7) (by simp), z ("InvalidWay", false) (by simp), z ("InvalidField", false) (by simp), z ("TooMany", b10) (by simp), sameO_ok c3⟩
theorem oexB_ok {C : Addr} (c : oexB K C = true) : ∃ nm q N bs bm sn sub ab col dd k0 k1 k2 k3 k5, K.lookup C = some (excClassObj nm q C N bs bm true sn sub ab col dd k0 k1 k2 k3 k5 "ValueError.__new__") ∧ PySem.HandSPX.refsVE bm = true := by
  unfold oexB at c
  split at c
  case h_2 => cases c
  rename_i ty dd cd sl ho
  split at c
  case h_2 => cases c
  rename_i D bm k0 k1 k2 k3 n k5 hm hs
  obtain ⟨c1, c⟩ := and2 c
  obtain ⟨c2, c⟩ := and2 c
  obtain ⟨c3, c⟩ := and2 c
  obtain ⟨c4, c⟩ := and2 c
  obtain ⟨c5, c6⟩ := and2 c
  have e1 := of_decide_eq_true c1
  have e2 := of_decide_eq_true c2
  have e3 := of_decide_eq_true c3
  subst e1 e2 e3
  obtain ⟨nm, bs, mro, ns, qn, hd, sn, sb, ab, col, del⟩ := cd
  dsimp only at hm c4 c5
  subst hm
  have hsl : sl = #[k0, k1, k2, k3, some (.builtin "ValueError.__new__"), k5] := by
    obtain ⟨l⟩ := sl
    exact congrArg Array.mk hs
  subst hsl
  cases hd with
  | false => cases c5
  | true =>
    cases del with
    | true => cases c4
    | false => exact ⟨nm, qn, ns, bs, bm, sn, sb, ab, col, dd, k0, k1, k2, k3, k5, ho, c6⟩
theorem excF_ok {x : Str} {n : Nat} (X : K.In h) (G : h.Ns mainGlobals mg) (c : (He.Fa.exc x).ok K = true) (g : (He.Fa.glo x).ok K = true) (e : caN K n = He.ga K x := by rfl) : ExC K mg x (caN K n) := by
  rw [e]
  obtain ⟨q, k, s1, s2⟩ := He.exc_ok c
  exact ⟨q, He.glo_ok X G g, k, s1, s2⟩
theorem ini_ok (c : iniW K = iniV) : ∃ oc od osl kV doc pm an cdv ct cc, K.lookup (He.fAd K dIni) = some ⟨oc, od, .func (PySem.W.fnX "__init__" qTM argTM bodyTM scTM [("__class__", cc)] .none kV doc pm an cdv ct), osl⟩ ∧ iniC K = cc := by
  unfold iniW at c
  split at c
  case h_2 => cases c
  rename_i oc od fd osl ho
  obtain ⟨n1, n2, n3, n4, n5, n6, n7, n8, n9, n10, n11, n12, n13, n14, n15⟩ := fd
  have c2 : (some (n1, n2, n3, n4, n5, n6, n7.map (·.1), n15, n8) : InT) = iniV := c
  unfold iniV at c2
  simp only [Option.some.injEq, Prod.mk.injEq] at c2
  obtain ⟨h1, h2, h3, h4, h5, h6, h7, h8, h9⟩ := c2
  subst h1 h2 h3 h4 h5 h6 h8 h9
  match n7, h7, ho with
  | [(y, cc)], h7, ho =>
    have e : y = "__class__" := List.cons.inj h7 |>.1
    subst e
    refine ⟨oc, od, osl, n9, n10, n11, n12, n13, n14, cc, ho, ?_⟩
    unfold iniC
    rw [ho]
  | [], h7, _ => exact absurd (congrArg List.length h7) (by simp)
  | _ :: _ :: _, h7, _ => exact absurd (congrArg List.length h7) (by simp)
theorem tmk_ok (X : K.In h) (G : h.Ns mainGlobals mg) (S : SaysY w h K) (base : Heap) : TMk (caN K) Pg w K mg base := by
  have d := S.x.t.d
  obtain ⟨c1, c⟩ := and2 S.x.more
  obtain ⟨c2, c⟩ := and2 c
  obtain ⟨c3, _⟩ := and2 c
  obtain ⟨t1, c1⟩ := and2 c1
  obtain ⟨t2, c1⟩ := and2 c1
  obtain ⟨t3, c1⟩ := and2 c1
  obtain ⟨t4, c1⟩ := and2 c1
  obtain ⟨t5, c1⟩ := and2 c1
  obtain ⟨t6, c1⟩ := and2 c1
  obtain ⟨t7, c1⟩ := and2 c1
  obtain ⟨t8, c1⟩ := and2 c1
  obtain ⟨t9, c1⟩ := and2 c1
  obtain ⟨t10, c1⟩ := and2 c1
  obtain ⟨t11, t12⟩ := and2 c1
  obtain ⟨oc, od, osl, kV, doc, pm, an, cdv, ct, cc, lk, ec⟩ := ini_ok S.ini
  have T : OexC K (kT K) := ⟨oexB_ok t1, He.eqO_ok t2, sameO_ok t3, of_decide_eq_true t4, t5⟩
  unfold celB at c3
  rw [ec] at c3
  split at c3
  case h_2 => cases c3
  rename_i cl cld D csl hcell
  have eD := of_decide_eq_true c3
  subst eD
  unfold codB at c2
  rw [lk] at c2
  dsimp only [PySem.W.fnX] at c2
  split at c2
  case h_2 => cases c2
  rename_i cda
  split at c2
  case h_2 => cases c2
  rename_i ccl cdd vs ccs hcd
  split at c2
  case h_2 => cases c2
  rename_i file tf hv
  obtain ⟨k1, k2⟩ := and2 c2
  have M : TmK Pg K mg (He.fAd K dIni) (kT K) cc (PySem.W.fnX "__init__" qTM argTM bodyTM scTM [("__class__", cc)] .none kV doc pm an (.ref cda) ct) :=
    ⟨T, ⟨oc, od, osl, .none, kV, doc, pm, an, _, ct, cda, rfl, lk, k1, rfl, ccl, cdd, vs, ccs, file, tf, hcd, hv, k2⟩, ⟨cl, cld, csl, hcell⟩, (He.free_ok X G (d.fact 115 rfl)), by kernel_rfl, He.eqO_ok t8, He.eqO_ok t9, sameO_ok t10, sameO_ok t11, He.eqO_ok t12⟩
  exact ⟨(He.glo_ok X G (d.fact 97 rfl)), T, He.fAd K dIni, _, _, He.eqO_ok t6, of_decide_eq_true t7, tm_ok M, Binds.all fun us hl => match us, hl with | [_, _], _ => rfl⟩
/-- what the law's calls reach -/
structure AllH (w : World) (K : PySem.W.Frag) (mg : Str → Option Value) (base : Heap) : Prop where
  few : Has (caN K) Pg w K mg base "fewest_rounds" 2 7 Ffewest_rounds
  known : Has (caN K) Pg w K mg base "_law_known" 0 1 F_law_known
  bad : Has (caN K) Pg w K mg base "_law_bad_cuttings" 0 1 F_law_bad_cuttings
  spring : HasS Pg w K mg base "_law_spring" 1 (spSpring K)
  pick : HasS Pg w K mg base "_law_pick" 1 spPick
  cut : HasS Pg w K mg base "_law_cutting" 9 spCt
  agree : HasS Pg w K mg base "_law_agree" 12 spTwo
  right : HasS Pg w K mg base "_law_rounds_right" 12 spTwo
theorem bi_ok (X : K.In h) (G : h.Ns mainGlobals mg) (S : SaysY w h K) : Bi mg := by
  have d := S.x.t.d
  exact ⟨(He.free_ok X G (d.fact 98 rfl)), (He.free_ok X G (d.fact 99 rfl)), (He.free_ok X G (d.fact 100 rfl)), (He.free_ok X G (d.fact 101 rfl)), (He.free_ok X G (d.fact 102 rfl)), (He.free_ok X G (d.fact 103 rfl)), (He.free_ok X G (d.fact 104 rfl)), (He.free_ok X G (d.fact 105 rfl)), (He.free_ok X G (d.fact 106 rfl)), (He.free_ok X G (d.fact 107 rfl)), (He.free_ok X G (d.fact 108 rfl)), (He.free_ok X G (d.fact 109 rfl)), (He.free_ok X G (d.fact 110 rfl)), (He.free_ok X G (d.fact 111 rfl)), (He.free_ok X G (d.fact 112 rfl))⟩
theorem allH_ok (X : K.In h) (G : h.Ns mainGlobals mg) (S : SaysY w h K) (base : Heap) : AllH w K mg base := by
  have d := S.x.t.d
  have B := bi_ok X G S
  have xTooMany := tmk_ok X G S base
  have xInvalidCutting : ExC K mg "InvalidCutting" (caN K 1) := excF_ok X G (d.fact 121 rfl) (d.fact 88 rfl)
  have xInvalidCorner : ExC K mg "InvalidCorner" (caN K 2) := excF_ok X G (d.fact 122 rfl) (d.fact 89 rfl)
  have xInvalidCut : ExC K mg "InvalidCut" (caN K 3) := excF_ok X G (d.fact 123 rfl) (d.fact 90 rfl)
  have xInvalidCuts : ExC K mg "InvalidCuts" (caN K 4) := excF_ok X G (d.fact 124 rfl) (d.fact 91 rfl)
  have xInvalidNumber : ExC K mg "InvalidNumber" (caN K 6) := excF_ok X G (d.fact 125 rfl) (d.fact 93 rfl)
  have xUnlike : ExC K mg "Unlike" (caN K 7) := excF_ok X G (d.fact 126 rfl) (d.fact 94 rfl)
  have xInvalidWay : ExC K mg "InvalidWay" (caN K 8) := excF_ok X G (d.fact 127 rfl) (d.fact 95 rfl)
  obtain ⟨fd_is_whole, F_is_whole⟩ := d.def_ 0 (d := dfn "is_whole" 14) rfl
  have gl_is_whole : mg "is_whole" = some (.ref (He.fAd K ("is_whole", none))) := (He.glo_ok X G (d.fact 0 rfl))
  obtain ⟨fd_are_next, F_are_next⟩ := d.def_ 1 (d := dfn "are_next" 15) rfl
  have gl_are_next : mg "are_next" = some (.ref (He.fAd K ("are_next", none))) := (He.glo_ok X G (d.fact 1 rfl))
  obtain ⟨fd_fits_cut, F_fits_cut⟩ := d.def_ 2 (d := dfn "fits_cut" 16) rfl
  have gl_fits_cut : mg "fits_cut" = some (.ref (He.fAd K ("fits_cut", none))) := (He.glo_ok X G (d.fact 2 rfl))
  obtain ⟨fd_cross, F_cross⟩ := d.def_ 3 (d := dfn "cross" 17) rfl
  have gl_cross : mg "cross" = some (.ref (He.fAd K ("cross", none))) := (He.glo_ok X G (d.fact 3 rfl))
  obtain ⟨fd_rises, F_rises⟩ := d.def_ 4 (d := dfn "rises" 18) rfl
  have gl_rises : mg "rises" = some (.ref (He.fAd K ("rises", none))) := (He.glo_ok X G (d.fact 4 rfl))
  obtain ⟨fd_fits_cutting, F_fits_cutting⟩ := d.def_ 5 (d := dfn "fits_cutting" 19) rfl
  have gl_fits_cutting : mg "fits_cutting" = some (.ref (He.fAd K ("fits_cutting", none))) := (He.glo_ok X G (d.fact 5 rfl))
  obtain ⟨fd_all_ties, F_all_ties⟩ := d.def_ 6 (d := dfn "all_ties" 20) rfl
  have gl_all_ties : mg "all_ties" = some (.ref (He.fAd K ("all_ties", none))) := (He.glo_ok X G (d.fact 6 rfl))
  obtain ⟨fd_near_of, F_near_of⟩ := d.def_ 7 (d := dfn "near_of" 21) rfl
  have gl_near_of : mg "near_of" = some (.ref (He.fAd K ("near_of", none))) := (He.glo_ok X G (d.fact 7 rfl))
  obtain ⟨fd_thirds_of, F_thirds_of⟩ := d.def_ 8 (d := dfn "thirds_of" 22) rfl
  have gl_thirds_of : mg "thirds_of" = some (.ref (He.fAd K ("thirds_of", none))) := (He.glo_ok X G (d.fact 8 rfl))
  obtain ⟨fd_need_cutting, F_need_cutting⟩ := d.def_ 9 (d := dfn "need_cutting" 23) rfl
  have gl_need_cutting : mg "need_cutting" = some (.ref (He.fAd K ("need_cutting", none))) := (He.glo_ok X G (d.fact 9 rfl))
  obtain ⟨fd_need_corner, F_need_corner⟩ := d.def_ 10 (d := dfn "need_corner" 24) rfl
  have gl_need_corner : mg "need_corner" = some (.ref (He.fAd K ("need_corner", none))) := (He.glo_ok X G (d.fact 10 rfl))
  obtain ⟨fd_need_cut, F_need_cut⟩ := d.def_ 11 (d := dfn "need_cut" 25) rfl
  have gl_need_cut : mg "need_cut" = some (.ref (He.fAd K ("need_cut", none))) := (He.glo_ok X G (d.fact 11 rfl))
  obtain ⟨fd_need_number, F_need_number⟩ := d.def_ 12 (d := dfn "need_number" 26) rfl
  have gl_need_number : mg "need_number" = some (.ref (He.fAd K ("need_number", none))) := (He.glo_ok X G (d.fact 12 rfl))
  obtain ⟨fd_need_few, F_need_few⟩ := d.def_ 13 (d := dfn "need_few" 27) rfl
  have gl_need_few : mg "need_few" = some (.ref (He.fAd K ("need_few", none))) := (He.glo_ok X G (d.fact 13 rfl))
  obtain ⟨fd_cut_for, F_cut_for⟩ := d.def_ 14 (d := dfn "cut_for" 29) rfl
  have gl_cut_for : mg "cut_for" = some (.ref (He.fAd K ("cut_for", none))) := (He.glo_ok X G (d.fact 14 rfl))
  obtain ⟨fd_with_cut, F_with_cut⟩ := d.def_ 15 (d := dfn "with_cut" 30) rfl
  have gl_with_cut : mg "with_cut" = some (.ref (He.fAd K ("with_cut", none))) := (He.glo_ok X G (d.fact 15 rfl))
  obtain ⟨fd_swapped_at, F_swapped_at⟩ := d.def_ 16 (d := dfn "swapped_at" 31) rfl
  have gl_swapped_at : mg "swapped_at" = some (.ref (He.fAd K ("swapped_at", none))) := (He.glo_ok X G (d.fact 16 rfl))
  obtain ⟨fd_way_to_fan, F_way_to_fan⟩ := d.def_ 17 (d := dfn "way_to_fan" 32) rfl
  have gl_way_to_fan : mg "way_to_fan" = some (.ref (He.fAd K ("way_to_fan", none))) := (He.glo_ok X G (d.fact 17 rfl))
  obtain ⟨fd_comes_for, F_comes_for⟩ := d.def_ 18 (d := dfn "comes_for" 33) rfl
  have gl_comes_for : mg "comes_for" = some (.ref (He.fAd K ("comes_for", none))) := (He.glo_ok X G (d.fact 18 rfl))
  obtain ⟨fd_exchanged, F_exchanged⟩ := d.def_ 19 (d := dfn "exchanged" 34) rfl
  have gl_exchanged : mg "exchanged" = some (.ref (He.fAd K ("exchanged", none))) := (He.glo_ok X G (d.fact 19 rfl))
  obtain ⟨fd_fan_way, F_fan_way⟩ := d.def_ 20 (d := dfn "fan_way" 35) rfl
  have gl_fan_way : mg "fan_way" = some (.ref (He.fAd K ("fan_way", none))) := (He.glo_ok X G (d.fact 20 rfl))
  obtain ⟨fd_type_is_whole, F_type_is_whole⟩ := d.def_ 22 (d := dfn "type_is_whole" 39) rfl
  have gl_type_is_whole : mg "type_is_whole" = some (.ref (He.fAd K ("type_is_whole", none))) := (He.glo_ok X G (d.fact 22 rfl))
  obtain ⟨fd_way_steps, F_way_steps⟩ := d.def_ 21 (d := dfn "way_steps" 38) rfl
  have gl_way_steps : mg "way_steps" = some (.ref (He.fAd K ("way_steps", none))) := (He.glo_ok X G (d.fact 21 rfl))
  obtain ⟨fd_leads_to, F_leads_to⟩ := d.def_ 23 (d := dfn "leads_to" 40) rfl
  have gl_leads_to : mg "leads_to" = some (.ref (He.fAd K ("leads_to", none))) := (He.glo_ok X G (d.fact 23 rfl))
  obtain ⟨fd_steps_to_fan, F_steps_to_fan⟩ := d.def_ 24 (d := dfn "steps_to_fan" 41) rfl
  have gl_steps_to_fan : mg "steps_to_fan" = some (.ref (He.fAd K ("steps_to_fan", none))) := (He.glo_ok X G (d.fact 24 rfl))
  obtain ⟨fd_need_two, F_need_two⟩ := d.def_ 25 (d := dfn "need_two" 42) rfl
  have gl_need_two : mg "need_two" = some (.ref (He.fAd K ("need_two", none))) := (He.glo_ok X G (d.fact 25 rfl))
  obtain ⟨fd_need_way, F_need_way⟩ := d.def_ 26 (d := dfn "need_way" 43) rfl
  have gl_need_way : mg "need_way" = some (.ref (He.fAd K ("need_way", none))) := (He.glo_ok X G (d.fact 26 rfl))
  obtain ⟨fd_behind_way, F_behind_way⟩ := d.def_ 27 (d := dfn "behind_way" 44) rfl
  have gl_behind_way : mg "behind_way" = some (.ref (He.fAd K ("behind_way", none))) := (He.glo_ok X G (d.fact 27 rfl))
  obtain ⟨fd_way_back, F_way_back⟩ := d.def_ 28 (d := dfn "way_back" 45) rfl
  have gl_way_back : mg "way_back" = some (.ref (He.fAd K ("way_back", none))) := (He.glo_ok X G (d.fact 28 rfl))
  obtain ⟨fd_far_from_fan, F_far_from_fan⟩ := d.def_ 29 (d := dfn "far_from_fan" 46) rfl
  have gl_far_from_fan : mg "far_from_fan" = some (.ref (He.fAd K ("far_from_fan", none))) := (He.glo_ok X G (d.fact 29 rfl))
  obtain ⟨fd_way_by_fan, F_way_by_fan⟩ := d.def_ 30 (d := dfn "way_by_fan" 47) rfl
  have gl_way_by_fan : mg "way_by_fan" = some (.ref (He.fAd K ("way_by_fan", none))) := (He.glo_ok X G (d.fact 30 rfl))
  obtain ⟨fd_of_one_piece, F_of_one_piece⟩ := d.def_ 31 (d := dfn "of_one_piece" 50) rfl
  have gl_of_one_piece : mg "of_one_piece" = some (.ref (He.fAd K ("of_one_piece", none))) := (He.glo_ok X G (d.fact 31 rfl))
  obtain ⟨fd_are_loose, F_are_loose⟩ := d.def_ 32 (d := dfn "are_loose" 51) rfl
  have gl_are_loose : mg "are_loose" = some (.ref (He.fAd K ("are_loose", none))) := (He.glo_ok X G (d.fact 32 rfl))
  obtain ⟨fd_round_behind, F_round_behind⟩ := d.def_ 33 (d := dfn "round_behind" 52) rfl
  have gl_round_behind : mg "round_behind" = some (.ref (He.fAd K ("round_behind", none))) := (He.glo_ok X G (d.fact 33 rfl))
  obtain ⟨fd_all_loose, F_all_loose⟩ := d.def_ 34 (d := dfn "all_loose" 53) rfl
  have gl_all_loose : mg "all_loose" = some (.ref (He.fAd K ("all_loose", none))) := (He.glo_ok X G (d.fact 34 rfl))
  obtain ⟨fd_loose_between, F_loose_between⟩ := d.def_ 35 (d := dfn "loose_between" 54) rfl
  have gl_loose_between : mg "loose_between" = some (.ref (He.fAd K ("loose_between", none))) := (He.glo_ok X G (d.fact 35 rfl))
  obtain ⟨fd_rounds_between, F_rounds_between⟩ := d.def_ 36 (d := dfn "rounds_between" 55) rfl
  have gl_rounds_between : mg "rounds_between" = some (.ref (He.fAd K ("rounds_between", none))) := (He.glo_ok X G (d.fact 36 rfl))
  obtain ⟨fd_exchanged_at_once, F_exchanged_at_once⟩ := d.def_ 37 (d := dfn "exchanged_at_once" 56) rfl
  have gl_exchanged_at_once : mg "exchanged_at_once" = some (.ref (He.fAd K ("exchanged_at_once", none))) := (He.glo_ok X G (d.fact 37 rfl))
  obtain ⟨fd_most_at_once, F_most_at_once⟩ := d.def_ 38 (d := dfn "most_at_once" 57) rfl
  have gl_most_at_once : mg "most_at_once" = some (.ref (He.fAd K ("most_at_once", none))) := (He.glo_ok X G (d.fact 38 rfl))
  obtain ⟨fd_fewest_rounds, F_fewest_rounds⟩ := d.def_ 39 (d := dfn "fewest_rounds" 58) rfl
  have gl_fewest_rounds : mg "fewest_rounds" = some (.ref (He.fAd K ("fewest_rounds", none))) := (He.glo_ok X G (d.fact 39 rfl))
  obtain ⟨fd_cuts_of_both, F_cuts_of_both⟩ := d.def_ 40 (d := dfn "cuts_of_both" 60) rfl
  have gl_cuts_of_both : mg "cuts_of_both" = some (.ref (He.fAd K ("cuts_of_both", none))) := (He.glo_ok X G (d.fact 40 rfl))
  obtain ⟨fd_split_by, F_split_by⟩ := d.def_ 41 (d := dfn "split_by" 61) rfl
  have gl_split_by : mg "split_by" = some (.ref (He.fAd K ("split_by", none))) := (He.glo_ok X G (d.fact 41 rfl))
  obtain ⟨fd_fields_by, F_fields_by⟩ := d.def_ 42 (d := dfn "fields_by" 62) rfl
  have gl_fields_by : mg "fields_by" = some (.ref (He.fAd K ("fields_by", none))) := (He.glo_ok X G (d.fact 42 rfl))
  obtain ⟨fd_fields_of, F_fields_of⟩ := d.def_ 43 (d := dfn "fields_of" 63) rfl
  have gl_fields_of : mg "fields_of" = some (.ref (He.fAd K ("fields_of", none))) := (He.glo_ok X G (d.fact 43 rfl))
  obtain ⟨fd_piece_within, F_piece_within⟩ := d.def_ 44 (d := dfn "piece_within" 64) rfl
  have gl_piece_within : mg "piece_within" = some (.ref (He.fAd K ("piece_within", none))) := (He.glo_ok X G (d.fact 44 rfl))
  obtain ⟨fd_shared_cuts, F_shared_cuts⟩ := d.def_ 45 (d := dfn "shared_cuts" 65) rfl
  have gl_shared_cuts : mg "shared_cuts" = some (.ref (He.fAd K ("shared_cuts", none))) := (He.glo_ok X G (d.fact 45 rfl))
  obtain ⟨fd_nexts_of, F_nexts_of⟩ := d.def_ 46 (d := dfn "nexts_of" 68) rfl
  have gl_nexts_of : mg "nexts_of" = some (.ref (He.fAd K ("nexts_of", none))) := (He.glo_ok X G (d.fact 46 rfl))
  obtain ⟨fd_reach_from, F_reach_from⟩ := d.def_ 47 (d := dfn "reach_from" 69) rfl
  have gl_reach_from : mg "reach_from" = some (.ref (He.fAd K ("reach_from", none))) := (He.glo_ok X G (d.fact 47 rfl))
  obtain ⟨fd_back_from, F_back_from⟩ := d.def_ 48 (d := dfn "back_from" 70) rfl
  have gl_back_from : mg "back_from" = some (.ref (He.fAd K ("back_from", none))) := (He.glo_ok X G (d.fact 48 rfl))
  obtain ⟨fd_pairs_within, F_pairs_within⟩ := d.def_ 49 (d := dfn "pairs_within" 71) rfl
  have gl_pairs_within : mg "pairs_within" = some (.ref (He.fAd K ("pairs_within", none))) := (He.glo_ok X G (d.fact 49 rfl))
  obtain ⟨fd_bringing, F_bringing⟩ := d.def_ 50 (d := dfn "bringing" 72) rfl
  have gl_bringing : mg "bringing" = some (.ref (He.fAd K ("bringing", none))) := (He.glo_ok X G (d.fact 50 rfl))
  obtain ⟨fd_way_in, F_way_in⟩ := d.def_ 51 (d := dfn "way_in" 73) rfl
  have gl_way_in : mg "way_in" = some (.ref (He.fAd K ("way_in", none))) := (He.glo_ok X G (d.fact 51 rfl))
  obtain ⟨fd_picks_of, F_picks_of⟩ := d.def_ 52 (d := dfn "picks_of" 74) rfl
  have gl_picks_of : mg "picks_of" = some (.ref (He.fAd K ("picks_of", none))) := (He.glo_ok X G (d.fact 52 rfl))
  obtain ⟨fd_need_fields, F_need_fields⟩ := d.def_ 53 (d := dfn "need_fields" 75) rfl
  have gl_need_fields : mg "need_fields" = some (.ref (He.fAd K ("need_fields", none))) := (He.glo_ok X G (d.fact 53 rfl))
  obtain ⟨fd_fewest_exchanges, F_fewest_exchanges⟩ := d.def_ 54 (d := dfn "fewest_exchanges" 76) rfl
  have gl_fewest_exchanges : mg "fewest_exchanges" = some (.ref (He.fAd K ("fewest_exchanges", none))) := (He.glo_ok X G (d.fact 54 rfl))
  obtain ⟨fd_least_way, F_least_way⟩ := d.def_ 55 (d := dfn "least_way" 77) rfl
  have gl_least_way : mg "least_way" = some (.ref (He.fAd K ("least_way", none))) := (He.glo_ok X G (d.fact 55 rfl))
  obtain ⟨fd_is_least_way, F_is_least_way⟩ := d.def_ 56 (d := dfn "is_least_way" 78) rfl
  have gl_is_least_way : mg "is_least_way" = some (.ref (He.fAd K ("is_least_way", none))) := (He.glo_ok X G (d.fact 56 rfl))
  obtain ⟨fd_count_least_ways, F_count_least_ways⟩ := d.def_ 57 (d := dfn "count_least_ways" 79) rfl
  have gl_count_least_ways : mg "count_least_ways" = some (.ref (He.fAd K ("count_least_ways", none))) := (He.glo_ok X G (d.fact 57 rfl))
  obtain ⟨fd_on_least_ways, F_on_least_ways⟩ := d.def_ 58 (d := dfn "on_least_ways" 80) rfl
  have gl_on_least_ways : mg "on_least_ways" = some (.ref (He.fAd K ("on_least_ways", none))) := (He.glo_ok X G (d.fact 58 rfl))
  obtain ⟨fd_moved, F_moved⟩ := d.def_ 59 (d := dfn "moved" 82) rfl
  have gl_moved : mg "moved" = some (.ref (He.fAd K ("moved", none))) := (He.glo_ok X G (d.fact 59 rfl))
  obtain ⟨fd_turned, F_turned⟩ := d.def_ 60 (d := dfn "turned" 83) rfl
  have gl_turned : mg "turned" = some (.ref (He.fAd K ("turned", none))) := (He.glo_ok X G (d.fact 60 rfl))
  obtain ⟨fd_mirrored, F_mirrored⟩ := d.def_ 61 (d := dfn "mirrored" 84) rfl
  have gl_mirrored : mg "mirrored" = some (.ref (He.fAd K ("mirrored", none))) := (He.glo_ok X G (d.fact 61 rfl))
  obtain ⟨fd_fars_of, F_fars_of⟩ := d.def_ 62 (d := dfn "fars_of" 87) rfl
  have gl_fars_of : mg "fars_of" = some (.ref (He.fAd K ("fars_of", none))) := (He.glo_ok X G (d.fact 62 rfl))
  obtain ⟨fd_layers, F_layers⟩ := d.def_ 63 (d := dfn "layers" 88) rfl
  have gl_layers : mg "layers" = some (.ref (He.fAd K ("layers", none))) := (He.glo_ok X G (d.fact 63 rfl))
  obtain ⟨fd__law_spring, F__law_spring⟩ := d.def_ 67 (d := dfn "_law_spring" 93) rfl
  have gl__law_spring : mg "_law_spring" = some (.ref (He.fAd K ("_law_spring", none))) := (He.glo_ok X G (d.fact 67 rfl))
  obtain ⟨fd__law_pick, F__law_pick⟩ := d.def_ 68 (d := dfn "_law_pick" 94) rfl
  have gl__law_pick : mg "_law_pick" = some (.ref (He.fAd K ("_law_pick", none))) := (He.glo_ok X G (d.fact 68 rfl))
  obtain ⟨fd__law_kind, F__law_kind⟩ := d.def_ 70 (d := dfn "_law_kind" 96) rfl
  have gl__law_kind : mg "_law_kind" = some (.ref (He.fAd K ("_law_kind", none))) := (He.glo_ok X G (d.fact 70 rfl))
  obtain ⟨fd__law_twins, F__law_twins⟩ := d.def_ 71 (d := dfn "_law_twins" 97) rfl
  have gl__law_twins : mg "_law_twins" = some (.ref (He.fAd K ("_law_twins", none))) := (He.glo_ok X G (d.fact 71 rfl))
  obtain ⟨fd__law_cuts_in, F__law_cuts_in⟩ := d.def_ 72 (d := dfn "_law_cuts_in" 98) rfl
  have gl__law_cuts_in : mg "_law_cuts_in" = some (.ref (He.fAd K ("_law_cuts_in", none))) := (He.glo_ok X G (d.fact 72 rfl))
  obtain ⟨fd__law_cutting, F__law_cutting⟩ := d.def_ 73 (d := dfn "_law_cutting" 99) rfl
  have gl__law_cutting : mg "_law_cutting" = some (.ref (He.fAd K ("_law_cutting", none))) := (He.glo_ok X G (d.fact 73 rfl))
  obtain ⟨fd__law_tied, F__law_tied⟩ := d.def_ 74 (d := dfn "_law_tied" 100) rfl
  have gl__law_tied : mg "_law_tied" = some (.ref (He.fAd K ("_law_tied", none))) := (He.glo_ok X G (d.fact 74 rfl))
  obtain ⟨fd__law_thirds, F__law_thirds⟩ := d.def_ 75 (d := dfn "_law_thirds" 101) rfl
  have gl__law_thirds : mg "_law_thirds" = some (.ref (He.fAd K ("_law_thirds", none))) := (He.glo_ok X G (d.fact 75 rfl))
  obtain ⟨fd__law_flip, F__law_flip⟩ := d.def_ 76 (d := dfn "_law_flip" 102) rfl
  have gl__law_flip : mg "_law_flip" = some (.ref (He.fAd K ("_law_flip", none))) := (He.glo_ok X G (d.fact 76 rfl))
  obtain ⟨fd__law_moved, F__law_moved⟩ := d.def_ 77 (d := dfn "_law_moved" 103) rfl
  have gl__law_moved : mg "_law_moved" = some (.ref (He.fAd K ("_law_moved", none))) := (He.glo_ok X G (d.fact 77 rfl))
  obtain ⟨fd__law_known, F__law_known⟩ := d.def_ 78 (d := dfn "_law_known" 104) rfl
  have gl__law_known : mg "_law_known" = some (.ref (He.fAd K ("_law_known", none))) := (He.glo_ok X G (d.fact 78 rfl))
  obtain ⟨fd__law_bad_cuttings, F__law_bad_cuttings⟩ := d.def_ 79 (d := dfn "_law_bad_cuttings" 105) rfl
  have gl__law_bad_cuttings : mg "_law_bad_cuttings" = some (.ref (He.fAd K ("_law_bad_cuttings", none))) := (He.glo_ok X G (d.fact 79 rfl))
  obtain ⟨fd__law_of_one, F__law_of_one⟩ := d.def_ 81 (d := dfn "_law_of_one" 107) rfl
  have gl__law_of_one : mg "_law_of_one" = some (.ref (He.fAd K ("_law_of_one", none))) := (He.glo_ok X G (d.fact 81 rfl))
  obtain ⟨fd__law_rounds, F__law_rounds⟩ := d.def_ 80 (d := dfn "_law_rounds" 106) rfl
  have gl__law_rounds : mg "_law_rounds" = some (.ref (He.fAd K ("_law_rounds", none))) := (He.glo_ok X G (d.fact 80 rfl))
  obtain ⟨fd__law_few, F__law_few⟩ := d.def_ 82 (d := dfn "_law_few" 108) rfl
  have gl__law_few : mg "_law_few" = some (.ref (He.fAd K ("_law_few", none))) := (He.glo_ok X G (d.fact 82 rfl))
  obtain ⟨fd__law_agree, F__law_agree⟩ := d.def_ 83 (d := dfn "_law_agree" 109) rfl
  have gl__law_agree : mg "_law_agree" = some (.ref (He.fAd K ("_law_agree", none))) := (He.glo_ok X G (d.fact 83 rfl))
  obtain ⟨fd__law_rounds_right, F__law_rounds_right⟩ := d.def_ 84 (d := dfn "_law_rounds_right" 110) rfl
  have gl__law_rounds_right : mg "_law_rounds_right" = some (.ref (He.fAd K ("_law_rounds_right", none))) := (He.glo_ok X G (d.fact 84 rfl))
  have his_whole : Has (caN K) Pg w K mg base "is_whole" 3 1 Fis_whole := okis_whole B F_is_whole (gl_is_whole)
  have hare_next : Has (caN K) Pg w K mg base "are_next" 3 1 Fare_next := okare_next B F_are_next (gl_are_next)
  have hfits_cut : Has (caN K) Pg w K mg base "fits_cut" 2 2 Ffits_cut := okfits_cut B hare_next his_whole F_fits_cut (gl_fits_cut)
  have hcross : Has (caN K) Pg w K mg base "cross" 2 1 Fcross := okcross B F_cross (gl_cross)
  have hrises : Has (caN K) Pg w K mg base "rises" 1 1 Frises := okrises B F_rises (gl_rises)
  have hfits_cutting : Has (caN K) Pg w K mg base "fits_cutting" 1 3 Ffits_cutting := okfits_cutting B hcross hfits_cut his_whole hrises (He.int_ok X G (d.fact 116 rfl)) F_fits_cutting (gl_fits_cutting)
  have hall_ties : Has (caN K) Pg w K mg base "all_ties" 1 1 Fall_ties := okall_ties B F_all_ties (gl_all_ties)
  have hnear_of : Has (caN K) Pg w K mg base "near_of" 1 2 Fnear_of := (oknear_of B hall_ties F_near_of (gl_near_of)).eq (tabF_eq knear_of)
  have hthirds_of : Has (caN K) Pg w K mg base "thirds_of" 2 3 Fthirds_of := (okthirds_of B hnear_of F_thirds_of (gl_thirds_of)).eq (tabF_eq kthirds_of)
  have hneed_cutting : Has (caN K) Pg w K mg base "need_cutting" 1 4 Fneed_cutting := (okneed_cutting B hfits_cutting xInvalidCutting F_need_cutting (gl_need_cutting)).eq (tabF_eq kneed_cutting)
  have hneed_corner : Has (caN K) Pg w K mg base "need_corner" 2 2 Fneed_corner := okneed_corner B his_whole xInvalidCorner F_need_corner (gl_need_corner)
  have hneed_cut : Has (caN K) Pg w K mg base "need_cut" 2 3 Fneed_cut := (okneed_cut B hfits_cut xInvalidCut F_need_cut (gl_need_cut)).eq (tabF_eq kneed_cut)
  have hneed_number : Has (caN K) Pg w K mg base "need_number" 3 2 Fneed_number := okneed_number B his_whole xInvalidNumber F_need_number (gl_need_number)
  have hneed_few : Has (caN K) Pg w K mg base "need_few" 2 3 Fneed_few := okneed_few B xTooMany F_need_few (gl_need_few)
  have hcut_for : Has (caN K) Pg w K mg base "cut_for" 2 4 Fcut_for := (okcut_for B hthirds_of F_cut_for (gl_cut_for)).eq (tabF_eq kcut_for)
  have hwith_cut : Has (caN K) Pg w K mg base "with_cut" 3 1 Fwith_cut := (okwith_cut B F_with_cut (gl_with_cut)).eq (tabF_eq kwith_cut)
  have hswapped_at : Has (caN K) Pg w K mg base "swapped_at" 2 5 Fswapped_at := (okswapped_at B hcut_for hwith_cut F_swapped_at (gl_swapped_at)).eq (tabF_eq kswapped_at)
  have hway_to_fan : Has (caN K) Pg w K mg base "way_to_fan" 1 6 Fway_to_fan := okway_to_fan B hswapped_at hthirds_of F_way_to_fan (gl_way_to_fan)
  have hcomes_for : Has (caN K) Pg w K mg base "comes_for" 2 5 Fcomes_for := (okcomes_for B hcut_for hneed_cut hneed_cutting F_comes_for (gl_comes_for)).eq (tabF_eq kcomes_for)
  have hexchanged : Has (caN K) Pg w K mg base "exchanged" 2 6 Fexchanged := (okexchanged B hneed_cut hneed_cutting hswapped_at F_exchanged (gl_exchanged)).eq (tabF_eq kexchanged)
  have hfan_way : Has (caN K) Pg w K mg base "fan_way" 1 7 Ffan_way := (okfan_way B hneed_cutting hway_to_fan F_fan_way (gl_fan_way)).eq (tabF_eq kfan_way)
  have htype_is_whole : Has (caN K) Pg w K mg base "type_is_whole" 1 1 Ftype_is_whole := oktype_is_whole B F_type_is_whole (gl_type_is_whole)
  have hway_steps : Has (caN K) Pg w K mg base "way_steps" 2 5 Fway_steps := (okway_steps B hcut_for htype_is_whole hwith_cut (He.int_ok X G (d.fact 117 rfl)) F_way_steps (gl_way_steps)).eq (tabF_eq kway_steps)
  have hleads_to : Has (caN K) Pg w K mg base "leads_to" 3 6 Fleads_to := okleads_to B hway_steps F_leads_to (gl_leads_to)
  have hsteps_to_fan : Has (caN K) Pg w K mg base "steps_to_fan" 2 5 Fsteps_to_fan := (oksteps_to_fan B hcut_for hthirds_of hwith_cut F_steps_to_fan (gl_steps_to_fan)).eq (tabF_eq ksteps_to_fan)
  have hneed_two : Has (caN K) Pg w K mg base "need_two" 2 5 Fneed_two := (okneed_two B hneed_cutting xUnlike F_need_two (gl_need_two)).eq (tabF_eq kneed_two)
  have hneed_way : Has (caN K) Pg w K mg base "need_way" 2 6 Fneed_way := (okneed_way B hway_steps xInvalidWay F_need_way (gl_need_way)).eq (tabF_eq kneed_way)
  have hbehind_way : Has (caN K) Pg w K mg base "behind_way" 2 7 Fbehind_way := (okbehind_way B hneed_cutting hneed_way hway_steps F_behind_way (gl_behind_way)).eq (tabF_eq kbehind_way)
  have hway_back : Has (caN K) Pg w K mg base "way_back" 2 7 Fway_back := (okway_back B hneed_cutting hneed_way hway_steps F_way_back (gl_way_back)).eq (tabF_eq kway_back)
  have hfar_from_fan : Has (caN K) Pg w K mg base "far_from_fan" 2 5 Ffar_from_fan := (okfar_from_fan B hneed_corner hneed_cutting F_far_from_fan (gl_far_from_fan)).eq (tabF_eq kfar_from_fan)
  have hway_by_fan : Has (caN K) Pg w K mg base "way_by_fan" 3 6 Fway_by_fan := okway_by_fan B hneed_corner hneed_two hsteps_to_fan hway_steps F_way_by_fan (gl_way_by_fan)
  have hof_one_piece : Has (caN K) Pg w K mg base "of_one_piece" 3 4 Fof_one_piece := (okof_one_piece B hthirds_of F_of_one_piece (gl_of_one_piece)).eq (tabF_eq kof_one_piece)
  have hare_loose : Has (caN K) Pg w K mg base "are_loose" 2 5 Fare_loose := okare_loose B hfits_cut hof_one_piece hrises F_are_loose (gl_are_loose)
  have hround_behind : Has (caN K) Pg w K mg base "round_behind" 2 5 Fround_behind := (okround_behind B hcut_for F_round_behind (gl_round_behind)).eq (tabF_eq kround_behind)
  have hall_loose : Has (caN K) Pg w K mg base "all_loose" 1 5 Fall_loose := (okall_loose B hof_one_piece F_all_loose (gl_all_loose)).eq (tabF_eq kall_loose)
  have hloose_between : Has (caN K) Pg w K mg base "loose_between" 3 9 Floose_between := okloose_between B hthirds_of F_loose_between (gl_loose_between)
  have hrounds_between : Has (caN K) Pg w K mg base "rounds_between" 2 6 Frounds_between := (okrounds_between B hall_loose hround_behind F_rounds_between (gl_rounds_between)).eq (tabF_eq krounds_between)
  have hexchanged_at_once : Has (caN K) Pg w K mg base "exchanged_at_once" 2 6 Fexchanged_at_once := (okexchanged_at_once B hare_loose hneed_cutting hround_behind xInvalidCuts F_exchanged_at_once (gl_exchanged_at_once)).eq (tabF_eq kexchanged_at_once)
  have hmost_at_once : Has (caN K) Pg w K mg base "most_at_once" 1 10 Fmost_at_once := (okmost_at_once B hloose_between hneed_cutting F_most_at_once (gl_most_at_once)).eq (tabF_eq kmost_at_once)
  have hfewest_rounds : Has (caN K) Pg w K mg base "fewest_rounds" 2 7 Ffewest_rounds := (okfewest_rounds B hneed_few hneed_two hrounds_between (He.int_ok X G (d.fact 118 rfl)) F_fewest_rounds (gl_fewest_rounds)).eq (tabF_eq kfewest_rounds)
  have hcuts_of_both : Has (caN K) Pg w K mg base "cuts_of_both" 2 1 Fcuts_of_both := okcuts_of_both B F_cuts_of_both (gl_cuts_of_both)
  have hsplit_by : Has (caN K) Pg w K mg base "split_by" 2 1 Fsplit_by := oksplit_by B F_split_by (gl_split_by)
  have hfields_by : Has (caN K) Pg w K mg base "fields_by" 2 2 Ffields_by := okfields_by B hsplit_by F_fields_by (gl_fields_by)
  have hfields_of : Has (caN K) Pg w K mg base "fields_of" 2 3 Ffields_of := (okfields_of B hcuts_of_both hfields_by F_fields_of (gl_fields_of)).eq (tabF_eq kfields_of)
  have hpiece_within : Has (caN K) Pg w K mg base "piece_within" 2 1 Fpiece_within := (okpiece_within B F_piece_within (gl_piece_within)).eq (tabF_eq kpiece_within)
  have hshared_cuts : Has (caN K) Pg w K mg base "shared_cuts" 2 6 Fshared_cuts := (okshared_cuts B hcuts_of_both hneed_two F_shared_cuts (gl_shared_cuts)).eq (tabF_eq kshared_cuts)
  have hnexts_of : Has (caN K) Pg w K mg base "nexts_of" 1 5 Fnexts_of := (oknexts_of B hcut_for hwith_cut F_nexts_of (gl_nexts_of)).eq (tabF_eq knexts_of)
  have hreach_from : Has (caN K) Pg w K mg base "reach_from" 2 6 Freach_from := (okreach_from B hnexts_of F_reach_from (gl_reach_from)).eq (tabF_eq kreach_from)
  have hback_from : Has (caN K) Pg w K mg base "back_from" 2 6 Fback_from := okback_from B hcut_for hnexts_of F_back_from (gl_back_from)
  have hpairs_within : Has (caN K) Pg w K mg base "pairs_within" 2 4 Fpairs_within := (okpairs_within B hfields_of hpiece_within F_pairs_within (gl_pairs_within)).eq (tabF_eq kpairs_within)
  have hbringing : Has (caN K) Pg w K mg base "bringing" 2 6 Fbringing := okbringing B hcut_for hnexts_of F_bringing (gl_bringing)
  have hway_in : Has (caN K) Pg w K mg base "way_in" 2 10 Fway_in := (okway_in B hback_from hbringing hpairs_within hreach_from F_way_in (gl_way_in)).eq (tabF_eq kway_in)
  have hpicks_of : Has (caN K) Pg w K mg base "picks_of" 2 1 Fpicks_of := okpicks_of B F_picks_of (gl_picks_of)
  have hneed_fields : Has (caN K) Pg w K mg base "need_fields" 2 6 Fneed_fields := (okneed_fields B hfields_of hneed_few hneed_two (He.int_ok X G (d.fact 119 rfl)) F_need_fields (gl_need_fields)).eq (tabF_eq kneed_fields)
  have hfewest_exchanges : Has (caN K) Pg w K mg base "fewest_exchanges" 2 11 Ffewest_exchanges := (okfewest_exchanges B hneed_fields hway_in F_fewest_exchanges (gl_fewest_exchanges)).eq (tabF_eq kfewest_exchanges)
  have hleast_way : Has (caN K) Pg w K mg base "least_way" 2 11 Fleast_way := (okleast_way B hneed_fields hway_in F_least_way (gl_least_way)).eq (tabF_eq kleast_way)
  have his_least_way : Has (caN K) Pg w K mg base "is_least_way" 3 11 Fis_least_way := (okis_least_way B hleads_to hneed_fields hway_in F_is_least_way (gl_is_least_way)).eq (tabF_eq kis_least_way)
  have hcount_least_ways : Has (caN K) Pg w K mg base "count_least_ways" 2 7 Fcount_least_ways := (okcount_least_ways B hneed_fields hpairs_within hpicks_of hreach_from F_count_least_ways (gl_count_least_ways)).eq (tabF_eq kcount_least_ways)
  have hon_least_ways : Has (caN K) Pg w K mg base "on_least_ways" 2 7 Fon_least_ways := (okon_least_ways B hneed_fields hpairs_within hreach_from F_on_least_ways (gl_on_least_ways)).eq (tabF_eq kon_least_ways)
  have hmoved : Has (caN K) Pg w K mg base "moved" 3 1 Fmoved := okmoved B F_moved (gl_moved)
  have hturned : Has (caN K) Pg w K mg base "turned" 2 5 Fturned := (okturned B hmoved hneed_cutting hneed_number F_turned (gl_turned)).eq (tabF_eq kturned)
  have hmirrored : Has (caN K) Pg w K mg base "mirrored" 1 5 Fmirrored := (okmirrored B hmoved hneed_cutting F_mirrored (gl_mirrored)).eq (tabF_eq kmirrored)
  have hfars_of : Has (caN K) Pg w K mg base "fars_of" 1 7 Ffars_of := okfars_of B hreach_from F_fars_of (gl_fars_of)
  have hlayers : Has (caN K) Pg w K mg base "layers" 1 8 Flayers := (oklayers B hfars_of hneed_cutting hneed_few (He.int_ok X G (d.fact 120 rfl)) F_layers (gl_layers)).eq (tabF_eq klayers)
  have h_law_spring : HasS Pg w K mg base "_law_spring" 1 (spSpring K) := ok_law_spring B (He.free_ok X G (d.fact 113 rfl)) F__law_spring (gl__law_spring)
  have h_law_pick : HasS Pg w K mg base "_law_pick" 1 spPick := ok_law_pick B F__law_pick (gl__law_pick)
  have h_law_kind : Has (caN K) Pg w K mg base "_law_kind" 1 1 F_law_kind := ok_law_kind B F__law_kind (gl__law_kind)
  have h_law_twins : Has (caN K) Pg w K mg base "_law_twins" 2 2 F_law_twins := ok_law_twins B h_law_kind F__law_twins (gl__law_twins)
  have h_law_cuts_in : HasS Pg w K mg base "_law_cuts_in" 8 (spC 7) := ok_law_cuts_in B h_law_pick F__law_cuts_in (gl__law_cuts_in)
  have h_law_cutting : HasS Pg w K mg base "_law_cutting" 9 spCt := ok_law_cutting B h_law_cuts_in F__law_cutting (gl__law_cutting)
  have h_law_tied : Has (caN K) Pg w K mg base "_law_tied" 3 1 F_law_tied := ok_law_tied B F__law_tied (gl__law_tied)
  have h_law_thirds : Has (caN K) Pg w K mg base "_law_thirds" 2 2 F_law_thirds := (ok_law_thirds B h_law_tied F__law_thirds (gl__law_thirds)).eq (tabF_eq k_law_thirds)
  have h_law_flip : Has (caN K) Pg w K mg base "_law_flip" 2 3 F_law_flip := (ok_law_flip B h_law_thirds F__law_flip (gl__law_flip)).eq (tabF_eq k_law_flip)
  have h_law_moved : Has (caN K) Pg w K mg base "_law_moved" 3 1 F_law_moved := ok_law_moved B F__law_moved (gl__law_moved)
  have h_law_known : Has (caN K) Pg w K mg base "_law_known" 0 1 F_law_known := ok_law_known B F__law_known (gl__law_known)
  have h_law_bad_cuttings : Has (caN K) Pg w K mg base "_law_bad_cuttings" 0 1 F_law_bad_cuttings := ok_law_bad_cuttings B F__law_bad_cuttings (gl__law_bad_cuttings)
  have h_law_of_one : Has (caN K) Pg w K mg base "_law_of_one" 3 3 F_law_of_one := (ok_law_of_one B h_law_thirds F__law_of_one (gl__law_of_one)).eq (tabF_eq k_law_of_one)
  have h_law_rounds : Has (caN K) Pg w K mg base "_law_rounds" 1 4 F_law_rounds := (ok_law_rounds B h_law_flip h_law_of_one F__law_rounds (gl__law_rounds)).eq (tabF_eq k_law_rounds)
  have h_law_few : Has (caN K) Pg w K mg base "_law_few" 2 5 F_law_few := (ok_law_few B h_law_rounds F__law_few (gl__law_few)).eq (tabF_eq k_law_few)
  have h_law_agree : HasS Pg w K mg base "_law_agree" 12 spTwo := ok_law_agree B (h_law_pick.up (by decide)) hbehind_way hcomes_for hcount_least_ways hexchanged hexchanged_at_once hfan_way hfar_from_fan hfewest_exchanges his_least_way hlayers hleast_way hmirrored hon_least_ways hshared_cuts hway_back hway_by_fan F__law_agree (gl__law_agree)
  have h_law_rounds_right : HasS Pg w K mg base "_law_rounds_right" 12 spTwo := ok_law_rounds_right B (h_law_pick.up (by decide)) h_law_few h_law_twins hfewest_exchanges hfewest_rounds hmost_at_once hturned F__law_rounds_right (gl__law_rounds_right)
  exact ⟨hfewest_rounds, h_law_known, h_law_bad_cuttings, h_law_spring, h_law_pick, h_law_cutting, h_law_agree, h_law_rounds_right⟩
theorem refG_ok (X : K.In h) (G : h.Ns mainGlobals mg) (S : SaysY w h K) : ∃ fs fds, RefG (caN K) Pg w K mg (He.ga K "WorldError") fs fds := by
  have d := S.x.t.d
  obtain ⟨_, c⟩ := and2 S.x.more
  obtain ⟨_, c⟩ := and2 c
  obtain ⟨_, c⟩ := and2 c
  obtain ⟨c1, c⟩ := and2 c
  obtain ⟨c7, c10⟩ := and2 c
  obtain ⟨fd__law_error, F__law_error⟩ := d.def_ 64 (d := dfn "_law_error" 90) rfl
  obtain ⟨fd__law_came, F__law_came⟩ := d.def_ 65 (d := dfn "_law_came" 91) rfl
  obtain ⟨fd__law_all_say, F__law_all_say⟩ := d.def_ 66 (d := dfn "_law_all_say" 92) rfl
  exact ⟨_, fd__law_all_say, {
    B := bi_ok X G S
    G := ⟨(He.glo_ok X G (d.fact 88 rfl)), (He.glo_ok X G (d.fact 89 rfl)), (He.glo_ok X G (d.fact 91 rfl)), (He.glo_ok X G (d.fact 92 rfl)), (He.glo_ok X G (d.fact 94 rfl)), (He.glo_ok X G (d.fact 95 rfl)), (He.glo_ok X G (d.fact 96 rfl)), (He.glo_ok X G (d.fact 97 rfl)), (He.free_ok X G (d.fact 114 rfl))⟩
    C1 := kitB_ok c1
    C7 := kitB_ok c7
    C10 := kitB_ok c10
    hW := (He.glo_ok X G (d.fact 87 rfl))
    x1 := He.exm_ok (d.fact 128 rfl)
    x7 := He.exm_ok (d.fact 129 rfl)
    x10 := He.exm_ok (d.fact 130 rfl)
    fe := ⟨_, _, F__law_error, (He.glo_ok X G (d.fact 64 rfl))⟩
    fc := ⟨_, _, F__law_came, (He.glo_ok X G (d.fact 65 rfl))⟩
    sy := F__law_all_say
    gs := (He.glo_ok X G (d.fact 66 rfl))
    few := fun b => (allH_ok X G S b).few }⟩
/-- the law's promise -/
theorem law_ok (X : K.In h) (G : h.Ns mainGlobals mg) (S : SaysY w h K) : ∃ fd, FnP K "law" (top 112) (He.ga K "law") fd ∧ ∀ base : Heap, (∀ p ∈ [He.cT K dRef], LamX.TabB base mg p.1 p.2) → FnOk Pg w K mg base (L2N.CX Pg w) 31 (He.ga K "law") fd ["_law_script"] (spLaw K (refT (He.cT K dRef).2)) := by
  have d := S.x.t.d
  obtain ⟨fd__law_refused, F__law_refused⟩ := d.def_ 85 (d := dfn "_law_refused" 111) rfl
  obtain ⟨fd_law, F_law⟩ := d.def_ 86 (d := dfn "law" 112) rfl
  refine ⟨_, F_law, fun base TB => ?_⟩
  have hcode : fd__law_refused.code = .ref (He.cT K dRef).1 := by
    obtain ⟨oc, od, dV, kV, doc, pm, an, cdv, ct, osl, e, lk, hcd, _, _⟩ := F__law_refused.ex
    obtain ⟨c, ec⟩ := He.codeIn_ref hcd
    have e2 : fd__law_refused.code = .ref c := by rw [e, ec]
    rw [e2]
    exact congrArg Value.ref (He.codeOf_eq lk e2).symm
  obtain ⟨fs, fds, R⟩ := refG_ok (w := w) X G S
  have A := allH_ok X G S base
  have hr := ok_law_refused (base := base) R (TB _ List.mem_cons_self) hcode F__law_refused A.bad
  exact ok_law (bi_ok X G S) A.spring A.pick A.cut A.agree A.right ⟨_, _, _, hr.mono (by decide), (He.glo_ok X G (d.fact 85 rfl)), F__law_refused.kp, F__law_refused.bindsN (fun kV doc pm an cdv ct us hl => match us, hl with | [_], _ => rfl)⟩ A.few A.known F_law
end
end PD
/-! text HD4 -/
set_option maxHeartbeats 0
open PySem PySem.Calls PySem.W PyProof.Rows
theorem PySem.Challenge.cw_eightworlds_k60_whole_rounds_and_all_tha_holds : PySem.Challenge.rw_eightworlds_k60_whole_rounds_and_all_tha.Holds := by
  w_on; o_law
  refine HandSHeadRun.head_any (r := PD.Rw) (q := view PD.Rw.prog [112]) (H := PD.hookY) (ob := PD.obY) (M := 20000) (loose := PD.loosA) (d := HandSHeadRun.topDef PD.Rw.prog 112) (kwd := []) PD.obY_eq
    (by kernel_rfl) (fun s => by kernel_rfl) PD.runY (by kernel_rfl) (by kernel_rfl) (by kernel_rfl) (by rfl) (by first | assumption | decide +kernel) (by decide +kernel) ⟨rfl, rfl, rfl, rfl, rfl, by decide +kernel⟩ ?hw ?hc
  case hw => w_witness2
  case hc =>
    refine LamX.walk_ofTsE (l := PySem.Challenge.rw_eightworlds_k60_whole_rounds_and_all_tha) (n := 63) (k := 31) (x := "_law_script") (CX := fun w => L2N.CX PD.Pg w) rfl (by decide) (by kernel_rfl) ⟨rfl, by decide, by decide⟩ ?F (fun w H s e s' z => ?_)
    case F =>
      intro w mg fa h Y G hmg0
      obtain ⟨K, KX, S⟩ := Y
      have hmg : mg ("law" : PySem.Str) = some (.ref fa) := by
        have e : (HandSHeadRun.topDef PD.Rw.prog 112).name = ("law" : PySem.Str) := by kernel_rfl
        rw [← e]
        exact hmg0
      obtain ⟨fd, F, hF⟩ := PD.law_ok (w := w) KX G S
      have e2 := hmg.symm.trans (He.glo_ok KX G (S.x.t.d.fact 86 (f := .glo "law") rfl))
      cases e2
      have b := L2.FunD.bindsA (ps := ["_law_script"]) F fun _ _ _ _ _ _ us hl => match us, hl with | [_], _ => rfl
      refine ⟨K, KX, fd, [He.cT K PD.dRef], PD.spLaw K (PD.refT (He.cT K PD.dRef).2), fun p hp => ?_, fun p hp => ?_, fun p hp => ?_, fun s v => b s [v] rfl, fun H a ns _ _ hT hS => ⟨a, ns, rfl, hS, fun p hp => ?_, fun _ => rfl⟩, fun base _ _ TB => hF base TB⟩
      · cases List.mem_singleton.mp hp
        exact S.x.empty _ List.mem_cons_self
      · cases List.mem_singleton.mp hp
        exact S.x.out _ List.mem_cons_self
      · cases List.mem_singleton.mp hp
        exact codeHd_of_K KX (S.x.hd _ List.mem_cons_self)
      · cases List.mem_singleton.mp hp
        exact LamX.TabS.nil (hT _ List.mem_cons_self)
    · obtain ⟨_, _, _, _, _, _, _, _, _, _, _, _, y⟩ := z
      exact y
