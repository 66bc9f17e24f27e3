import PyProof.Rows.All
import Wide.All
import OpenK.AllK
import Wide.FinOn
import HandS.ForMost
import HandS.Lambda
import PyProof.DictRoadsH
import HandS.Nested
import HandS.IsInst
import HandS.SortRule
import HandS.SortInts
import HandS.SortKw
import HandS.Slots
import HandS.ExcOwn
import KE.KSortKeySt
import KE.KSortRegSt
import HandS.More
import KE.KDictPairs
import HandS.EndTab
import HandS.SetFor
import HandS.Strs
import HandS.TupAny
import HandS.WordsExc
import HandS.Conv
import HandS.Sort
import HandS.Zip
import HandS.ExcInit
import HandS.TryOnly
import HandS.ExcCtx
import HandS.HotCalls
import HandS.SuiteRaise
import KE.KExcIs
import HandS.Hot
import HandS.Text
import HandS.Deep
import HandS.Iter
import KE.IntTextLaws
import KE.KIntText
import KE.KDictDisplayH
import KE.KDictWalk
import KE.DataMinMax
import PySem.Challenge.RW_splitranges_k01_deeds_and_ranges_refused
set_option Elab.async false
set_option linter.all false
set_option maxRecDepth 100000
set_option maxHeartbeats 2000000
namespace Dl
open PySem PySem.Spec PyProof.Rows L2 LamX
/-! ### keys: tuples of ints and of such tuples -/
inductive Kt where
  | int (i : Int) | tup (ks : List Kt)
mutual
inductive IsV (h : Heap) : Kt → Value → Prop
  | int (i : Int) (t : Tok) : IsV h (.int i) (.int i t)
  | tup {a : Addr} {o : Obj} {its : Array Value} {n : Nat} {ks : List Kt} : h.get? a = some o → o.cls = .type "tuple" → o.data = .seq its n → IsVs h ks its.toList → IsV h (.tup ks) (.ref a)
inductive IsVs (h : Heap) : List Kt → List Value → Prop
  | nil : IsVs h [] []
  | cons {k : Kt} {v : Value} {ks : List Kt} {vs : List Value} : IsV h k v → IsVs h ks vs → IsVs h (k :: ks) (v :: vs)
end
mutual
def hK : Kt → Int
  | .int i => hashInt i
  | .tup ks => reduceHash (Builtin.Tuple.tupleHashOf (hKs ks))
def hKs : List Kt → List Int
  | [] => []
  | k :: ks => hK k :: hKs ks
end
mutual
def drK : Kt → Nat
  | .int _ => 1
  | .tup ks => drKs ks + 1
def drKs : List Kt → Nat
  | [] => 0
  | k :: ks => drK k + drKs ks
end
mutual
def dpK : Kt → Nat
  | .int _ => 0
  | .tup ks => dpKs ks + 1
def dpKs : List Kt → Nat
  | [] => 0
  | k :: ks => max (dpK k) (dpKs ks)
end
theorem hKs_map : ∀ ks : List Kt, hKs ks = ks.map hK
  | [] => rfl
  | k :: ks => by rw [hKs, hKs_map ks]; rfl
theorem drKs_app : ∀ (l m : List Kt), drKs (l ++ m) = drKs l + drKs m
  | [], m => by simp [drKs]
  | k :: l, m => by rw [List.cons_append, drKs, drKs, drKs_app l m]; omega
theorem dpKs_mem : ∀ {ks : List Kt} {k : Kt}, k ∈ ks → dpK k ≤ dpKs ks
  | x :: ks, k, h => by
    rw [dpKs]
    rcases List.mem_cons.mp h with e | e
    · rw [e]; exact Nat.le_max_left _ _
    · exact Nat.le_trans (dpKs_mem e) (Nat.le_max_right _ _)
section
variable {P : Program} {w : World} {E : Value → Shared → Prop}
/-- hash of a tuple, where those of its items are known -/
theorem hash_tup {ks : List Kt} {A : Around} {s : Shared} {a : Addr} {o : Obj} {its : Array Value} {n : Nat} {Q : Int → Shared → Prop} (ho : s.heap.get? a = some o) (hc : o.cls = .type "tuple") (hd : o.data = .seq its n) (hi : IsVs s.heap ks its.toList) (hu : A.units < cLine)
    (item : ∀ (k : Kt), k ∈ ks → ∀ (A' : Around) (E' : Value → Shared → Prop) (t : Nat) (v : Value) (Q : Int → Shared → Prop), A'.units ≤ A.units + 1 → IsV s.heap k v → Q (hK k) { s with toks := t + drK k } → wpAny (model P w) A' (pyHash v) Q E' { s with toks := t })
    (q : Q (hK (.tup ks)) { s with toks := s.toks + drK (.tup ks) }) : wpAny (model P w) A (pyHash (.ref a)) Q E s := by
  have hT : s.TypeIs (.ref a) "tuple" := ⟨o, ho, hc⟩
  unfold pyHash; unfold pyHashByItsType
  refine wpAny_bind (wpAny_cRoomFor_or (.inr hu) (wpAny_bind (wpAny_specialOf hT PySem.F.slot_tuple_hash.lookup ?_)))
  show wpAny _ _ (if (some (Value.builtin "tuple.__hash__") == some Value.none) = true then _ else _) Q E s; rw [if_neg (by rw [beq_builtin_none]; exact Bool.false_ne_true)]
  refine wpAny_bind (wpAny_specialOf hT PySem.F.slot_tuple_hash.lookup ?_)
  show wpAny _ _ (callSpecialIfBoundUnlessNone? (.ref a) "__hash__" _ >>= _) Q E s
  refine wpAny_bind (wpAny_callSpecialIfBoundUnlessNone?_slot hT PySem.F.slot_tuple_hash (wpAny_call_entry PySem.F.slot_tuple_hash hT PySem.F.entry_tuple_hash ?_ (PySem.F.args_tuple_hash_1 _)))
  show wpAny _ _ (Builtin.Tuple.tupleItemsOf (.ref a) >>= _) _ _ s
  refine wpAny_bind (wpAny_tupleItemsOf ho hd (wpAny_bind ?_)); rw [← Array.forIn_toList]
  refine wpAny_forIn_list _ (fun rest (b : Array Int) s' => ∃ l r, ks = l ++ r ∧ IsVs s.heap r rest ∧ b.toList = l.map hK ∧ s' = { s with toks := s.toks + drKs l }) _ ?_ ?_ _ _ ⟨[], ks, rfl, hi, rfl, rfl⟩
  · rintro x rest b s' ⟨l, r, rfl, hr, hb, rfl⟩
    cases hr with
    | @cons k _ r' _ h1 hr' =>
      have fin : (hK k :: []) = [hK k] := rfl
      refine wpAny_bind (item k (List.mem_append_right _ List.mem_cons_self) _ _ _ x _ (Nat.le_of_eq rfl) h1 ?_)
      have nxt : ∃ l' r'', l ++ k :: r' = l' ++ r'' ∧ IsVs s.heap r'' rest ∧ (b.push (hK k)).toList = l'.map hK ∧ ({ s with toks := s.toks + drKs l + drK k } : Shared) = { s with toks := s.toks + drKs l' } :=
        ⟨l ++ [k], r', by simp, hr', by simp [hb], by rw [drKs_app]; simp [drKs, Nat.add_assoc]⟩
      first
        | exact wpAny_pure nxt
        | exact wpAny_bind (wpAny_pure (wpAny_pure nxt))
  · rintro b s' ⟨l, r, rfl, hr, hb, rfl⟩
    cases hr
    rw [List.append_nil] at q
    show wpAny _ _ (retInt (Builtin.Tuple.tupleHashOf b.toList)) _ _ _; rw [hb]
    refine wpAny_ret_mkInt ?_
    have q' : Q (reduceHash (Builtin.Tuple.tupleHashOf (l.map hK))) { s with toks := s.toks + drKs l + 1 } := by
      rw [← hKs_map]; exact q
    unfold reduceHash at q'
    show wpAny _ _ (if (decide (-(2 : Int) ^ 63 ≤ Builtin.Tuple.tupleHashOf (l.map hK)) && decide (Builtin.Tuple.tupleHashOf (l.map hK) < 2 ^ 63)) = true then _ else _) Q E _
    split
    · rename_i c; rw [if_pos c] at q'; exact wpAny_pure q'
    · rename_i c; rw [if_neg c] at q'; exact wpAny_bind (wpAny_rule (wpAny_pure q'))
theorem hash_ok : ∀ (k : Kt) {A : Around} {s : Shared} {v : Value} {E : Value → Shared → Prop} {Q : Int → Shared → Prop}, IsV s.heap k v → A.units + dpK k ≤ cLine → Q (hK k) { s with toks := s.toks + drK k } → wpAny (model P w) A (pyHash v) Q E s
  | .int i, A, s, v, E, Q, hv, hu, q => by
    cases hv with
    | int _ t => exact (intKind P w).pyHash (intKind_is _ _ _ _) q
  | .tup ks, A, s, v, E, Q, hv, hu, q => by
    cases hv with
    | @tup a o its n _ ho hc hd hi =>
      rw [dpK] at hu
      refine hash_tup ho hc hd hi (by omega) (fun k hk A' E' t u Q' ha hv' q' => hash_ok k (s := { s with toks := t }) hv' ?_ q') q
      have := dpKs_mem hk
      omega
/-! ### == of keys, by the library's == of data -/
mutual
def pK : Kt → PyData
  | .int i => .int i
  | .tup ks => .tuple (pKs ks)
def pKs : List Kt → List PyData
  | [] => []
  | k :: ks => pK k :: pKs ks
end
mutual
theorem IsV.reads {h : Heap} : ∀ {k : Kt} {v : Value}, IsV h k v → ∃ as, Reads h v (pK k) as
  | _, _, .int i t => ⟨_, .int i t⟩
  | _, _, .tup ho hc hd hi => by
    obtain ⟨as, r⟩ := IsVs.reads hi
    exact ⟨as, .tuple ho hc hd r⟩
theorem IsVs.reads {h : Heap} : ∀ {ks : List Kt} {vs : List Value}, IsVs h ks vs → ∃ as, ReadsAll h vs (pKs ks) as
  | _, _, .nil => ⟨_, .nil⟩
  | _, _, .cons a b => by
    obtain ⟨as, r⟩ := IsV.reads a
    obtain ⟨bs, q⟩ := IsVs.reads b
    exact ⟨_, .cons r q⟩
end
mutual
theorem pK_eqv : ∀ (x y : Kt), PyData.eqv (pK x) (pK y) = true ↔ x = y
  | .int i, .int j => by simp [pK, PyData.eqv]
  | .int i, .tup ks => by simp [pK, PyData.eqv]
  | .tup ks, .int i => by simp [pK, PyData.eqv]
  | .tup ks, .tup ls => by
    simp only [pK, PyData.eqv, Kt.tup.injEq]
    exact pKs_eqv ks ls
theorem pKs_eqv : ∀ (x y : List Kt), PyData.eqvAll (pKs x) (pKs y) = true ↔ x = y
  | [], [] => by simp [pKs, PyData.eqvAll]
  | [], k :: ks => by simp [pKs, PyData.eqvAll]
  | k :: ks, [] => by simp [pKs, PyData.eqvAll]
  | k :: ks, l :: ls => by
    simp only [pKs, PyData.eqvAll, Bool.and_eq_true, List.cons.injEq]
    rw [pK_eqv k l, pKs_eqv ks ls]
end
mutual
theorem pK_lay : ∀ k : Kt, (pK k).canLay0 = true
  | .int i => by simp [pK, PyData.canLay0]
  | .tup ks => by simp only [pK, PyData.canLay0]; exact pKs_lay ks
theorem pKs_lay : ∀ ks : List Kt, PyData.canLayAll0 (pKs ks) = true
  | [] => by simp [pKs, PyData.canLayAll0]
  | k :: ks => by simp only [pKs, PyData.canLayAll0, Bool.and_eq_true]; exact ⟨pK_lay k, pKs_lay ks⟩
end
mutual
theorem pK_depth : ∀ k : Kt, (pK k).depth ≤ dpK k + 1
  | .int i => by simp [pK, PyData.depth]
  | .tup ks => by
    simp only [pK, PyData.depth, dpK]
    have := pKs_depth ks
    omega
theorem pKs_depth : ∀ ks : List Kt, PyData.depthAll (pKs ks) ≤ dpKs ks + 1
  | [] => by simp [pKs, PyData.depthAll]
  | k :: ks => by
    simp only [pKs, PyData.depthAll, dpKs]
    have := pK_depth k
    have := pKs_depth ks
    omega
end
end
mutual
theorem IsV.inj {h : Heap} : ∀ {x y : Kt} {v : Value}, IsV h x v → IsV h y v → x = y
  | _, _, _, .int i t, .int _ _ => rfl
  | _, _, _, .tup ho _ hd hi, .tup ho' _ hd' hi' => by
    rw [ho] at ho'; cases ho'
    rw [hd] at hd'; cases hd'
    rw [IsVs.inj hi hi']
theorem IsVs.inj {h : Heap} : ∀ {x y : List Kt} {vs : List Value}, IsVs h x vs → IsVs h y vs → x = y
  | _, _, _, .nil, .nil => rfl
  | _, _, _, .cons a b, .cons a' b' => by rw [IsV.inj a a', IsVs.inj b b']
end
mutual
theorem IsV.keep {h h' : Heap} (k : ∀ b o, h.get? b = some o → o.cls = .type "tuple" → (∃ its n, o.data = .seq its n) → h'.get? b = some o) : ∀ {x : Kt} {v : Value}, IsV h x v → IsV h' x v
  | _, _, .int i t => .int i t
  | _, _, .tup ho hc hd hi => .tup (k _ _ ho hc ⟨_, _, hd⟩) hc hd (IsVs.keep k hi)
theorem IsVs.keep {h h' : Heap} (k : ∀ b o, h.get? b = some o → o.cls = .type "tuple" → (∃ its n, o.data = .seq its n) → h'.get? b = some o) : ∀ {x : List Kt} {v : List Value}, IsVs h x v → IsVs h' x v
  | _, _, .nil => .nil
  | _, _, .cons a b => .cons (IsV.keep k a) (IsVs.keep k b)
end
theorem quiet_all {M : Model} {E : Value → Shared → Prop} : ∀ (n : Nat) {A : Around} {k : Kt} {s : Shared} {v : Value} {Q : Bool → Shared → Prop}, IsV s.heap k v → dpK k ≤ n → Q true s → wpAny M A (eqIsQuiet n v) Q E s
  | n, A, .int i, s, v, Q, hv, hn, q => by
    cases hv
    rw [eqIsQuiet_byValue n rfl]
    exact wpAny_pure q
  | 0, A, .tup ks, s, v, Q, hv, hn, q => by rw [dpK] at hn; omega
  | n + 1, A, .tup ks, s, v, Q, hv, hn, q => by
    cases hv with
    | @tup a o its c _ ho hc hd hi =>
      have hT : s.TypeIs (.ref a) "tuple" := ⟨o, ho, hc⟩
      rw [dpK] at hn
      unfold eqIsQuiet
      refine wpAny_bind (wpAny_specialOf hT PySem.F.slot_tuple_eq.lookup ?_)
      show wpAny _ _ (isInstance (.ref a) (.type "tuple") >>= _) _ _ s
      refine wpAny_bind (wpAny_isInstance hT isSubtype_tuple_tuple ?_)
      simp only [Bool.not_true, Bool.false_eq_true, if_false]
      refine wpAny_bind (wpAny_seqItems ho hd (wpAny_bind ?_))
      show wpAny _ _ (forIn its _ _) _ _ s
      rw [← Array.forIn_toList]
      refine wpAny_forIn_list _ (fun rest r s' => r.1 = none ∧ s' = s ∧ ∃ l, IsVs s.heap l rest ∧ dpKs l ≤ n) _ ?_ ?_ _ _ ⟨rfl, rfl, ks, hi, by omega⟩
      · rintro x rest r s' ⟨hr, rfl, l, hl, ln⟩
        cases hl with
        | @cons k _ l' _ h1 hl' =>
          rw [dpKs] at ln
          refine wpAny_bind (quiet_all n h1 (by omega) ?_)
          simp only [Bool.not_true, Bool.false_eq_true, if_false]
          exact wpAny_pure ⟨rfl, rfl, l', hl', by omega⟩
      · rintro ⟨r1, r2⟩ s' ⟨hr, rfl, _⟩
        simp only at hr
        subst hr
        exact wpAny_pure q
noncomputable instance : DecidableEq Kt := fun _ _ => Classical.propDecidable _
noncomputable def kKind (P : Program) (w : World) : HeapKind P w Kt where
  is := fun h k a => IsV h k (.ref a) ∧ dpK k ≤ 5
  hash := hK
  draws := drK
  room := fun A => A.units + 7 < cLine
  inj := fun hx hy => hx.1.inj hy.1
  keeps := fun {h h' k a d o es ep} x ho hd hs => ⟨x.1.keep fun b o' hb hc ⟨its, n, e⟩ => (hs.2 b fun q => by rw [q, ho] at hb; cases hb; rw [hd] at e; cases e).trans hb, x.2⟩
  pyHash := fun {A E s k a Q} hu hk q => hash_ok k hk.1 (by have := hk.2; omega) q
  eqBool := fun {A E s x y a b Q} hu hx hy q => by
    obtain ⟨as, rx⟩ := hx.1.reads
    obtain ⟨bs, ry⟩ := hy.1.reads
    have e := SeqAt.eqAt_reads (pK x) (pK y) A s _ _ as bs rx ry (pK_lay x) (pK_lay y) (by
      have := pK_depth x
      have := hx.2
      omega)
    have d : PyData.eqv (pK x) (pK y) = decide (x = y) := by
      by_cases z : x = y
      · rw [decide_eq_true z, (pK_eqv x y).mpr z]
      · rw [decide_eq_false z]
        cases c : PyData.eqv (pK x) (pK y) with
        | false => rfl
        | true => exact absurd ((pK_eqv x y).mp c) z
    rw [d] at e
    exact e _ _ _ _ q
  quiet := fun {A E s k a Q} hk q => quiet_all 8 hk.1 (by have := hk.2; omega) q
/-! ### a dict with such keys -/
def entK (x : Kt × Addr × Value) : DictEntry := ⟨hK x.1, .ref x.2.1, x.2.2⟩
def MemoO (a : Addr) (xs : List (Kt × Addr × Value)) : HO := .ext fun h => (a == sysModules) = false ∧ ∃ o es ep, h.get? a = some o ∧ o.ExactDict ∧ o.data = .dict es ep ∧ es.toList = xs.map entK ∧ (xs.map (·.1)).Nodup
theorem memo_ok {P : Program} {w : World} {H : Hp} {h : Heap} {a : Addr} {xs : List (Kt × Addr × Value)} {o : Obj} {es : Array DictEntry} {ep : Nat} (n : (a == sysModules) = false) (h1 : h.get? a = some o) (h2 : o.ExactDict) (h3 : o.data = .dict es ep) (h4 : es.toList = xs.map entK) (h5 : (xs.map (·.1)).Nodup) : ObjOk P w H h a (MemoO a xs) :=
  ⟨⟨n, o, es, ep, h1, h2, h3, h4, h5⟩, ⟨o, h1⟩, fun g1 g2 ⟨n, o, es, ep, q1, q2⟩ k => ⟨n, o, es, ep, k o q1, q2⟩⟩
theorem memo_at {P : Program} {w : World} {H : Hp} {h : Heap} {a : Addr} {xs : List (Kt × Addr × Value)} (ok : HOk P w H h) (e : H a = some (MemoO a xs)) (hk : ∀ x ∈ xs, IsV h x.1 (.ref x.2.1) ∧ dpK x.1 ≤ 5) : (a == sysModules) = false ∧ h.DictOfH (kKind P w) a xs := by
  obtain ⟨⟨n, o, es, ep, h1, h2, h3, h4, h5⟩, _⟩ := (show ObjOk P w H h a (MemoO a xs) from ok a _ e)
  exact ⟨n, o, es, ep, h1, h2, h3, h4, hk, h5⟩
/-- a heap of n records -/
def onlyF : Nat → Heap
  | 0 => {}
  | n + 1 => (onlyF n).push { cls := .none, data := .fields #[] }
theorem onlyF_size : ∀ n, (onlyF n).objs.size = n
  | 0 => rfl
  | n + 1 => by rw [onlyF, Heap.size_push, onlyF_size n]
theorem onlyF_at : ∀ (n : Nat) (b : Addr) (o : Obj), (onlyF n).get? b = some o → o.data = .fields #[]
  | 0, b, o, e => by
    have := Heap.lt_size e
    rw [onlyF_size] at this
    exact absurd this (Nat.not_lt_zero _)
  | n + 1, b, o, e => by
    rcases Heap.get?_push_cases e with ⟨_, rfl⟩ | e
    · rfl
    · exact onlyF_at n b o e
theorem memo_code {a c : Addr} {xs : List (Kt × Addr × Value)} {q : Str} : MemoO a xs ≠ LamX.CodeO c q := fun z => by
  unfold MemoO LamX.CodeO at z
  injection z with z
  have at_c : ((onlyF c).push { cls := .none, data := .fields #[.none, .str q 0] }).get? (onlyF c).objs.size = some { cls := .none, data := .fields #[.none, .str q 0] } := Heap.get?_push_size _ rfl
  rw [onlyF_size] at at_c
  have yes := (congrFun z ((onlyF c).push { cls := .none, data := .fields #[.none, .str q 0] })).mpr ⟨_, _, 0, at_c, rfl, rfl⟩
  obtain ⟨_, o, es, ep, h1, _, h3, _⟩ := yes
  rcases Heap.get?_push_cases h1 with ⟨_, rfl⟩ | e
  · cases h3
  · rw [onlyF_at c a o e] at h3; cases h3
theorem memo_tbl {a : Addr} {xs : List (Kt × Addr × Value)} (ps : Array Value) : MemoO a xs ≠ .tbl ps := fun z => by
  unfold MemoO at z; cases z
/-! ### a dict with such keys, its values followed -/
def ktI (ks : List Int) : Kt := .tup (ks.map .int)
def NmRel (x : Kt × Addr × V) (y : Kt × Addr × Value) : Prop := x.1 = y.1 ∧ x.2.1 = y.2.1 ∧ RelV x.2.2 y.2.2
def NmO (a : Addr) (xs : List (Kt × Addr × V)) : HO := .ext fun h => (a == sysModules) = false ∧ ∃ o es ep, ∃ ys : List (Kt × Addr × Value), h.get? a = some o ∧ o.ExactDict ∧ o.data = .dict es ep ∧ es.toList = ys.map entK ∧ (ys.map (·.1)).Nodup ∧ Paired NmRel xs ys
theorem nm_ok {P : Program} {w : World} {H : Hp} {h : Heap} {a : Addr} {xs : List (Kt × Addr × V)} {ys : List (Kt × Addr × Value)} {o : Obj} {es : Array DictEntry} {ep : Nat} (n : (a == sysModules) = false) (h1 : h.get? a = some o) (h2 : o.ExactDict) (h3 : o.data = .dict es ep) (h4 : es.toList = ys.map entK) (h5 : (ys.map (·.1)).Nodup) (h6 : Paired NmRel xs ys) : ObjOk P w H h a (NmO a xs) :=
  ⟨⟨n, o, es, ep, ys, h1, h2, h3, h4, h5, h6⟩, ⟨o, h1⟩, fun g1 g2 ⟨n, o, es, ep, ys, q1, q2⟩ k => ⟨n, o, es, ep, ys, k o q1, q2⟩⟩
theorem nm_code {a c : Addr} {xs : List (Kt × Addr × V)} {q : Str} : NmO a xs ≠ LamX.CodeO c q := fun z => by
  unfold NmO LamX.CodeO at z
  injection z with z
  have at_c : ((onlyF c).push { cls := .none, data := .fields #[.none, .str q 0] }).get? (onlyF c).objs.size = some { cls := .none, data := .fields #[.none, .str q 0] } := Heap.get?_push_size _ rfl
  rw [onlyF_size] at at_c
  have yes := (congrFun z ((onlyF c).push { cls := .none, data := .fields #[.none, .str q 0] })).mpr ⟨_, _, 0, at_c, rfl, rfl⟩
  obtain ⟨_, o, es, ep, ys, h1, _, h3, _⟩ := yes
  rcases Heap.get?_push_cases h1 with ⟨_, rfl⟩ | e
  · cases h3
  · rw [onlyF_at c a o e] at h3; cases h3
theorem nm_tbl {a : Addr} {xs : List (Kt × Addr × V)} (ps : Array Value) : NmO a xs ≠ .tbl ps := fun z => by
  unfold NmO at z; cases z
theorem nm_at {P : Program} {w : World} {H : Hp} {h : Heap} {a : Addr} {xs : List (Kt × Addr × V)} (ok : HOk P w H h) (e : H a = some (NmO a xs)) (hk : ∀ x ∈ xs, IsV h x.1 (.ref x.2.1) ∧ dpK x.1 ≤ 5) : (a == sysModules) = false ∧ ∃ ys, Paired NmRel xs ys ∧ h.DictOfH (kKind P w) a ys := by
  obtain ⟨⟨n, o, es, ep, ys, h1, h2, h3, h4, h5, h6⟩, -⟩ := (show ObjOk P w H h a (NmO a xs) from ok a _ e)
  refine ⟨n, ys, h6, o, es, ep, h1, h2, h3, h4, ?_, h5⟩
  clear h4 h5 e
  induction h6 with
  | nil => intro x hx; cases hx
  | cons p r ih =>
    rename_i x y xs ys
    intro z hz
    rcases List.mem_cons.mp hz with rfl | hz
    · obtain ⟨e1, e2, _⟩ := p
      have := hk x List.mem_cons_self
      rw [← e1, ← e2]
      exact this
    · exact ih (fun x hx => hk x (List.mem_cons_of_mem _ hx)) z hz
/-- what is at a key -/
noncomputable def atNm (xs : List (Kt × Addr × V)) (k : Kt) : Option (Addr × V) := (xs.find? fun x => decide (x.1 = k)).map (·.2)
noncomputable def putNm (xs : List (Kt × Addr × V)) (k : Kt) (b : Addr) (v : V) : List (Kt × Addr × V) := if (atNm xs k).isSome then xs.map (fun x => if x.1 = k then (x.1, x.2.1, v) else x) else xs ++ [(k, b, v)]
theorem nm_find {xs : List (Kt × Addr × V)} {ys : List (Kt × Addr × Value)} (h : Paired NmRel xs ys) (k : Kt) : (atNm xs k = none ∧ atKey ys k = none) ∨ ∃ b v u, atNm xs k = some (b, v) ∧ atKey ys k = some (b, u) ∧ RelV v u := by
  induction h with
  | nil => exact .inl ⟨rfl, rfl⟩
  | cons p r ih =>
    rename_i x y xs ys
    obtain ⟨k1, b, v⟩ := x
    obtain ⟨k2, b2, u⟩ := y
    obtain ⟨e1, e2, rv⟩ := p
    have e1 : k1 = k2 := e1
    have e2 : b = b2 := e2
    subst e1; subst e2
    unfold atNm atKey at ih ⊢
    by_cases c : k1 = k
    · rw [List.find?_cons, List.find?_cons]
      simp only [decide_eq_true c]
      exact .inr ⟨b, v, u, rfl, rfl, rv⟩
    · rw [List.find?_cons, List.find?_cons]
      simp only [decide_eq_false c]
      exact ih
theorem paired_app {α β : Type} {R : α → β → Prop} : ∀ {l l' : List α} {m m' : List β}, Paired R l m → Paired R l' m' → Paired R (l ++ l') (m ++ m')
  | _, _, _, _, .nil, q => q
  | _, _, _, _, .cons p r, q => .cons p (paired_app r q)
theorem nm_put {xs : List (Kt × Addr × V)} {ys : List (Kt × Addr × Value)} (h : Paired NmRel xs ys) (k : Kt) (b : Addr) {v : V} {u : Value} (rv : RelV v u) : Paired NmRel (putNm xs k b v) (storedH ys k b u) := by
  have e : (atNm xs k).isSome = (atKey ys k).isSome := by
    rcases nm_find h k with ⟨h1, h2⟩ | ⟨_, _, _, h1, h2, _⟩ <;> rw [h1, h2] <;> rfl
  unfold putNm storedH
  rw [e]
  split
  · rename_i hs
    clear hs e
    induction h with
    | nil => exact .nil
    | cons p r ih =>
      rename_i x y xs ys
      rw [List.map_cons, List.map_cons]
      refine .cons ?_ ih
      obtain ⟨e1, e2, rw⟩ := p
      unfold putAt
      by_cases c : x.1 = k
      · rw [if_pos c, if_pos (e1.symm.trans c)]; exact ⟨e1, e2, rv⟩
      · rw [if_neg c, if_neg fun q => c (e1.trans q)]; exact ⟨e1, e2, rw⟩
  · exact paired_app h (.cons ⟨rfl, rfl, rv⟩ .nil)
/-! ### by values -/
mutual
inductive KVr (K : PySem.W.Frag) (H : Hp) : Kt → V → Prop
  | int (i : Int) : KVr K H (.int i) (.int i)
  | tup {a : Addr} {xs : List V} {ks : List Kt} : SqT K H a xs → KVrs K H ks xs → KVr K H (.tup ks) (.ref a)
inductive KVrs (K : PySem.W.Frag) (H : Hp) : List Kt → List V → Prop
  | nil : KVrs K H [] []
  | cons {k : Kt} {v : V} {ks : List Kt} {vs : List V} : KVr K H k v → KVrs K H ks vs → KVrs K H (k :: ks) (v :: vs)
end
section
variable {X : Cx} {pins : List (Addr × Obj)} {σ : L2.St} {H : Hp} {s : Shared}
mutual
theorem KVr.isV (I : Inv X pins σ H s) : ∀ {k : Kt} {v : V} {u : Value}, KVr X.K H k v → RelV v u → IsV s.heap k u
  | _, _, _, .int i, r => by
    obtain ⟨t, rfl⟩ := r
    exact .int i t
  | _, _, _, .tup hs hk, r => by
    cases r
    obtain ⟨its, rv, ⟨o, ho, hc, n, hd⟩, _⟩ := I.tuple hs
    exact .tup ho hc hd (by rw [List.toList_toArray]; exact KVrs.isVs I hk rv)
theorem KVrs.isVs (I : Inv X pins σ H s) : ∀ {ks : List Kt} {vs : List V} {us : List Value}, KVrs X.K H ks vs → Vals vs us → IsVs s.heap ks us
  | _, _, _, .nil, r => by cases r; exact .nil
  | _, _, _, .cons a b, r => by
    cases r with
    | cons r1 r2 => exact .cons (KVr.isV I a r1) (KVrs.isVs I b r2)
end
/-- x in d, x not in d -/
def rMemoIn (K : PySem.W.Frag) (neg : Bool) : R2 := fun x y H Q => ∃ (a b : Addr) (k : Kt) (xs : List (Kt × Addr × Value)), y = .ref a ∧ x = .ref b ∧ H a = some (MemoO a xs) ∧ (∀ p ∈ xs, KVr K H p.1 (.ref p.2.1) ∧ dpK p.1 ≤ 5) ∧ KVr K H k x ∧ dpK k ≤ 5 ∧
  Q (.bl (if neg then !(xs.map (·.1)).contains k else (xs.map (·.1)).contains k)) H
theorem atKey_has (xs : List (Kt × Addr × Value)) (k : Kt) : (atKey xs k).isSome = (xs.map (·.1)).contains k := by
  induction xs with
  | nil => rfl
  | cons p r ih =>
    unfold atKey at ih ⊢
    rw [List.find?_cons, List.map_cons, List.contains_cons]
    by_cases e : p.1 = k
    · rw [decide_eq_true e]; simp [e]
    · rw [decide_eq_false e]
      have : (k == p.1) = false := by simpa using fun z => e z.symm
      rw [this, Bool.false_or]; exact ih
theorem op_memoIn (hu : X.A.units + 9 < cLine) : OpR X (compareOp .In) (rMemoIn X.K false) := by
  intro pins s σ H x y v u Q I rx ry ⟨a, b, k, xs, ey, ex, ha, hk, hx, dk, q⟩
  subst ey; subst ex
  cases rx; cases ry
  obtain ⟨n, dd⟩ := memo_at (P := X.prog) (w := X.w) I.hok ha fun p hp => ⟨(hk p hp).1.isV I rfl, (hk p hp).2⟩
  refine wpAny_in_heap (knd := kKind X.prog X.w) (show X.A.units + 1 + 7 < cLine by omega) ⟨hx.isV I rfl, dk⟩ n dd ?_
  rw [atKey_has]
  exact ⟨.bl _, H, I.tok _, rfl, q⟩
theorem op_memoNotIn (hu : X.A.units + 9 < cLine) : OpR X (compareOp .NotIn) (rMemoIn X.K true) := by
  intro pins s σ H x y v u Q I rx ry ⟨a, b, k, xs, ey, ex, ha, hk, hx, dk, q⟩
  subst ey; subst ex
  cases rx; cases ry
  obtain ⟨n, dd⟩ := memo_at (P := X.prog) (w := X.w) I.hok ha fun p hp => ⟨(hk p hp).1.isV I rfl, (hk p hp).2⟩
  refine wpAny_notIn_heap (knd := kKind X.prog X.w) (show X.A.units + 1 + 7 < cLine by omega) ⟨hx.isV I rfl, dk⟩ n dd ?_
  rw [atKey_has]
  exact ⟨.bl _, H, I.tok _, rfl, q⟩
/-- d[k] = v -/
def rMemoSet (K : PySem.W.Frag) : V → V → V → Hp → (Hp → Prop) → Prop := fun o i v H Q => ∃ (a b : Addr) (k : Kt) (xs : List (Kt × Addr × Value)), o = .ref a ∧ i = .ref b ∧ H a = some (MemoO a xs) ∧ (∀ p ∈ xs, KVr K H p.1 (.ref p.2.1) ∧ dpK p.1 ≤ 5) ∧ KVr K H k i ∧ dpK k ≤ 5 ∧ xs.length < sizeLine ∧
  ∀ u, Q (upd H a (MemoO a (storedH xs k b u)))
theorem set_memo (hu : X.A.units + 9 < cLine) : PSet X (rMemoSet X.K) := by
  intro pins s σ H o i v ov iv u Q I ro ri rv ⟨a, b, k, xs, eo, ei, ha, hk, hx, dk, hl, q⟩
  subst eo; subst ei
  cases ro; cases ri
  obtain ⟨n, dd⟩ := memo_at (P := X.prog) (w := X.w) I.hok ha fun p hp => ⟨(hk p hp).1.isV I rfl, (hk p hp).2⟩
  refine wpAny_setItem_heap (hsz := by omega) (knd := kKind X.prog X.w) (show X.A.units + 1 + 7 < cLine by omega) ⟨hx.isV I rfl, dk⟩ dd fun h' dd' hs => ?_
  obtain ⟨ob, es, ep, h1, h2, h3, h4, _, h5⟩ := dd'
  exact ⟨_, I.write (x := a) (e := a) (by rw [ha]; trivial) (.inl rfl) (fun c r hb z => (hs.2 c hb).trans z) ⟨ob, h1⟩ (memo_ok n h1 h2 h3 h4 h5), q u⟩
def tMemo0 : TE := fun _ H Q => ∀ p, H p = none → Q (.ref p) (upd H p (MemoO p []))
theorem pe_memo0 {pos : Pos} : PE X (.Dict [] [] pos) tMemo0 := ⟨fun pins s σ H Q I h => by
  refine wpAny_Dict_empty ?_
  have n : (s.heap.objs.size == sysModules) = false := by
    have := I.big
    exact beq_eq_false_iff_ne.mpr (Nat.ne_of_gt this)
  exact ⟨.ref s.heap.objs.size, _, I.laid (a := s.heap.objs.size) (o := MemoO s.heap.objs.size []) (t' := s.toks) (fun _ _ q => Heap.get?_push_of_some _ q) (Nat.le_refl _) (memo_ok n (Heap.get?_push_size _ rfl) ⟨rfl, rfl, rfl⟩ rfl rfl .nil), rfl, h _ (I.hok.fresh (Nat.le_refl _))⟩⟩
end
end Dl

set_option Elab.async false
set_option linter.all false
set_option maxRecDepth 100000
namespace Dl
open PySem PySem.Spec PyProof.Rows L2 LamX

/-! ### data: tuples and lists by what they hold; mutable things by their address -/
/-- a lambda as it was made: its words, the cells that it captured, its code object, the tuple of its default -/
structure LF where
  qual : Str
  params : Arguments
  body : Expr
  scope : Scope
  cl : List (Str × Addr)
  c : Addr
  dt : Option Addr
inductive D where
  | non | bl (b : Bool) | int (i : Int) | str (x : Str) | tup (ds : List D) | ptp (ds : List D) | lst (ds : List D) | scr (ns : List Int) | ref (a : Addr)
  | fn (F : LF) (ws : List V) (dws : List D) | exc (a : Addr) (d : Option Addr) (nm : Str) (ps : List D)
/-- what may change, by what it holds -/
inductive MO where
  | lst (ds : List D)
  | dK (kvs : List (L2.Key × D))
  | dT (kvs : List (List L2.Key × D))
  | ins (C : Addr) (fs : List (Str × D))
  | dN (kvs : List (List Int × D))
  | memo (ks : List Kt)
mutual
/-- data as a key -/
def ktOf : D → Option Kt
  | .int i => some (.int i)
  | .tup ds => (ktsOf ds).map .tup
  | .ptp ds => (ktsOf ds).map .tup
  | _ => none
def ktsOf : List D → Option (List Kt)
  | [] => some []
  | d :: ds => match ktOf d, ktsOf ds with
    | some k, some ks => some (k :: ks)
    | _, _ => none
end
abbrev Store := Addr → Option MO
abbrev Tb := List (Addr × Str)

/-- a tuple at a, hidden or written -/
def TupAt (K : PySem.W.Frag) (H : Hp) (S : Store) (a : Addr) (vs : List V) : Prop :=
  (Rd H a (.tup vs) ∧ S a = none) ∨
    ∃ (o : Obj) (its : Array Value) (n : Nat), K.lookup a = some o ∧ o.cls = .type "tuple" ∧ o.data = .seq its n ∧ its.size ≤ sizeLine ∧ Vals vs its.toList
/-- a tuple whose object is known to have no dict of its own -/
def PtpAt (K : PySem.W.Frag) (H : Hp) (S : Store) (a : Addr) (vs : List V) : Prop :=
  (∃ o : Obj, H a = some (.frz o (.tup vs)) ∧ o.dict = none ∧ S a = none) ∨
    ∃ (o : Obj) (its : Array Value) (n : Nat), K.lookup a = some o ∧ o.cls = .type "tuple" ∧ o.data = .seq its n ∧ its.size ≤ sizeLine ∧ Vals vs its.toList ∧ o.dict = none
/-- a list that is read, hidden or written -/
def LstAt (K : PySem.W.Frag) (Z : List Addr) (H : Hp) (S : Store) (a : Addr) (vs : List V) : Prop :=
  (Rd H a (.lst vs) ∧ S a = none ∧ a ∉ Z) ∨
    ∃ (o : Obj) (its : Array Value) (n : Nat), K.lookup a = some o ∧ o.cls = .type "list" ∧ o.dict = none ∧ o.data = .seq its n ∧ its.size ≤ sizeLine ∧ Vals vs its.toList
theorem TupAt.sq {K : PySem.W.Frag} {H : Hp} {S : Store} {a : Addr} {vs : List V} (h : TupAt K H S a vs) : SqT K H a vs := h.imp (·.1) id
theorem PtpAt.sq {K : PySem.W.Frag} {H : Hp} {S : Store} {a : Addr} {vs : List V} (h : PtpAt K H S a vs) : SqT K H a vs := by
  rcases h with ⟨o, h, _⟩ | ⟨o, its, n, h1, h2, h3, h4, h5, _⟩
  · exact .inl (.inr ⟨o, h⟩)
  · exact .inr ⟨o, its, n, h1, h2, h3, h4, h5⟩
theorem LstAt.sq {K : PySem.W.Frag} {Z : List Addr} {H : Hp} {S : Store} {a : Addr} {vs : List V} (h : LstAt K Z H S a vs) : SqL K H a vs := h.imp (·.1) id
def dtV : Option Addr → Value
  | some t => .ref t
  | none => .none
abbrev LF.fd (F : LF) (pm ctv : Value) : FuncData := { name := "<lambda>", qualname := F.qual, params := F.params, body := .expr F.body, scope := F.scope, globals := mainGlobals, closure := F.cl, defaults := dtV F.dt, kwdefaults := .none, doc := .none, pyModule := pm, annotations := none, code := .ref F.c, closureTuple := ctv, builtins := builtinsNs }
/-- the object at f is the lambda F -/
def LamO (f : Addr) (F : LF) : HO := .ext fun h => ∃ (od : Option Addr) (sl : Array (Option Value)) (pm ctv : Value), h.get? f = some (⟨.type "function", od, .func (F.fd pm ctv), sl⟩ : Obj)
structure FnAt (H : Hp) (S : Store) (a : Addr) (F : LF) : Prop where
  at_ : H a = some (LamO a F)
  ns : S a = none
  co : H F.c = some (CodeO F.c F.qual)
  nc : S F.c = none
  df : ∀ t, F.dt = some t → H t = some (.tup [.int 0]) ∧ S t = none
theorem lamO_ne {f : Addr} {F : LF} : (∀ ps, LamO f F ≠ .tbl ps) ∧ (∀ xs, LamO f F ≠ .lst xs) ∧ LamO f F ≠ .dK [] := by
  unfold LamO
  exact ⟨fun ps z => (by cases z), fun ps z => (by cases z), fun z => (by cases z)⟩
theorem FnAt.mv {H H' : Hp} {S S' : Store} {a : Addr} {F : LF} (h : FnAt H S a F) (x : ∀ b o, S b = none → H b = some o → (∀ ps, o ≠ .tbl ps) → (∀ xs, o ≠ .lst xs) → o ≠ .dK [] → S' b = none ∧ H' b = some o) : FnAt H' S' a F := by
  have c1 : (∀ ps, CodeO F.c F.qual ≠ .tbl ps) ∧ (∀ xs, CodeO F.c F.qual ≠ .lst xs) ∧ CodeO F.c F.qual ≠ .dK [] := by
    unfold CodeO
    exact ⟨fun ps z => (by cases z), fun ps z => (by cases z), fun z => (by cases z)⟩
  obtain ⟨a1, a2⟩ := x a _ h.ns h.at_ lamO_ne.1 lamO_ne.2.1 lamO_ne.2.2
  obtain ⟨b1, b2⟩ := x _ _ h.nc h.co c1.1 c1.2.1 c1.2.2
  refine ⟨a2, a1, b2, b1, fun t e => ?_⟩
  obtain ⟨d1, d2⟩ := h.df t e
  obtain ⟨e1, e2⟩ := x t _ d2 d1 (fun ps z => (by cases z)) (fun ps z => (by cases z)) (fun z => (by cases z))
  exact ⟨e2, e1⟩
/-- the field of an own error that has one -/
def fieldOf (nm : Str) : Str := if nm = "BadHistory" then "number" else "row"
theorem xd_mv {H H' : Hp} {S S' : Store} {b : Addr} {fs : List (Str × V)} (h : H b = some (.xd fs)) (n : S b = none) (x : ∀ b o, S b = none → H b = some o → (∀ ps, o ≠ .tbl ps) → (∀ xs, o ≠ .lst xs) → o ≠ .dK [] → S' b = none ∧ H' b = some o) : H' b = some (.xd fs) ∧ S' b = none :=
  let z := x b _ n h (fun ps z => (by cases z)) (fun ps z => (by cases z)) (fun z => (by cases z))
  ⟨z.2, z.1⟩
mutual
inductive Rep (K : PySem.W.Frag) (Z : List Addr) (H : Hp) (S : Store) : V → D → Prop
  | non : Rep K Z H S .non .non
  | bl (b : Bool) : Rep K Z H S (.bl b) (.bl b)
  | int (i : Int) : Rep K Z H S (.int i) (.int i)
  | str (x : Str) : Rep K Z H S (.str x) (.str x)
  | ref (a : Addr) : Rep K Z H S (.ref a) (.ref a)
  | tup {a : Addr} {vs : List V} {ds : List D} : TupAt K H S a vs → Reps K Z H S vs ds → Rep K Z H S (.ref a) (.tup ds)
  | ptp {a : Addr} {vs : List V} {ds : List D} : PtpAt K H S a vs → Reps K Z H S vs ds → Rep K Z H S (.ref a) (.ptp ds)
  | lst {a : Addr} {vs : List V} {ds : List D} : H a = some (.lst vs) → S a = none → a ∉ Z → Reps K Z H S vs ds → Rep K Z H S (.ref a) (.lst ds)
  | scr {a : Addr} {ns : List Int} : LstAt K Z H S a (ns.map V.int) → Rep K Z H S (.ref a) (.scr ns)
  | fn {a : Addr} {F : LF} {ws : List V} {dws : List D} : FnAt H S a F → Reps K Z H S ws dws → Rep K Z H S (.ref a) (.fn F ws dws)
  | exc0 {a : Addr} {nm : Str} : Rep K Z H S (.ref a) (.exc a none nm [])
  | exc1 {a b : Addr} {nm : Str} {v : V} {d : D} : H b = some (.xd [(fieldOf nm, v)]) → S b = none → Rep K Z H S v d → Rep K Z H S (.ref a) (.exc a (some b) nm [d])
inductive Reps (K : PySem.W.Frag) (Z : List Addr) (H : Hp) (S : Store) : List V → List D → Prop
  | nil : Reps K Z H S [] []
  | cons {v : V} {d : D} {vs : List V} {ds : List D} : Rep K Z H S v d → Reps K Z H S vs ds → Reps K Z H S (v :: vs) (d :: ds)
end
abbrev RKV (K : PySem.W.Frag) (Z : List Addr) (H : Hp) (S : Store) {κ : Type} : List (κ × V) → List (κ × D) → Prop := Paired fun p q => p.1 = q.1 ∧ Rep K Z H S p.2 q.2

/-- the names of the instances' attributes -/
def flds : List Str := ["me", "many", "seats", "first", "name", "term", "voted", "row", "sure", "closed", "state", "done", "taking", "role", "votes", "nexts", "has", "silent", "guess", "book", "asks", "deed", "turns", "got", "ahead", "hinted"]
/-- an own class whose instances are followed -/
structure OwnC (K : PySem.W.Frag) (C : Addr) : Prop where
  c : Cls K C
  n : ∀ f ∈ flds, NoAttr K C f
def MOk (K : PySem.W.Frag) (Z : List Addr) (H : Hp) (S : Store) (a : Addr) : MO → Prop
  | .lst ds => ∃ vs, H a = some (.lst vs) ∧ Reps K Z H S vs ds
  | .dK kds => ∃ kvs, H a = some (.dK kvs) ∧ RKV K Z H S kvs kds
  | .dT kds => ∃ kvs, H a = some (.dT kvs) ∧ RKV K Z H S kvs kds
  | .ins C fds => OwnC K C ∧ fds.length ≤ 100 ∧ ∃ dx fvs, H a = some (.ins C dx fvs) ∧ RKV K Z H S fvs fds
  | .dN kvs => ∃ xs : List (Kt × Addr × V), H a = some (NmO a xs) ∧ Paired (fun (x : Kt × Addr × V) (kv : List Int × D) => x.1 = ktI kv.1 ∧ Rep K Z H S (.ref x.2.1) (.tup (kv.1.map D.int)) ∧ Rep K Z H S x.2.2 kv.2) xs kvs
  | .memo ks => ∃ xs : List (Kt × Addr × Value), H a = some (MemoO a xs) ∧ xs.map (·.1) = ks ∧ ∀ x ∈ xs, ∃ d, Rep K Z H S (.ref x.2.1) d ∧ ktOf d = some x.1 ∧ dpK x.1 ≤ 5
structure StOk (K : PySem.W.Frag) (T : Tb) (Z : List Addr) (H : Hp) (S : Store) : Prop where
  tabs : Tabs T H
  rsv : ∀ z ∈ Z, S z = none ∧ ∃ vs, H z = some (.lst vs)
  obj : ∀ a o, S a = some o → MOk K Z H S a o
/-- what is hidden stays -/
structure Ext (H : Hp) (S : Store) (H' : Hp) (S' : Store) : Prop where
  st : ∀ a o, S a = none → H a = some o → (∀ ps, o ≠ .tbl ps) → S' a = none ∧ H' a = some o
theorem Ext.hid {H H' : Hp} {S S' : Store} (x : Ext H S H' S') (a : Addr) (o : HO) (n : S a = none) (e : H a = some o) (nt : ∀ ps, o ≠ .tbl ps) : S' a = none := (x.st a o n e nt).1
theorem Ext.eq {H H' : Hp} {S S' : Store} (x : Ext H S H' S') (a : Addr) (o : HO) (n : S a = none) (e : H a = some o) (nt : ∀ ps, o ≠ .tbl ps) : H' a = some o := (x.st a o n e nt).2
theorem Ext.refl (H : Hp) (S : Store) : Ext H S H S := ⟨fun a o h e _ => ⟨h, e⟩⟩
theorem Ext.trans {H H1 H2 : Hp} {S S1 S2 : Store} (x : Ext H S H1 S1) (y : Ext H1 S1 H2 S2) : Ext H S H2 S2 :=
  ⟨fun a o h e n => y.st a o (x.hid a o h e n) (x.eq a o h e n) n⟩
section
variable {K : PySem.W.Frag} {T : Tb} {Z : List Addr} {H H' : Hp} {S S' : Store}
theorem StOk.get (ok : StOk K T Z H S) {a : Addr} {o : MO} (e : S a = some o) : ∃ u, H a = some u ∧ ∀ ps, u ≠ .tbl ps := by
  have m := ok.obj a o e
  cases o with
  | lst ds => obtain ⟨vs, h, _⟩ := m; exact ⟨_, h, fun ps z => (by cases z)⟩
  | dK ds => obtain ⟨vs, h, _⟩ := m; exact ⟨_, h, fun ps z => (by cases z)⟩
  | dT ds => obtain ⟨vs, h, _⟩ := m; exact ⟨_, h, fun ps z => (by cases z)⟩
  | ins C ds => obtain ⟨_, _, dx, vs, h, _⟩ := m; exact ⟨_, h, fun ps z => (by cases z)⟩
  | dN ks => obtain ⟨xs, h, _⟩ := m; exact ⟨_, h, fun ps => nm_tbl ps⟩
  | memo ks => obtain ⟨xs, h, _⟩ := m; exact ⟨_, h, fun ps => memo_tbl ps⟩
theorem StOk.fresh (ok : StOk K T Z H S) {a : Addr} (e : H a = none) : S a = none := by
  cases q : S a with
  | none => rfl
  | some o =>
    obtain ⟨u, h, _⟩ := ok.get q
    rw [e] at h; cases h
theorem StOk.nz (ok : StOk K T Z H S) {p : Addr} (hp : H p = none) : p ∉ Z := fun q => by
  obtain ⟨_, vs, e⟩ := ok.rsv p q
  rw [hp] at e; cases e
theorem Rd.ext {a : Addr} {u : HO} (h : Rd H a u) (n : S a = none) (x : Ext H S H' S') (nt : ∀ ps, u ≠ .tbl ps) : Rd H' a u ∧ S' a = none := by
  rcases h with h | ⟨o, h⟩
  · exact ⟨.inl (x.eq a _ n h nt), x.hid a _ n h nt⟩
  · exact ⟨.inr ⟨o, x.eq a _ n h fun ps z => (by cases z)⟩, x.hid a _ n h fun ps z => (by cases z)⟩
theorem TupAt.ext {a : Addr} {vs : List V} (h : TupAt K H S a vs) (x : Ext H S H' S') : TupAt K H' S' a vs := by
  rcases h with ⟨h, n⟩ | h
  · exact .inl (Rd.ext h n x fun ps z => (by cases z))
  · exact .inr h
theorem PtpAt.ext {a : Addr} {vs : List V} (h : PtpAt K H S a vs) (x : Ext H S H' S') : PtpAt K H' S' a vs := by
  rcases h with ⟨o, h, d, n⟩ | h
  · exact .inl ⟨o, x.eq a _ n h fun ps z => (by cases z), d, x.hid a _ n h fun ps z => (by cases z)⟩
  · exact .inr h
theorem LstAt.ext {a : Addr} {vs : List V} (h : LstAt K Z H S a vs) (x : Ext H S H' S') : LstAt K Z H' S' a vs := by
  rcases h with ⟨h, n, nz⟩ | h
  · obtain ⟨h1, h2⟩ := Rd.ext h n x fun ps z => (by cases z)
    exact .inl ⟨h1, h2, nz⟩
  · exact .inr h
mutual
theorem Rep.ext (x : Ext H S H' S') : ∀ {v : V} {d : D}, Rep K Z H S v d → Rep K Z H' S' v d
  | _, _, .non => .non
  | _, _, .bl b => .bl b
  | _, _, .int i => .int i
  | _, _, .str z => .str z
  | _, _, .ref a => .ref a
  | _, _, .tup h r => .tup (h.ext x) (Reps.ext x r)
  | _, _, .ptp h r => .ptp (h.ext x) (Reps.ext x r)
  | _, _, .lst h n nz r => .lst (x.eq _ _ n h fun ps z => (by cases z)) (x.hid _ _ n h fun ps z => (by cases z)) nz (Reps.ext x r)
  | _, _, .scr h => .scr (h.ext x)
  | _, _, .fn h r => .fn (h.mv fun b o n e t _ _ => x.st b o n e t) (Reps.ext x r)
  | _, _, .exc0 => .exc0
  | _, _, .exc1 h n r => .exc1 (xd_mv h n fun b o n e t _ _ => x.st b o n e t).1 (xd_mv h n fun b o n e t _ _ => x.st b o n e t).2 (Rep.ext x r)
theorem Reps.ext (x : Ext H S H' S') : ∀ {vs : List V} {ds : List D}, Reps K Z H S vs ds → Reps K Z H' S' vs ds
  | _, _, .nil => .nil
  | _, _, .cons r t => .cons (Rep.ext x r) (Reps.ext x t)
end
theorem RKV.ext {κ : Type} (x : Ext H S H' S') {kvs : List (κ × V)} {kds : List (κ × D)} (r : RKV K Z H S kvs kds) : RKV K Z H' S' kvs kds :=
  L2.Paired.mapP r fun _ _ q => ⟨q.1, q.2.ext x⟩
/-- a view of less -/
def Sub (S' S : Store) : Prop := ∀ a o, S' a = some o → S a = some o
theorem Sub.refl (S : Store) : Sub S S := fun _ _ h => h
theorem Sub.trans {S S1 S2 : Store} (a : Sub S S1) (b : Sub S1 S2) : Sub S S2 := fun c o h => b c o (a c o h)
theorem Sub.no {S S' : Store} (h : Sub S' S) {a : Addr} (n : S a = none) : S' a = none := by
  cases q : S' a with
  | none => rfl
  | some o => rw [h a o q] at n; cases n
mutual
theorem Rep.sub (x : Sub S' S) : ∀ {v : V} {d : D}, Rep K Z H S v d → Rep K Z H S' v d
  | _, _, .non => .non
  | _, _, .bl b => .bl b
  | _, _, .int i => .int i
  | _, _, .str z => .str z
  | _, _, .ref a => .ref a
  | _, _, .tup h r => .tup (h.imp (fun z => ⟨z.1, x.no z.2⟩) id) (Reps.sub x r)
  | _, _, .ptp h r => .ptp (h.imp (fun ⟨o, z1, z2, z3⟩ => ⟨o, z1, z2, x.no z3⟩) id) (Reps.sub x r)
  | _, _, .lst h n nz r => .lst h (x.no n) nz (Reps.sub x r)
  | _, _, .scr h => .scr (h.imp (fun z => ⟨z.1, x.no z.2.1, z.2.2⟩) id)
  | _, _, .fn h r => .fn (h.mv fun b o n e _ _ _ => ⟨x.no n, e⟩) (Reps.sub x r)
  | _, _, .exc0 => .exc0
  | _, _, .exc1 h n r => .exc1 h (x.no n) (Rep.sub x r)
theorem Reps.sub (x : Sub S' S) : ∀ {vs : List V} {ds : List D}, Reps K Z H S vs ds → Reps K Z H S' vs ds
  | _, _, .nil => .nil
  | _, _, .cons r t => .cons (Rep.sub x r) (Reps.sub x t)
end
theorem RKV.sub {κ : Type} (x : Sub S' S) {kvs : List (κ × V)} {kds : List (κ × D)} (r : RKV K Z H S kvs kds) : RKV K Z H S' kvs kds :=
  L2.Paired.mapP r fun _ _ q => ⟨q.1, q.2.sub x⟩
theorem MOk.sub (x : Sub S' S) {a : Addr} {o : MO} (m : MOk K Z H S a o) : MOk K Z H S' a o := by
  cases o with
  | lst ds => obtain ⟨vs, h, r⟩ := m; exact ⟨vs, h, r.sub x⟩
  | dK ds => obtain ⟨vs, h, r⟩ := m; exact ⟨vs, h, r.sub x⟩
  | dT ds => obtain ⟨vs, h, r⟩ := m; exact ⟨vs, h, r.sub x⟩
  | ins C ds => obtain ⟨oc, fl, dx, vs, h, r⟩ := m; exact ⟨oc, fl, dx, vs, h, r.sub x⟩
  | dN ks => obtain ⟨xs, h, r⟩ := m; exact ⟨xs, h, L2.Paired.mapP r fun _ _ q => ⟨q.1, q.2.1.sub x, q.2.2.sub x⟩⟩
  | memo ks => obtain ⟨xs, h, e, r⟩ := m; exact ⟨xs, h, e, fun y hy => let ⟨d, a, b, c⟩ := r y hy; ⟨d, a.sub x, b, c⟩⟩
theorem StOk.sub (x : Sub S' S) (ok : StOk K T Z H S) : StOk K T Z H S' := ⟨ok.tabs, fun z hz => ⟨x.no (ok.rsv z hz).1, (ok.rsv z hz).2⟩, fun a o e => (ok.obj a o (x a o e)).sub x⟩
theorem Ext.sub {S2 : Store} (x : Ext H S H' S') (z : Sub S2 S') : Ext H S H' S2 := ⟨fun a o n e nt => ⟨z.no (x.hid a o n e nt), x.eq a o n e nt⟩⟩

/-! ### slots -/
abbrev DSt := List (Option D)
structure Slots (K : PySem.W.Frag) (Z : List Addr) (H : Hp) (S : Store) (σ : L2.St) (τ : DSt) : Prop where
  len : σ.length = τ.length
  at_ : ∀ (i : Nat) (d : D), τ[i]? = some (some d) → ∃ v, σ[i]? = some (some v) ∧ Rep K Z H S v d
theorem Slots.ext {σ : L2.St} {τ : DSt} (x : Ext H S H' S') (s : Slots K Z H S σ τ) : Slots K Z H' S' σ τ :=
  ⟨s.len, fun i d e => let ⟨v, h, r⟩ := s.at_ i d e; ⟨v, h, r.ext x⟩⟩
theorem Slots.sub {σ : L2.St} {τ : DSt} (x : Sub S' S) (s : Slots K Z H S σ τ) : Slots K Z H S' σ τ :=
  ⟨s.len, fun i d e => let ⟨v, h, r⟩ := s.at_ i d e; ⟨v, h, r.sub x⟩⟩
theorem Slots.set {σ : L2.St} {τ : DSt} (s : Slots K Z H S σ τ) (i : Nat) {v : V} {d : D} (r : Rep K Z H S v d) : Slots K Z H S (σ.set i (some v)) (τ.set i (some d)) := by
  refine ⟨by simp [s.len], fun j e h => ?_⟩
  by_cases hj : i = j
  · subst hj
    by_cases hi : i < τ.length
    · rw [List.getElem?_set_self hi] at h
      cases h
      exact ⟨v, List.getElem?_set_self (by rw [s.len]; exact hi), r⟩
    · rw [List.getElem?_eq_none (by simp; omega)] at h
      cases h
  · rw [List.getElem?_set_ne hj] at h ⊢
    exact s.at_ j e h
theorem Slots.weak {σ : L2.St} {τ τ' : DSt} (s : Slots K Z H S σ τ) (hl : τ'.length = τ.length) (h : ∀ (i : Nat) (d : D), τ'[i]? = some (some d) → τ[i]? = some (some d)) : Slots K Z H S σ τ' :=
  ⟨s.len.trans hl.symm, fun i d e => s.at_ i d (h i d e)⟩
theorem Reps.length : ∀ {vs : List V} {ds : List D}, Reps K Z H S vs ds → vs.length = ds.length
  | _, _, .nil => rfl
  | _, _, .cons _ t => by simp [Reps.length t]
theorem Reps.get : ∀ {vs : List V} {ds : List D} {i : Nat} {d : D}, Reps K Z H S vs ds → ds[i]? = some d → ∃ v, vs[i]? = some v ∧ Rep K Z H S v d
  | _, _, _, _, .nil, e => by simp at e
  | _, _, 0, _, .cons r _, e => by simp at e; subst e; exact ⟨_, rfl, r⟩
  | _, _, i + 1, d, .cons _ t, e => by
    obtain ⟨u, h1, h2⟩ := Reps.get (i := i) (d := d) t (by simpa using e)
    exact ⟨u, by simpa using h1, h2⟩
theorem Reps.get' : ∀ {vs : List V} {ds : List D} {i : Nat} {v : V}, Reps K Z H S vs ds → vs[i]? = some v → ∃ d, ds[i]? = some d ∧ Rep K Z H S v d
  | _, _, _, _, .nil, e => by simp at e
  | _, _, 0, _, .cons r _, e => by simp at e; subst e; exact ⟨_, rfl, r⟩
  | _, _, i + 1, d, .cons _ t, e => by
    obtain ⟨u, h1, h2⟩ := Reps.get' (i := i) (v := d) t (by simpa using e)
    exact ⟨u, by simpa using h1, h2⟩
theorem Reps.append : ∀ {vs ws : List V} {ds es : List D}, Reps K Z H S vs ds → Reps K Z H S ws es → Reps K Z H S (vs ++ ws) (ds ++ es)
  | _, _, _, _, .nil, q => q
  | _, _, _, _, .cons r t, q => .cons r (Reps.append t q)
theorem Reps.take : ∀ {vs : List V} {ds : List D} (n : Nat), Reps K Z H S vs ds → Reps K Z H S (vs.take n) (ds.take n)
  | _, _, 0, _ => .nil
  | _, _, _ + 1, .nil => .nil
  | _, _, n + 1, .cons r t => .cons r (Reps.take n t)
theorem Reps.drop : ∀ {vs : List V} {ds : List D} (n : Nat), Reps K Z H S vs ds → Reps K Z H S (vs.drop n) (ds.drop n)
  | _, _, 0, r => r
  | _, _, _ + 1, .nil => .nil
  | _, _, n + 1, .cons _ t => Reps.drop n t
theorem Reps.set : ∀ {vs : List V} {ds : List D} (i : Nat) {v : V} {d : D}, Reps K Z H S vs ds → Rep K Z H S v d → Reps K Z H S (vs.set i v) (ds.set i d)
  | _, _, _, _, _, .nil, _ => .nil
  | _, _, 0, _, _, .cons _ t, r => .cons r t
  | _, _, i + 1, _, _, .cons q t, r => .cons q (Reps.set i t r)
theorem Reps.eraseIdx : ∀ {vs : List V} {ds : List D} (i : Nat), Reps K Z H S vs ds → Reps K Z H S (vs.eraseIdx i) (ds.eraseIdx i)
  | _, _, _, .nil => .nil
  | _, _, 0, .cons _ t => t
  | _, _, i + 1, .cons r t => .cons r (Reps.eraseIdx i t)
theorem Reps.ints : ∀ (ns : List Int), Reps K Z H S (ns.map V.int) (ns.map D.int)
  | [] => .nil
  | n :: r => .cons (.int n) (Reps.ints r)
theorem Reps.ints_of : ∀ {ns : List Int} {vs : List V}, Reps K Z H S vs (ns.map D.int) → vs = ns.map V.int
  | [], _, .nil => rfl
  | n :: r, _, .cons (.int _) t => by rw [Reps.ints_of t]; rfl

/-! ### making, changing -/
def ups (S : Store) (a : Addr) (o : MO) : Store := fun b => if b = a then some o else S b
theorem ups_same {a : Addr} {o : MO} : ups S a o a = some o := by unfold ups; rw [if_pos rfl]
theorem ups_ne {a b : Addr} {o : MO} (h : b ≠ a) : ups S a o b = S b := by unfold ups; rw [if_neg h]
theorem Ext.new {p : Addr} {u : HO} (hp : H p = none) : Ext H S (upd H p u) S :=
  ⟨fun a o n e _ => ⟨n, by rw [upd_ne (ne_of_none e hp)]; exact e⟩⟩
theorem Ext.newS {p : Addr} {u : HO} {o : MO} (hp : H p = none) : Ext H S (upd H p u) (ups S p o) :=
  ⟨fun a o' n e _ => ⟨by rw [ups_ne (ne_of_none e hp)]; exact n, by rw [upd_ne (ne_of_none e hp)]; exact e⟩⟩
theorem Ext.put {a : Addr} {u : HO} {o o1 : MO} (h : S a = some o) : Ext H S (upd H a u) (ups S a o1) := by
  have ne : ∀ b, S b = none → b ≠ a := fun b n z => by rw [z, h] at n; cases n
  exact ⟨fun b o' n e _ => ⟨by rw [ups_ne (ne b n)]; exact n, by rw [upd_ne (ne b n)]; exact e⟩⟩
theorem MOk.other {b p : Addr} {u : HO} {o : MO} (x : Ext H S H' S') (hne : H' b = H b) (m : MOk K Z H S b o) : MOk K Z H' S' b o := by
  cases o with
  | lst ds => obtain ⟨vs, h, r⟩ := m; exact ⟨vs, hne.trans h, r.ext x⟩
  | dK ds => obtain ⟨vs, h, r⟩ := m; exact ⟨vs, hne.trans h, r.ext x⟩
  | dT ds => obtain ⟨vs, h, r⟩ := m; exact ⟨vs, hne.trans h, r.ext x⟩
  | ins C ds => obtain ⟨oc, fl, dx, vs, h, r⟩ := m; exact ⟨oc, fl, dx, vs, hne.trans h, r.ext x⟩
  | dN ks => obtain ⟨xs, h, r⟩ := m; exact ⟨xs, hne.trans h, L2.Paired.mapP r fun _ _ q => ⟨q.1, q.2.1.ext x, q.2.2.ext x⟩⟩
  | memo ks => obtain ⟨xs, h, e, r⟩ := m; exact ⟨xs, hne.trans h, e, fun y hy => let ⟨d, a, b, c⟩ := r y hy; ⟨d, a.ext x, b, c⟩⟩
theorem tabs_upd {p : Addr} {u : HO} (t : Tabs T H) (h : H p = none ∨ ∃ o, H p = some o ∧ (∀ ps, o ≠ .tbl ps) ∧ ∀ c q, o ≠ CodeO c q) : Tabs T (upd H p u) := fun z hz => by
  obtain ⟨ps, h1, h2, h3⟩ := t z hz
  have ne : ∀ b o, H b = some o → ((∃ ps, o = .tbl ps) ∨ ∃ c q, o = CodeO c q) → b ≠ p := fun b o e k q => by
    rw [q] at e
    rcases h with h | ⟨o', e', n1, n2⟩
    · rw [e] at h; cases h
    · rw [e] at e'; cases e'
      rcases k with ⟨ps, k⟩ | ⟨c, q, k⟩
      · exact n1 ps k
      · exact n2 c q k
  refine ⟨ps, by rw [upd_ne (ne _ _ h1 (.inl ⟨ps, rfl⟩))]; exact h1, h2, fun pos cv hc => ?_⟩
  obtain ⟨c, e1, e2⟩ := h3 pos cv hc
  exact ⟨c, e1, by rw [upd_ne (ne _ _ e2 (.inr ⟨_, _, rfl⟩))]; exact e2⟩
theorem codeO_not {c : Addr} {q : Str} : (∀ xs, HO.lst xs ≠ CodeO c q) ∧ (∀ xs, HO.dK xs ≠ CodeO c q) ∧ (∀ xs, HO.dT xs ≠ CodeO c q) ∧ ∀ C dx fs, HO.ins C dx fs ≠ CodeO c q := by
  unfold CodeO
  refine ⟨fun xs z => ?_, fun xs z => ?_, fun xs z => ?_, fun C dx fs z => ?_⟩ <;> cases z
/-- a new hidden thing -/
theorem StOk.new {p : Addr} {u : HO} (ok : StOk K T Z H S) (hp : H p = none) : StOk K T Z (upd H p u) S := by
  refine ⟨tabs_upd ok.tabs (.inl hp), fun z hz => ⟨(ok.rsv z hz).1, (ok.rsv z hz).2.imp fun vs e => by rw [upd_ne (ne_of_none e hp)]; exact e⟩, fun a o e => (ok.obj a o e).other (p := p) (u := u) (Ext.new hp) ?_⟩
  obtain ⟨w, h, _⟩ := ok.get e
  exact upd_ne (ne_of_none h hp)
/-- a new thing of the store -/
theorem StOk.newS {p : Addr} {u : HO} {o : MO} (ok : StOk K T Z H S) (hp : H p = none) (m : MOk K Z (upd H p u) (ups S p o) p o) : StOk K T Z (upd H p u) (ups S p o) := by
  refine ⟨tabs_upd ok.tabs (.inl hp), fun z hz => ?_, fun a o' e => ?_⟩
  · obtain ⟨n, vs, e⟩ := ok.rsv z hz
    exact ⟨by rw [ups_ne (ne_of_none e hp)]; exact n, vs, by rw [upd_ne (ne_of_none e hp)]; exact e⟩
  by_cases h : a = p
  · subst h; rw [ups_same] at e; cases e; exact m
  · rw [ups_ne h] at e
    exact (ok.obj a o' e).other (p := p) (u := u) (Ext.newS hp) (upd_ne h)
/-- a thing of the store is changed -/
theorem StOk.put {a : Addr} {u : HO} {o o1 : MO} (ok : StOk K T Z H S) (h : S a = some o) (m : MOk K Z (upd H a u) (ups S a o1) a o1) : StOk K T Z (upd H a u) (ups S a o1) := by
  have mm := ok.obj a o h
  refine ⟨tabs_upd ok.tabs (.inr ?_), fun z hz => ?_, fun b o' e => ?_⟩
  · cases o with
    | lst ds => obtain ⟨vs, h, r⟩ := mm; exact ⟨_, h, ⟨fun ps z => (by cases z), fun c q => codeO_not.1 _⟩⟩
    | dK ds => obtain ⟨vs, h, r⟩ := mm; exact ⟨_, h, ⟨fun ps z => (by cases z), fun c q => codeO_not.2.1 _⟩⟩
    | dT ds => obtain ⟨vs, h, r⟩ := mm; exact ⟨_, h, ⟨fun ps z => (by cases z), fun c q => codeO_not.2.2.1 _⟩⟩
    | ins C ds => obtain ⟨_, _, dx, vs, h, r⟩ := mm; exact ⟨_, h, ⟨fun ps z => (by cases z), fun c q => codeO_not.2.2.2 _ _ _⟩⟩
    | dN ks => obtain ⟨xs, h, _⟩ := mm; exact ⟨_, h, ⟨fun ps => nm_tbl ps, fun c q => nm_code⟩⟩
    | memo ks => obtain ⟨xs, h, _⟩ := mm; exact ⟨_, h, ⟨fun ps => memo_tbl ps, fun c q => memo_code⟩⟩
  · obtain ⟨n, vs, e⟩ := ok.rsv z hz
    have ne : z ≠ a := fun q => by rw [q, h] at n; cases n
    exact ⟨by rw [ups_ne ne]; exact n, vs, by rw [upd_ne ne]; exact e⟩
  · by_cases hb : b = a
    · subst hb; rw [ups_same] at e; cases e; exact m
    · rw [ups_ne hb] at e
      exact (ok.obj b o' e).other (p := a) (u := u) (Ext.put h) (upd_ne hb)
end

/-! ### readings over the data -/
abbrev DK := D → Store → Prop
abbrev DE := DSt → Store → DK → Prop
abbrev DT := DSt → Store → (Bool → Store → Prop) → Prop
abbrev DA := DSt → Store → (List D → Store → Prop) → Prop
structure DEnds where
  nx : DSt → Store → Prop
  rt : DK
  bk : DSt → Store → Prop := fun _ _ => False
  ct : DSt → Store → Prop := fun _ _ => False
  ex : Addr → DSt → Store → Prop := fun _ _ _ => False
  ey : Str → List D → DSt → Store → Prop := fun _ _ _ _ => False
abbrev DS := DEnds → DSt → Store → Prop

def lf (K : PySem.W.Frag) (T : Tb) (Ψ : DE) : TE := fun σ H Q => ∃ Z τ S R, Slots K Z H S σ τ ∧ StOk K T Z H S ∧ Ψ τ S R ∧ ∀ v H' d S', Ext H S H' S' → Rep K Z H' S' v d → StOk K T Z H' S' → R d S' → Q v H'
def lfT (K : PySem.W.Frag) (T : Tb) (Ψ : DT) : TT := fun σ H Q => ∃ Z τ S R, Slots K Z H S σ τ ∧ StOk K T Z H S ∧ Ψ τ S R ∧ ∀ b H' S', Ext H S H' S' → StOk K T Z H' S' → R b S' → Q b H'
def lfA (K : PySem.W.Frag) (T : Tb) (Ψ : DA) : TA := fun σ H Q => ∃ Z τ S R, Slots K Z H S σ τ ∧ StOk K T Z H S ∧ Ψ τ S R ∧ ∀ vs H' ds S', Ext H S H' S' → Reps K Z H' S' vs ds → StOk K T Z H' S' → R ds S' → Q vs H'
/-- what the D-ends give of the ends -/
structure EOk (K : PySem.W.Frag) (T : Tb) (Z : List Addr) (H : Hp) (S : Store) (D : Ends) (E : DEnds) : Prop where
  nx : ∀ σ H' τ S', Ext H S H' S' → Slots K Z H' S' σ τ → StOk K T Z H' S' → E.nx τ S' → D.nx σ H'
  rt : ∀ v H' d S', Ext H S H' S' → Rep K Z H' S' v d → StOk K T Z H' S' → E.rt d S' → D.rt v H'
  bk : ∀ σ H' τ S', Ext H S H' S' → Slots K Z H' S' σ τ → StOk K T Z H' S' → E.bk τ S' → D.bk σ H'
  ct : ∀ σ H' τ S', Ext H S H' S' → Slots K Z H' S' σ τ → StOk K T Z H' S' → E.ct τ S' → D.ct σ H'
theorem EOk.later {K : PySem.W.Frag} {T : Tb} {Z : List Addr} {H H' : Hp} {S S' : Store} {D : Ends} {E : DEnds} (e : EOk K T Z H S D E) (x : Ext H S H' S') : EOk K T Z H' S' D E :=
  ⟨fun σ H2 τ S2 y => e.nx σ H2 τ S2 (x.trans y), fun v H2 d S2 y => e.rt v H2 d S2 (x.trans y), fun σ H2 τ S2 y => e.bk σ H2 τ S2 (x.trans y), fun σ H2 τ S2 y => e.ct σ H2 τ S2 (x.trans y)⟩
def lfS (K : PySem.W.Frag) (T : Tb) (Θ : DS) : TS := fun D σ H => ∃ Z τ S E, Slots K Z H S σ τ ∧ StOk K T Z H S ∧ Θ E τ S ∧ EOk K T Z H S D E

abbrev XE (X : Cx) (T : Tb) (e : Expr) (Ψ : DE) : Prop := PE X e (lf X.K T Ψ)
abbrev XT (X : Cx) (T : Tb) (e : Expr) (Ψ : DT) : Prop := PT X e (lfT X.K T Ψ)
abbrev XW (X : Cx) (T : Tb) (e : Expr) (Ψ : DT) : Prop := PW X e (lfT X.K T Ψ)
abbrev XA (X : Cx) (T : Tb) (es : List Expr) (Ψ : DA) : Prop := PA X es (lfA X.K T Ψ)
abbrev XS (X : Cx) (T : Tb) (st : Stmt) (Θ : DS) : Prop := PS X st (lfS X.K T Θ)
abbrev XSs (X : Cx) (T : Tb) (st : List Stmt) (Θ : DS) : Prop := PSs X st (lfS X.K T Θ)

section
variable {X : Cx} {T : Tb} {e a b : Expr} {es : List Expr} {pos : Pos}
theorem _root_.L2.PE.imp {t t' : TE} (h : PE X e t) (w : ∀ σ H Q, t' σ H Q → t σ H Q) : PE X e t' := ⟨fun pins s σ H Q I q => h.run pins s σ H Q I (w σ H Q q)⟩
theorem _root_.L2.PT.imp {t t' : TT} (h : PT X e t) (w : ∀ σ H Q, t' σ H Q → t σ H Q) : PT X e t' := ⟨fun pins s σ H Q I q => h.run pins s σ H Q I (w σ H Q q)⟩
theorem _root_.L2.PW.imp {t t' : TT} (h : PW X e t) (w : ∀ σ H Q, t' σ H Q → t σ H Q) : PW X e t' := ⟨fun wh pins s σ H Q I q => h.run wh pins s σ H Q I (w σ H Q q)⟩
theorem _root_.L2.PA.imp {t t' : TA} (h : PA X es t) (w : ∀ σ H Q, t' σ H Q → t σ H Q) : PA X es t' := ⟨fun p pins s σ H Q I q => h.run p pins s σ H Q I (w σ H Q q)⟩
theorem _root_.L2.PS.imp {st : Stmt} {t t' : TS} (h : PS X st t) (w : ∀ D σ H, t' D σ H → t D σ H) : PS X st t' := ⟨fun pins s σ H D I q => h.run pins s σ H D I (w D σ H q)⟩
theorem _root_.L2.PSs.imp {st : List Stmt} {t t' : TS} (h : PSs X st t) (w : ∀ D σ H, t' D σ H → t D σ H) : PSs X st t' := ⟨fun pins s σ H D I q => h.run pins s σ H D I (w D σ H q)⟩

/-! ### names, constants -/
def dVar (i : Nat) : DE := fun τ S Q => match τ[i]? with
  | some (some d) => Q d S
  | _ => False
def dC (d : D) : DE := fun _ S Q => Q d S
theorem xv (i : Nat) {x : Str} (hN : X.N[i]? = some x := by rfl) (hv : Vis X.env.scope x := by first | exact Or.inl rfl | exact Or.inr (Or.inl rfl) | exact Or.inr (Or.inr rfl)) (hd : (x == ("__debug__" : Str)) = false := by decide)
    (hcd : (x == ("__classdict__" : Str)) = false := by decide) : XE X T (.Name x pos) (dVar i) := by
  refine (pe_var hN hv hd hcd).imp fun σ H Q ⟨Z, τ, S, R, sl, ok, h, k⟩ => ?_
  unfold dVar at h
  split at h
  · rename_i d e
    obtain ⟨v, e1, r⟩ := sl.at_ i d e
    exact ⟨v, e1, k v H d S (.refl _ _) r ok h⟩
  · exact h.elim
theorem xc {v : V} {d : D} (h : PE X e (tC v)) (r : ∀ Z H S, Rep X.K Z H S v d) : XE X T e (dC d) :=
  h.imp fun σ H Q ⟨Z, τ, S, R, sl, ok, h, k⟩ => k v H d S (.refl _ _) (r Z H S) ok h
theorem x_int {i : Int} {j} : XE X T (.Constant (.int i) j pos) (dC (.int i)) := xc pe_int fun _ _ _ => .int i
theorem x_bl {i : Bool} {j} : XE X T (.Constant (.bool i) j pos) (dC (.bl i)) := xc pe_bl fun _ _ _ => .bl i
theorem x_non {j} : XE X T (.Constant .none j pos) (dC .non) := xc pe_non fun _ _ _ => .non
theorem x_str {i : Str} {j} : XE X T (.Constant (.str i) j pos) (dC (.str i)) := xc pe_str fun _ _ _ => .str i

/-! ### two-place operations by values -/
abbrev DR2 := D → D → Store → DK → Prop
/-- r keeps what R says -/
def Op2 (K : PySem.W.Frag) (T : Tb) (r : R2) (R : DR2) : Prop := ∀ (Z : List Addr) (H : Hp) (S : Store) (vx vy : V) (x y : D) (Qd : DK) (Q : VK), StOk K T Z H S → Rep K Z H S vx x → Rep K Z H S vy y → R x y S Qd →
  (∀ v H' d S', Ext H S H' S' → Rep K Z H' S' v d → StOk K T Z H' S' → Qd d S' → Q v H') → r vx vy H Q
def d2 (R : DR2) (Ψa Ψb : DE) : DE := fun τ S Q => Ψa τ S fun x S1 => Ψb τ S1 fun y S2 => R x y S2 Q
theorem lf_two {Ψa Ψb : DE} {R : DR2} {r : R2} {K : PySem.W.Frag} (hr : Op2 K T r R) (σ : L2.St) (H : Hp) (Q : VK) (h : lf K T (d2 R Ψa Ψb) σ H Q) : tOp r (lf K T Ψa) (lf K T Ψb) σ H Q := by
  obtain ⟨Z, τ, S, Rd', sl, ok, h, k⟩ := h
  refine ⟨Z, τ, S, _, sl, ok, h, fun vx H1 x S1 x1 rx ok1 h1 => ?_⟩
  refine ⟨Z, τ, S1, _, sl.ext x1, ok1, h1, fun vy H2 y S2 x2 ry ok2 h2 => ?_⟩
  exact hr Z H2 S2 vx vy x y Rd' Q ok2 (rx.ext x2) ry h2 fun v H' d S' x3 r3 ok3 q3 => k v H' d S' (x1.trans (x2.trans x3)) r3 ok3 q3
theorem x_op {op : Operator} {r : R2} {R : DR2} {Ψa Ψb : DE} (ho : OpR X (binaryOp op) r) (hr : Op2 X.K T r R) (ha : XE X T a Ψa) (hb : XE X T b Ψb) : XE X T (.BinOp a op b pos) (d2 R Ψa Ψb) :=
  (pe_op ho ha hb).imp fun σ H Q h => lf_two hr σ H Q h
theorem x_cmp {op : CmpOp} {r : R2} {R : DR2} {Ψa Ψb : DE} (ho : OpR X (compareOp op) r) (hr : Op2 X.K T r R) (ha : XE X T a Ψa) (hb : XE X T b Ψb) (hm : behindInMarks op b = false) : XE X T (.Compare a [op] [b] pos) (d2 R Ψa Ψb) :=
  (pe_cmpR ho ha hb hm).imp fun σ H Q h => lf_two hr σ H Q h
/-- a value that is a bool, as a test -/
def dTest (Ψ : DE) : DT := fun τ S Q => Ψ τ S fun d S' => match d with
  | .bl b => Q b S'
  | _ => False
theorem Rep.bool {K : PySem.W.Frag} {Z : List Addr} {H : Hp} {S : Store} {v : V} {b : Bool} (r : Rep K Z H S v (.bl b)) : v = .bl b := by cases r; rfl
theorem Rep.int' {K : PySem.W.Frag} {Z : List Addr} {H : Hp} {S : Store} {v : V} {i : Int} (r : Rep K Z H S v (.int i)) : v = .int i := by cases r; rfl
theorem Rep.str' {K : PySem.W.Frag} {Z : List Addr} {H : Hp} {S : Store} {v : V} {i : Str} (r : Rep K Z H S v (.str i)) : v = .str i := by cases r; rfl
theorem Rep.non' {K : PySem.W.Frag} {Z : List Addr} {H : Hp} {S : Store} {v : V} (r : Rep K Z H S v .non) : v = .non := by cases r; rfl
theorem lf_test {Ψ : DE} {K : PySem.W.Frag} (σ : L2.St) (H : Hp) (Q : Bool → Hp → Prop) (h : lfT K T (dTest Ψ) σ H Q) : tB (lf K T Ψ) σ H Q := by
  obtain ⟨Z, τ, S, R, sl, ok, h, k⟩ := h
  refine ⟨Z, τ, S, _, sl, ok, h, fun v H' d S' x r ok' q => ?_⟩
  cases d with
  | bl b =>
    rw [r.bool]
    exact ⟨b, rfl, k b H' S' x ok' q⟩
  | _ => exact q.elim
theorem t_cmp {op : CmpOp} {r : R2} {R : DR2} {Ψa Ψb : DE} (ho : OpR X (compareOp op) r) (hr : Op2 X.K T r R) (ha : XE X T a Ψa) (hb : XE X T b Ψb) (hm : behindInMarks op b = false) : XT X T (.Compare a [op] [b] pos) (dTest (d2 R Ψa Ψb)) := by
  refine (pt_cmpR ho ha hb hm).imp fun σ H Q h => ?_
  obtain ⟨Z, τ, S, R', sl, ok, h, k⟩ := h
  refine lf_two hr σ H _ ⟨Z, τ, S, _, sl, ok, h, fun v H' d S' x r ok' q => ?_⟩
  cases d with
  | bl b =>
    rw [r.bool]
    exact ⟨b, rfl, k b H' S' x ok' q⟩
  | _ => exact q.elim
theorem t_val {Ψ : DE} (h : XE X T e Ψ) (he : ∀ whole, isTrue e X.env whole = (do let v ← whole; standAt e.pos; holding [v] (truthy v)) := by intro _; rfl) : XT X T e (dTest Ψ) :=
  (pt_val h he).imp fun σ H Q q => lf_test σ H Q q
end
end Dl

set_option Elab.async false
set_option linter.all false
set_option maxRecDepth 100000
namespace Dl
open PySem PySem.Spec PyProof.Rows L2 LamX
section
variable {X : Cx} {T : Tb} {e a b c : Expr} {es rest : List Expr} {pos : Pos} {st : Stmt} {sts : List Stmt}

/-! ### tests -/
def dAnd (A B : DT) : DT := fun τ S Q => A τ S fun x S1 => if x = true then B τ S1 Q else Q false S1
def dOr (A B : DT) : DT := fun τ S Q => A τ S fun x S1 => if x = true then Q true S1 else B τ S1 Q
def dNot (A : DT) : DT := fun τ S Q => A τ S fun x S1 => Q (!x) S1
theorem w_and1 {A : DT} (ha : XT X T a A) : XW X T (.BoolOp .And [a] pos) A := pw_and1 ha
theorem w_or1 {A : DT} (ha : XT X T a A) : XW X T (.BoolOp .Or [a] pos) A := pw_or1 ha
theorem w_and {A B : DT} (ha : XT X T a A) (hb : XW X T (.BoolOp .And (b :: rest) pos) B) : XW X T (.BoolOp .And (a :: b :: rest) pos) (dAnd A B) :=
  (pw_and ha hb).imp fun σ H Q ⟨Z, τ, S, R, sl, ok, h, k⟩ => ⟨Z, τ, S, _, sl, ok, h, fun x H1 S1 x1 ok1 h1 => by
    cases x with
    | true => exact ⟨Z, τ, S1, R, sl.ext x1, ok1, h1, fun y H2 S2 x2 => k y H2 S2 (x1.trans x2)⟩
    | false => exact k false H1 S1 x1 ok1 h1⟩
theorem w_or {A B : DT} (ha : XT X T a A) (hb : XW X T (.BoolOp .Or (b :: rest) pos) B) : XW X T (.BoolOp .Or (a :: b :: rest) pos) (dOr A B) :=
  (pw_or ha hb).imp fun σ H Q ⟨Z, τ, S, R, sl, ok, h, k⟩ => ⟨Z, τ, S, _, sl, ok, h, fun x H1 S1 x1 ok1 h1 => by
    cases x with
    | true => exact k true H1 S1 x1 ok1 h1
    | false => exact ⟨Z, τ, S1, R, sl.ext x1, ok1, h1, fun y H2 S2 x2 => k y H2 S2 (x1.trans x2)⟩⟩
theorem t_not {A : DT} (ha : XT X T a A) : XT X T (.UnaryOp .Not a pos) (dNot A) :=
  (pt_not ha).imp fun σ H Q ⟨Z, τ, S, R, sl, ok, h, k⟩ => ⟨Z, τ, S, _, sl, ok, h, fun x H1 S1 x1 ok1 h1 => k (!x) H1 S1 x1 ok1 h1⟩
/-! and, or, not as values, of bools -/
def dAndV (A B : DE) : DE := fun τ S Q => A τ S fun d S1 => match d with
  | .bl x => if x = true then B τ S1 Q else Q (.bl false) S1
  | _ => False
def dOrV (A B : DE) : DE := fun τ S Q => A τ S fun d S1 => match d with
  | .bl x => if x = true then Q (.bl true) S1 else B τ S1 Q
  | _ => False
def dNotV (A : DE) : DE := fun τ S Q => A τ S fun d S1 => match d with
  | .bl x => Q (.bl (!x)) S1
  | _ => False
theorem x_one {op} {A : DE} (h : XE X T a A) : XE X T (.BoolOp op [a] pos) A := pe_one h
theorem x_and {A B : DE} (ha : XE X T a A) (hb : XE X T (.BoolOp .And (b :: rest) pos) B) : XE X T (.BoolOp .And (a :: b :: rest) pos) (dAndV A B) :=
  (pe_and ha hb).imp fun σ H Q ⟨Z, τ, S, R, sl, ok, h, k⟩ => ⟨Z, τ, S, _, sl, ok, h, fun v H1 d S1 x1 r1 ok1 h1 => by
    cases d with
    | bl x =>
      refine ⟨x, r1.bool, ?_⟩
      cases x with
      | true => exact ⟨Z, τ, S1, R, sl.ext x1, ok1, h1, fun v H2 d S2 x2 => k v H2 d S2 (x1.trans x2)⟩
      | false => exact k _ H1 _ S1 x1 (.bl false) ok1 h1
    | _ => exact h1.elim⟩
theorem x_or {A B : DE} (ha : XE X T a A) (hb : XE X T (.BoolOp .Or (b :: rest) pos) B) : XE X T (.BoolOp .Or (a :: b :: rest) pos) (dOrV A B) :=
  (pe_or ha hb).imp fun σ H Q ⟨Z, τ, S, R, sl, ok, h, k⟩ => ⟨Z, τ, S, _, sl, ok, h, fun v H1 d S1 x1 r1 ok1 h1 => by
    cases d with
    | bl x =>
      refine ⟨x, r1.bool, ?_⟩
      cases x with
      | true => exact k _ H1 _ S1 x1 (.bl true) ok1 h1
      | false => exact ⟨Z, τ, S1, R, sl.ext x1, ok1, h1, fun v H2 d S2 x2 => k v H2 d S2 (x1.trans x2)⟩
    | _ => exact h1.elim⟩
theorem x_not {A : DE} (ha : XE X T a A) : XE X T (.UnaryOp .Not a pos) (dNotV A) :=
  (pe_not ha).imp fun σ H Q ⟨Z, τ, S, R, sl, ok, h, k⟩ => ⟨Z, τ, S, _, sl, ok, h, fun v H1 d S1 x1 r1 ok1 h1 => by
    cases d with
    | bl x => exact ⟨x, r1.bool, k _ H1 _ S1 x1 (.bl _) ok1 h1⟩
    | _ => exact h1.elim⟩
def dIf (C : DT) (A B : DE) : DE := fun τ S Q => C τ S fun x S1 => if x = true then A τ S1 Q else B τ S1 Q
theorem x_if {C : DT} {A B : DE} (hc : XT X T c C) (ha : XE X T a A) (hb : XE X T b B) : XE X T (.IfExp c a b pos) (dIf C A B) :=
  (pe_ifExp hc ha hb).imp fun σ H Q ⟨Z, τ, S, R, sl, ok, h, k⟩ => ⟨Z, τ, S, _, sl, ok, h, fun x H1 S1 x1 ok1 h1 => by
    cases x with
    | true => exact ⟨Z, τ, S1, R, sl.ext x1, ok1, h1, fun v H2 d S2 x2 => k v H2 d S2 (x1.trans x2)⟩
    | false => exact ⟨Z, τ, S1, R, sl.ext x1, ok1, h1, fun v H2 d S2 x2 => k v H2 d S2 (x1.trans x2)⟩⟩
/-! ### a < b < c -/
def dChain (R R' : DR2) (A B C : DE) : DE := fun τ S Q => A τ S fun x S1 => B τ S1 fun y S2 => R x y S2 fun z S3 => match z with
  | .bl k => if k = true then C τ S3 fun w S4 => R' y w S4 Q else Q (.bl false) S3
  | _ => False
theorem lf_chain {r r' : R2} {R R' : DR2} {A B C : DE} {K : PySem.W.Frag} (hr : Op2 K T r R) (hr' : Op2 K T r' R') (σ : L2.St) (H : Hp) (Q : VK) (h : lf K T (dChain R R' A B C) σ H Q) : tChain r r' (lf K T A) (lf K T B) (lf K T C) σ H Q := by
  obtain ⟨Z, τ, S, G, sl, ok, h, k⟩ := h
  refine ⟨Z, τ, S, _, sl, ok, h, fun vx H1 x S1 x1 rx ok1 h1 => ?_⟩
  refine ⟨Z, τ, S1, _, sl.ext x1, ok1, h1, fun vy H2 y S2 x2 ry ok2 h2 => ?_⟩
  refine hr Z H2 S2 vx vy x y _ _ ok2 (rx.ext x2) ry h2 fun v H3 z S3 x3 rz ok3 h3 => ?_
  cases z with
  | bl q =>
    refine ⟨q, rz.bool, ?_⟩
    cases q with
    | true =>
      refine ⟨Z, τ, S3, _, sl.ext (x1.trans (x2.trans x3)), ok3, h3, fun vw H4 w S4 x4 rw ok4 h4 => ?_⟩
      exact hr' Z H4 S4 vy vw y w _ _ ok4 (ry.ext (x3.trans x4)) rw h4 fun v H5 d S5 x5 => k v H5 d S5 (x1.trans (x2.trans (x3.trans (x4.trans x5))))
    | false => exact k _ H3 _ S3 (x1.trans (x2.trans x3)) (.bl false) ok3 h3
  | _ => exact h3.elim
theorem x_chain {op op' : CmpOp} {r r' : R2} {R R' : DR2} {A B C : DE} (ho : OpR X (compareOp op) r) (hr : Op2 X.K T r R) (ho' : OpR X (compareOp op') r') (hr' : Op2 X.K T r' R') (ha : XE X T a A) (hb : XE X T b B) (hc : XE X T c C)
    (hm : lastMarks [op, op'] [b, c] = false := by with_unfolding_all rfl) : XE X T (.Compare a [op, op'] [b, c] pos) (dChain R R' A B C) :=
  (pe_chain ho ho' ha hb hc hm).imp fun σ H Q h => lf_chain hr hr' σ H Q h
theorem t_chain {op op' : CmpOp} {r r' : R2} {R R' : DR2} {A B C : DE} (ho : OpR X (compareOp op) r) (hr : Op2 X.K T r R) (ho' : OpR X (compareOp op') r') (hr' : Op2 X.K T r' R') (ha : XE X T a A) (hb : XE X T b B) (hc : XE X T c C)
    (hm : lastMarks [op, op'] [b, c] = false := by with_unfolding_all rfl) : XT X T (.Compare a [op, op'] [b, c] pos) (dTest (dChain R R' A B C)) := by
  refine (pt_chain ho ho' ha hb hc hm).imp fun σ H Q ⟨Z, τ, S, G, sl, ok, h, k⟩ => ?_
  refine lf_chain hr hr' σ H _ ⟨Z, τ, S, _, sl, ok, h, fun v H' d S' x r ok' q => ?_⟩
  cases d with
  | bl z => exact ⟨z, r.bool, k z H' S' x ok' q⟩
  | _ => exact q.elim

/-! ### lists of arguments, displays -/
def dNil : DA := fun _ S Q => Q [] S
def dCons (A : DE) (B : DA) : DA := fun τ S Q => A τ S fun d S1 => B τ S1 fun ds S2 => Q (d :: ds) S2
theorem a_nil : XA X T [] dNil := pa_nil.imp fun σ H Q ⟨Z, τ, S, R, sl, ok, h, k⟩ => k [] H [] S (.refl _ _) .nil ok h
theorem a_cons {A : DE} {B : DA} (ha : XE X T e A) (hr : XA X T es B) (hs : starEach (e :: es) X.env = (false, eval e X.env) :: starEach es X.env := by rfl) : XA X T (e :: es) (dCons A B) :=
  (pa_cons ha hr hs).imp fun σ H Q ⟨Z, τ, S, R, sl, ok, h, k⟩ => ⟨Z, τ, S, _, sl, ok, h, fun v H1 d S1 x1 r1 ok1 h1 =>
    ⟨Z, τ, S1, _, sl.ext x1, ok1, h1, fun vs H2 ds S2 x2 r2 ok2 h2 => k _ H2 _ S2 (x1.trans x2) (.cons (r1.ext x2) r2) ok2 h2⟩⟩
def dTup (A : DA) : DE := fun τ S Q => A τ S fun ds S1 => ds.length ≤ sizeLine ∧ Q (.tup ds) S1
def dLst (A : DA) : DE := fun τ S Q => A τ S fun ds S1 => ds.length ≤ sizeLine ∧ Q (.lst ds) S1
def dLstR (A : DA) : DE := fun τ S Q => A τ S fun ds S1 => ds.length ≤ sizeLine ∧ ∀ p, S1 p = none → Q (.ref p) (ups S1 p (.lst ds))
theorem Rep.newTup {K : PySem.W.Frag} {Z : List Addr} {H : Hp} {S : Store} {vs : List V} {ds : List D} (r : Reps K Z H S vs ds) {p : Addr} (hp : H p = none) (hs : S p = none) : Rep K Z (upd H p (.tup vs)) S (.ref p) (.tup ds) :=
  .tup (.inl ⟨.inl upd_same, hs⟩) (r.ext (.new hp))
theorem Rep.newLst {K : PySem.W.Frag} {Z : List Addr} {H : Hp} {S : Store} {vs : List V} {ds : List D} (r : Reps K Z H S vs ds) {p : Addr} (hp : H p = none) (hs : S p = none) (nz : p ∉ Z) : Rep K Z (upd H p (.lst vs)) S (.ref p) (.lst ds) :=
  .lst upd_same hs nz (r.ext (.new hp))
theorem x_tup {A : DA} {k} (h : XA X T es A) : XE X T (.Tuple es k pos) (dTup A) :=
  (pe_tup h).imp fun σ H Q ⟨Z, τ, S, R, sl, ok, h, k⟩ => ⟨Z, τ, S, _, sl, ok, h, fun vs H1 ds S1 x1 r1 ok1 ⟨h0, h1⟩ => ⟨by rw [r1.length]; exact h0, fun p hp =>
    k _ _ _ S1 (x1.trans (.new hp)) (.newTup r1 hp (ok1.fresh hp)) (ok1.new hp) h1⟩⟩
theorem x_lst {A : DA} (h : XA X T es A) : XE X T (.List es pos) (dLst A) :=
  (pe_lst h).imp fun σ H Q ⟨Z, τ, S, R, sl, ok, h, k⟩ => ⟨Z, τ, S, _, sl, ok, h, fun vs H1 ds S1 x1 r1 ok1 ⟨h0, h1⟩ => ⟨by rw [r1.length]; exact h0, fun p hp =>
    k _ _ _ S1 (x1.trans (.new hp)) (.newLst r1 hp (ok1.fresh hp) (ok1.nz hp)) (ok1.new hp) h1⟩⟩
theorem MOk.newLst {K : PySem.W.Frag} {Z : List Addr} {H : Hp} {S : Store} {vs : List V} {ds : List D} (r : Reps K Z H S vs ds) {p : Addr} (hp : H p = none) : MOk K Z (upd H p (.lst vs)) (ups S p (.lst ds)) p (.lst ds) :=
  ⟨vs, upd_same, r.ext (.newS hp)⟩
theorem x_lstR {A : DA} (h : XA X T es A) : XE X T (.List es pos) (dLstR A) :=
  (pe_lst h).imp fun σ H Q ⟨Z, τ, S, R, sl, ok, h, k⟩ => ⟨Z, τ, S, _, sl, ok, h, fun vs H1 ds S1 x1 r1 ok1 ⟨h0, h1⟩ => ⟨by rw [r1.length]; exact h0, fun p hp =>
    k _ _ _ _ (x1.trans (.newS hp)) (.ref p) (ok1.newS hp (.newLst r1 hp)) (h1 p (ok1.fresh hp))⟩⟩

/-! ### statements -/
def dNext : DS := fun E τ S => E.nx τ S
def dSeq (A B : DS) : DS := fun E τ S => A { E with nx := B E } τ S
theorem EOk.nxt {K : PySem.W.Frag} {Z : List Addr} {H : Hp} {S : Store} {D : Ends} {E : DEnds} {B : DS} (e : EOk K T Z H S D E) : EOk K T Z H S { D with nx := lfS K T B D } { E with nx := B E } :=
  ⟨fun σ H' τ S' x sl ok h => ⟨Z, τ, S', E, sl, ok, h, e.later x⟩, e.rt, e.bk, e.ct⟩
theorem s_nil : XSs X T [] dNext := pss_nil.imp fun D σ H ⟨Z, τ, S, E, sl, ok, h, k⟩ => k.nx σ H τ S (.refl _ _) sl ok h
theorem s_cons {A B : DS} (h1 : XS X T st A) (h2 : XSs X T sts B) : XSs X T (st :: sts) (dSeq A B) :=
  (pss_cons h1 h2).imp fun D σ H ⟨Z, τ, S, E, sl, ok, h, k⟩ => ⟨Z, τ, S, _, sl, ok, h, k.nxt⟩
theorem s_one {A : DS} (h1 : XS X T st A) : XSs X T [st] A := pss_one h1
def dBrk : DS := fun E τ S => E.bk τ S
def dCnt : DS := fun E τ S => E.ct τ S
theorem s_pass : XS X T (.Pass pos) dNext := ps_pass.imp fun D σ H ⟨Z, τ, S, E, sl, ok, h, k⟩ => k.nx σ H τ S (.refl _ _) sl ok h
theorem s_break : XS X T (.Break pos) dBrk := ps_break.imp fun D σ H ⟨Z, τ, S, E, sl, ok, h, k⟩ => k.bk σ H τ S (.refl _ _) sl ok h
theorem s_cont : XS X T (.Continue pos) dCnt := ps_continue.imp fun D σ H ⟨Z, τ, S, E, sl, ok, h, k⟩ => k.ct σ H τ S (.refl _ _) sl ok h
def dDrop (A : DE) : DS := fun E τ S => A τ S fun _ S1 => E.nx τ S1
theorem s_expr {A : DE} (he : XE X T e A) (hs : swapsWith e none pos.line X.env = pure false := by rfl) : XS X T (.Expr e pos) (dDrop A) :=
  (ps_expr he hs).imp fun D σ H ⟨Z, τ, S, E, sl, ok, h, k⟩ => ⟨Z, τ, S, _, sl, ok, h, fun v H1 d S1 x1 r1 ok1 h1 => k.nx σ H1 τ S1 x1 (sl.ext x1) ok1 h1⟩
def dRet (A : DE) : DS := fun E τ S => A τ S E.rt
theorem s_ret {A : DE} (he : XE X T e A) : XS X T (.Return (some e) pos) (dRet A) :=
  (ps_ret he).imp fun D σ H ⟨Z, τ, S, E, sl, ok, h, k⟩ => ⟨Z, τ, S, _, sl, ok, h, fun v H1 d S1 x1 r1 ok1 h1 => k.rt v H1 d S1 x1 r1 ok1 h1⟩
def dRetN : DS := fun E _ S => E.rt .non S
theorem s_retN : XS X T (.Return none pos) dRetN := ps_retN.imp fun D σ H ⟨Z, τ, S, E, sl, ok, h, k⟩ => k.rt _ H _ S (.refl _ _) .non ok h
def dIfS (C : DT) (A B : DS) : DS := fun E τ S => C τ S fun x S1 => if x = true then A E τ S1 else B E τ S1
theorem s_if {C : DT} {A B : DS} {sa sb : List Stmt} (hc : XT X T c C) (ha : XSs X T sa A) (hb : XSs X T sb B) : XS X T (.If c sa sb pos) (dIfS C A B) :=
  (ps_if hc ha hb).imp fun D σ H ⟨Z, τ, S, E, sl, ok, h, k⟩ => ⟨Z, τ, S, _, sl, ok, h, fun x H1 S1 x1 ok1 h1 => by
    cases x with
    | true => exact ⟨Z, τ, S1, E, sl.ext x1, ok1, h1, k.later x1⟩
    | false => exact ⟨Z, τ, S1, E, sl.ext x1, ok1, h1, k.later x1⟩⟩
def dNever : DS := fun _ _ _ => False
theorem s_never : XS X T st dNever := ps_never.imp fun D σ H ⟨Z, τ, S, E, sl, ok, h, k⟩ => h.elim
theorem ss_never : XSs X T sts dNever := pss_never.imp fun D σ H ⟨Z, τ, S, E, sl, ok, h, k⟩ => h.elim
def dSet (i : Nat) (A : DE) : DS := fun E τ S => A τ S fun d S1 => E.nx (τ.set i (some d)) S1
theorem s_set {i : Nat} {x : Str} {A : DE} {pos' : Pos} (hN : X.N.Nodup) (hi : X.N[i]? = some x) (hx : Loc X.env.scope x) (he : XE X T e A) (hs : swapsWith e (some (.Name x pos')) pos.line X.env = pure false := by rfl)
    (hf : X.fn x = true ∨ X.env.scope.names.lookup x = some .local := by first | exact .inl rfl | exact .inr rfl | assumption) : XS X T (.Assign [.Name x pos'] e pos) (dSet i A) :=
  (ps_set hN hi hx he hs hf).imp fun D σ H ⟨Z, τ, S, E, sl, ok, h, k⟩ => ⟨Z, τ, S, _, sl, ok, h, fun v H1 d S1 x1 r1 ok1 h1 => k.nx _ H1 _ S1 x1 ((sl.ext x1).set i r1) ok1 h1⟩

/-! ### targets: a name, or a tuple of names -/
/-- what a target may get: a tuple for a tuple of names may be any -/
def RepW (K : PySem.W.Frag) (Z : List Addr) (H : Hp) (S : Store) (v : V) (d : D) : Prop :=
  ∃ a vs ds, v = .ref a ∧ (d = .tup ds ∨ d = .ptp ds) ∧ SqT K H a vs ∧ Reps K Z H S vs ds
theorem Rep.tupW {K : PySem.W.Frag} {Z : List Addr} {H : Hp} {S : Store} {v : V} {ds : List D} (r : Rep K Z H S v (.tup ds)) : ∃ a vs, v = .ref a ∧ SqT K H a vs ∧ Reps K Z H S vs ds := by
  cases r with
  | tup h r => exact ⟨_, _, rfl, h.sq, r⟩
theorem Rep.ptpW {K : PySem.W.Frag} {Z : List Addr} {H : Hp} {S : Store} {v : V} {ds : List D} (r : Rep K Z H S v (.ptp ds)) : ∃ a vs, v = .ref a ∧ SqT K H a vs ∧ Reps K Z H S vs ds := by
  cases r with
  | ptp h r => exact ⟨_, _, rfl, h.sq, r⟩
inductive Tg where
  | nm (i : Nat) | tp (is : List Nat)
def gNms : List Nat → TGs
  | [] => gNil
  | i :: r => gCons (gName i) (gNms r)
def Tg.g (K : PySem.W.Frag) : Tg → TG
  | .nm i => gName i
  | .tp is => gTup K is.length (gNms is)
def sets (τ : DSt) : List Nat → List D → DSt
  | i :: r, d :: ds => sets (τ.set i (some d)) r ds
  | _, _ => τ
def Tg.d (τ : DSt) : Tg → D → Option DSt
  | .nm i, d => some (τ.set i (some d))
  | .tp is, .tup ds => if ds.length = is.length then some (sets τ is ds) else none
  | .tp is, .ptp ds => if ds.length = is.length then some (sets τ is ds) else none
  | .tp _, _ => none
/-- what a target is given -/
def Tg.rep (K : PySem.W.Frag) (Z : List Addr) (H : Hp) (S : Store) : Tg → V → D → Prop
  | .nm _, v, d => Rep K Z H S v d
  | .tp _, v, d => Rep K Z H S v d ∨ RepW K Z H S v d
theorem Tg.rep_of {K : PySem.W.Frag} {Z : List Addr} {H : Hp} {S : Store} {tg : Tg} {v : V} {d : D} (r : Rep K Z H S v d) : tg.rep K Z H S v d := by
  cases tg with
  | nm i => exact r
  | tp is => exact .inl r
def Tg.sl : Tg → List Nat
  | .nm i => [i]
  | .tp is => is
theorem gNms_of {K : PySem.W.Frag} {Z : List Addr} {H : Hp} {S : Store} {Q : L2.St → Hp → Prop} : ∀ {is : List Nat} {vs : List V} {ds : List D} {σ : L2.St} {τ : DSt}, Reps K Z H S vs ds → ds.length = is.length → Slots K Z H S σ τ →
    (∀ σ', Slots K Z H S σ' (sets τ is ds) → (∀ ws, (∀ i ∈ is, i ∈ ws) → wipe σ' ws = wipe σ ws) → Q σ' H) → gNms is vs σ H Q
  | [], _, _, σ, τ, .nil, _, sl, h => ⟨rfl, h σ sl fun _ _ => rfl⟩
  | [], _, _, σ, τ, .cons _ _, hl, _, _ => by simp at hl
  | i :: r, _, _, σ, τ, .nil, hl, _, _ => by simp at hl
  | i :: r, v :: vs, d :: ds, σ, τ, .cons rv rr, hl, sl, h => ⟨v, vs, rfl, gNms_of (is := r) (τ := τ.set i (some d)) rr (by simpa using hl) (sl.set i rv) fun σ' sl' hw => h σ' sl' fun ws hws => by
      rw [hw ws fun j hj => hws j (List.mem_cons_of_mem _ hj)]
      exact wipe_set (hws i List.mem_cons_self)⟩
where
  wipe_set {σ : L2.St} {i : Nat} {v : Option V} : ∀ {ws : List Nat}, i ∈ ws → wipe (σ.set i v) ws = wipe σ ws
    | w :: ws, h => by
      unfold wipe
      by_cases e : i = w
      · subst e
        by_cases m : i ∈ ws
        · rw [wipe_set m]
        · rw [wipe_out m, List.set_set]
      · rw [wipe_set (by
          rcases List.mem_cons.mp h with z | z
          · exact absurd z e
          · exact z)]
  wipe_out {σ : L2.St} {i : Nat} {v : Option V} : ∀ {ws : List Nat}, i ∉ ws → wipe (σ.set i v) ws = (wipe σ ws).set i v
    | [], _ => rfl
    | w :: ws, h => by
      have h1 : w ≠ i := fun z => h (by rw [z]; exact List.mem_cons_self)
      have h2 : i ∉ ws := fun z => h (List.mem_cons_of_mem _ z)
      unfold wipe
      rw [wipe_out h2, List.set_comm _ _ h1.symm]
theorem Tg.of {K : PySem.W.Frag} {Z : List Addr} {H : Hp} {S : Store} {Q : L2.St → Hp → Prop} {tg : Tg} {v : V} {d : D} {σ : L2.St} {τ τ' : DSt} (r : tg.rep K Z H S v d) (sl : Slots K Z H S σ τ) (e : tg.d τ d = some τ')
    (h : ∀ σ', Slots K Z H S σ' τ' → (∀ ws, (∀ i ∈ tg.sl, i ∈ ws) → wipe σ' ws = wipe σ ws) → Q σ' H) : tg.g K v σ H Q := by
  cases tg with
  | nm i =>
    cases e
    exact h _ (sl.set i r) fun ws hws => gNms_of.wipe_set (hws i (List.mem_singleton.mpr rfl))
  | tp is =>
    have fin : ∀ {ds : List D}, (∃ a vs, v = .ref a ∧ SqT K H a vs ∧ Reps K Z H S vs ds) → (if ds.length = is.length then some (sets τ is ds) else none) = some τ' → Tg.g K (.tp is) v σ H Q := by
      intro ds ⟨a, vs, ev, ht, rr⟩ e
      split at e
      · rename_i hl
        cases e
        exact ⟨a, vs, ev, ht, by rw [rr.length]; exact hl, gNms_of rr hl sl h⟩
      · cases e
    rcases r with r | ⟨a, vs, ds, ev, ed, ht, rr⟩
    · cases d with
      | tup ds => exact fin r.tupW e
      | ptp ds => exact fin r.ptpW e
      | _ => cases e
    · rcases ed with ed | ed
      · subst ed; exact fin ⟨a, vs, ev, ht, rr⟩ e
      · subst ed; exact fin ⟨a, vs, ev, ht, rr⟩ e
def dAsg (A : DE) (tg : Tg) : DS := fun E τ S => A τ S fun d S1 => match tg.d τ d with
  | some τ' => E.nx τ' S1
  | none => False
theorem s_asg {tgt : Expr} {A : DE} {tg : Tg} (he : XE X T e A) (hg : PG X tgt (tg.g X.K)) (hs : swapsWithSole [tgt] e pos.line X.env = pure false := by rfl) (hw : swappedStores [tgt] e X.env = pure none := by rfl)
    (h1 : (assignEach [tgt] X.env).map (·.2) = [assign tgt X.env] := by rfl) : XS X T (.Assign [tgt] e pos) (dAsg A tg) :=
  (ps_asg he hg hs hw h1).imp fun D σ H ⟨Z, τ, S, E, sl, ok, h, k⟩ => ⟨Z, τ, S, _, sl, ok, h, fun v H1 d S1 x1 r1 ok1 q => by
    cases et : tg.d τ d with
    | none => rw [et] at q; exact q.elim
    | some τ' =>
      rw [et] at q
      exact Tg.of (Tg.rep_of r1) (sl.ext x1) et fun σ' sl' _ => k.nx σ' H1 τ' S1 x1 sl' ok1 q⟩

/-! ### what is walked -/
/-- J walks the items ds, from H and S on -/
structure Wk (K : PySem.W.Frag) (T : Tb) (Z : List Addr) (tg : Tg) (J : It) (H : Hp) (S : Store) (ds : List D) : Prop where
  go : ∀ i H2 S2, Ext H S H2 S2 → i < ds.length → J.go i H2
  yld : ∀ Z2 i d H2 S2 v H3, (∀ z ∈ Z2, z ∈ Z ∨ H z = none) → Ext H S H2 S2 → StOk K T Z2 H2 S2 → ds[i]? = some d → J.yld i H2 v H3 → Ext H2 S2 H3 S2 ∧ StOk K T Z2 H3 S2 ∧ tg.rep K Z2 H3 S2 v d
  stop : ∀ i H2 S2, Ext H S H2 S2 → ds.length ≤ i → J.stop i H2
abbrev DI := DSt → Store → (List D → Store → Prop) → Prop
def lfI (K : PySem.W.Frag) (T : Tb) (tg : Tg) (Ψ : DI) : TI := fun σ H R => ∃ Z τ S G, Slots K Z H S σ τ ∧ StOk K T Z H S ∧ Ψ τ S G ∧ ∀ J H' ds S', Ext H S H' S' → StOk K T Z H' S' → Wk K T Z tg J H' S' ds → G ds S' → R J H'
abbrev XI (X : Cx) (T : Tb) (tt : Tg) (tg iter : Expr) (Ψ : DI) : Prop := PI X tg iter (lfI X.K T tt Ψ)
theorem _root_.L2.PI.imp {tg iter : Expr} {t t' : TI} (h : PI X tg iter t) (w : ∀ σ H Q, t' σ H Q → t σ H Q) : PI X tg iter t' := ⟨fun pins s σ H Q I q => h.run pins s σ H Q I (w σ H Q q)⟩

/-- for -/
def loopD (tg : Tg) (B : DS) (E : DEnds) : List D → DSt → Store → Prop
  | [], τ, S => E.nx τ S
  | d :: r, τ, S => match tg.d τ d with
    | some τ' => B { E with nx := loopD tg B E r, ct := loopD tg B E r, bk := E.nx } τ' S
    | none => False
def dFor (I : DI) (tg : Tg) (B : DS) : DS := fun E τ S => I τ S fun ds S1 => loopD tg B E ds τ S1
theorem drop_at {α : Type} {l : List α} {i : Nat} (h : i < l.length) : l.drop i = l[i] :: l.drop (i + 1) := by
  rw [← List.getElem_cons_drop]
theorem s_for {tgt iter : Expr} {body : List Stmt} {I : DI} {tg : Tg} {B : DS} (hp : PassesOwn (model X.prog X.w) X.A X.env X.xe) (hc : X.calm = true) (hi : XI X T tg tgt iter I) (hg : PG X tgt (tg.g X.K)) (hb : XSs X T body B)
    (hs : ∀ x, foldedSetIterable iter X.env x = pure x := by intro _; rfl) : XS X T (.For tgt iter body [] pos) (dFor I tg B) := by
  refine (ps_for hp hc hi hg hb hs).imp fun D σ H ⟨Z, τ, S, E, sl, ok, h, k⟩ => ?_
  refine ⟨Z, τ, S, _, sl, ok, h, fun J H1 ds S1 x1 ok1 wk q => ?_⟩
  have sl1 := sl.ext x1
  refine ⟨fun i m σ' H' => m = ds.length - i ∧ i ≤ ds.length ∧ ∃ τ' S', Ext H1 S1 H' S' ∧ Slots X.K Z H' S' σ' τ' ∧ StOk X.K T Z H' S' ∧ loopD tg B E (ds.drop i) τ' S', ⟨ds.length, by simp, Nat.zero_le _, τ, S1, .refl _ _, sl1, ok1, by simpa using q⟩, ?_⟩
  rintro i m σ' H' ⟨rfl, hi', τ', S', x2, sl2, ok2, q2⟩
  by_cases hlt : i < ds.length
  · rw [drop_at hlt] at q2
    refine .inr ⟨wk.go i H' S' x2 hlt, fun σ2 H2 => ∃ τ2 S2, Ext H1 S1 H2 S2 ∧ Slots X.K Z H2 S2 σ2 τ2 ∧ StOk X.K T Z H2 S2 ∧ loopD tg B E (ds.drop (i + 1)) τ2 S2, fun σ2 H2 ⟨τ2, S2, a1, a2, a3, a4⟩ => ⟨ds.length - (i + 1), by omega, rfl, hlt, τ2, S2, a1, a2, a3, a4⟩, fun v H2 y => ?_⟩
    obtain ⟨x3, ok3, r3⟩ := wk.yld Z i ds[i] H' S' v H2 (fun _ h => .inl h) x2 ok2 (by simp [hlt]) y
    unfold loopD at q2
    cases et : tg.d τ' ds[i] with
    | none => rw [et] at q2; exact q2.elim
    | some τ'' =>
      rw [et] at q2
      refine Tg.of r3 (sl2.ext x3) et fun σ3 sl3 _ => ⟨Z, τ'', S', _, sl3, ok3, q2, ?_⟩
      have xx := x1.trans (x2.trans x3)
      exact ⟨fun σ4 H4 τ4 S4 x4 s4 o4 h4 => ⟨τ4, S4, x2.trans (x3.trans x4), s4, o4, h4⟩, (k.later xx).rt, fun σ4 H4 τ4 S4 x4 s4 o4 h4 => (k.later xx).nx σ4 H4 τ4 S4 x4 s4 o4 h4, fun σ4 H4 τ4 S4 x4 s4 o4 h4 => ⟨τ4, S4, x2.trans (x3.trans x4), s4, o4, h4⟩⟩
  · have e : i = ds.length := by omega
    subst e
    rw [List.drop_length] at q2
    exact .inl ⟨wk.stop _ H' S' x2 (Nat.le_refl _), (k.later (x1.trans x2)).nx σ' H' τ' S' (.refl _ _) sl2 ok2 q2⟩

/-! ### comprehensions -/
def wipeD (τ : DSt) : List Nat → DSt
  | [] => τ
  | v :: vs => (wipeD τ vs).set v none
theorem Slots.wipe {K : PySem.W.Frag} {Z : List Addr} {H : Hp} {S : Store} {σ : L2.St} {τ : DSt} (s : Slots K Z H S σ τ) : ∀ ws : List Nat, Slots K Z H S (L2.wipe σ ws) (wipeD τ ws)
  | [] => s
  | w :: ws => by
    have q := Slots.wipe s ws
    refine ⟨by unfold L2.wipe wipeD; simp [q.len], fun i d h => ?_⟩
    unfold wipeD at h
    unfold L2.wipe
    by_cases e : w = i
    · subst e
      by_cases hi : w < (wipeD τ ws).length
      · rw [List.getElem?_set_self hi] at h; cases h
      · rw [List.getElem?_eq_none (by simp; omega)] at h; cases h
    · rw [List.getElem?_set_ne e] at h ⊢
      exact q.at_ i d h
def compD (tg : Tg) (C : DT) (A : DE) (τ : DSt) : List D → List D → Store → (List D → Store → Prop) → Prop
  | [], acc, S, Q => Q acc S
  | d :: r, acc, S, Q => match tg.d τ d with
    | some τ' => C τ' S fun b S1 => if b = true then A τ' S1 fun y S2 => compD tg C A τ r (acc ++ [y]) S2 Q else compD tg C A τ r acc S1 Q
    | none => False
def dComp (I : DI) (tg : Tg) (C : DT) (A : DE) (ws : List Nat) : DI := fun τ S Q => I τ S fun ds S1 => ds.length ≤ sizeLine ∧ compD tg C A (wipeD τ ws) ds [] S1 Q
def dLc (I : DI) (tg : Tg) (C : DT) (A : DE) (ws : List Nat) : DE := fun τ S Q => dComp I tg C A ws τ S fun ds S1 => Q (.lst ds) S1
def dLcR (I : DI) (tg : Tg) (C : DT) (A : DE) (ws : List Nat) : DE := fun τ S Q => dComp I tg C A ws τ S fun ds S1 => ∀ p, S1 p = none → Q (.ref p) (ups S1 p (.lst ds))
def dYes : DT := fun _ S Q => Q true S
abbrev XTs (X : Cx) (T : Tb) (ifs : List Expr) (Ψ : DT) : Prop := PTs X ifs (lfT X.K T Ψ)
theorem ts_nil : XTs X T [] dYes := ⟨fun pins s σ H Q I ⟨Z, τ, S, R, sl, ok, h, k⟩ => pts_nil.run pins s σ H Q I (k true H S (.refl _ _) ok h)⟩
theorem ts_one {C : DT} (h : XT X T c C) : XTs X T [c] C := pts_one h
theorem Ext.hset {H H' : Hp} {S S' : Store} {D : Addr} {u : HO} (x : Ext H S H' S') (hD : H D = none) : Ext H S (upd H' D u) S' := by
  exact ⟨fun a o n e nt => ⟨x.hid a o n e nt, by rw [upd_ne (ne_of_none e hD)]; exact x.eq a o n e nt⟩⟩
section
variable {K : PySem.W.Frag} {Z Z' : List Addr} {H : Hp} {S : Store} {L : Addr} {xs ys : List V}
mutual
theorem Rep.hset (hD : H L = some (.lst xs)) (hz : L ∈ Z) : ∀ {v : V} {d : D}, Rep K Z H S v d → Rep K Z (upd H L (.lst ys)) S v d
  | _, _, .non => .non
  | _, _, .bl b => .bl b
  | _, _, .int i => .int i
  | _, _, .str z => .str z
  | _, _, .ref a => .ref a
  | _, _, .tup (a := a) h r => .tup (h.imp (fun z => ⟨by
      rcases z.1 with q | ⟨o, q⟩
      · exact .inl (by rw [upd_ne (fun e => by rw [e, hD] at q; cases q)]; exact q)
      · exact .inr ⟨o, by rw [upd_ne (fun e => by rw [e, hD] at q; cases q)]; exact q⟩, z.2⟩) id) (Reps.hset hD hz r)
  | _, _, .ptp (a := a) h r => .ptp (h.imp (fun ⟨o, q, z2, z3⟩ => ⟨o, by
      rw [upd_ne (fun e => by rw [e, hD] at q; cases q)]; exact q, z2, z3⟩) id) (Reps.hset hD hz r)
  | _, _, .lst h n nz r => .lst (by rw [upd_ne (fun e => nz (by rw [e]; exact hz))]; exact h) n nz (Reps.hset hD hz r)
  | _, _, .scr (a := a) h => .scr (h.imp (fun z => ⟨by
      have ne : a ≠ L := fun e => z.2.2 (by rw [e]; exact hz)
      rcases z.1 with q | ⟨o, q⟩
      · exact .inl (by rw [upd_ne ne]; exact q)
      · exact .inr ⟨o, by rw [upd_ne ne]; exact q⟩, z.2⟩) id)
  | _, _, .fn h r => .fn (h.mv fun b o n e _ l _ => ⟨n, by rw [upd_ne (fun q => l xs (by rw [q, hD] at e; exact (Option.some.inj e).symm))]; exact e⟩) (Reps.hset hD hz r)
  | _, _, .exc0 => .exc0
  | _, _, .exc1 h n r => .exc1 (by rw [upd_ne (fun q => by rw [q, hD] at h; cases h)]; exact h) n (Rep.hset hD hz r)
theorem Reps.hset (hD : H L = some (.lst xs)) (hz : L ∈ Z) : ∀ {vs : List V} {ds : List D}, Reps K Z H S vs ds → Reps K Z (upd H L (.lst ys)) S vs ds
  | _, _, .nil => .nil
  | _, _, .cons r t => .cons (Rep.hset hD hz r) (Reps.hset hD hz t)
end
mutual
theorem Rep.zw (x : ∀ z ∈ Z', z ∈ Z ∨ H z = none) : ∀ {v : V} {d : D}, Rep K Z H S v d → Rep K Z' H S v d
  | _, _, .non => .non
  | _, _, .bl b => .bl b
  | _, _, .int i => .int i
  | _, _, .str z => .str z
  | _, _, .ref a => .ref a
  | _, _, .tup h r => .tup h (Reps.zw x r)
  | _, _, .ptp h r => .ptp h (Reps.zw x r)
  | _, _, .lst h n nz r => .lst h n (fun q => (x _ q).elim nz fun e => by rw [e] at h; cases h) (Reps.zw x r)
  | _, _, .scr h => .scr (h.imp (fun z => ⟨z.1, z.2.1, fun q => (x _ q).elim z.2.2 fun e => by
      rcases z.1 with q | ⟨o, q⟩
      · rw [e] at q; cases q
      · rw [e] at q; cases q⟩) id)
  | _, _, .fn h r => .fn h (Reps.zw x r)
  | _, _, .exc0 => .exc0
  | _, _, .exc1 h n r => .exc1 h n (Rep.zw x r)
theorem Reps.zw (x : ∀ z ∈ Z', z ∈ Z ∨ H z = none) : ∀ {vs : List V} {ds : List D}, Reps K Z H S vs ds → Reps K Z' H S vs ds
  | _, _, .nil => .nil
  | _, _, .cons r t => .cons (Rep.zw x r) (Reps.zw x t)
end
theorem Rep.zs (x : ∀ z ∈ Z', z ∈ Z) {v : V} {d : D} (r : Rep K Z H S v d) : Rep K Z' H S v d := r.zw fun z h => .inl (x z h)
theorem Reps.zs (x : ∀ z ∈ Z', z ∈ Z) {v : List V} {d : List D} (r : Reps K Z H S v d) : Reps K Z' H S v d := r.zw fun z h => .inl (x z h)
theorem Rep.zn (hD : H L = none) {v : V} {d : D} (r : Rep K Z H S v d) : Rep K (L :: Z) H S v d := r.zw fun z h => (List.mem_cons.mp h).elim (fun e => .inr (by rw [e]; exact hD)) .inl
theorem Reps.zn (hD : H L = none) {v : List V} {d : List D} (r : Reps K Z H S v d) : Reps K (L :: Z) H S v d := r.zw fun z h => (List.mem_cons.mp h).elim (fun e => .inr (by rw [e]; exact hD)) .inl
theorem RKV.map {κ : Type} {Z' : List Addr} {H' : Hp} {S' : Store} (f : ∀ v d, Rep K Z H S v d → Rep K Z' H' S' v d) {kvs : List (κ × V)} {kds : List (κ × D)} (r : RKV K Z H S kvs kds) : RKV K Z' H' S' kvs kds :=
  L2.Paired.mapP r fun _ _ q => ⟨q.1, f _ _ q.2⟩
theorem MOk.map {Z' : List Addr} {H' : Hp} {S' : Store} (f : ∀ v d, Rep K Z H S v d → Rep K Z' H' S' v d) (fs : ∀ vs ds, Reps K Z H S vs ds → Reps K Z' H' S' vs ds) {a : Addr} {o : MO} (e : H' a = H a) (m : MOk K Z H S a o) : MOk K Z' H' S' a o := by
  cases o with
  | lst ds => obtain ⟨vs, h, r⟩ := m; exact ⟨vs, e.trans h, fs _ _ r⟩
  | dK ds => obtain ⟨vs, h, r⟩ := m; exact ⟨vs, e.trans h, RKV.map f r⟩
  | dT ds => obtain ⟨vs, h, r⟩ := m; exact ⟨vs, e.trans h, RKV.map f r⟩
  | ins C ds => obtain ⟨oc, fl, dx, vs, h, r⟩ := m; exact ⟨oc, fl, dx, vs, e.trans h, RKV.map f r⟩
  | dN ks => obtain ⟨xs, h, r⟩ := m; exact ⟨xs, e.trans h, L2.Paired.mapP r fun _ _ q => ⟨q.1, f _ _ q.2.1, f _ _ q.2.2⟩⟩
  | memo ks => obtain ⟨xs, h, e2, r⟩ := m; exact ⟨xs, e.trans h, e2, fun y hy => let ⟨d, a, b, c⟩ := r y hy; ⟨d, f _ _ a, b, c⟩⟩
theorem Slots.map {Z' : List Addr} {H' : Hp} {S' : Store} (f : ∀ v d, Rep K Z H S v d → Rep K Z' H' S' v d) {σ : L2.St} {τ : DSt} (s : Slots K Z H S σ τ) : Slots K Z' H' S' σ τ :=
  ⟨s.len, fun i d e => let ⟨v, h, r⟩ := s.at_ i d e; ⟨v, h, f _ _ r⟩⟩
theorem StOk.hset (ok : StOk K T Z H S) (hD : H L = some (.lst xs)) (hz : L ∈ Z) : StOk K T Z (upd H L (.lst ys)) S := by
  refine ⟨tabs_upd ok.tabs (.inr ⟨_, hD, ⟨fun ps z => (by cases z), fun c q => codeO_not.1 _⟩⟩), fun z h => ?_, fun a o e => ?_⟩
  · obtain ⟨n, vs, e⟩ := ok.rsv z h
    by_cases q : z = L
    · subst q; exact ⟨n, _, upd_same⟩
    · exact ⟨n, vs, by rw [upd_ne q]; exact e⟩
  · refine (ok.obj a o e).map (fun _ _ r => r.hset hD hz) (fun _ _ r => r.hset hD hz) (upd_ne fun q => ?_)
    rw [q, (ok.rsv L hz).1] at e
    cases e
theorem StOk.zn (ok : StOk K T Z H S) (hD : H L = none) : StOk K T (L :: Z) (upd H L (.lst ys)) S := by
  have ok1 : StOk K T Z (upd H L (.lst ys)) S := ok.new hD
  have nz : L ∉ Z := fun q => by
    obtain ⟨_, vs, e⟩ := ok.rsv L q
    rw [hD] at e; cases e
  refine ⟨ok1.tabs, fun z h => ?_, fun a o e => ?_⟩
  · rcases List.mem_cons.mp h with q | q
    · subst q; exact ⟨ok.fresh hD, _, upd_same⟩
    · exact ok1.rsv z q
  · have m := ok.obj a o e
    obtain ⟨w, hw, _⟩ := ok.get e
    exact m.map (fun _ _ r => (r.zn hD).ext (.new hD)) (fun _ _ r => (r.zn hD).ext (.new hD)) (upd_ne (ne_of_none hw hD))
theorem StOk.zs (ok : StOk K T Z H S) (x : ∀ z ∈ Z', z ∈ Z) : StOk K T Z' H S := ⟨ok.tabs, fun z h => ok.rsv z (x z h), fun a o e => (ok.obj a o e).map (fun _ _ r => r.zs x) (fun _ _ r => r.zs x) rfl⟩
end
theorem wipe_none {σ : L2.St} {v : Nat} : ∀ {ws : List Nat}, v ∈ ws → (L2.wipe σ ws).set v none = L2.wipe σ ws
  | w :: ws, h => by
    unfold L2.wipe
    by_cases e : v = w
    · subst e; rw [List.set_set]
    · have h2 : v ∈ ws := (List.mem_cons.mp h).elim (fun z => absurd z e) id
      rw [List.set_comm _ _ (Ne.symm e), wipe_none h2]
theorem wipe_sub {σ : L2.St} {ws : List Nat} : ∀ {us : List Nat}, (∀ u ∈ us, u ∈ ws) → L2.wipe (L2.wipe σ ws) us = L2.wipe σ ws
  | [], _ => rfl
  | u :: us, h => by
    show (L2.wipe (L2.wipe σ ws) us).set u none = _
    rw [wipe_sub fun x hx => h x (List.mem_cons_of_mem _ hx)]
    exact wipe_none (h u List.mem_cons_self)
theorem wipe_idem {σ : L2.St} (ws : List Nat) : L2.wipe (L2.wipe σ ws) ws = L2.wipe σ ws := wipe_sub fun _ h => h
theorem lf_comp {K : PySem.W.Frag} {Z : List Addr} {I : DI} {tg : Tg} {C : DT} {A : DE} {ws : List Nat} (hws : ∀ i ∈ tg.sl, i ∈ ws) {σ : L2.St} {H : Hp} {Q : VK} {τ : DSt} {S : Store} {G : List D → Store → Prop} (sl : Slots K Z H S σ τ) (ok : StOk K T Z H S) (h : dComp I tg C A ws τ S G)
    (k : ∀ p H1 vs ds S1, Ext H S H1 S1 → H1 p = some (.lst vs) → S1 p = none → p ∉ Z → (∀ a o, S a = none → H a = some o → (∀ ps, o ≠ .tbl ps) → a ≠ p) → Reps K (p :: Z) H1 S1 vs ds → StOk K T (p :: Z) H1 S1 → G ds S1 → Q (.ref p) H1) :
    tLc (lfI K T tg I) (tg.g K) (lfT K T C) (lf K T A) ws σ H Q := by
  refine ⟨Z, τ, S, _, sl, ok, h, fun J H1 ds S1 x1 ok1 wk ⟨hz, q⟩ D hD => ?_⟩
  have nD : S1 D = none := ok1.fresh hD
  have xD : Ext H1 S1 (upd H1 D (.lst [])) S1 := .new hD
  have nZ : D ∉ Z := fun q => by
    obtain ⟨_, vs, e⟩ := ok1.rsv D q
    rw [hD] at e; cases e
  have hDH : ∀ a o, S a = none → H a = some o → (∀ ps, o ≠ .tbl ps) → a ≠ D := fun a o n e nt z => by
    have q := x1.eq a o n e nt
    rw [z, hD] at q; cases q
  have zz : ∀ z ∈ D :: Z, z ∈ Z ∨ H1 z = none := fun z h => (List.mem_cons.mp h).elim (fun e => .inr (by rw [e]; exact hD)) .inl
  have sl1 := (sl.ext x1).map fun _ _ r => r.zw zz
  refine ⟨fun i m H' => m = ds.length - i ∧ i ≤ ds.length ∧ ∃ S' vs acc, Ext H1 S1 H' S' ∧ S' D = none ∧ H' D = some (.lst vs) ∧ Reps K (D :: Z) H' S' vs acc ∧ acc.length ≤ i ∧ StOk K T (D :: Z) H' S' ∧ compD tg C A (wipeD τ ws) (ds.drop i) acc S' G, ?_, ?_⟩
  · exact ⟨ds.length, by simp, Nat.zero_le _, S1, [], [], xD, nD, upd_same, .nil, Nat.zero_le _, ok1.zn hD, by simpa using q⟩
  · rintro i m H' ⟨rfl, hi, S', vs, acc, x2, n2, e2, r2, l2, ok2, q2⟩
    by_cases hlt : i < ds.length
    · rw [drop_at hlt] at q2
      refine .inr ⟨wk.go i H' S' x2 hlt, fun H3 => ∃ S3 vs3 acc3, Ext H1 S1 H3 S3 ∧ S3 D = none ∧ H3 D = some (.lst vs3) ∧ Reps K (D :: Z) H3 S3 vs3 acc3 ∧ acc3.length ≤ i + 1 ∧ StOk K T (D :: Z) H3 S3 ∧ compD tg C A (wipeD τ ws) (ds.drop (i + 1)) acc3 S3 G, fun H3 ⟨S3, vs3, acc3, a1, a2, a3, a4, a5, a6, a7⟩ => ⟨ds.length - (i + 1), by omega, rfl, hlt, S3, vs3, acc3, a1, a2, a3, a4, a5, a6, a7⟩, fun v H3 y => ?_⟩
      obtain ⟨x3, ok3, r3⟩ := wk.yld (D :: Z) i ds[i] H' S' v H3 zz x2 ok2 (by simp [hlt]) y
      unfold compD at q2
      cases et : tg.d (wipeD τ ws) ds[i] with
      | none => rw [et] at q2; exact q2.elim
      | some τ' =>
        rw [et] at q2
        have slw : Slots K (D :: Z) H3 S' (L2.wipe σ ws) (wipeD τ ws) := ((sl1.ext (x2.trans x3)).wipe ws)
        refine Tg.of r3 slw et fun σ3 sl3 hw => ⟨?_, ?_⟩
        · rw [hw ws hws]
          exact wipe_idem ws
        · refine ⟨D :: Z, τ', S', _, sl3, ok3, q2, fun b H4 S4 x4 ok4 q4 => ?_⟩
          have x34 := x3.trans x4
          have e4 : H4 D = some (.lst vs) := x34.eq D _ n2 e2 fun ps z => (by cases z)
          have n4 := x34.hid D _ n2 e2 fun ps z => (by cases z)
          cases b with
          | false => exact ⟨S4, vs, acc, x2.trans x34, n4, e4, r2.ext x34, by omega, ok4, q4⟩
          | true =>
            refine ⟨D :: Z, τ', S4, _, sl3.ext x4, ok4, q4, fun w H5 d5 S5 x5 r5 ok5 q5 => ?_⟩
            have x35 := x34.trans x5
            have e5 : H5 D = some (.lst vs) := x5.eq D _ n4 e4 fun ps z => (by cases z)
            have n5 := x5.hid D _ n4 e4 fun ps z => (by cases z)
            have inD : D ∈ D :: Z := List.mem_cons_self
            refine ⟨vs, e5, ?_, S5, vs ++ [w], acc ++ [d5], ?_, n5, upd_same, ?_, by simp; omega, ?_, q5⟩
            · rw [r2.length]; omega
            · exact (x2.trans x35).hset hD
            · exact ((r2.ext x35).append (.cons r5 .nil)).hset e5 inD
            · exact ok5.hset e5 inD
    · have e : i = ds.length := by omega
      subst e
      rw [List.drop_length] at q2
      exact .inl ⟨wk.stop _ H' S' x2 (Nat.le_refl _), k D H' vs acc S' (x1.trans x2) e2 n2 nZ hDH r2 ok2 q2⟩
abbrev Blk (X : Cx) (scope : Scope) (P : Cx → Prop) : Prop := ∀ (s : Shared) (H : Hp) (C : Addr) (cl : List (Str × Addr)) (fp : List Addr), P (X.blk s H scope (compEnvC scope cl C X.env) fp)
section
variable {elt tgt iter : Expr} {ifs : List Expr} {scope : Scope} {own : List (Str × Nat)} {I : DI} {tg : Tg} {C : DT} {A : DE}
theorem Ext.toRef {H H1 : Hp} {S S1 : Store} {p : Addr} {o : MO} (x : Ext H S H1 S1) (f : ∀ a o, S a = none → H a = some o → (∀ ps, o ≠ .tbl ps) → a ≠ p) : Ext H S H1 (ups S1 p o) :=
  ⟨fun a u n e nt => ⟨by rw [ups_ne (f a u n e nt)]; exact x.hid a u n e nt, x.eq a u n e nt⟩⟩
theorem x_lc (hc : X.calm = true) (hN : X.N.Nodup) (hi : XI X T tg tgt iter I) (ok : BlkOk X.N X.env.scope scope own) (hg : Blk X scope fun Y => PG Y tgt (tg.g Y.K)) (ht : Blk X scope fun Y => XTs Y T ifs C) (he : Blk X scope fun Y => XE Y T elt A)
    (hws : ∀ i ∈ tg.sl, i ∈ own.map (·.2)) (hs : ∀ x, foldedSetIterable iter X.env x = pure x := by intro _; rfl) : XE X T (.ListComp elt [⟨tgt, iter, ifs, 0⟩] scope pos) (dLc I tg C A (own.map (·.2))) :=
  (pe_lc (g := tg.g X.K) (tt := lfT X.K T C) (te := lf X.K T A) hc hN hi ok hg ht he hs).imp fun σ H Q ⟨Z, τ, S, R, sl, ok, h, k⟩ => lf_comp hws sl ok h fun p H1 vs ds S1 x1 e1 n1 nz _ r1 ok1 g => k _ H1 _ S1 x1 (.lst e1 n1 nz (r1.zs fun z h => List.mem_cons_of_mem _ h)) (ok1.zs fun z h => List.mem_cons_of_mem _ h) g
theorem s_setLc {i : Nat} {y : Str} {py : Pos} {spos : Pos} (hc : X.calm = true) (hN : X.N.Nodup) (hy : X.N[i]? = some y) (hyl : X.env.scope.names.lookup y = some .local)
    (hsw : swapsWith (.ListComp elt [⟨tgt, iter, ifs, 0⟩] scope pos) (some (.Name y py)) spos.line X.env = pure true) (hi : XI X T tg tgt iter I) (ok : BlkOk X.N X.env.scope scope own) (hg : Blk X scope fun Y => PG Y tgt (tg.g Y.K)) (ht : Blk X scope fun Y => XTs Y T ifs C)
    (he : Blk X scope fun Y => XE Y T elt A) (hws : ∀ i ∈ tg.sl, i ∈ own.map (·.2)) (hs : ∀ x, foldedSetIterable iter X.env x = pure x := by intro _; rfl) :
    XS X T (.Assign [.Name y py] (.ListComp elt [⟨tgt, iter, ifs, 0⟩] scope pos) spos) (dSet i (dLc I tg C A (own.map (·.2)))) := by
  refine (ps_setLc (g := tg.g X.K) (tt := lfT X.K T C) (te := lf X.K T A) hc hN hy hyl hsw hi ok hg ht he hs).imp fun D σ H ⟨Z, τ, S, E, sl, ok, h, k⟩ => ?_
  refine lf_comp hws sl ok h fun p H1 vs ds S1 x1 e1 n1 nz _ r1 ok1 g => ?_
  exact k.nx _ H1 _ S1 x1 ((sl.ext x1).set i (.lst e1 n1 nz (r1.zs fun z h => List.mem_cons_of_mem _ h))) (ok1.zs fun z h => List.mem_cons_of_mem _ h) g
mutual
/-- a list, hidden so far, comes into the store -/
theorem Rep.show {K : PySem.W.Frag} {Z : List Addr} {H : Hp} {S : Store} {p : Addr} {xs : List V} {o : MO} (e : H p = some (.lst xs)) : ∀ {v : V} {d : D}, Rep K (p :: Z) H S v d → Rep K Z H (ups S p o) v d
  | _, _, .non => .non
  | _, _, .bl b => .bl b
  | _, _, .int i => .int i
  | _, _, .str z => .str z
  | _, _, .ref a => .ref a
  | _, _, .tup (a := a) h r => .tup (h.imp (fun z => ⟨z.1, by
      have ne : a ≠ p := fun q => by
        rcases z.1 with w | ⟨o, w⟩
        · rw [q, e] at w; cases w
        · rw [q, e] at w; cases w
      rw [ups_ne ne]; exact z.2⟩) id) (Reps.show e r)
  | _, _, .ptp (a := a) h r => .ptp (h.imp (fun ⟨o, w, z2, z3⟩ => by
      have ne : a ≠ p := fun q => by rw [q, e] at w; cases w
      exact ⟨o, w, z2, by rw [ups_ne ne]; exact z3⟩) id) (Reps.show e r)
  | _, _, .lst (a := a) h z nz r => by
      have ne : a ≠ p := fun q => nz (by rw [q]; exact List.mem_cons_self)
      exact .lst h (by rw [ups_ne ne]; exact z) (fun q => nz (List.mem_cons_of_mem _ q)) (Reps.show e r)
  | _, _, .scr (a := a) h => .scr (h.imp (fun z => by
      have ne : a ≠ p := fun q => z.2.2 (by rw [q]; exact List.mem_cons_self)
      exact ⟨z.1, by rw [ups_ne ne]; exact z.2.1, fun q => z.2.2 (List.mem_cons_of_mem _ q)⟩) id)
  | _, _, .fn h r => .fn (h.mv fun b o' n q _ l _ => ⟨by rw [ups_ne (fun z => l xs (by rw [z, e] at q; exact (Option.some.inj q).symm))]; exact n, q⟩) (Reps.show e r)
  | _, _, .exc0 => .exc0
  | _, _, .exc1 h n r => .exc1 h (by rw [ups_ne (fun z => by rw [z, e] at h; cases h)]; exact n) (Rep.show e r)
theorem Reps.show {K : PySem.W.Frag} {Z : List Addr} {H : Hp} {S : Store} {p : Addr} {xs : List V} {o : MO} (e : H p = some (.lst xs)) : ∀ {vs : List V} {ds : List D}, Reps K (p :: Z) H S vs ds → Reps K Z H (ups S p o) vs ds
  | _, _, .nil => .nil
  | _, _, .cons r t => .cons (Rep.show e r) (Reps.show e t)
end
theorem StOk.show {K : PySem.W.Frag} {Z : List Addr} {H : Hp} {S : Store} {p : Addr} {xs : List V} {ds : List D} (ok : StOk K T (p :: Z) H S) (e : H p = some (.lst xs)) (nz : p ∉ Z) (r : Reps K (p :: Z) H S xs ds) : StOk K T Z H (ups S p (.lst ds)) := by
  refine ⟨ok.tabs, fun z hz => ?_, fun b o' eb => ?_⟩
  · obtain ⟨q1, q2⟩ := ok.rsv z (List.mem_cons_of_mem _ hz)
    have ne : z ≠ p := fun q => nz (by rw [← q]; exact hz)
    exact ⟨by rw [ups_ne ne]; exact q1, q2⟩
  · by_cases hb : b = p
    · subst hb; rw [ups_same] at eb; cases eb; exact ⟨xs, e, r.show e⟩
    · rw [ups_ne hb] at eb
      exact (ok.obj b o' eb).map (fun _ _ r => r.show e) (fun _ _ r => r.show e) rfl
theorem x_lcR (hc : X.calm = true) (hN : X.N.Nodup) (hi : XI X T tg tgt iter I) (ok : BlkOk X.N X.env.scope scope own) (hg : Blk X scope fun Y => PG Y tgt (tg.g Y.K)) (ht : Blk X scope fun Y => XTs Y T ifs C) (he : Blk X scope fun Y => XE Y T elt A)
    (hws : ∀ i ∈ tg.sl, i ∈ own.map (·.2)) (hs : ∀ x, foldedSetIterable iter X.env x = pure x := by intro _; rfl) : XE X T (.ListComp elt [⟨tgt, iter, ifs, 0⟩] scope pos) (dLcR I tg C A (own.map (·.2))) :=
  (pe_lc (g := tg.g X.K) (tt := lfT X.K T C) (te := lf X.K T A) hc hN hi ok hg ht he hs).imp fun σ H Q ⟨Z, τ, S, R, sl, ok, h, k⟩ => lf_comp hws sl ok h fun p H1 vs ds S1 x1 e1 n1 nz f r1 ok1 g => k _ H1 _ _ (x1.toRef f) (.ref p) (ok1.show e1 nz r1) (g p n1)
theorem s_setLcR {i : Nat} {y : Str} {py : Pos} {spos : Pos} (hc : X.calm = true) (hN : X.N.Nodup) (hy : X.N[i]? = some y) (hyl : X.env.scope.names.lookup y = some .local)
    (hsw : swapsWith (.ListComp elt [⟨tgt, iter, ifs, 0⟩] scope pos) (some (.Name y py)) spos.line X.env = pure true) (hi : XI X T tg tgt iter I) (ok : BlkOk X.N X.env.scope scope own) (hg : Blk X scope fun Y => PG Y tgt (tg.g Y.K)) (ht : Blk X scope fun Y => XTs Y T ifs C)
    (he : Blk X scope fun Y => XE Y T elt A) (hws : ∀ i ∈ tg.sl, i ∈ own.map (·.2)) (hs : ∀ x, foldedSetIterable iter X.env x = pure x := by intro _; rfl) :
    XS X T (.Assign [.Name y py] (.ListComp elt [⟨tgt, iter, ifs, 0⟩] scope pos) spos) (dSet i (dLcR I tg C A (own.map (·.2)))) := by
  refine (ps_setLc (g := tg.g X.K) (tt := lfT X.K T C) (te := lf X.K T A) hc hN hy hyl hsw hi ok hg ht he hs).imp fun D σ H ⟨Z, τ, S, E, sl, ok, h, k⟩ => ?_
  refine lf_comp hws sl ok h fun p H1 vs ds S1 x1 e1 n1 nz f r1 ok1 g => ?_
  have x2 : Ext H S H1 (ups S1 p (.lst ds)) := x1.toRef f
  exact k.nx _ H1 _ _ x2 ((sl.ext x2).set i (.ref p)) (ok1.show e1 nz r1) (g p n1)
end
end
end Dl

set_option Elab.async false
set_option linter.all false
set_option maxRecDepth 100000
namespace Dl
open PySem PySem.Spec PyProof.Rows L2 LamX

/-! ### data as the library tells them; equality -/
mutual
def py : D → PyData
  | .non => .none
  | .bl b => .bool b
  | .int i => .int i
  | .str x => .str x
  | .tup ds => .tuple (pys ds)
  | .ptp ds => .tuple (pys ds)
  | .lst ds => .list (pys ds)
  | .scr _ => .none
  | .fn .. => .none
  | .exc .. => .none
  | .ref _ => .none
def pys : List D → List PyData
  | [] => []
  | d :: ds => py d :: pys ds
end
mutual
/-- data of a depth below n -/
def okd : Nat → D → Bool
  | _, .non => true
  | _, .bl _ => true
  | _, .int _ => true
  | _, .str x => PyData.strOk x
  | n, .tup ds => match n with | 0 => false | n + 1 => okds n ds
  | n, .ptp ds => match n with | 0 => false | n + 1 => okds n ds
  | n, .lst ds => match n with | 0 => false | n + 1 => okds n ds
  | _, .scr _ => false
  | _, .fn .. => false
  | _, .exc .. => false
  | _, .ref _ => false
def okds : Nat → List D → Bool
  | _, [] => true
  | n, d :: ds => okd n d && okds n ds
end
mutual
def deq : D → D → Bool
  | .non, .non => true
  | .bl a, .bl b => a == b
  | .bl a, .int j => (if a then 1 else 0) == j
  | .int i, .bl b => i == (if b then 1 else 0)
  | .int i, .int j => i == j
  | .str x, .str y => x == y
  | .tup a, .tup b => deqs a b
  | .tup a, .ptp b => deqs a b
  | .ptp a, .tup b => deqs a b
  | .ptp a, .ptp b => deqs a b
  | .lst a, .lst b => deqs a b
  | _, _ => false
def deqs : List D → List D → Bool
  | [], [] => true
  | x :: xs, y :: ys => deq x y && deqs xs ys
  | _, _ => false
end
mutual
theorem eqv_py : ∀ {n m : Nat} (x y : D), okd n x = true → okd m y = true → PyData.eqv (py x) (py y) = deq x y := by
  intro n m x y hx hy
  cases x <;> cases y <;> first
    | rfl
    | (simp only [py, PyData.eqv, deq]; done)
    | (exfalso; simp [okd] at hx; done)
    | (exfalso; simp [okd] at hy; done)
    | (simp only [py, PyData.eqv, deq]
       cases n with
       | zero => simp [okd] at hx
       | succ n =>
         cases m with
         | zero => simp [okd] at hy
         | succ m => exact eqv_pys _ _ (by simpa [okd] using hx) (by simpa [okd] using hy))
theorem eqv_pys : ∀ {n m : Nat} (x y : List D), okds n x = true → okds m y = true → PyData.eqvAll (pys x) (pys y) = deqs x y
  | _, _, [], [], _, _ => by simp [pys, PyData.eqvAll, deqs]
  | _, _, [], _ :: _, _, _ => by simp [pys, PyData.eqvAll, deqs]
  | _, _, _ :: _, [], _, _ => by simp [pys, PyData.eqvAll, deqs]
  | n, m, x :: xs, y :: ys, hx, hy => by
    simp only [okds, Bool.and_eq_true] at hx hy
    simp only [pys, PyData.eqvAll, deqs]
    rw [eqv_py x y hx.1 hy.1, eqv_pys xs ys hx.2 hy.2]
end
mutual
theorem shaped_py : ∀ {n : Nat} (x : D), okd n x = true → (py x).canLay0 = true ∧ (py x).depth ≤ n + 1
  | _, .non, _ => by simp [py, PyData.canLay0, PyData.depth]
  | _, .bl _, _ => by simp [py, PyData.canLay0, PyData.depth]
  | _, .int _, _ => by simp [py, PyData.canLay0, PyData.depth]
  | _, .str z, h => by
    have h' : PyData.strOk z = true := by simpa [okd] using h
    simp [py, PyData.canLay0, PyData.depth, h']
  | n, .tup ds, h => by
    cases n with
    | zero => simp [okd] at h
    | succ n =>
      obtain ⟨a, b⟩ := shaped_pys (n := n) ds (by simpa [okd] using h)
      refine ⟨by simpa [py, PyData.canLay0] using a, ?_⟩
      simp only [py, PyData.depth]
      omega
  | n, .ptp ds, h => by
    cases n with
    | zero => simp [okd] at h
    | succ n =>
      obtain ⟨a, b⟩ := shaped_pys (n := n) ds (by simpa [okd] using h)
      refine ⟨by simpa [py, PyData.canLay0] using a, ?_⟩
      simp only [py, PyData.depth]
      omega
  | n, .lst ds, h => by
    cases n with
    | zero => simp [okd] at h
    | succ n =>
      obtain ⟨a, b⟩ := shaped_pys (n := n) ds (by simpa [okd] using h)
      refine ⟨by simpa [py, PyData.canLay0] using a, ?_⟩
      simp only [py, PyData.depth]
      omega
  | _, .scr _, h => by simp [okd] at h
  | _, .fn .., h => by simp [okd] at h
  | _, .exc .., h => by simp [okd] at h
  | _, .ref _, h => by simp [okd] at h
theorem shaped_pys : ∀ {n : Nat} (x : List D), okds n x = true → PyData.canLayAll0 (pys x) = true ∧ PyData.depthAll (pys x) ≤ n + 1
  | _, [], _ => by simp [pys, PyData.canLayAll0, PyData.depthAll]
  | n, d :: ds, h => by
    simp only [okds, Bool.and_eq_true] at h
    obtain ⟨a, b⟩ := shaped_py d h.1
    obtain ⟨a', b'⟩ := shaped_pys ds h.2
    refine ⟨by simp [pys, PyData.canLayAll0, a, a'], ?_⟩
    simp only [pys, PyData.depthAll]
    omega
end
theorem shaped_of {d : D} (h : okd 60 d = true) : SeqAt.shaped (py d) = true := by
  obtain ⟨a, b⟩ := shaped_py d h
  unfold SeqAt.shaped
  rw [a]
  simp
  omega
section
variable {K : PySem.W.Frag} {Z : List Addr} {H : Hp} {S : Store}
mutual
theorem Rep.dp : ∀ {n : Nat} {v : V} {d : D}, Rep K Z H S v d → okd n d = true → Dp K H v (py d)
  | _, _, _, .non, _ => by simp only [py]; exact .non
  | _, _, _, .bl b, _ => by simp only [py]; exact .bl b
  | _, _, _, .int i, _ => by simp only [py]; exact .int i
  | _, _, _, .str z, _ => by simp only [py]; exact .str z
  | _, _, _, .ref a, h => by simp [okd] at h
  | n, _, _, .tup h r, q => by
    simp only [py]
    cases n with
    | zero => simp [okd] at q
    | succ n => exact .tup h.sq (Reps.dp (n := n) r (by simpa [okd] using q))
  | n, _, _, .ptp h r, q => by
    simp only [py]
    cases n with
    | zero => simp [okd] at q
    | succ n => exact .tup h.sq (Reps.dp (n := n) r (by simpa [okd] using q))
  | n, _, _, .lst h _ _ r, q => by
    simp only [py]
    cases n with
    | zero => simp [okd] at q
    | succ n => exact .lst (SqL.of h) (Reps.dp (n := n) r (by simpa [okd] using q))
  | _, _, _, .scr h, q => by simp [okd] at q
  | _, _, _, .fn h _, q => by simp [okd] at q
  | _, _, _, .exc0, q => by simp [okd] at q
  | _, _, _, .exc1 _ _ _, q => by simp [okd] at q
theorem Reps.dp : ∀ {n : Nat} {vs : List V} {ds : List D}, Reps K Z H S vs ds → okds n ds = true → DpAll K H vs (pys ds)
  | _, _, _, .nil, _ => by simp only [pys]; exact .nil
  | _, _, _, .cons r t, h => by
    simp only [okds, Bool.and_eq_true] at h
    simp only [pys]
    exact .cons (Rep.dp r h.1) (Reps.dp t h.2)
end
/-- a list of the store, as what it holds -/
def deref (S : Store) (d : D) : D := match d with
  | .ref a => match S a with
    | some (.lst ds) => .lst ds
    | _ => d
  | _ => d
theorem Rep.dp_deref {T : Tb} {n : Nat} {v : V} {d : D} (ok : StOk K T Z H S) (r : Rep K Z H S v d) (h : okd n (deref S d) = true) : Dp K H v (py (deref S d)) := by
  cases d with
  | ref a =>
    unfold deref at h ⊢
    simp only at h ⊢
    cases e : S a with
    | none => rw [e] at h; simp [okd] at h
    | some o =>
      rw [e] at h
      cases o with
      | lst ds =>
        simp only at h ⊢
        cases r
        obtain ⟨vs, hv, rr⟩ := ok.obj a _ e
        simp only [py]
        cases n with
        | zero => simp [okd] at h
        | succ n => exact .lst (SqL.of hv) (rr.dp (n := n) (by simpa [okd] using h))
      | _ => simp [okd] at h
  | _ => exact r.dp h
end

/-! ### operations -/
section
variable {X : Cx} {K : PySem.W.Frag} {T : Tb}
theorem Op2.or {r r' : R2} {R R' : DR2} (h : Op2 K T r R) (h' : Op2 K T r' R') : Op2 K T (fun x y H Q => r x y H Q ∨ r' x y H Q) (fun x y S Q => R x y S Q ∨ R' x y S Q) := by
  intro Z H S vx vy x y Qd Q ok rx ry q k
  rcases q with q | q
  · exact .inl (h Z H S vx vy x y Qd Q ok rx ry q k)
  · exact .inr (h' Z H S vx vy x y Qd Q ok rx ry q k)
theorem Op2.imp {r : R2} {R R' : DR2} (h : Op2 K T r R) (w : ∀ x y S Q, R' x y S Q → R x y S Q) : Op2 K T r R' := fun Z H S vx vy x y Qd Q ok rx ry q k => h Z H S vx vy x y Qd Q ok rx ry (w _ _ _ _ q) k
theorem o_int {C : Int → Int → Prop} {g : Int → Int → Int} : Op2 K T (rI C fun i j => .int (g i j)) (fun x y S Q => ∃ i j, x = .int i ∧ y = .int j ∧ C i j ∧ Q (.int (g i j)) S) := by
  intro Z H S vx vy x y Qd Q ok rx ry ⟨i, j, ex, ey, c, q⟩ k
  subst ex; subst ey
  exact ⟨i, j, rx.int', ry.int', c, k _ H _ S (.refl _ _) (.int _) ok q⟩
theorem o_int0 {g : Int → Int → Int} : Op2 K T (rI0 fun i j => .int (g i j)) (fun x y S Q => ∃ i j, x = .int i ∧ y = .int j ∧ Q (.int (g i j)) S) := by
  intro Z H S vx vy x y Qd Q ok rx ry ⟨i, j, ex, ey, q⟩ k
  subst ex; subst ey
  exact ⟨i, j, rx.int', ry.int', k _ H _ S (.refl _ _) (.int _) ok q⟩
theorem o_bl0 {g : Int → Int → Bool} : Op2 K T (rI0 fun i j => .bl (g i j)) (fun x y S Q => ∃ i j, x = .int i ∧ y = .int j ∧ Q (.bl (g i j)) S) := by
  intro Z H S vx vy x y Qd Q ok rx ry ⟨i, j, ex, ey, q⟩ k
  subst ex; subst ey
  exact ⟨i, j, rx.int', ry.int', k _ H _ S (.refl _ _) (.bl _) ok q⟩
/-- two ints -/
def rII (C : Int → Int → Prop) (g : Int → Int → D) : DR2 := fun x y S Q => match x, y with
  | .int i, .int j => C i j ∧ Q (g i j) S
  | _, _ => False
theorem rII_ex {C : Int → Int → Prop} {g : Int → Int → D} {x y : D} {S : Store} {Q : DK} (h : rII C g x y S Q) : ∃ i j, x = .int i ∧ y = .int j ∧ C i j ∧ Q (g i j) S := by
  unfold rII at h
  split at h
  · exact ⟨_, _, rfl, rfl, h⟩
  · exact h.elim
theorem d_sub : Op2 K T (rI0 fun i j => .int (i - j)) (rII (fun _ _ => True) fun i j => .int (i - j)) := o_int0.imp fun x y S Q h => let ⟨i, j, a, b, _, c⟩ := rII_ex h; ⟨i, j, a, b, c⟩
theorem d_mod : Op2 K T (rI (fun _ j => 0 < j) fun i j => .int (i % j)) (rII (fun _ j => 0 < j) fun i j => .int (i % j)) := o_int.imp fun x y S Q h => let ⟨i, j, a, b, d, c⟩ := rII_ex h; ⟨i, j, a, b, d, c⟩
theorem d_fdiv : Op2 K T (rI CDiv fun i j => .int (i / j)) (rII CDiv fun i j => .int (i / j)) := o_int.imp fun x y S Q h => let ⟨i, j, a, b, d, c⟩ := rII_ex h; ⟨i, j, a, b, d, c⟩
theorem d_pow : Op2 K T (rI CPow fun i j => .int (i ^ j.toNat)) (rII CPow fun i j => .int (i ^ j.toNat)) := o_int.imp fun x y S Q h => let ⟨i, j, a, b, d, c⟩ := rII_ex h; ⟨i, j, a, b, d, c⟩
theorem d_lt : Op2 K T (rI0 fun i j => .bl (decide (i < j))) (rII (fun _ _ => True) fun i j => .bl (decide (i < j))) := o_bl0.imp fun x y S Q h => let ⟨i, j, a, b, _, c⟩ := rII_ex h; ⟨i, j, a, b, c⟩
theorem d_le : Op2 K T (rI0 fun i j => .bl (decide (i ≤ j))) (rII (fun _ _ => True) fun i j => .bl (decide (i ≤ j))) := o_bl0.imp fun x y S Q h => let ⟨i, j, a, b, _, c⟩ := rII_ex h; ⟨i, j, a, b, c⟩
theorem d_gt : Op2 K T (rI0 fun i j => .bl (decide (j < i))) (rII (fun _ _ => True) fun i j => .bl (decide (j < i))) := o_bl0.imp fun x y S Q h => let ⟨i, j, a, b, _, c⟩ := rII_ex h; ⟨i, j, a, b, c⟩
theorem d_ge : Op2 K T (rI0 fun i j => .bl (decide (j ≤ i))) (rII (fun _ _ => True) fun i j => .bl (decide (j ≤ i))) := o_bl0.imp fun x y S Q h => let ⟨i, j, a, b, _, c⟩ := rII_ex h; ⟨i, j, a, b, c⟩
/-! + -/
theorem o_catT : Op2 K T (rCatT K) (fun x y S Q => ∃ a b, x = .tup a ∧ y = .tup b ∧ a ≠ [] ∧ a.length + b.length ≤ sizeLine ∧ Q (.tup (a ++ b)) S) := by
  intro Z H S vx vy x y Qd Q ok rx ry ⟨a, b, ex, ey, ne, hz, q⟩ k
  subst ex; subst ey
  cases rx with
  | tup h1 r1 =>
    cases ry with
    | tup h2 r2 =>
      refine ⟨_, _, _, _, rfl, rfl, h1.sq, h2.sq, fun e => ne ?_, by rw [r1.length, r2.length]; exact hz, fun e => ?_, fun e p hp => ?_⟩
      · subst e; cases r1; rfl
      · subst e
        cases r2
        rw [List.append_nil] at q
        exact k _ H _ S (.refl _ _) (.tup h1 r1) ok q
      · exact k _ _ _ S (.new hp) (.newTup (r1.append r2) hp (ok.fresh hp)) (ok.new hp) q
theorem o_cat : Op2 K T rCat (fun x y S Q => ∃ a b, x = .lst a ∧ y = .lst b ∧ a.length + b.length ≤ sizeLine ∧ Q (.lst (a ++ b)) S) := by
  intro Z H S vx vy x y Qd Q ok rx ry ⟨a, b, ex, ey, hz, q⟩ k
  subst ex; subst ey
  cases rx with
  | lst h1 n1 z1 r1 =>
    cases ry with
    | lst h2 n2 z2 r2 => exact ⟨_, _, _, _, rfl, rfl, h1, h2, by rw [r1.length, r2.length]; exact hz, fun p hp => k _ _ _ S (.new hp) (.newLst (r1.append r2) hp (ok.fresh hp) (ok.nz hp)) (ok.new hp) q⟩
def rAddD : DR2 := fun x y S Q => match x, y with
  | .int i, .int j => Q (.int (i + j)) S
  | .tup a, .tup b => a ≠ [] ∧ a.length + b.length ≤ sizeLine ∧ Q (.tup (a ++ b)) S
  | .lst a, .lst b => a.length + b.length ≤ sizeLine ∧ Q (.lst (a ++ b)) S
  | _, _ => False
abbrev rAddV (K : PySem.W.Frag) : R2 := fun x y H Q => (rI0 (fun i j => .int (i + j)) x y H Q ∨ rCatT K x y H Q) ∨ rCat x y H Q
theorem op_addV : OpR X (binaryOp .Add) (rAddV X.K) := (op_add.or op_catT).or op_cat
theorem d_add : Op2 K T (rAddV K) rAddD := ((o_int0.or o_catT).or o_cat).imp fun x y S Q h => by
  unfold rAddD at h
  split at h
  · exact .inl (.inl ⟨_, _, rfl, rfl, h⟩)
  · exact .inl (.inr ⟨_, _, rfl, rfl, h⟩)
  · exact .inr ⟨_, _, rfl, rfl, h⟩
  · exact h.elim
/-! * -/
theorem reps_rep {Z : List Addr} {H : Hp} {S : Store} {vs : List V} {ds : List D} (r : Reps K Z H S vs ds) : ∀ k : Nat, Reps K Z H S (List.replicate k vs).flatten (List.replicate k ds).flatten
  | 0 => .nil
  | k + 1 => by
    rw [List.replicate_succ, List.flatten_cons, List.replicate_succ, List.flatten_cons]
    exact r.append (reps_rep r k)
theorem o_rep : Op2 K T rRep (fun x y S Q => ∃ a k, x = .lst a ∧ y = .int k ∧ -(2 ^ 63) ≤ k ∧ k < 2 ^ 63 ∧ a.length * k.toNat ≤ sizeLine ∧ Q (.lst (List.replicate k.toNat a).flatten) S) := by
  intro Z H S vx vy x y Qd Q ok rx ry ⟨a, b, ex, ey, h1, h2, hz, q⟩ k
  subst ex; subst ey
  cases rx with
  | lst e1 n1 z1 r1 => exact ⟨_, _, _, rfl, ry.int', e1, h1, h2, by rw [r1.length]; exact hz, fun p hp => k _ _ _ S (.new hp) (.newLst (reps_rep r1 _) hp (ok.fresh hp) (ok.nz hp)) (ok.new hp) q⟩
def rMulD : DR2 := fun x y S Q => match x, y with
  | .int i, .int j => CMul i j ∧ Q (.int (i * j)) S
  | .lst a, .int k => -(2 ^ 63) ≤ k ∧ k < 2 ^ 63 ∧ a.length * k.toNat ≤ sizeLine ∧ Q (.lst (List.replicate k.toNat a).flatten) S
  | _, _ => False
abbrev rMulV : R2 := fun x y H Q => rI CMul (fun i j => .int (i * j)) x y H Q ∨ rRep x y H Q
theorem op_mulV : OpR X (binaryOp .Mult) rMulV := op_mul.or op_rep
theorem d_mul : Op2 K T rMulV rMulD := (o_int.or o_rep).imp fun x y S Q h => by
  unfold rMulD at h
  split at h
  · exact .inl ⟨_, _, rfl, rfl, h⟩
  · exact .inr ⟨_, _, rfl, rfl, h⟩
  · exact h.elim
/-! ==, != -/
def rEqG (neg : Bool) : DR2 := fun x y S Q => okd 60 (deref S x) = true ∧ okd 60 (deref S y) = true ∧ Q (.bl (if neg then !deq (deref S x) (deref S y) else deq (deref S x) (deref S y))) S
theorem d_eq : Op2 K T (rEqD K) (rEqG false) := by
  intro Z H S vx vy x y Qd Q ok rx ry ⟨hx, hy, q⟩ k
  refine ⟨_, _, rx.dp_deref ok hx, ry.dp_deref ok hy, shaped_of hx, shaped_of hy, ?_⟩
  rw [eqv_py _ _ hx hy]
  exact k _ H _ S (.refl _ _) (.bl _) ok q
theorem d_ne : Op2 K T (rNeD K) (rEqG true) := by
  intro Z H S vx vy x y Qd Q ok rx ry ⟨hx, hy, q⟩ k
  refine ⟨_, _, rx.dp_deref ok hx, ry.dp_deref ok hy, shaped_of hx, shaped_of hy, ?_⟩
  rw [eqv_py _ _ hx hy]
  exact k _ H _ S (.refl _ _) (.bl _) ok q
/-! is None -/
def rIsN (neg : Bool) : DR2 := fun x y S Q => match y with
  | .non => Q (.bl (match x with | .non => !neg | _ => neg)) S
  | _ => False
theorem Rep.isNon {Z : List Addr} {H : Hp} {S : Store} {v : V} {d : D} (r : Rep K Z H S v d) : decide (v = .non) = (match d with | .non => true | _ => false) := by cases r <;> simp
theorem d_isN : Op2 K T (fun x y H Q => y = .non ∧ Q (.bl (decide (x = .non))) H) (rIsN false) := by
  intro Z H S vx vy x y Qd Q ok rx ry q k
  unfold rIsN at q
  split at q
  · refine ⟨ry.non', k _ H _ S (.refl _ _) (.bl _) ok ?_⟩
    rw [rx.isNon]
    cases x <;> exact q
  · exact q.elim
theorem d_notN : Op2 K T (fun x y H Q => y = .non ∧ Q (.bl (!decide (x = .non))) H) (rIsN true) := by
  intro Z H S vx vy x y Qd Q ok rx ry q k
  unfold rIsN at q
  split at q
  · refine ⟨ry.non', k _ H _ S (.refl _ _) (.bl _) ok ?_⟩
    rw [rx.isNon]
    cases x <;> exact q
  · exact q.elim
/-! in, not in: flat things -/
def flat : D → Bool
  | .non => true
  | .bl _ => true
  | .int _ => true
  | .str _ => true
  | _ => false
def items (S : Store) (d : D) : Option (List D) := match deref S d with
  | .tup ds => some ds
  | .ptp ds => some ds
  | .lst ds => some ds
  | _ => none
theorem items_at {Z : List Addr} {H : Hp} {S : Store} {v : V} {d : D} {ds : List D} (ok : StOk K T Z H S) (r : Rep K Z H S v d) (e : items S d = some ds) : ∃ p vs, v = .ref p ∧ (SqL K H p vs ∨ SqT K H p vs) ∧ Reps K Z H S vs ds := by
  unfold items at e
  cases d with
  | ref a =>
    unfold deref at e
    simp only at e
    cases q : S a with
    | none => rw [q] at e; cases e
    | some o =>
      rw [q] at e
      cases o with
      | lst es =>
        simp only [Option.some.injEq] at e
        subst e
        obtain ⟨vs, hv, rr⟩ := ok.obj a _ q
        cases r
        exact ⟨a, vs, rfl, .inl (SqL.of hv), rr⟩
      | _ => cases e
  | tup es =>
    cases e
    obtain ⟨a, vs, rfl, h, rr⟩ := r.tupW
    exact ⟨a, vs, rfl, .inr h, rr⟩
  | ptp es =>
    cases e
    obtain ⟨a, vs, rfl, h, rr⟩ := r.ptpW
    exact ⟨a, vs, rfl, .inr h, rr⟩
  | lst es =>
    cases e
    cases r with
    | lst h n z rr => exact ⟨_, _, rfl, .inl (SqL.of h), rr⟩
  | _ => cases e
theorem Rep.flat {Z : List Addr} {H : Hp} {S : Store} {v : V} {d : D} (r : Rep K Z H S v d) (h : Dl.flat d = true) : flatV v = true := by cases r <;> first | rfl | (simp [Dl.flat] at h)
theorem Rep.eqV {Z : List Addr} {H : Hp} {S : Store} {v u : V} {d e : D} (r : Rep K Z H S v d) (q : Rep K Z H S u e) (h : Dl.flat d = true) (h' : Dl.flat e = true) : L2.eqV v u = deq d e := by
  cases r <;> cases q <;> first | rfl | (simp [L2.eqV, deq]; done) | (simp [Dl.flat] at h; done) | (simp [Dl.flat] at h'; done)
theorem Reps.flats {Z : List Addr} {H : Hp} {S : Store} : ∀ {vs : List V} {ds : List D}, Reps K Z H S vs ds → ds.all flat = true → vs.all flatV = true
  | _, _, .nil, _ => rfl
  | _, _, .cons r t, h => by
    rw [List.all_cons, Bool.and_eq_true] at h ⊢
    exact ⟨r.flat h.1, Reps.flats t h.2⟩
theorem Reps.inV {Z : List Addr} {H : Hp} {S : Store} {x : V} {dx : D} (rx : Rep K Z H S x dx) (hx : flat dx = true) : ∀ {vs : List V} {ds : List D}, Reps K Z H S vs ds → ds.all flat = true → L2.inV x vs = ds.any fun y => deq y dx
  | _, _, .nil, _ => rfl
  | _, _, .cons r t, h => by
    rw [List.all_cons, Bool.and_eq_true] at h
    have ih := Reps.inV rx hx t h.2
    unfold L2.inV at ih ⊢
    rw [List.any_cons, List.any_cons, ih, r.eqV rx h.1 hx]
def rInD (neg : Bool) : DR2 := fun x y S Q => match items S y with
  | some ds => flat x = true ∧ ds.all flat = true ∧ Q (.bl (if neg then !(ds.any fun y => deq y x) else ds.any fun y => deq y x)) S
  | none => False
theorem d_in (neg : Bool) : Op2 K T (rIn K neg) (rInD neg) := by
  intro Z H S vx vy x y Qd Q ok rx ry q k
  unfold rInD at q
  split at q
  · rename_i ds e
    obtain ⟨p, vs, rfl, hs, rr⟩ := items_at ok ry e
    obtain ⟨hx, hd, q⟩ := q
    refine ⟨p, vs, rfl, hs, rx.flat hx, rr.flats hd, ?_⟩
    rw [rr.inV rx hx hd]
    exact k _ H _ S (.refl _ _) (.bl _) ok q
  · exact q.elim
end

/-! ### subscripts -/
section
variable {X : Cx} {K : PySem.W.Frag} {T : Tb} {a b e : Expr} {pos p2 : Pos}
theorem Reps.atI {Z : List Addr} {H : Hp} {S : Store} {vs : List V} {ds : List D} {i : Int} {d : D} (r : Reps K Z H S vs ds) (h : L2.atI ds i = some d) : ∃ v, L2.atI vs i = some v ∧ Rep K Z H S v d := by
  unfold L2.atI at h ⊢
  rw [r.length]
  cases e : ixN ds.length i with
  | none => rw [e] at h; cases h
  | some j =>
    rw [e] at h
    exact r.get h
/-- keys of dicts -/
def valD {κ : Type} [DecidableEq κ] (kvs : List (κ × D)) (k : κ) : Option D := (kvs.find? fun kv => decide (kv.1 = k)).map (·.2)
def putD {κ : Type} [DecidableEq κ] (kvs : List (κ × D)) (k : κ) (v : D) : List (κ × D) :=
  if (kvs.any fun kv => decide (kv.1 = k)) = true then kvs.map fun kv => if kv.1 = k then (kv.1, v) else kv else kvs ++ [(k, v)]
def dropD {κ : Type} [DecidableEq κ] (kvs : List (κ × D)) (k : κ) : List (κ × D) := kvs.filter fun kv => decide (kv.1 ≠ k)
def keyOf : D → Option L2.Key
  | .int i => some (.inl i)
  | .str x => some (.inr x)
  | _ => none
def keysOf : List D → Option (List L2.Key)
  | [] => some []
  | d :: ds => match keyOf d, keysOf ds with
    | some k, some ks => some (k :: ks)
    | _, _ => none
theorem Rep.key {Z : List Addr} {H : Hp} {S : Store} {v : V} {d : D} {k : L2.Key} (r : Rep K Z H S v d) (e : keyOf d = some k) : v = kV k := by
  cases r <;> first | (cases e; rfl) | cases e
theorem Reps.keys {Z : List Addr} {H : Hp} {S : Store} : ∀ {vs : List V} {ds : List D} {ks : List L2.Key}, Reps K Z H S vs ds → keysOf ds = some ks → vs = ks.map kV
  | _, _, _, .nil, e => by cases e; rfl
  | _, _, _, .cons (d := d) (ds := ds) r t, e => by
    unfold keysOf at e
    split at e
    · rename_i k ks e1 e2
      cases e
      rw [List.map_cons, ← r.key e1, ← Reps.keys t e2]
    · cases e
theorem RKV.val {κ : Type} [DecidableEq κ] {Z : List Addr} {H : Hp} {S : Store} {k : κ} : ∀ {kvs : List (κ × V)} {kds : List (κ × D)}, RKV K Z H S kvs kds → (valV kvs k = none ∧ valD kds k = none) ∨ ∃ v d, valV kvs k = some v ∧ valD kds k = some d ∧ Rep K Z H S v d
  | _, _, .nil => .inl ⟨rfl, rfl⟩
  | _, _, .cons (a := p) (b := q) r t => by
    have ih := RKV.val (k := k) t
    obtain ⟨e, r⟩ := r
    by_cases h : p.1 = k
    · refine .inr ⟨p.2, q.2, valV_pos h, ?_, r⟩
      simp [valD, List.find?_cons, ← e, h]
    · have h1 : ∀ rr, valV (p :: rr) k = valV rr k := fun rr => valV_neg h
      have h2 : ¬ q.1 = k := by rw [← e]; exact h
      have e2 : ∀ rr, valD (q :: rr) k = valD rr k := fun rr => by simp [valD, List.find?_cons, h2]
      rw [h1, e2]
      exact ih
end
end Dl

set_option Elab.async false
set_option linter.all false
set_option maxRecDepth 100000
namespace Dl
open PySem PySem.Spec PyProof.Rows L2 LamX
section
variable {X : Cx} {K : PySem.W.Frag} {T : Tb} {a b e : Expr} {es : List Expr} {pos p2 : Pos}

/-! ### subscripts -/
theorem ix_dictV (hu : X.A.units + 1 < cLine) : IxR X (fun x y H Q => ∃ a v, x = .ref a ∧ DGet H a y (some v) ∧ Q v H) := by
  intro value slice pins s σ H x y v u Q I rx ry h hs
  obtain ⟨a, w', ex, g, q⟩ := h
  subst ex
  obtain rfl : v = Value.ref a := rx
  refine tail_any (dict_typeIs I g) PySem.F.slot_dict_getitem.lookup ?_ hs
  exact d_getItem hu I g ry fun z s' I' rz => ⟨w', H, I', rz, q⟩
abbrev rIxV (K : PySem.W.Frag) : R2 := fun x y H Q => rIx K x y H Q ∨ ∃ a v, x = .ref a ∧ DGet H a y (some v) ∧ Q v H
def rItem (ds : List D) : D → Store → DK → Prop := fun y S Q => match y with
  | .int i => match atI ds i with
    | some d => Q d S
    | none => False
  | _ => False
/-- the item at y of x -/
def rIxD : DR2 := fun x y S Q => match deref S x with
  | .tup ds => rItem ds y S Q
  | .ptp ds => rItem ds y S Q
  | .lst ds => rItem ds y S Q
  | .str z => match y with
    | .int i => z.length ≤ sizeLine ∧ match atI z.cps.toList i with
      | some c => Q (.str ⟨#[c]⟩) S
      | none => False
    | _ => False
  | .ref a => match S a with
    | some (.dK kvs) => match keyOf y with
      | some k => match valD kvs k with
        | some d => Q d S
        | none => False
      | none => False
    | _ => False
  | _ => False
theorem deref_cases (S : Store) (d : D) : deref S d = d ∨ ∃ a ds, d = .ref a ∧ S a = some (.lst ds) ∧ deref S d = .lst ds := by
  unfold deref
  split
  · split
    · exact .inr ⟨_, _, rfl, by assumption, rfl⟩
    · exact .inl rfl
  · exact .inl rfl
theorem d_ix : Op2 K T (rIx K) (fun x y S Q => ∃ ds i d, items S x = some ds ∧ y = .int i ∧ atI ds i = some d ∧ Q d S) := by
  intro Z H S vx vy x y Qd Q ok rx ry ⟨ds, i, d, e, ey, ei, q⟩ k
  subst ey
  obtain ⟨p, vs, ev, hs, rr⟩ := items_at ok rx e
  obtain ⟨v, h1, r1⟩ := rr.atI ei
  rcases hs with hs | hs
  · exact .inl ⟨p, vs, i, v, ev, ry.int', hs, h1, k v H d S (.refl _ _) r1 ok q⟩
  · exact .inr (.inl ⟨p, vs, i, v, ev, ry.int', hs, h1, k v H d S (.refl _ _) r1 ok q⟩)
theorem d_ixS : Op2 K T (rIx K) (fun x y S Q => ∃ z i c, x = .str z ∧ y = .int i ∧ z.length ≤ sizeLine ∧ atI z.cps.toList i = some c ∧ Q (.str ⟨#[c]⟩) S) := by
  intro Z H S vx vy x y Qd Q ok rx ry ⟨z, i, c, ex, ey, hz, e, q⟩ k
  subst ex; subst ey
  exact .inr (.inr ⟨z, i, c, rx.str', ry.int', hz, e, k _ H _ S (.refl _ _) (.str _) ok q⟩)
theorem d_ixK : Op2 K T (fun x y H Q => ∃ a v, x = .ref a ∧ DGet H a y (some v) ∧ Q v H) (fun x y S Q => ∃ a kvs key d, x = .ref a ∧ S a = some (.dK kvs) ∧ keyOf y = some key ∧ valD kvs key = some d ∧ Q d S) := by
  intro Z H S vx vy x y Qd Q ok rx ry ⟨a, kvs, key, d, ex, e, ek, ev, q⟩ k
  subst ex
  obtain ⟨ws, hv, rr⟩ := ok.obj a _ e
  rcases rr.val (k := key) with ⟨_, z⟩ | ⟨v, d', h1, h2, r1⟩
  · rw [z] at ev; cases ev
  · rw [h2] at ev
    have ev : d' = d := Option.some.inj ev
    subst ev
    cases rx
    exact ⟨a, v, rfl, by rw [ry.key ek, ← h1]; exact DGet.k hv, k v H _ S (.refl _ _) r1 ok q⟩
theorem d_ixV : Op2 K T (rIxV K) rIxD := by
  intro Z H S vx vy x y Qd Q ok rx ry h k
  have seq : ∀ ds, items S x = some ds → rItem ds y S Qd → rIxV K vx vy H Q := by
    intro ds e q
    unfold rItem at q
    split at q
    · split at q
      · rename_i d ed
        exact .inl (d_ix Z H S vx vy x _ Qd Q ok rx ry ⟨ds, _, d, e, rfl, ed, q⟩ k)
      · exact q.elim
    · exact q.elim
  unfold rIxD at h
  split at h
  · rename_i ds e
    exact seq ds (by unfold items; rw [e]) h
  · rename_i ds e
    exact seq ds (by unfold items; rw [e]) h
  · rename_i ds e
    exact seq ds (by unfold items; rw [e]) h
  · rename_i z e
    rcases deref_cases S x with q | ⟨a, ds, _, _, q⟩
    · rw [q] at e
      subst e
      split at h
      · obtain ⟨hz, h⟩ := h
        split at h
        · rename_i c ec
          exact .inl (d_ixS Z H S vx vy _ _ Qd Q ok rx ry ⟨z, _, c, rfl, rfl, hz, ec, h⟩ k)
        · exact h.elim
      · exact h.elim
    · rw [q] at e; cases e
  · rename_i a e
    rcases deref_cases S x with q | ⟨b, ds, _, _, q⟩
    · rw [q] at e
      subst e
      split at h
      · rename_i kvs es
        split at h
        · rename_i key ek
          split at h
          · rename_i d ed
            exact .inr (d_ixK Z H S vx vy _ _ Qd Q ok rx ry ⟨a, kvs, key, d, rfl, es, ek, ed, h⟩ k)
          · exact h.elim
        · exact h.elim
      · exact h.elim
    · rw [q] at e; cases e
  · exact h.elim
theorem x_ix {A B : DE} (hu : X.A.units + 1 < cLine) (ha : XE X T a A) (hb : XE X T b B) (hs : PlainIx b) : XE X T (.Subscript a b pos) (d2 rIxD A B) :=
  (pe_ix (ix_seq.or (ix_dictV hu)) ha hb hs).imp fun σ H Q h => lf_two d_ixV σ H Q h
/-! ### slices -/
def cutD (ds : List D) (lo hi : Option Int) : List D := (ds.drop (HT.sIx ds.length 0 lo)).take (HT.sIx ds.length ds.length hi - HT.sIx ds.length 0 lo)
theorem Reps.cut {Z : List Addr} {H : Hp} {S : Store} {vs : List V} {ds : List D} (r : Reps K Z H S vs ds) (lo hi : Option Int) : Reps K Z H S (cutV vs lo hi) (cutD ds lo hi) := by
  unfold cutV cutD
  rw [r.length]
  exact (r.drop _).take _
theorem lst_at {Z : List Addr} {H : Hp} {S : Store} {v : V} {d : D} {ds : List D} (ok : StOk K T Z H S) (r : Rep K Z H S v d) (e : deref S d = .lst ds) : ∃ p vs, v = .ref p ∧ SqL K H p vs ∧ Reps K Z H S vs ds := by
  rcases deref_cases S d with e2 | ⟨a, ds', ex, ea, e2⟩
  · rw [e2] at e
    subst e
    cases r with
    | lst h n z rr => exact ⟨_, _, rfl, SqL.of h, rr⟩
  · subst ex
    rw [e2] at e
    cases e
    cases r
    obtain ⟨ws, hw, rr⟩ := ok.obj _ _ ea
    exact ⟨a, ws, rfl, SqL.of hw, rr⟩
abbrev DO := DSt → Store → (Option Int → Store → Prop) → Prop
def lfO (K : PySem.W.Frag) (T : Tb) (Ψ : DO) : L2.TO := fun σ H Q => ∃ Z τ S R, Slots K Z H S σ τ ∧ StOk K T Z H S ∧ Ψ τ S R ∧ ∀ o H' S', Ext H S H' S' → StOk K T Z H' S' → R o S' → Q o H'
abbrev XO (X : Cx) (T : Tb) (e : Option Expr) (Ψ : DO) : Prop := PO X e (lfO X.K T Ψ)
def dNoPart : DO := fun _ S Q => Q none S
def dPart (A : DE) : DO := fun τ S Q => A τ S fun d S1 => match d with
  | .int i => Q (some i) S1
  | _ => False
theorem _root_.L2.PO.imp {o : Option Expr} {t t' : L2.TO} (h : PO X o t) (w : ∀ σ H Q, t' σ H Q → t σ H Q) : PO X o t' := ⟨fun pins s σ H Q I q => h.run pins s σ H Q I (w σ H Q q)⟩
theorem o_none : XO X T none dNoPart := po_none.imp fun σ H Q ⟨Z, τ, S, R, sl, ok, h, k⟩ => k none H S (.refl _ _) ok h
theorem o_some {A : DE} (h : XE X T e A) : XO X T (some e) (dPart A) := (po_some h).imp fun σ H Q ⟨Z, τ, S, R, sl, ok, h, k⟩ => ⟨Z, τ, S, _, sl, ok, h, fun v H1 d S1 x1 r1 ok1 h1 => by
  cases d with
  | int i => exact ⟨i, r1.int', k (some i) H1 S1 x1 ok1 h1⟩
  | _ => exact h1.elim⟩
/-- x[lo:hi], of a tuple (not the whole of it), a list -/
def rSlD : D → Option Int → Option Int → Store → DK → Prop := fun x lo hi S Q => match deref S x with
  | .tup ds => ¬ (HT.sIx ds.length 0 lo = 0 ∧ HT.sIx ds.length ds.length hi = ds.length) ∧ Q (.tup (cutD ds lo hi)) S
  | .lst ds => Q (.lst (cutD ds lo hi)) S
  | _ => False
def dSl (A : DE) (L U : DO) : DE := fun τ S Q => A τ S fun x S1 => L τ S1 fun lo S2 => U τ S2 fun hi S3 => rSlD x lo hi S3 Q
theorem x_slice {A : DE} {L U : DO} {lo hi : Option Expr} (ha : XE X T e A) (hl : XO X T lo L) (hu : XO X T hi U) : XE X T (.Subscript e (.Slice lo hi none p2) pos) (dSl A L U) := by
  refine (pe_slice (sl_tup.or sl_list) ha hl hu).imp fun σ H Q ⟨Z, τ, S, R, sl, ok, h, k⟩ => ?_
  refine ⟨Z, τ, S, _, sl, ok, h, fun vx H1 x S1 x1 rx ok1 h1 => ?_⟩
  refine ⟨Z, τ, S1, _, sl.ext x1, ok1, h1, fun lo H2 S2 x2 ok2 h2 => ?_⟩
  refine ⟨Z, τ, S2, _, sl.ext (x1.trans x2), ok2, h2, fun hi H3 S3 x3 ok3 h3 => ?_⟩
  have rx3 := rx.ext (x2.trans x3)
  have xx := x1.trans (x2.trans x3)
  unfold rSlD at h3
  split at h3
  · rename_i ds e
    obtain ⟨hn, q⟩ := h3
    rcases deref_cases S3 x with e2 | ⟨a, ds', _, _, e2⟩
    · rw [e2] at e
      subst e
      obtain ⟨a, vs, ev, ht, rr⟩ := rx3.tupW
      exact .inl ⟨a, vs, ev, ht, by rw [rr.length]; exact hn, fun p hp => k _ _ _ S3 (xx.trans (.new hp)) (.newTup (rr.cut lo hi) hp (ok3.fresh hp)) (ok3.new hp) q⟩
    · rw [e2] at e; cases e
  · rename_i ds e
    obtain ⟨p, vs, ev, hl, rr⟩ := lst_at ok3 rx3 e
    exact .inr ⟨p, vs, ev, hl, fun q hq => k _ _ _ S3 (xx.trans (.new hq)) (.newLst (rr.cut lo hi) hq (ok3.fresh hq) (ok3.nz hq)) (ok3.new hq) h3⟩
  · exact h3.elim
end
end Dl

set_option Elab.async false
set_option linter.all false
set_option maxRecDepth 100000
set_option maxHeartbeats 2000000
namespace Dl
open PySem PySem.Spec PyProof.Rows L2 LamX
/-! ### sorted(xs, key=lambda row: row[0]) -/
/-- the lambda's words: one name, its item at 0 -/
structure LamK (params : Arguments) (body : Expr) (scope : Scope) (x : Str) : Prop where
  kind : scope.kind = .function
  co : scope.isCoroutine = false
  gen : scope.isGenerator = false
  names : scope.names = [(x, .local)]
  bod : ∃ p1 j p2 p3, body = .Subscript (.Name x p1) (.Constant (.int 0) j p2) p3
  bind : ∀ (name qual : Str) (pm cdv ct : Value) (v : Value), bindArgs (PySem.W.kla_fn name qual params body scope [] pm cdv ct) ⟨[v], []⟩ = pure [(x, v)]
  dbg : (x == ("__debug__" : Str)) = false
section
variable {prog : Program} {w : World} {A : Around} {s : Shared}
theorem key_call {params : Arguments} {body : Expr} {scope : Scope} {x : Str} (L : LamK params body scope x) {name qual : Str} {pm ctv : Value} {c' f t : Addr} {items : Array Value} {n : Int} {tok : Tok} {E : Value → Shared → Prop} {Q : Value → Shared → Prop}
    (hroom : A.depth < recursionLimit) (ho : s.heap.get? f = some (PySem.W.kla_obj name qual params body scope [] pm c' ctv)) (hcd : s.heap.CodeRec (.ref c') qual) (lim : s.heap.NoLimit) (ht : IsTup s.heap t items) (h0 : items[0]? = some (.int n tok))
    (hq : ∀ h' tk, (∀ b o, s.heap.get? b = some o → h'.get? b = some o) → Q (.int n tok) { s with heap := h', toks := tk }) : wpAny (model prog w) A (call (.ref f) [.ref t]) Q E s := by
  obtain ⟨p1, j, p2, p3, eb⟩ := L.bod
  refine wpAny_call (PySem.W.kla_callFunE (body := body) hroom ho rfl L.co L.gen rfl hcd ?_)
  rw [L.bind]
  refine wpAny_pure (wpAny_newFunctionEnv (fun y hy => ?_) (fun y hy => ?_) (fun h₁ hns hsb => ⟨lim.fresh _ hsb, ?_⟩) L.kind)
  · have hy : y ∈ scope.names := hy
    rw [L.names] at hy
    rw [List.mem_singleton.mp hy]
    intro z; cases z
  · rw [List.mem_singleton.mp hy]
    show scope.names.lookup x = some .local
    rw [L.names]
    simp [List.lookup]
  · have kp : ∀ b o, s.heap.get? b = some o → h₁.get? b = some o := fun b o e => hsb.extBut b o (Nat.ne_of_lt (Heap.lt_size e)) (Heap.get?_push_of_some _ e)
    refine PySem.W.kla_codeExpr ?_
    rw [eb]
    have hl : scope.names.lookup x = some .local := by rw [L.names]; simp [List.lookup]
    refine Subscript_ (wpAny_Name (wpAny_loadName_local (v := .ref t) L.kind hl hns (by simp [List.lookup]) ?_) L.dbg)
    refine wpAny_Constant_int ?_
    have ht1 : IsTup h₁ t items := ht.keeps kp
    have hpos : 0 < items.size := by
      rcases Nat.lt_or_ge 0 items.size with z | z
      · exact z
      · rw [Array.getElem?_eq_none (by omega)] at h0; cases h0
    refine subscriptTail_builtinR (x := .int n tok) ht1.typeIs slot_tuple_getitem.lookup (getItem_tuple (j := 0) (x := .int n tok) ht1 (by decide) (by decide) ?_ h0 ⟨rfl, ?_⟩) (by with_unfolding_all rfl)
    · have q : 0 < (items.size : Int) := by omega
      have q2 : (decide ((0 : Int) ≤ 0) && decide ((0 : Int) < (items.size : Int))) = true := by rw [decide_eq_true q]; rfl
      exact if_pos q2
    · exact hq h₁ _ kp
end
/-- a permutation of one list carried over to another that is like it -/
theorem perm_along {α β : Type} {R : α → β → Prop} : ∀ {l l' : List α}, l'.Perm l → ∀ {m : List β}, Paired R l m → ∃ m', m'.Perm m ∧ Paired R l' m' := by
  intro l l' p
  induction p with
  | nil => intro m h; cases h; exact ⟨[], .nil, .nil⟩
  | cons x _ ih =>
    intro m h
    cases h with
    | cons r t =>
      obtain ⟨m', p', q⟩ := ih t
      exact ⟨_ :: m', p'.cons _, .cons r q⟩
  | swap x y l =>
    intro m h
    cases h with
    | cons r t =>
      cases t with
      | cons r' t' => exact ⟨_, .swap _ _ _, .cons r' (.cons r t')⟩
  | trans _ _ ih1 ih2 =>
    intro m h
    obtain ⟨m1, p1, q1⟩ := ih2 h
    obtain ⟨m2, p2, q2⟩ := ih1 q1
    exact ⟨m2, p2.trans p1, q2⟩
theorem vals_rep {K : PySem.W.Frag} {Z : List Addr} {H : Hp} {S : Store} : ∀ {xs : List V} {us : List Value} {kds : List (Int × D)}, Vals xs us → Reps K Z H S xs (kds.map (·.2)) →
    Paired (fun (p : Int × Value) (q : Int × D) => p.1 = q.1 ∧ ∃ v, RelV v p.2 ∧ Rep K Z H S v q.2) ((kds.map (·.1)).zip us) kds
  | _, _, [], .nil, .nil => .nil
  | _, _, p :: r, .cons a t, .cons b u => .cons ⟨rfl, _, a, b⟩ (vals_rep t u)
theorem rep_vals {K : PySem.W.Frag} {Z : List Addr} {H : Hp} {S : Store} : ∀ {ps : List (Int × Value)} {kds : List (Int × D)}, Paired (fun (p : Int × Value) (q : Int × D) => p.1 = q.1 ∧ ∃ v, RelV v p.2 ∧ Rep K Z H S v q.2) ps kds →
    ∃ xs, Vals xs (ps.map (·.2)) ∧ Reps K Z H S xs (kds.map (·.2)) ∧ ps.map (·.1) = kds.map (·.1)
  | _, _, .nil => ⟨[], .nil, .nil, rfl⟩
  | _, _, .cons ⟨e, v, a, b⟩ t => by
    obtain ⟨xs, h1, h2, h3⟩ := rep_vals t
    exact ⟨v :: xs, .cons a h1, .cons b h2, by simp [e, h3]⟩
/-- what an item must be: a tuple with the key ahead -/
def Keyed0 (p : Int × D) : Prop := ∃ ds, p.2 = .tup (.int p.1 :: ds)
def dSortKey (A : DE) : DE := fun τ S Q => A τ S fun d S1 => ∃ kds : List (Int × D), deref S1 d = .lst (kds.map (·.2)) ∧ (∀ p ∈ kds, Keyed0 p) ∧
  ∀ out : List (Int × D), out.Perm kds → out.Pairwise (fun p q => p.1 ≤ q.1) → Q (.lst (out.map (·.2))) S1
section
variable {X : Cx} {T : Tb} {e : Expr}
/-- the frame's map is kept, all else too; a new thing at L2 is tracked -/
theorem inv_fr {pins : List (Addr × Obj)} {σ : L2.St} {H : Hp} {s : Shared} {h' : Heap} {tk : Nat} {m : Str → Option Value} {B : Addr} {o : HO} (I : Inv X pins σ H s) (F : s.heap.Ns X.env.locals m) (F' : h'.Ns X.env.locals m)
    (keep : ∀ b o, b ≠ X.env.locals → s.heap.get? b = some o → h'.get? b = some o) (hB : s.heap.get? B = none) (new : ObjOk X.prog X.w (upd H B o) h' B o) : Inv X pins σ (upd H B o) { s with heap := h', toks := tk } := by
  have hn : H B = none := I.hok.gone hB
  have nb : ∀ b u, s.heap.get? b = some u → b ≠ B := fun b u e z => by rw [z, hB] at e; cases e
  have nl : ∀ b u, H b = some u → b ≠ X.env.locals := fun b u e z => by rw [z, I.free] at e; cases e
  refine I.step (g' := s.gens) (d' := s.drawn) (ch := []) (fun _ z => nomatch z) (fun b u h1 _ _ e _ => keep b u h1 e) (fun b u h1 _ _ e _ => ⟨u.slots, keep b u h1 e⟩) (fun b u _ e n => by rw [upd_ne (nb b u e)]; exact n) (fun b u _ e => ?_)
    (fun b xs e => by rw [upd_ne (ne_of_none e hn)]; exact e) (fun b u xs e => by rw [upd_ne (ne_of_none e hn)]; exact e) (fun b ps e => ⟨#[], by rw [upd_ne (ne_of_none e hn), e]; simp⟩) (fun m' hm => ?_) (fun a u e => ?_) I.bare
  · by_cases z : b = X.env.locals
    · obtain ⟨oL, _, _, hL, _⟩ := F'
      exact ⟨oL, by rw [z]; exact hL⟩
    · exact ⟨u, keep b u z e⟩
  · rw [SlX.ns_only hm F]
    exact F'
  · by_cases hb : a = B
    · subst hb; rw [upd_same] at e; cases e; exact new
    · rw [upd_ne hb] at e
      refine (I.hok a u e).stay (fun c v hc q => keep c v ?_ q) (fun c q => by rw [upd_ne (ne_of_none q hn)]; exact q) fun c xs q => by rw [upd_ne (ne_of_none q hn)]; exact q
      rcases hc with z | z
      · rw [z]; exact nl a u e
      · exact nl c _ z
theorem x_sortKey {A : DE} {params : Arguments} {body : Expr} {scope : Scope} {y : Str} {c P : Addr} {p pos lpos kpos : Pos} (ha : XA X T [e] (dCons A dNil)) (L : LamK params body scope y) (hg : Gl X "sorted") (hm : X.mg "sorted" = none)
    (TB : TabB X.base X.mg c P) (hcode : X.env.code = .ref c) (hT : (P, X.env.qual ++ "<lambda>") ∈ T) (hu : ∀ p ∈ T, p.1 = P → p.2 = X.env.qual ++ "<lambda>") (hdef : defaultsOf params X.env = ([], [])) (hd : X.A.depth + 1 < recursionLimit)
    (he : backTo pos (starEach [e] X.env) = (false, eval e X.env) :: backTo pos (starEach [] X.env) := by rfl) (hpl : (backTo pos (starEach [e] X.env)).any (·.1) = false := by rfl)
    (hall : (backToKw pos (keywordEach [⟨some "key", .Lambda params body scope lpos, kpos⟩] X.env)).all (·.1.isSome) = true := by rfl) (hnone : (backToKw pos (keywordEach [⟨some "key", .Lambda params body scope lpos, kpos⟩] X.env)).any (·.1.isNone) = false := by rfl)
    (hks : (backToKw pos (keywordEach [⟨some "key", .Lambda params body scope lpos, kpos⟩] X.env)).filterMap (·.1) = (["key"] : List Str) := by rfl)
    (hkw : (backToKw pos (keywordEach [⟨some "key", .Lambda params body scope lpos, kpos⟩] X.env)).map (·.2) = [do let v ← eval (.Lambda params body scope lpos) X.env; standAt pos; pure v] := by rfl) :
    XE X T (.Call (.Name "sorted" p) [e] [⟨some "key", .Lambda params body scope lpos, kpos⟩] pos) (dSortKey A) := by
  refine ⟨fun pins s σ H Q I h => ?_⟩
  obtain ⟨Z, τ, S, R, sl, ok, h, k⟩ := h
  refine wpAny_Call_Name_kw (ld_blt I hg hm boot_sorted ?_)
  have hA := ha.run pos pins s σ H (fun vs H1 => ∃ v d S1, vs = [v] ∧ Ext H S H1 S1 ∧ Rep X.K Z H1 S1 v d ∧ StOk X.K T Z H1 S1 ∧ ∃ kds : List (Int × D), deref S1 d = .lst (kds.map (·.2)) ∧ (∀ p ∈ kds, Keyed0 p) ∧
    ∀ out : List (Int × D), out.Perm kds → out.Pairwise (fun p q => p.1 ≤ q.1) → R (.lst (out.map (·.2))) S1) I ⟨Z, τ, S, fun ds S1 => ∃ d, ds = [d] ∧ ∃ kds : List (Int × D), deref S1 d = .lst (kds.map (·.2)) ∧ (∀ p ∈ kds, Keyed0 p) ∧
    ∀ out : List (Int × D), out.Perm kds → out.Pairwise (fun p q => p.1 ≤ q.1) → R (.lst (out.map (·.2))) S1, sl, ok, ?_, fun vs H' ds S' x r ok' q => ?_⟩
  rotate_left
  · show A τ S _
    exact ha_mono h
  · obtain ⟨d, e, q⟩ := q
    subst e
    cases r with
    | cons r1 r2 =>
      cases r2
      exact ⟨_, d, S', rfl, x, r1, ok', q⟩
  refine PyProof.Rows.callWith_kw (thn hA fun us s1 ⟨vs, H1, I1, r1, v, d, S1, ev, x1, rd, ok1, kds, ed, hk, hq⟩ => ?_) he hpl hall hnone
  rw [hks, hkw]
  subst ev
  obtain ⟨u, eu, ru⟩ := Vals.one r1
  subst eu
  obtain ⟨ps0, hP0, _⟩ := ok1.tabs _ hT
  refine wpAny_evalAll_cons (wpAny_bind ?_)
  refine lam_make2 I1 TB hcode hT hu ok1.tabs hdef (fun z hz ez => by rw [L.names] at hz; rw [List.mem_singleton.mp hz] at ez; cases ez) fun f c' pm ctv H2 s2 I2 xn t2 hf hfn hfr hc => ?_
  refine wpAny_bind (wpAny_standAt (wpAny_pure (wpAny_evalAll_nil ?_)))
  -- the list
  obtain ⟨l, xs, ev, hl, rr⟩ := lst_at ok1 rd ed
  subst ev
  obtain rfl : u = Value.ref l := ru
  have x2 : Ext H1 S1 H2 S1 := ⟨fun a o n e nt => ⟨n, xn a o e nt⟩⟩
  have hl2 : SqL X.K H2 l xs := by
    rcases hl with (hl | ⟨o, hl⟩) | hl
    · exact .inl (.inl (xn _ _ hl fun ps z => (by cases z)))
    · exact .inl (.inr ⟨o, xn _ _ hl fun ps z => (by cases z)⟩)
    · exact .inr hl
  have rr2 : Reps X.K Z H2 S1 xs (kds.map (·.2)) := rr.ext x2
  have ok2 : StOk X.K T Z H2 S1 := by
    refine ⟨t2, fun z hz => ⟨(ok1.rsv z hz).1, (ok1.rsv z hz).2.imp fun vs e => xn _ _ e fun ps q => (by cases q)⟩, fun a o e => ?_⟩
    obtain ⟨u, hu, nt⟩ := ok1.get e
    exact (ok1.obj a o e).other (p := a) (u := u) x2 ((xn a u hu nt).trans hu.symm)
  obtain ⟨its, rv, hpl, hz⟩ := I2.list hl2
  obtain ⟨m, F⟩ := I2.fr
  have hnames : cloFrom X.env.cells scope.names [] = [] := by rw [L.names]; rfl
  rw [hnames] at hf
  have hfL : f ≠ X.env.locals := fun z => by
    obtain ⟨oL, es, ep, hL, hdL, _⟩ := F.ns
    rw [z, hL] at hf
    have q := congrArg Obj.data (Option.some.inj hf)
    rw [hdL] at q
    cases q
  have hrec : s2.heap.CodeRec (.ref c') (X.env.qual ++ "<lambda>") := by
    obtain ⟨⟨oc, vs, t, h1, h2, h3⟩, _, _⟩ := I2.hok c' _ hc
    exact ⟨c', oc, vs, t, rfl, h1, h2, h3⟩
  have hcL : c' ≠ X.env.locals := fun z => by rw [z, I2.free] at hc; cases hc
  have kept : ∀ {h : Heap} {own : List (Addr × Obj)}, Fr X.base X.env.locals h m → News X.base X.env.locals h (allNews X.base s2.heap X.env.locals ++ own) → ∀ b o, b ≠ X.env.locals → s2.heap.get? b = some o → h.get? b = some o := by
    intro h own F1 N1 b o hb e
    cases q : X.base.get? b with
    | some u =>
      have e2 := I2.bk b u q
      rw [e] at e2
      cases e2
      exact F1.keep b o q
    | none => exact (N1 (b, o) (List.mem_append_left _ (mem_allNews hb q e))).1
  have xl : its.length = (kds.map (·.1)).length := by
    have h1 := rv.length
    have h2 := rr2.length
    simp at h2 ⊢
    omega
  refine ksk_sortedSt (kz := kds.map (·.1)) (b := false) (f := .ref f) (news := allNews X.base s2.heap X.env.locals) F news_all hpl.isList xl.symm (by rw [← rv.length]; exact hz) (ksk_s1 _ _) (fun _ => ksk_l1 _ _) (fun x => ksk_t1 f x) ?_ ?_
  · intro i v kk hv hkk h tk own F1 N1
    have kp := kept F1 N1
    obtain ⟨p, hp, ep⟩ : ∃ p, kds[i]? = some p ∧ p.1 = kk := by
      rw [List.getElem?_map] at hkk
      cases e : kds[i]? with
      | none => rw [e] at hkk; cases hkk
      | some p => rw [e] at hkk; exact ⟨p, rfl, Option.some.inj hkk⟩
    obtain ⟨ds, ed⟩ := hk p (List.mem_of_getElem? hp)
    obtain ⟨x, hx, rx⟩ := rr2.get (i := i) (d := p.2) (by rw [List.getElem?_map, hp]; rfl)
    rw [ed] at rx
    obtain ⟨t, ws, ex, ht, rw'⟩ := rx.tupW
    subst ex
    obtain ⟨u', hu', ru'⟩ := rv.get hx
    rw [hv] at hu'
    have hu' := Option.some.inj hu'
    subst hu'
    obtain rfl : v = Value.ref t := ru'
    cases rw' with
    | cons r0 rw' =>
      have e0 := r0.int'
      subst e0
      obtain ⟨itt, rt, pt, _⟩ := I2.tuple ht
      cases rt with
      | cons r1 rt =>
        obtain ⟨tok, rfl⟩ := r1
        have tL : t ≠ X.env.locals := fun z => by
          obtain ⟨oL, es, ep2, hL, hdL, _⟩ := F.ns
          obtain ⟨ot, hot, _, n, hdt⟩ := pt
          rw [z, hL] at hot
          cases hot
          rw [hdL] at hdt
          cases hdt
        have pt1 : IsTup h t _ := let ⟨ot, hot, q⟩ := pt; ⟨ot, kp t ot tL hot, q⟩
        refine key_call (s := { s2 with heap := h, toks := tk }) L (items := _) (n := p.1) (tok := tok) ?_ (kp f _ hfL hf) ?_ (I2.ok.mod.nolimit.keeps F1.keep) pt1 (by simp) fun h' tk' k' => ?_
        · show X.A.in1.in1.depth < recursionLimit
          show X.A.depth < recursionLimit
          omega
        · obtain ⟨c2, oc, vs, tq, e1, e2, e3, e4⟩ := hrec
          cases e1
          exact ⟨c', oc, vs, tq, rfl, kp c' oc hcL e2, e3, e4⟩
        · rw [ep]
          refine KskEnd.intro (h₀ := X.base) (news' := allNews X.base s2.heap X.env.locals ++ own) ⟨?_, fun b o e => k' b o (F1.keep b o e), F1.above⟩ (fun q hq => ⟨k' _ _ (N1 q hq).1, (N1 q hq).2⟩) fun q hq => hq
          obtain ⟨oL, es, ep2, hL, r⟩ := F1.ns
          exact ⟨oL, es, ep2, k' _ _ hL, r⟩
  · intro B h' tk out c F' N' lt ko
    have hB : s2.heap.get? B = none := by
      cases ho : s2.heap.get? B with
      | none => rfl
      | some o =>
        have nB := (N' _ List.mem_cons_self).2
        exact absurd (lt _ (mem_allNews nB.1 nB.2 ho)) (Nat.lt_irrefl _)
    obtain ⟨ps, pp, eo, pw, _⟩ := ko
    obtain ⟨kds', pk, pr⟩ := perm_along pp (vals_rep rv rr2)
    obtain ⟨xs', v1, r1, e1⟩ := rep_vals pr
    have hB2 : H2 B = none := I2.hok.gone hB
    have keep2 : ∀ b o, b ≠ X.env.locals → s2.heap.get? b = some o → h'.get? b = some o := by
      intro b o hb e
      cases q : X.base.get? b with
      | some u =>
        have e2 := I2.bk b u q
        rw [e] at e2
        cases e2
        exact F'.keep b o q
      | none => exact (N' (b, o) (List.mem_cons_of_mem _ (mem_allNews hb q e))).1
    have len' : xs'.length ≤ sizeLine := by
      have q1 := r1.length
      have q2 := pk.length_eq
      have q3 := rr2.length
      simp at q1 q3
      omega
    have I3 := inv_fr (tk := tk) (B := B) (o := .lst xs') I2 F.ns F'.ns keep2 hB ⟨len', out.toList, c, by rw [eo]; exact v1, by
      have q := (N' _ List.mem_cons_self).1
      simpa [seqObj] using q⟩
    refine ⟨.ref B, _, I3, rfl, ?_⟩
    have nz := ok2.nz hB2
    exact k _ _ (.lst (kds'.map (·.2))) S1 ((x1.trans x2).trans (.new hB2)) (.newLst r1 hB2 (ok2.fresh hB2) nz) (ok2.new hB2) (hq kds' pk (by
      have q : (ps.map (·.1)).Pairwise (· ≤ ·) := List.pairwise_map.mpr (by simpa using pw)
      rw [e1] at q
      exact List.pairwise_map.mp q))
where
  ha_mono {A : DE} {τ : DSt} {S : Store} {R : DK} (h : dSortKey A τ S R) : A τ S fun d S1 => ∃ d', [d] = [d'] ∧ ∃ kds : List (Int × D), deref S1 d' = .lst (kds.map (·.2)) ∧ (∀ p ∈ kds, Keyed0 p) ∧
    ∀ out : List (Int × D), out.Perm kds → out.Pairwise (fun p q => p.1 ≤ q.1) → R (.lst (out.map (·.2))) S1 := by
    have e : (fun d S1 => ∃ d', [d] = [d'] ∧ ∃ kds : List (Int × D), deref S1 d' = .lst (kds.map (·.2)) ∧ (∀ p ∈ kds, Keyed0 p) ∧ ∀ out : List (Int × D), out.Perm kds → out.Pairwise (fun p q => p.1 ≤ q.1) → R (.lst (out.map (·.2))) S1) =
      fun d S1 => ∃ kds : List (Int × D), deref S1 d = .lst (kds.map (·.2)) ∧ (∀ p ∈ kds, Keyed0 p) ∧ ∀ out : List (Int × D), out.Perm kds → out.Pairwise (fun p q => p.1 ≤ q.1) → R (.lst (out.map (·.2))) S1 := by
      funext d S1
      apply propext
      constructor
      · rintro ⟨d', e, q⟩
        cases e
        exact q
      · exact fun q => ⟨d, rfl, q⟩
    rw [e]
    exact h
end
end Dl

set_option Elab.async false
set_option linter.all false
set_option maxRecDepth 100000
set_option maxHeartbeats 2000000
namespace Dl
open PySem PySem.Spec PyProof.Rows L2 LamX
section
variable {X : Cx} {K : PySem.W.Frag} {T : Tb} {a b c e : Expr} {es : List Expr} {pos p2 : Pos}

/-! ### a < b < c < d -/
def dChain3 (R R' R'' : DR2) (A B C E : DE) : DE := fun τ S Q => A τ S fun x S1 => B τ S1 fun y S2 => R x y S2 fun z S3 => match z with
  | .bl k => if k = true then (C τ S3 fun w S4 => R' y w S4 fun z2 S5 => match z2 with
      | .bl k2 => if k2 = true then (E τ S5 fun v S6 => R'' w v S6 Q) else Q (.bl false) S5
      | _ => False) else Q (.bl false) S3
  | _ => False
/-- an expression's end, told over the data -/
def GP (X : Cx) (T : Tb) (pins : List (Addr × Obj)) (σ : L2.St) (Z : List Addr) (H : Hp) (S : Store) (R : DK) (u : Value) (s' : Shared) : Prop :=
  ∃ v H' d S', Inv X pins σ H' s' ∧ RelV v u ∧ Ext H S H' S' ∧ Rep X.K Z H' S' v d ∧ StOk X.K T Z H' S' ∧ R d S'
theorem XE.go {A : DE} (h : XE X T e A) {pins : List (Addr × Obj)} {s : Shared} {σ : L2.St} {H : Hp} {Z : List Addr} {τ : DSt} {S : Store} {R : DK} (I : Inv X pins σ H s) (sl : Slots X.K Z H S σ τ) (ok : StOk X.K T Z H S) (q : A τ S R) :
    wpAny (model X.prog X.w) X.A (eval e X.env) (GP X T pins σ Z H S R) X.xe s :=
  thn (h.run pins s σ H (fun v H' => ∃ d S', Ext H S H' S' ∧ Rep X.K Z H' S' v d ∧ StOk X.K T Z H' S' ∧ R d S') I ⟨Z, τ, S, R, sl, ok, q, fun v H' d S' a b c d' => ⟨d, S', a, b, c, d'⟩⟩) fun u s' ⟨v, H', I', r, d, S', a, b, c, e⟩ => ⟨v, H', d, S', I', r, a, b, c, e⟩
theorem Op2.go {f : Value → Value → Sem Value} {r : R2} {R : DR2} (ho : OpR X f r) (hr : Op2 X.K T r R) {pins : List (Addr × Obj)} {s : Shared} {σ : L2.St} {H : Hp} {Z : List Addr} {S : Store} {G : DK} {vx vy : V} {x y : D} {u w : Value} (I : Inv X pins σ H s) (ok : StOk X.K T Z H S)
    (r1 : RelV vx u) (r2 : RelV vy w) (rx : Rep X.K Z H S vx x) (ry : Rep X.K Z H S vy y) (q : R x y S G) : wpAny (model X.prog X.w) X.A (f u w) (GP X T pins σ Z H S G) X.xe s :=
  thn (ho pins s σ H vx vy u w (fun v H' => ∃ d S', Ext H S H' S' ∧ Rep X.K Z H' S' v d ∧ StOk X.K T Z H' S' ∧ G d S') I r1 r2 (hr Z H S vx vy x y G _ ok rx ry q fun v H' d S' a b c d' => ⟨d, S', a, b, c, d'⟩)) fun u s' ⟨v, H', I', r, d, S', a, b, c, e⟩ => ⟨v, H', d, S', I', r, a, b, c, e⟩
theorem GP.bool {pins : List (Addr × Obj)} {σ : L2.St} {Z : List Addr} {H : Hp} {S : Store} {F : Bool → Store → Prop} {u : Value} {s' : Shared} (g : GP X T pins σ Z H S (fun d S' => match d with | .bl b => F b S' | _ => False) u s') :
    ∃ b H' S', u = .bool b ∧ Inv X pins σ H' s' ∧ Ext H S H' S' ∧ StOk X.K T Z H' S' ∧ F b S' := by
  obtain ⟨v, H', d, S', I', r, x, rd, ok', q⟩ := g
  cases d with
  | bl b =>
    have e := rd.bool
    subst e
    cases r
    exact ⟨b, H', S', rfl, I', x, ok', q⟩
  | _ => exact q.elim
theorem t_chain3 {d : Expr} {op op' op'' : CmpOp} {r r' r'' : R2} {R R' R'' : DR2} {A B C E : DE} (ho : OpR X (compareOp op) r) (hr : Op2 X.K T r R) (ho' : OpR X (compareOp op') r') (hr' : Op2 X.K T r' R') (ho'' : OpR X (compareOp op'') r'') (hr'' : Op2 X.K T r'' R'')
    (ha : XE X T a A) (hb : XE X T b B) (hc : XE X T c C) (hd : XE X T d E) (hm : lastMarks [op, op', op''] [b, c, d] = false := by with_unfolding_all rfl) : XT X T (.Compare a [op, op', op''] [b, c, d] pos) (dTest (dChain3 R R' R'' A B C E)) := by
  refine ⟨fun pins s σ H Q I ⟨Z, τ, S, G, sl, ok, h, k⟩ => ?_⟩
  refine isTrue_chain (thn (ha.go I sl ok h) fun v s1 ⟨vx, H1, x, S1, I1, r1, x1, rx, ok1, h1⟩ => ?_) hm
  refine test_link (thn (hb.go I1 (sl.ext x1) ok1 h1) fun u s2 ⟨vy, H2, y, S2, I2, r2, x2, ry, ok2, h2⟩ => ?_)
  refine thn (Op2.go ho hr I2 ok2 r1 r2 (rx.ext x2) ry h2) fun cv s3 g3 => ?_
  obtain ⟨k1, H3, S3, rfl, I3, x3, ok3, h3⟩ := g3.bool
  refine wpAny_truthy_bool ?_
  have x13 := x1.trans (x2.trans x3)
  cases k1 with
  | false => exact ⟨H3, I3, k false H3 S3 x13 ok3 h3⟩
  | true =>
    show wpAny _ _ (testChain _ _ _ _) _ _ _
    refine test_link (thn (hc.go I3 (sl.ext x13) ok3 h3) fun u2 s4 ⟨vw, H4, w, S4, I4, r4, x4, rw', ok4, h4⟩ => ?_)
    refine thn (Op2.go ho' hr' I4 ok4 r2 r4 (ry.ext (x3.trans x4)) rw' h4) fun cv s5 g5 => ?_
    obtain ⟨k2, H5, S5, rfl, I5, x5, ok5, h5⟩ := g5.bool
    refine wpAny_truthy_bool ?_
    have x15 := x13.trans (x4.trans x5)
    cases k2 with
    | false => exact ⟨H5, I5, k false H5 S5 x15 ok5 h5⟩
    | true =>
      show wpAny _ _ (testChain _ _ _ _) _ _ _
      refine test_last (thn (hd.go I5 (sl.ext x15) ok5 h5) fun u3 s6 ⟨vv, H6, v6, S6, I6, r6, x6, r6', ok6, h6⟩ => ?_)
      refine thn (Op2.go ho'' hr'' I6 ok6 r4 r6 (rw'.ext (x5.trans x6)) r6' h6) fun cv s7 g7 => ?_
      obtain ⟨k3, H7, S7, rfl, I7, x7, ok7, h7⟩ := g7.bool
      exact wpAny_truthy_bool ⟨H7, I7, k k3 H7 S7 (x15.trans (x6.trans x7)) ok7 h7⟩
/-! ### calls of built-ins -/
abbrev DRL := List D → Store → DK → Prop
def CallD (K : PySem.W.Frag) (T : Tb) (r : List V → Hp → VK → Prop) (R : DRL) : Prop := ∀ (Z : List Addr) (H : Hp) (S : Store) (vs : List V) (ds : List D) (Qd : DK) (Q : VK), StOk K T Z H S → Reps K Z H S vs ds → R ds S Qd →
  (∀ v H' d S', Ext H S H' S' → Rep K Z H' S' v d → StOk K T Z H' S' → Qd d S' → Q v H') → r vs H Q
def dCB (R : DRL) (A : DA) : DE := fun τ S Q => A τ S fun ds S1 => R ds S1 Q
theorem lf_cb {r : List V → Hp → VK → Prop} {R : DRL} {A : DA} (hr : CallD K T r R) (σ : L2.St) (H : Hp) (Q : VK) (h : lf K T (dCB R A) σ H Q) : tCB r (lfA K T A) σ H Q := by
  obtain ⟨Z, τ, S, G, sl, ok, h, k⟩ := h
  exact ⟨Z, τ, S, _, sl, ok, h, fun vs H1 ds S1 x1 r1 ok1 h1 => hr Z H1 S1 vs ds G Q ok1 r1 h1 fun v H' d S' x => k v H' d S' (x1.trans x)⟩
theorem x_callB {x : Str} {p : Pos} {id : String} {r : List V → Hp → VK → Prop} {R : DRL} {A : DA} (hc : CallR X (.builtin id) r) (hr : CallD X.K T r R) (hg : Gl X x) (hm : X.mg x = none) (hv : bootBuiltins x = some (.builtin id)) (ha : XA X T (e :: es) A) (hn : x ≠ "__name__" := by decide)
    (hdb : (x == ("__debug__" : Str)) = false := by decide) (he : starEach (e :: es) X.env = (false, eval e X.env) :: starEach es X.env := by rfl) (hpl : (backTo pos (starEach es X.env)).any (·.1) = false := by rfl) :
    XE X T (.Call (.Name x p) (e :: es) [] pos) (dCB R A) := (pe_callB hc hg hm hv ha hn hdb he hpl).imp fun σ H Q h => lf_cb hr σ H Q h
theorem x_callTy {x : Str} {p : Pos} {id : String} {r : List V → Hp → VK → Prop} {R : DRL} {A : DA} (hc : CallR X (.type id) r) (hr : CallD X.K T r R) (hg : Gl X x) (hm : X.mg x = none) (hv : bootBuiltins x = some (.type id)) (ha : XA X T (e :: es) A) (hn : x ≠ "__name__" := by decide)
    (hdb : (x == ("__debug__" : Str)) = false := by decide) (he : starEach (e :: es) X.env = (false, eval e X.env) :: starEach es X.env := by rfl) (hpl : (backTo pos (starEach es X.env)).any (·.1) = false := by rfl) :
    XE X T (.Call (.Name x p) (e :: es) [] pos) (dCB R A) := (pe_callTy hc hg hm hv ha hn hdb he hpl).imp fun σ H Q h => lf_cb hr σ H Q h
/-- len -/
def rLenD : DRL := fun ds S Q => match ds with
  | [.str z] => z.length ≤ sizeLine ∧ Q (.int z.length) S
  | [d] => match items S d with
    | some es => Q (.int es.length) S
    | none => False
  | _ => False
theorem d_len : CallD K T (fun xs H Q => ∃ x n, xs = [x] ∧ LenV K x H n ∧ Q (.int n) H) rLenD := by
  intro Z H S vs ds Qd Q ok rs h k
  unfold rLenD at h
  split at h
  · cases rs with
    | cons r t =>
      cases t
      exact ⟨_, _, rfl, by rw [r.str']; exact ⟨h.1, rfl⟩, k _ H _ S (.refl _ _) (.int _) ok h.2⟩
  · split at h
    · rename_i es' e
      cases rs with
      | cons r t =>
        cases t
        obtain ⟨p, ws, rfl, hs, rr⟩ := items_at ok r e
        refine ⟨_, es'.length, rfl, ?_, k _ H _ S (.refl _ _) (.int _) ok h⟩
        rcases hs with hs | hs
        · exact .inl ⟨ws, hs, rr.length.symm⟩
        · exact .inr ⟨ws, hs, rr.length.symm⟩
    · exact h.elim
  · exact h.elim
/-- int of an int, of a bool -/
def rIntD : DRL := fun ds S Q => match ds with
  | [.int i] => Q (.int i) S
  | [.bl b] => Q (.int (if b then 1 else 0)) S
  | _ => False
theorem d_int : CallD K T (fun xs H Q => (∃ i, xs = [.int i] ∧ Q (.int i) H) ∨ ∃ k, xs = [.bl k] ∧ Q (.int (if k then 1 else 0)) H) rIntD := by
  intro Z H S vs ds Qd Q ok rs h k
  unfold rIntD at h
  split at h
  · cases rs with
    | cons r t => cases t; exact .inl ⟨_, by rw [r.int'], k _ H _ S (.refl _ _) (.int _) ok h⟩
  · cases rs with
    | cons r t => cases t; exact .inr ⟨_, by rw [r.bool], k _ H _ S (.refl _ _) (.int _) ok h⟩
  · exact h.elim
/-- abs -/
def rAbsD : DRL := fun ds S Q => match ds with
  | [.int i] => Q (.int (if i < 0 then -i else i)) S
  | _ => False
theorem d_abs : CallD K T (fun xs H Q => ∃ i, xs = [.int i] ∧ Q (.int (if i < 0 then -i else i)) H) rAbsD := by
  intro Z H S vs ds Qd Q ok rs h k
  unfold rAbsD at h
  split at h
  · cases rs with
    | cons r t => cases t; exact ⟨_, by rw [r.int'], k _ H _ S (.refl _ _) (.int _) ok h⟩
  · exact h.elim
/-- max, min of two ints -/
def rM2D (f : Int → Int → Int) : DRL := fun ds S Q => match ds with
  | [.int i, .int j] => Q (.int (f i j)) S
  | _ => False
theorem d_m2 {f : Int → Int → Int} : CallD K T (fun xs H Q => ∃ i j, xs = [.int i, .int j] ∧ Q (.int (f i j)) H) (rM2D f) := by
  intro Z H S vs ds Qd Q ok rs h k
  unfold rM2D at h
  split at h
  · cases rs with
    | cons r t =>
      cases t with
      | cons r' t' => cases t'; exact ⟨_, _, by rw [r.int', r'.int'], k _ H _ S (.refl _ _) (.int _) ok h⟩
  · exact h.elim
/-- tuple(list) -/
def rTupD : DRL := fun ds S Q => match ds with
  | [d] => match deref S d with
    | .lst es => Q (.tup es) S
    | .tup es => Q (.tup es) S
    | _ => False
  | _ => False
theorem deref_tup {S : Store} {d : D} {es : List D} (e : deref S d = .tup es) : d = .tup es := by
  rcases deref_cases S d with q | ⟨a, ds, _, _, q⟩
  · rw [q] at e; exact e
  · rw [q] at e; cases e
theorem d_tup : CallD K T (fun xs H Q => ∃ p ys, xs = [.ref p] ∧ ((SqL K H p ys ∧ ∀ l, H l = none → Q (.ref l) (upd H l (.tup ys))) ∨ (SqT K H p ys ∧ Q (.ref p) H))) rTupD := by
  intro Z H S vs ds Qd Q ok rs h k
  unfold rTupD at h
  split at h
  · cases rs with
    | cons r t =>
      cases t
      split at h
      · rename_i es' e
        obtain ⟨p, ws, rfl, hs, rr⟩ := lst_at ok r e
        exact ⟨p, ws, rfl, .inl ⟨hs, fun l hl => k _ _ _ S (.new hl) (.newTup rr hl (ok.fresh hl)) (ok.new hl) h⟩⟩
      · rename_i es' e
        have ed := deref_tup e
        subst ed
        cases r with
        | tup ht rr => exact ⟨_, _, rfl, .inr ⟨ht.sq, k _ H _ S (.refl _ _) (.tup ht rr) ok h⟩⟩
      · exact h.elim
  · exact h.elim
/-- tuple(list), whose object is known -/
theorem call_tupleP : CallR X (.type "tuple") (fun xs H Q => ∃ p ys, xs = [.ref p] ∧ SqL X.K H p ys ∧ ∀ l (o : Obj), H l = none → o.dict = none → Q (.ref l) (upd H l (.frz o (.tup ys)))) := by
  intro pins s σ H xs us Q I r h
  obtain ⟨p, ys, rfl, hq, q⟩ := h
  obtain ⟨u, rfl, rx⟩ := vals1 r
  cases rx
  obtain ⟨its, r', pl, hz⟩ := I.list hq
  have hlen := r'.length
  refine call_tuple_list pl.isList (fun h' kp => ?_) (by rw [List.size_toArray]; omega)
  have I1 : Inv X pins σ H { s with heap := h' } := I.kept (t' := s.toks) kp
  have ob : (h'.push { cls := .type "tuple", data := .seq its.toArray }).get? h'.objs.size = some { cls := .type "tuple", data := .seq its.toArray } := Heap.get?_push_size _ rfl
  exact ⟨.ref h'.objs.size, _, I1.laid (a := h'.objs.size) (o := .frz { cls := .type "tuple", data := .seq its.toArray } (.tup ys)) (t' := s.toks) (fun b o e => Heap.get?_push_of_some _ e) (Nat.le_refl _) ⟨ob, hz, its, r', IsTup.new _ _⟩, rfl, q _ _ (I1.hok.fresh (Nat.le_refl _)) rfl⟩
def rTupPD : DRL := fun ds S Q => match ds with
  | [d] => match deref S d with
    | .lst es => Q (.ptp es) S
    | _ => False
  | _ => False
theorem Rep.newPtp {Z : List Addr} {H : Hp} {S : Store} {vs : List V} {ds : List D} (r : Reps K Z H S vs ds) {p : Addr} {o : Obj} (hp : H p = none) (hs : S p = none) (ho : o.dict = none) : Rep K Z (upd H p (.frz o (.tup vs))) S (.ref p) (.ptp ds) :=
  .ptp (.inl ⟨o, upd_same, ho, hs⟩) (r.ext (.new hp))
theorem d_tupP : CallD K T (fun xs H Q => ∃ p ys, xs = [.ref p] ∧ SqL K H p ys ∧ ∀ l (o : Obj), H l = none → o.dict = none → Q (.ref l) (upd H l (.frz o (.tup ys)))) rTupPD := by
  intro Z H S vs ds Qd Q ok rs h k
  unfold rTupPD at h
  split at h
  · cases rs with
    | cons r t =>
      cases t
      split at h
      · rename_i es' e
        obtain ⟨p, ws, rfl, hs, rr⟩ := lst_at ok r e
        exact ⟨p, ws, rfl, hs, fun l o hl ho => k _ _ _ S (.new hl) (.newPtp rr hl (ok.fresh hl) ho) (ok.new hl) h⟩
      · exact h.elim
  · exact h.elim
/-- (), whose object is known -/
theorem x_tupP0 {k} : XE X T (.Tuple [] k pos) (dC (.ptp [])) := by
  refine ⟨fun pins s σ H Q I ⟨Z, τ, S, R, sl, ok, h, k⟩ => ?_⟩
  refine wpAny_Tuple_spliced (thn (pa_nil.run pos pins s σ H (fun vs H1 => vs = [] ∧ H1 = H) I ⟨rfl, rfl⟩) fun us s1 ⟨xs, H1, I1, r, e1, e2⟩ => ?_)
  subst e1; subst e2
  cases r
  refine ⟨by rw [sizeLine_eq]; decide, ?_⟩
  have hf : H1 s1.heap.objs.size = none := I1.hok.fresh (Nat.le_refl _)
  have ob : (s1.heap.push { cls := .type "tuple", data := .seq ([] : List Value).toArray }).get? s1.heap.objs.size = some { cls := .type "tuple", data := .seq ([] : List Value).toArray } := Heap.get?_push_size _ rfl
  have hz : ([] : List V).length ≤ sizeLine := by rw [sizeLine_eq]; decide
  exact ⟨.ref s1.heap.objs.size, _, I1.laid (a := s1.heap.objs.size) (o := .frz { cls := .type "tuple", data := .seq ([] : List Value).toArray } (.tup [])) (t' := s1.toks) (fun b u e => Heap.get?_push_of_some _ e) (Nat.le_refl _) ⟨ob, hz, [], .nil, ⟨_, ob, rfl, _, rfl⟩⟩, rfl,
    k _ _ _ S (.new hf) (.newPtp .nil hf (ok.fresh hf) rfl) (ok.new hf) h⟩
/-- list(x) -/
def rListD : DRL := fun ds S Q => match ds with
  | [d] => match items S d with
    | some es => Q (.lst es) S
    | none => False
  | _ => False
def rListRD : DRL := fun ds S Q => match ds with
  | [d] => match items S d with
    | some es => ∀ p, S p = none → Q (.ref p) (ups S p (.lst es))
    | none => False
  | _ => False
abbrev rListV (K : PySem.W.Frag) : List V → Hp → VK → Prop := fun xs H Q => ∃ p ys, xs = [.ref p] ∧ (SqL K H p ys ∨ SqT K H p ys) ∧ ∀ l, H l = none → Q (.ref l) (upd H l (.lst ys))
theorem d_list : CallD K T (rListV K) rListD := by
  intro Z H S vs ds Qd Q ok rs h k
  unfold rListD at h
  split at h
  · split at h
    · rename_i es' e
      cases rs with
      | cons r t =>
        cases t
        obtain ⟨p, ws, rfl, hs, rr⟩ := items_at ok r e
        exact ⟨p, ws, rfl, hs, fun l hl => k _ _ _ S (.new hl) (.newLst rr hl (ok.fresh hl) (ok.nz hl)) (ok.new hl) h⟩
    · exact h.elim
  · exact h.elim
theorem d_listR : CallD K T (rListV K) rListRD := by
  intro Z H S vs ds Qd Q ok rs h k
  unfold rListRD at h
  split at h
  · split at h
    · rename_i es' e
      cases rs with
      | cons r t =>
        cases t
        obtain ⟨p, ws, rfl, hs, rr⟩ := items_at ok r e
        exact ⟨p, ws, rfl, hs, fun l hl => k _ _ _ _ (.newS hl) (.ref l) (ok.newS hl (.newLst rr hl)) (h l (ok.fresh hl))⟩
    · exact h.elim
  · exact h.elim
/-- all of bools -/
def blsOf : List D → Option (List Bool)
  | [] => some []
  | .bl b :: ds => (blsOf ds).map (b :: ·)
  | _ :: _ => none
theorem Reps.bls {Z : List Addr} {H : Hp} {S : Store} : ∀ {vs : List V} {ds : List D} {bs : List Bool}, Reps K Z H S vs ds → blsOf ds = some bs → vs = bs.map V.bl
  | _, _, _, .nil, e => by cases e; rfl
  | _, _, _, .cons (d := d) (ds := ds) r t, e => by
    cases d with
    | bl b =>
      unfold blsOf at e
      cases q : blsOf ds with
      | none => rw [q] at e; cases e
      | some cs =>
        rw [q] at e
        cases e
        rw [List.map_cons, ← r.bool, ← Reps.bls t q]
    | _ => cases e
def rAllD : DRL := fun ds S Q => match ds with
  | [d] => match deref S d with
    | .lst es => match blsOf es with
      | some bs => Q (.bl (bs.all id)) S
      | none => False
    | _ => False
  | _ => False
theorem d_all : CallD K T (rAll K) rAllD := by
  intro Z H S vs ds Qd Q ok rs h k
  unfold rAllD at h
  split at h
  · split at h
    · rename_i es' e
      split at h
      · rename_i bs eb
        cases rs with
        | cons r t =>
          cases t
          obtain ⟨p, ws, rfl, hs, rr⟩ := lst_at ok r e
          exact ⟨p, bs, rfl, by rw [← rr.bls eb]; exact hs, k _ H _ S (.refl _ _) (.bl _) ok h⟩
      · exact h.elim
    · exact h.elim
  · exact h.elim
end
end Dl

set_option Elab.async false
set_option linter.all false
set_option maxRecDepth 100000
set_option maxHeartbeats 2000000
namespace Dl
open PySem PySem.Spec PyProof.Rows L2 LamX
section
variable {X : Cx} {K : PySem.W.Frag} {T : Tb} {a b c e : Expr} {es : List Expr} {pos p2 : Pos}

/-! ### what is walked -/
/-- the items of a value -/
def itemsI (A : DE) : DI := fun τ S Q => A τ S fun d S1 => match d with
  | .tup ds => Q ds S1
  | .ptp ds => Q ds S1
  | .lst ds => Q ds S1
  | .scr ns => Q (ns.map D.int) S1
  | _ => False
theorem wk_list {Z : List Addr} {tg : Tg} {H : Hp} {S : Store} {p : Addr} {ws : List V} {ds : List D} (hs : ∀ H' S', Ext H S H' S' → SqL K H' p ws) (rr : Reps K Z H S ws ds) : Wk K T Z tg (Itl K p) H S ds where
  go := fun i H2 S2 x h => by
    obtain ⟨v, hv, _⟩ := (rr.ext x).get (i := i) (d := ds[i]) (by simp [h])
    exact ⟨ws, v, hs H2 S2 x, hv⟩
  yld := fun Z2 i d H2 S2 v H3 hz x ok hd ⟨e, y⟩ => by
    subst e
    have q := y ws (hs H3 S2 x)
    obtain ⟨v', hv, r⟩ := (rr.zw (Z' := Z2) hz).get hd
    rw [q] at hv; cases hv
    exact ⟨.refl _ _, ok, Tg.rep_of (r.ext x)⟩
  stop := fun i H2 S2 x h => ⟨ws, hs H2 S2 x, by rw [rr.length]; exact h⟩
theorem wk_tup {Z : List Addr} {tg : Tg} {H : Hp} {S : Store} {p : Addr} {ws : List V} {ds : List D} (hs : ∀ H' S', Ext H S H' S' → SqT K H' p ws) (rr : Reps K Z H S ws ds) : Wk K T Z tg (Itt K p) H S ds where
  go := fun i H2 S2 x h => by
    obtain ⟨v, hv, _⟩ := (rr.ext x).get (i := i) (d := ds[i]) (by simp [h])
    exact ⟨ws, v, hs H2 S2 x, hv⟩
  yld := fun Z2 i d H2 S2 v H3 hz x ok hd ⟨e, y⟩ => by
    subst e
    have q := y ws (hs H3 S2 x)
    obtain ⟨v', hv, r⟩ := (rr.zw (Z' := Z2) hz).get hd
    rw [q] at hv; cases hv
    exact ⟨.refl _ _, ok, Tg.rep_of (r.ext x)⟩
  stop := fun i H2 S2 x h => ⟨ws, hs H2 S2 x, by rw [rr.length]; exact h⟩
theorem it_list {tgt : Expr} {pins : List (Addr × Obj)} {σ : L2.St} {H : Hp} {s : Shared} {p : Addr} {ws : List V} {R : It → Hp → Prop} (I : Inv X pins σ H s) (hs : SqL X.K H p ws) (q : R (Itl X.K p) H) :
    wpAny (model X.prog X.w) X.A (pyIter (.ref p)) (PIE X pins σ tgt R) X.xe s := by
  obtain ⟨its, rv, pl, hz⟩ := I.list hs
  have fr : H s.heap.objs.size = none := I.hok.fresh (Nat.le_refl _)
  refine wpAny_pyIter_list pl.isList ⟨s.heap.objs.size, [s.heap.objs.size], _, _, H, rfl, I.kept (t' := s.toks) fun b o e => Heap.get?_push_of_some _ e, turn_list p _, ⟨_, Heap.get?_push_size _ rfl, rfl, rfl⟩, fun b hb => ?_, q⟩
  rw [List.mem_singleton.mp hb]
  exact I.fpOk (Nat.le_refl _) fr
theorem it_tup {tgt : Expr} {pins : List (Addr × Obj)} {σ : L2.St} {H : Hp} {s : Shared} {p : Addr} {ws : List V} {R : It → Hp → Prop} (I : Inv X pins σ H s) (hs : SqT X.K H p ws) (q : R (Itt X.K p) H) :
    wpAny (model X.prog X.w) X.A (pyIter (.ref p)) (PIE X pins σ tgt R) X.xe s := by
  obtain ⟨its, rv, pl, hz⟩ := I.tuple hs
  have fr : H s.heap.objs.size = none := I.hok.fresh (Nat.le_refl _)
  refine wpAny_pyIter_tuple (show s.heap.IsTuple p its.toArray from pl) ⟨s.heap.objs.size, [s.heap.objs.size], _, _, H, rfl, I.kept (t' := s.toks) fun b o e => Heap.get?_push_of_some _ e, turn_tuple p _, ⟨_, Heap.get?_push_size _ rfl, rfl, rfl⟩, fun b hb => ?_, q⟩
  rw [List.mem_singleton.mp hb]
  exact I.fpOk (Nat.le_refl _) fr
theorem i_seq {tg : Tg} {tgt : Expr} {A : DE} (h : XE X T e A) : XI X T tg tgt e (itemsI A) := by
  refine ⟨fun pins s σ H R I ⟨Z, τ, S, G, sl, ok, h1, k⟩ => ?_⟩
  refine thn (h.go I sl ok h1) fun u s1 ⟨v, H1, d, S1, I1, rv, x1, rd, ok1, q⟩ => ?_
  cases d with
  | tup ds =>
    cases rd with
    | tup ht rr =>
      cases rv
      exact it_tup I1 ht.sq (k _ H1 ds S1 x1 ok1 (wk_tup (fun H' S' x => (ht.ext x).sq) rr) q)
  | ptp ds =>
    cases rd with
    | ptp ht rr =>
      cases rv
      exact it_tup I1 ht.sq (k _ H1 ds S1 x1 ok1 (wk_tup (fun H' S' x => (ht.ext x).sq) rr) q)
  | lst ds =>
    cases rd with
    | lst ht hn hz rr =>
      cases rv
      exact it_list I1 (SqL.of ht) (k _ H1 ds S1 x1 ok1 (wk_list (fun H' S' x => SqL.of (x.eq _ _ hn ht fun ps z => (by cases z))) rr) q)
  | scr ns =>
    cases rd with
    | scr ht =>
      cases rv
      exact it_list I1 ht.sq (k _ H1 _ S1 x1 ok1 (wk_list (fun H' S' x => (ht.ext x).sq) (Reps.ints ns)) q)
  | _ => exact q.elim
/-- lo, lo + 1, .. -/
def intsFrom (lo : Int) : Nat → List D
  | 0 => []
  | n + 1 => .int lo :: intsFrom (lo + 1) n
theorem intsFrom_length (lo : Int) (n : Nat) : (intsFrom lo n).length = n := by
  induction n generalizing lo with
  | zero => rfl
  | succ n ih => simp [intsFrom, ih]
theorem intsFrom_get (lo : Int) (n i : Nat) (d : D) (h : (intsFrom lo n)[i]? = some d) : d = .int (lo + i) := by
  induction n generalizing lo i with
  | zero => simp [intsFrom] at h
  | succ n ih =>
    cases i with
    | zero => simp [intsFrom] at h; rw [← h]; simp
    | succ i =>
      have q := ih (lo + 1) i (by simpa [intsFrom] using h)
      rw [q]
      congr 1
      omega
theorem wk_range {Z : List Addr} {tg : Tg} {H : Hp} {S : Store} {lo : Int} {n : Nat} : Wk K T Z tg (Itr lo n) H S (intsFrom lo n) where
  go := fun i H2 S2 x h => by rw [intsFrom_length] at h; exact h
  yld := fun Z2 i d H2 S2 v H3 hz x ok hd ⟨e, y⟩ => by
    subst e y
    rw [intsFrom_get lo n i d hd]
    exact ⟨.refl _ _, ok, Tg.rep_of (.int _)⟩
  stop := fun i H2 S2 x h => by rw [intsFrom_length] at h; exact h
def rangeI1 (A : DA) : DI := fun τ S Q => A τ S fun ds S1 => match ds with
  | [.int j] => -(2 ^ 62) ≤ j ∧ j < 2 ^ 62 ∧ Q (intsFrom 0 j.toNat) S1
  | _ => False
def rangeI2 (A : DA) : DI := fun τ S Q => A τ S fun ds S1 => match ds with
  | [.int i, .int j] => (-(2 ^ 62) ≤ i ∧ i < 2 ^ 62 ∧ -(2 ^ 62) ≤ j ∧ j < 2 ^ 62) ∧ Q (intsFrom i (j - i).toNat) S1
  | _ => False
theorem i_range1 {tg : Tg} {tgt : Expr} {A : DA} {p : Pos} (hg : Gl X "range") (hm : X.mg "range" = none) (ha : XA X T [a] A) (hs : starEach [a] X.env = [(false, eval a X.env)] := by rfl) : XI X T tg tgt (.Call (.Name "range" p) [a] [] pos) (rangeI1 A) :=
  (pi_range1 hg hm ha hs).imp fun σ H R ⟨Z, τ, S, G, sl, ok, h, k⟩ => ⟨Z, τ, S, _, sl, ok, h, fun vs H1 ds S1 x1 r1 ok1 q => by
    split at q
    · cases r1 with
      | cons r t => cases t; exact ⟨_, by rw [r.int'], q.1, q.2.1, k _ H1 _ S1 x1 ok1 wk_range q.2.2⟩
    · exact q.elim⟩
theorem i_range2 {tg : Tg} {tgt : Expr} {A : DA} {p : Pos} (hg : Gl X "range") (hm : X.mg "range" = none) (ha : XA X T [a, b] A) (hs : starEach [a, b] X.env = [(false, eval a X.env), (false, eval b X.env)] := by rfl) (hs2 : starEach [b] X.env = [(false, eval b X.env)] := by rfl) :
    XI X T tg tgt (.Call (.Name "range" p) [a, b] [] pos) (rangeI2 A) :=
  (pi_range2 hg hm ha hs hs2).imp fun σ H R ⟨Z, τ, S, G, sl, ok, h, k⟩ => ⟨Z, τ, S, _, sl, ok, h, fun vs H1 ds S1 x1 r1 ok1 q => by
    split at q
    · cases r1 with
      | cons r t =>
        cases t with
        | cons r' t => cases t; exact ⟨_, _, by rw [r.int', r'.int'], q.1, k _ H1 _ S1 x1 ok1 wk_range q.2⟩
    · exact q.elim⟩
/-- enumerate(list) -/
def pairsFrom : Int → List D → List D
  | _, [] => []
  | i, d :: ds => .tup [.int i, d] :: pairsFrom (i + 1) ds
theorem pairsFrom_length : ∀ (i : Int) (ds : List D), (pairsFrom i ds).length = ds.length
  | _, [] => rfl
  | i, d :: ds => by simp [pairsFrom, pairsFrom_length (i + 1) ds]
theorem pairsFrom_get : ∀ (i : Int) (ds : List D) (j : Nat) (d : D), (pairsFrom i ds)[j]? = some d → ∃ x, ds[j]? = some x ∧ d = .tup [.int (i + j), x]
  | _, [], j, d, h => by simp [pairsFrom] at h
  | i, y :: ds, 0, d, h => by
    simp [pairsFrom] at h
    exact ⟨y, rfl, by rw [← h]; simp⟩
  | i, y :: ds, j + 1, d, h => by
    obtain ⟨x, h1, h2⟩ := pairsFrom_get (i + 1) ds j d (by simpa [pairsFrom] using h)
    refine ⟨x, by simpa using h1, ?_⟩
    have e : i + 1 + (j : Int) = i + ((j + 1 : Nat) : Int) := by omega
    rw [h2, e]
theorem wk_enum {Z : List Addr} {is : List Nat} {H : Hp} {S : Store} {p : Addr} {ws : List V} {ds : List D} (hs : ∀ H' S', Ext H S H' S' → SqL K H' p ws) (rr : Reps K Z H S ws ds) : Wk K T Z (.tp is) (Ite K p) H S (pairsFrom 0 ds) where
  go := fun i H2 S2 x h => by
    rw [pairsFrom_length] at h
    obtain ⟨v, hv, _⟩ := (rr.ext x).get (i := i) (d := ds[i]) (by simp [h])
    exact ⟨ws, v, hs H2 S2 x, hv⟩
  yld := fun Z2 i d H2 S2 v H3 hz x ok hd ⟨p', y, ev, hp, e3, q⟩ => by
    subst e3 ev
    have q := q ws (hs H2 S2 x)
    obtain ⟨z, hz', ed⟩ := pairsFrom_get 0 ds i d hd
    obtain ⟨v', hv, r⟩ := (rr.zw (Z' := Z2) hz).get hz'
    rw [q] at hv; cases hv
    subst ed
    refine ⟨.new hp, ok.new hp, .inl ?_⟩
    rw [Int.zero_add]
    exact .newTup (.cons (.int _) (.cons (r.ext x) .nil)) hp (ok.fresh hp)
  stop := fun i H2 S2 x h => ⟨ws, hs H2 S2 x, by rw [rr.length]; rw [pairsFrom_length] at h; exact h⟩
def enumI (A : DA) : DI := fun τ S Q => A τ S fun ds S1 => match ds with
  | [.lst es] => Q (pairsFrom 0 es) S1
  | _ => False
theorem i_enum {is : List Nat} {elts : List Expr} {kk : Nat} {tpos p : Pos} {A : DA} (hg : Gl X "enumerate") (hm : X.mg "enumerate" = none) (ha : XA X T [e] A) (hs : starEach [e] X.env = [(false, eval e X.env)] := by rfl) :
    XI X T (.tp is) (.Tuple elts kk tpos) (.Call (.Name "enumerate" p) [e] [] pos) (enumI A) :=
  (pi_enum hg hm ha hs).imp fun σ H R ⟨Z, τ, S, G, sl, ok, h, k⟩ => ⟨Z, τ, S, _, sl, ok, h, fun vs H1 ds S1 x1 r1 ok1 q => by
    split at q
    · cases r1 with
      | cons r t =>
        cases t
        cases r with
        | lst ht hn hz rr => exact ⟨_, _, rfl, SqL.of ht, k _ H1 _ S1 x1 ok1 (wk_enum (fun H' S' x => SqL.of (x.eq _ _ hn ht fun ps z => (by cases z))) rr) q⟩
    · exact q.elim⟩

/-! ### lists of the store: methods, items -/
/-- o.m(..), o a list of the store -/
abbrev DRM := D → List D → Store → DK → Prop
def MtD (K : PySem.W.Frag) (T : Tb) (r : V → List V → Hp → VK → Prop) (R : DRM) : Prop := ∀ (Z : List Addr) (H : Hp) (S : Store) (vx : V) (vs : List V) (x : D) (ds : List D) (Qd : DK) (Q : VK), StOk K T Z H S → Rep K Z H S vx x → Reps K Z H S vs ds → R x ds S Qd →
  (∀ v H' d S', Ext H S H' S' → Rep K Z H' S' v d → StOk K T Z H' S' → Qd d S' → Q v H') → r vx vs H Q
def isLst (S : Store) (d : D) : Prop := match deref S d with
  | .lst _ => True
  | _ => False
def dML (R : DRM) (A : DE) (B : DA) : DE := fun τ S Q => A τ S fun x S1 => isLst S1 x ∧ B τ S1 fun ds S2 => R x ds S2 Q
theorem tyV_lst {Z : List Addr} {H : Hp} {S : Store} {v : V} {d : D} (ok : StOk K T Z H S) (r : Rep K Z H S v d) (h : isLst S d) : tyV K "list" v H := by
  unfold isLst at h
  split at h
  · rename_i ds e
    obtain ⟨p, ws, rfl, hs, _⟩ := lst_at ok r e
    exact .inl ⟨rfl, ws, hs⟩
  · exact h.elim
theorem x_ml {o : Expr} {name : Str} {apos cpos : Pos} {id : String} {r : V → List V → Hp → VK → Prop} {R : DRM} {A : DE} {B : DA} (slot : Slot "list" name id) (hty : typeOf (.builtin id) = pure (.type "method_descriptor")) (hm : MtR X id r) (hr : MtD X.K T r R) (ho : XE X T o A) (ha : XA X T (e :: es) B)
    (hbase : attributeBase o name X.env (eval o X.env) = eval o X.env := by rfl)
    (hfew : ((backTo cpos (starEach (e :: es) X.env)).all (fun x => !x.1) && (backToKw cpos (keywordEach [] X.env)).all (fun x => x.1.isSome)
      && decide ((e :: es).length + ([] : List Keyword).length + (if ([] : List Keyword).isEmpty then 0 else 1) < 30)) = true := by rfl)
    (hline : (apos.endLine == cpos.line) = true := by rfl) (hs : starEach (e :: es) X.env = (false, eval e X.env) :: starEach es X.env := by rfl) (hplain : (backTo cpos (starEach es X.env)).any (·.1) = false := by rfl) :
    XE X T (.Call (.Attribute o name apos) (e :: es) [] cpos) (dML R A B) :=
  (pe_bm PySem.F.plainAttrs_list slot hty hm ho ha hbase hfew hline hs hplain).imp fun σ H Q ⟨Z, τ, S, G, sl, ok, h, k⟩ => ⟨Z, τ, S, _, sl, ok, h, fun v H1 d S1 x1 r1 ok1 ⟨ty, q⟩ => ⟨tyV_lst ok1 r1 ty,
    Z, τ, S1, _, sl.ext x1, ok1, q, fun vs H2 ds S2 x2 r2 ok2 q2 => hr Z H2 S2 v vs d ds G Q ok2 (r1.ext x2) r2 q2 fun v H' d S' x => k v H' d S' (x1.trans (x2.trans x))⟩⟩
theorem x_ml0 {o : Expr} {name : Str} {apos cpos : Pos} {id : String} {r : V → List V → Hp → VK → Prop} {R : DRM} {A : DE} (slot : Slot "list" name id) (hty : typeOf (.builtin id) = pure (.type "method_descriptor")) (hm : MtR X id r) (hr : MtD X.K T r R) (ho : XE X T o A)
    (hbase : attributeBase o name X.env (eval o X.env) = eval o X.env := by rfl) (hline : (apos.endLine == cpos.line) = true := by rfl) : XE X T (.Call (.Attribute o name apos) [] [] cpos) (dML R A dNil) :=
  (pe_bm0 PySem.F.plainAttrs_list slot hty hm ho hbase hline).imp fun σ H Q ⟨Z, τ, S, G, sl, ok, h, k⟩ => ⟨Z, τ, S, _, sl, ok, h, fun v H1 d S1 x1 r1 ok1 ⟨ty, q⟩ => ⟨tyV_lst ok1 r1 ty,
    hr Z H1 S1 v [] d [] G Q ok1 r1 .nil q fun v H' d S' x => k v H' d S' (x1.trans x)⟩⟩
/-- a list of the store gets other items -/
theorem put_lst {Z : List Addr} {H : Hp} {S : Store} {p : Addr} {ds es : List D} {ws : List V} (ok : StOk K T Z H S) (e : S p = some (.lst ds)) (rr : Reps K Z H S ws es) :
    Ext H S (upd H p (.lst ws)) (ups S p (.lst es)) ∧ StOk K T Z (upd H p (.lst ws)) (ups S p (.lst es)) :=
  ⟨.put e, ok.put e ⟨ws, upd_same, rr.ext (.put e)⟩⟩
def rAppendD : DRM := fun x ds S Q => match x, ds with
  | .ref p, [d] => match S p with
    | some (.lst es) => es.length < sizeLine ∧ Q .non (ups S p (.lst (es ++ [d])))
    | _ => False
  | _, _ => False
theorem d_append : MtD K T rAppend rAppendD := by
  intro Z H S vx vs x ds Qd Q ok rx rs h k
  unfold rAppendD at h
  split at h
  · rename_i p d
    split at h
    · rename_i es' e
      cases rx
      cases rs with
      | cons r t =>
        cases t
        obtain ⟨ws, hw, rr⟩ := ok.obj p _ e
        obtain ⟨x1, ok1⟩ := put_lst ok e (rr.append (.cons r .nil))
        exact ⟨p, ws, _, rfl, rfl, hw, by rw [rr.length]; exact h.1, k _ _ _ _ x1 .non ok1 h.2⟩
    · exact h.elim
  · exact h.elim
def rPopAtD : DRM := fun x ds S Q => match x, ds with
  | .ref p, [.int i] => match S p with
    | some (.lst es) => -(2 ^ 63) ≤ i ∧ i < 2 ^ 63 ∧ match seqIndex? i es.length with
      | some j => match es[j]? with
        | some d => Q d (ups S p (.lst (es.eraseIdx j)))
        | none => False
      | none => False
    | _ => False
  | _, _ => False
theorem d_popAt : MtD K T rPopAt rPopAtD := by
  intro Z H S vx vs x ds Qd Q ok rx rs h k
  unfold rPopAtD at h
  split at h
  · rename_i p i
    split at h
    · rename_i es' e
      obtain ⟨h1, h2, h⟩ := h
      split at h
      · rename_i j ej
        split at h
        · rename_i d ed
          cases rx
          cases rs with
          | cons r t =>
            cases t
            obtain ⟨ws, hw, rr⟩ := ok.obj p _ e
            obtain ⟨v, hv, rv⟩ := rr.get ed
            obtain ⟨x1, ok1⟩ := put_lst ok e (rr.eraseIdx j)
            exact ⟨p, ws, i, j, v, rfl, by rw [r.int'], hw, h1, h2, by rw [rr.length]; exact ej, hv, k _ _ _ _ x1 (rv.ext x1) ok1 h⟩
        · exact h.elim
      · exact h.elim
    · exact h.elim
  · exact h.elim
/-- xs[i] = e -/
def dSetIx (A O I : DE) : DS := fun E τ S => A τ S fun d S1 => O τ S1 fun o S2 => I τ S2 fun i S3 => match o, i with
  | .ref p, .int i => match S3 p with
    | some (.lst es) => match ixN es.length i with
      | some j => E.nx τ (ups S3 p (.lst (es.set j d)))
      | none => False
    | _ => False
  | _, _ => False
theorem s_setIx {o i : Expr} {A O J : DE} {tpos : Pos} (ho : XE X T o O) (hi : XE X T i J) (he : XE X T e A) (hs : swapsWithSole [.Subscript o i tpos] e pos.line X.env = pure false := by rfl) (hw : swappedStores [.Subscript o i tpos] e X.env = pure none := by rfl)
    (h1 : (assignEach [.Subscript o i tpos] X.env).map (·.2) = [assign (.Subscript o i tpos) X.env] := by rfl)
    (ha : ∀ v, assign (.Subscript o i tpos) X.env v = (do
      let ov ← holding [v] (eval o X.env)
      let iv ← holding [v, ov] (eval i X.env)
      standAt tpos
      holding [v, ov, iv] (setItem ov iv v)
      release [v, ov, iv] []) := by intro _; rfl) : XS X T (.Assign [.Subscript o i tpos] e pos) (dSetIx A O J) := by
  refine (ps_asg he (pg_sub ho hi set_list ha) hs hw h1).imp fun D σ H ⟨Z, τ, S, E, sl, ok, h, k⟩ => ?_
  refine ⟨Z, τ, S, _, sl, ok, h, fun v H1 d S1 x1 r1 ok1 q1 => ?_⟩
  refine ⟨Z, τ, S1, _, sl.ext x1, ok1, q1, fun vo H2 dd S2 x2 r2 ok2 q2 => ?_⟩
  refine ⟨Z, τ, S2, _, sl.ext (x1.trans x2), ok2, q2, fun vi H3 di S3 x3 r3 ok3 q3 => ?_⟩
  split at q3
  · rename_i p i'
    split at q3
    · rename_i es' e'
      split at q3
      · rename_i j ej
        cases r2
        obtain ⟨ws, hw', rr⟩ := ok3.obj p _ e'
        obtain ⟨x4, ok4⟩ := put_lst ok3 e' (rr.set j (r1.ext (x2.trans x3)))
        exact ⟨p, ws, i', j, rfl, r3.int', hw', by rw [rr.length]; exact ej, k.nx σ _ τ _ (x1.trans (x2.trans (x3.trans x4))) (sl.ext (x1.trans (x2.trans (x3.trans x4)))) ok4 q3⟩
      · exact q3.elim
    · exact q3.elim
  · exact q3.elim
end
end Dl

set_option Elab.async false
set_option linter.all false
set_option maxRecDepth 100000
set_option maxHeartbeats 2000000
namespace Dl
open PySem PySem.Spec PyProof.Rows L2 LamX
section
variable {X : Cx} {K : PySem.W.Frag} {T : Tb} {a b c e f : Expr} {es : List Expr} {pos p2 : Pos}

/-! ### isinstance -/
def tyD (S : Store) : D → Option String
  | .non => some "NoneType"
  | .bl _ => some "bool"
  | .int _ => some "int"
  | .str _ => some "str"
  | .tup _ => some "tuple"
  | .ptp _ => some "tuple"
  | .lst _ => some "list"
  | .scr _ => none
  | .fn .. => none
  | .exc .. => none
  | .ref a => match S a with
    | some (.lst _) => some "list"
    | some (.dK _) => some "dict"
    | some (.dT _) => some "dict"
    | _ => none
theorem tyX_of {Z : List Addr} {H : Hp} {S : Store} {v : V} {d : D} {t : String} (ok : StOk K T Z H S) (r : Rep K Z H S v d) (e : tyD S d = some t) : TyX K H v (.type t) := by
  cases r with
  | non => cases e; exact .base .non
  | bl b => cases e; exact .base (.bl b)
  | int b => cases e; exact .base (.int b)
  | str b => cases e; exact .base (.str b)
  | ref p =>
    unfold tyD at e
    simp only at e
    split at e
    · rename_i ds es'
      cases e
      obtain ⟨vs, h, _⟩ := ok.obj p _ es'
      exact .base (.lst h)
    · rename_i ds es'
      cases e
      obtain ⟨vs, h, _⟩ := ok.obj p _ es'
      exact .base (.dK h)
    · rename_i ds es'
      cases e
      obtain ⟨vs, h, _⟩ := ok.obj p _ es'
      exact .base (.dT h)
    · cases e
  | tup h _ =>
    cases e
    rcases h with ⟨h | ⟨o, h⟩, _⟩ | ⟨o, its, n, h1, h2, _⟩
    · exact .base (.tup h)
    · exact .fTuple h
    · exact .kTuple h1 h2
  | ptp h _ =>
    cases e
    rcases h with ⟨o, h, _⟩ | ⟨o, its, n, h1, h2, _⟩
    · exact .fTuple h
    · exact .kTuple h1 h2
  | lst h _ _ _ => cases e; exact .base (.lst h)
  | scr h => cases e
  | fn _ _ => cases e
  | exc0 => cases e
  | exc1 _ _ _ => cases e
/-- the answer of isinstance: not to be computed by unfolding -/
def isiK (t : Option String) (C : String) (G : Bool → Prop) : Prop := ∃ t' b, t = some t' ∧ kitB t' C = some b ∧ G b
theorem isiK_eq {t C : String} {b : Bool} (h : kitB t C = some b) (G : Bool → Prop) : isiK (some t) C G = G b :=
  propext ⟨fun ⟨t', b', e1, e2, g⟩ => by cases e1; rw [h] at e2; cases e2; exact g, fun g => ⟨t, b, rfl, h, g⟩⟩
def dIsi (C : String) (A : DE) : DE := fun τ S Q => A τ S fun d S1 => isiK (tyD S1 d) C fun b => Q (.bl b) S1
theorem x_isi {C : String} {x : Str} {A : DE} {p q : Pos} (he : XE X T e A) (hg : Gl X "isinstance") (hm : X.mg "isinstance" = none) (hg2 : Gl X x) (hm2 : X.mg x = none) (hv2 : bootBuiltins x = some (.type C)) (hn : x ≠ "__name__" := by decide) (hd : (x == ("__debug__" : Str)) = false := by decide)
    (s1 : starEach [e, .Name x q] X.env = (false, eval e X.env) :: starEach [.Name x q] X.env := by rfl) (hpl : (backTo pos (starEach [.Name x q] X.env)).any (·.1) = false := by rfl) : XE X T (.Call (.Name "isinstance" p) [e, .Name x q] [] pos) (dIsi C A) := by
  refine (pe_callB call_isi hg hm (by decide +kernel) (pa_cons he (pa_cons (pe_bltn (v := .ty C) hg2 hm2 hv2 rfl hn hd) pa_nil) s1) (by decide) (by decide) s1 hpl).imp fun σ H Q ⟨Z, τ, S, G, sl, ok, h, k⟩ => ?_
  refine ⟨Z, τ, S, _, sl, ok, h, fun v H1 d S1 x1 r1 ok1 q => ?_⟩
  show rIsi X.K [v, .ty C] H1 Q
  obtain ⟨t, b, et, eb, q⟩ := q
  exact ⟨v, .ty C, .type t, .type C, b, rfl, .ty C, tyX_of ok1 r1 et, kit_ty eb, k _ H1 _ S1 x1 (.bl b) ok1 q⟩

/-! ### sorted -/
abbrev encP (p : Int × Int) : D := .tup [.int p.1, .int p.2]
/-- pairs of ints -/
def rSortPD : DRL := fun ds S Q => match ds with
  | [d] => ∃ ps : List (Int × Int), deref S d = .lst (ps.map encP) ∧ ∀ out : List (Int × Int), out.Perm ps → out.Pairwise (fun p q => SrtO.lexB q p = false) → Q (.lst (out.map encP)) S
  | _ => False
/-- of values that stand for such pairs -/
def PairV (K : PySem.W.Frag) (H : Hp) (v : V) (p : Int × Int) : Prop := ∃ t, v = .ref t ∧ SqT K H t [.int p.1, .int p.2]
theorem rep_pair {Z : List Addr} {H : Hp} {S : Store} {v : V} {p : Int × Int} (r : Rep K Z H S v (encP p)) : PairV K H v p := by
  obtain ⟨a, vs, rfl, ht, rr⟩ := r.tupW
  cases rr with
  | cons r1 rr =>
    cases rr with
    | cons r2 rr =>
      cases rr
      rw [r1.int', r2.int'] at ht
      exact ⟨a, rfl, ht⟩
noncomputable def keyP (K : PySem.W.Frag) (H : Hp) (v : Value) : Int × Int := by
  classical
  exact if h : ∃ p, PairV K H (backV v) p then h.choose else (0, 0)
theorem keyP_of {pins : List (Addr × Obj)} {σ : L2.St} {H : Hp} {s : Shared} {t : Addr} {p : Int × Int} (I : Inv X pins σ H s) (h : PairV X.K H (.ref t) p) : keyP X.K H (.ref t) = p := by
  classical
  have hx : ∃ p, PairV X.K H (backV (.ref t)) p := ⟨p, h⟩
  have e : keyP X.K H (.ref t) = hx.choose := by unfold keyP; rw [dif_pos hx]
  rw [e]
  obtain ⟨t1, e1, h1⟩ := hx.choose_spec
  obtain ⟨t2, e2, h2⟩ := h
  cases e1
  cases e2
  have q := I.tuple_inj h1 h2
  injection q with q1 q2
  injection q2 with q2 _
  exact Prod.ext (V.int.inj q1) (V.int.inj q2)
theorem Paired.get {α β : Type} {R : α → β → Prop} : ∀ {l : List α} {m : List β} {x : α}, Paired R l m → x ∈ l → ∃ y, y ∈ m ∧ R x y
  | _, _, _, .nil, h => absurd h (by simp)
  | _, _, x, .cons r t, h => by
    rcases List.mem_cons.mp h with e | h
    · rw [e]; exact ⟨_, List.mem_cons_self, r⟩
    · obtain ⟨y, h1, h2⟩ := Paired.get t h
      exact ⟨y, List.mem_cons_of_mem _ h1, h2⟩
theorem pairs_val {Z : List Addr} {H : Hp} {S : Store} : ∀ {xs : List V} {us : List Value} {ps : List (Int × Int)}, Vals xs us → Reps K Z H S xs (ps.map encP) →
    Paired (fun (u : Value) (p : Int × Int) => ∃ t, u = .ref t ∧ Rep K Z H S (.ref t) (encP p)) us ps
  | _, _, [], .nil, .nil => .nil
  | _, _, p :: r, .cons a t, .cons b u => by
    refine .cons ?_ (pairs_val t u)
    obtain ⟨q, vs, e, _, _⟩ := b.tupW
    subst e
    exact ⟨q, a, b⟩
theorem val_pairs {Z : List Addr} {H : Hp} {S : Store} : ∀ {us : List Value} {ps : List (Int × Int)}, Paired (fun (u : Value) (p : Int × Int) => ∃ t, u = .ref t ∧ Rep K Z H S (.ref t) (encP p)) us ps → ∃ xs, Vals xs us ∧ Reps K Z H S xs (ps.map encP)
  | _, _, .nil => ⟨[], .nil, .nil⟩
  | _, _, .cons ⟨q, e, r⟩ t => by
    obtain ⟨xs, h1, h2⟩ := val_pairs t
    exact ⟨.ref q :: xs, .cons e h1, .cons r h2⟩
def rSortPV (K : PySem.W.Frag) (T : Tb) : List V → Hp → VK → Prop := fun vs H Q => ∃ (Z : List Addr) (S : Store) (x : V) (ps : List (Int × Int)), vs = [x] ∧ StOk K T Z H S ∧ (∃ d, Rep K Z H S x d ∧ deref S d = .lst (ps.map encP)) ∧
  ∀ (out : List (Int × Int)) p ws, out.Perm ps → out.Pairwise (fun p q => SrtO.lexB q p = false) → H p = none → Reps K Z H S ws (out.map encP) → Q (.ref p) (upd H p (.lst ws))
theorem cr_sortPV : CallR X (.builtin "sorted") (rSortPV X.K T) := by
  intro pins s σ H vs us Q I r ⟨Z, S, x, ps, ev, ok, ⟨d, rd, ed⟩, q⟩
  subst ev
  obtain ⟨u, rfl, ru⟩ := vals1 r
  obtain ⟨a, xs, rfl, hs, rr⟩ := lst_at ok rd ed
  obtain rfl : u = Value.ref a := ru
  obtain ⟨its, rv, hl, hz⟩ := I.list hs
  have pv := pairs_val rv rr
  refine SrtO.sorted_pairsO (k := keyP X.K H) hl.isList (by rw [← rv.length]; exact hz) (fun v hv => ?_) fun h' dd out h1 h2 kp hd hn => ?_
  · obtain ⟨p, hp, t, rfl, rt⟩ := Paired.get pv hv
    have pt := rep_pair rt
    rw [keyP_of I pt]
    obtain ⟨t', e, ht⟩ := pt
    cases e
    obtain ⟨its2, r2, ⟨o, ho, hc, n, hd⟩, _⟩ := I.tuple ht
    obtain ⟨u1, u2, rfl, ri, rj⟩ := vals2 r2
    obtain ⟨t1, rfl⟩ := ri
    obtain ⟨t2, rfl⟩ := rj
    exact ⟨t, o, t1, t2, n, rfl, ho, hc, hd⟩
  · obtain ⟨out', p', pr⟩ := perm_along h2.perm pv
    obtain ⟨ws, w1, w2⟩ := val_pairs pr
    obtain ⟨n, hn⟩ := hn
    have ek : ∀ {us : List Value} {ps : List (Int × Int)}, Paired (fun (u : Value) (p : Int × Int) => ∃ t, u = .ref t ∧ Rep X.K Z H S (.ref t) (encP p)) us ps → us.map (keyP X.K H) = ps := by
      intro us ps h
      induction h with
      | nil => rfl
      | cons r _ ih =>
        obtain ⟨t, e, rt⟩ := r
        rw [List.map_cons, ih, e, keyP_of I (rep_pair rt)]
    have eo := ek pr
    have pw : out'.Pairwise (fun p q => SrtO.lexB q p = false) := by
      rw [← eo]
      exact List.pairwise_map.mpr h1
    refine ⟨.ref dd, upd H dd (.lst ws), I.laid (t' := s.toks) kp hd ⟨?_, out, n, w1, hn⟩, rfl, q out' dd ws p' pw (I.hok.fresh hd) w2⟩
    rw [w2.length, List.length_map, p'.length_eq]
    have := rr.length
    rw [List.length_map] at this
    omega
theorem d_sortP : CallD K T (rSortPV K T) rSortPD := by
  intro Z H S vs ds Qd Q ok rs h k
  unfold rSortPD at h
  split at h
  · obtain ⟨ps, e, h⟩ := h
    cases rs with
    | cons r t =>
      cases t
      exact ⟨Z, S, _, ps, rfl, ok, ⟨_, r, e⟩, fun out p ws hp hw hn rr => k _ _ _ S (.new hn) (.newLst rr hn (ok.fresh hn) (ok.nz hn)) (ok.new hn) (h out hp hw)⟩
  · exact h.elim
/-- ints -/
def rSortID : DRL := fun ds S Q => match ds with
  | [d] => ∃ ns : List Int, deref S d = .lst (ns.map D.int) ∧ ∀ out : List Int, out.Perm ns → out.Pairwise (· ≤ ·) → Q (.lst (out.map D.int)) S
  | _ => False
theorem d_sortI : CallD K T (rSortedI K) rSortID := by
  intro Z H S vs ds Qd Q ok rs h k
  unfold rSortID at h
  split at h
  · obtain ⟨ns, e, h⟩ := h
    cases rs with
    | cons r t =>
      cases t
      obtain ⟨a, xs, rfl, hs, rr⟩ := lst_at ok r e
      rw [rr.ints_of] at hs
      exact ⟨a, ns, rfl, hs, fun out p hp hw hn => k _ _ _ S (.new hn) (.newLst (Reps.ints out) hn (ok.fresh hn) (ok.nz hn)) (ok.new hn) (h out hp hw)⟩
  · exact h.elim
/-- the keys of a dict of the store, ints, few -/
def rSortKD : DRL := fun ds S Q => match ds with
  | [.ref p] => match S p with
    | some (.dK kvs) => ∃ ns : List Int, kvs.map (·.1) = ns.map Sum.inl ∧ ns.length < 64 ∧ ∀ out : List Int, out.Perm ns → out.Pairwise (· ≤ ·) → Q (.lst (out.map D.int)) S
    | _ => False
  | _ => False
theorem RKV.keys {κ : Type} {Z : List Addr} {H : Hp} {S : Store} : ∀ {kvs : List (κ × V)} {kds : List (κ × D)}, RKV K Z H S kvs kds → kvs.map (·.1) = kds.map (·.1)
  | _, _, .nil => rfl
  | _, _, .cons r t => by rw [List.map_cons, List.map_cons, r.1, RKV.keys t]
theorem d_sortK : CallD K T (fun xs H Q => ∃ (a : Addr) (kvs : List (L2.Key × V)) (ks : List Int), xs = [.ref a] ∧ Rd H a (.dK kvs) ∧ kvs.map (·.1) = ks.map Sum.inl ∧ ks.length < 64 ∧
    ∀ (ys : List Int) (p : Addr), ys.Perm ks → ys.Pairwise (· ≤ ·) → H p = none → Q (.ref p) (upd H p (.lst (ys.map V.int)))) rSortKD := by
  intro Z H S vs ds Qd Q ok rs h k
  unfold rSortKD at h
  split at h
  · split at h
    · rename_i kvs e
      obtain ⟨ns, e1, e2, h⟩ := h
      cases rs with
      | cons r t =>
        cases t
        cases r
        obtain ⟨ws, hw, rr⟩ := ok.obj _ _ e
        exact ⟨_, ws, ns, rfl, .inl hw, by rw [RKV.keys rr]; exact e1, e2, fun out p hp hw' hn => k _ _ _ S (.new hn) (.newLst (Reps.ints out) hn (ok.fresh hn) (ok.nz hn)) (ok.new hn) (h out hp hw')⟩
    · exact h.elim
  · exact h.elim

/-! ### dicts of the store -/
theorem RKV.any {κ : Type} [DecidableEq κ] {Z : List Addr} {H : Hp} {S : Store} (k : κ) : ∀ {kvs : List (κ × V)} {kds : List (κ × D)}, RKV K Z H S kvs kds → (kvs.any fun kv => decide (kv.1 = k)) = kds.any fun kv => decide (kv.1 = k)
  | _, _, .nil => rfl
  | _, _, .cons r t => by rw [List.any_cons, List.any_cons, r.1, RKV.any k t]
theorem RKV.repl {κ : Type} [DecidableEq κ] {Z : List Addr} {H : Hp} {S : Store} (k : κ) {y : V} {d : D} (ry : Rep K Z H S y d) : ∀ {kvs : List (κ × V)} {kds : List (κ × D)}, RKV K Z H S kvs kds →
    RKV K Z H S (kvs.map fun kv => if kv.1 = k then (kv.1, y) else kv) (kds.map fun kv => if kv.1 = k then (kv.1, d) else kv)
  | _, _, .nil => .nil
  | _, _, .cons (a := p) (b := q) r t => by
    refine .cons ?_ (RKV.repl k ry t)
    by_cases e : p.1 = k
    · have e' : q.1 = k := by rw [← r.1]; exact e
      show (if p.1 = k then (p.1, y) else p).1 = (if q.1 = k then (q.1, d) else q).1 ∧ Rep K Z H S (if p.1 = k then (p.1, y) else p).2 (if q.1 = k then (q.1, d) else q).2
      rw [if_pos e, if_pos e']
      exact ⟨r.1, ry⟩
    · have e' : ¬ q.1 = k := by rw [← r.1]; exact e
      show (if p.1 = k then (p.1, y) else p).1 = (if q.1 = k then (q.1, d) else q).1 ∧ Rep K Z H S (if p.1 = k then (p.1, y) else p).2 (if q.1 = k then (q.1, d) else q).2
      rw [if_neg e, if_neg e']
      exact r
theorem RKV.app {κ : Type} {Z : List Addr} {H : Hp} {S : Store} : ∀ {kvs : List (κ × V)} {kds : List (κ × D)} {kvs' : List (κ × V)} {kds' : List (κ × D)}, RKV K Z H S kvs kds → RKV K Z H S kvs' kds' → RKV K Z H S (kvs ++ kvs') (kds ++ kds')
  | _, _, _, _, .nil, h => h
  | _, _, _, _, .cons r t, h => .cons r (RKV.app t h)
theorem RKV.put {κ : Type} [DecidableEq κ] {Z : List Addr} {H : Hp} {S : Store} {k : κ} {y : V} {d : D} {kvs : List (κ × V)} {kds : List (κ × D)} (r : RKV K Z H S kvs kds) (ry : Rep K Z H S y d) : RKV K Z H S (putK kvs k y) (putD kds k d) := by
  unfold putK putD
  rw [RKV.any k r]
  split
  · exact RKV.repl k ry r
  · exact RKV.app r (.cons ⟨rfl, ry⟩ .nil)
theorem RKV.length {κ : Type} {Z : List Addr} {H : Hp} {S : Store} {kvs : List (κ × V)} {kds : List (κ × D)} (r : RKV K Z H S kvs kds) : kvs.length = kds.length := Paired.length r
def mergeD (kvs more : List (L2.Key × D)) : List (L2.Key × D) := more.foldl (fun acc kv => putD acc kv.1 kv.2) kvs
theorem RKV.merge {Z : List Addr} {H : Hp} {S : Store} : ∀ {more : List (L2.Key × V)} {moreD : List (L2.Key × D)} {kvs : List (L2.Key × V)} {kds : List (L2.Key × D)}, RKV K Z H S more moreD → RKV K Z H S kvs kds → RKV K Z H S (mergeK kvs more) (mergeD kds moreD)
  | _, _, _, _, .nil, h => h
  | _, _, _, _, .cons (a := p) (b := q) r t, h => by
    unfold mergeK mergeD
    rw [List.foldl_cons, List.foldl_cons]
    refine RKV.merge t ?_
    rw [r.1]
    exact h.put r.2
/-- d[k] = v -/
def dPut (A O I : DE) : DS := fun E τ S => A τ S fun d S1 => O τ S1 fun o S2 => I τ S2 fun i S3 => match o, keyOf i with
  | .ref p, some k => match S3 p with
    | some (.dK kvs) => kvs.length < sizeLine ∧ E.nx τ (ups S3 p (.dK (putD kvs k d)))
    | _ => False
  | _, _ => False
theorem s_dput {o i : Expr} {A O J : DE} {tpos : Pos} (hu : X.A.units + 1 < cLine) (ho : XE X T o O) (hi : XE X T i J) (he : XE X T e A) (hs : swapsWith e (some (.Subscript o i tpos)) pos.line X.env = pure false := by rfl) : XS X T (.Assign [.Subscript o i tpos] e pos) (dPut A O J) := by
  refine (ps_dput hu ho hi he hs).imp fun D σ H ⟨Z, τ, S, E, sl, ok, h, k⟩ => ?_
  refine ⟨Z, τ, S, _, sl, ok, h, fun v H1 d S1 x1 r1 ok1 q1 => ?_⟩
  refine ⟨Z, τ, S1, _, sl.ext x1, ok1, q1, fun vo H2 dd S2 x2 r2 ok2 q2 => ?_⟩
  refine ⟨Z, τ, S2, _, sl.ext (x1.trans x2), ok2, q2, fun vi H3 di S3 x3 r3 ok3 q3 => ?_⟩
  split at q3
  · rename_i p key ek
    split at q3
    · rename_i kvs e'
      cases r2
      obtain ⟨ws, hw', rr⟩ := ok3.obj p _ e'
      have x4 : Ext H3 S3 (upd H3 p (.dK (putK ws key v))) (ups S3 p (.dK (putD kvs key d))) := .put e'
      have ok4 : StOk X.K T Z (upd H3 p (.dK (putK ws key v))) (ups S3 p (.dK (putD kvs key d))) := ok3.put e' ⟨_, upd_same, (rr.put (r1.ext (x2.trans x3))).ext x4⟩
      have xx := x1.trans (x2.trans (x3.trans x4))
      exact ⟨p, _, rfl, by rw [r3.key ek]; exact DPut.k hw' (by rw [rr.length]; exact q3.1), k.nx σ _ τ _ xx (sl.ext xx) ok4 q3.2⟩
    · exact q3.elim
  · exact q3.elim
/-- d.get(k, x) -/
def dGet2 (A B C : DE) : DE := fun τ S Q => A τ S fun x S1 => match x with
  | .ref p => (match S1 p with
      | some (.dK _) => True
      | _ => False) ∧ B τ S1 fun y S2 => C τ S2 fun z S3 => match S3 p, keyOf y with
    | some (.dK kvs), some k => Q ((valD kvs k).getD z) S3
    | _, _ => False
  | _ => False
theorem x_get2 {o : Expr} {A B C : DE} {apos cpos : Pos} (hu : X.A.units + 1 < cLine) (ho : XE X T o A) (he : XE X T e B) (hf : XE X T f C) (m : M2 X o "get" apos e f cpos) : XE X T (.Call (.Attribute o "get" apos) [e, f] [] cpos) (dGet2 A B C) := by
  refine (pe_dget2 hu ho he hf m).imp fun σ H Q ⟨Z, τ, S, G, sl, ok, h, k⟩ => ?_
  refine ⟨Z, τ, S, _, sl, ok, h, fun v H1 d S1 x1 r1 ok1 q1 => ?_⟩
  cases d with
  | ref p =>
    cases r1
    obtain ⟨h0, q1⟩ := q1
    have isd : IsD H1 p := by
      split at h0
      · rename_i kvs e'
        obtain ⟨ws, hw, _⟩ := ok1.obj p _ e'
        exact .inl ⟨ws, .inl hw⟩
      · exact h0.elim
    refine ⟨p, rfl, isd, Z, τ, S1, _, sl.ext x1, ok1, q1, fun vy H2 y S2 x2 r2 ok2 q2 => ?_⟩
    refine ⟨Z, τ, S2, _, sl.ext (x1.trans x2), ok2, q2, fun vz H3 z S3 x3 r3 ok3 q3 => ?_⟩
    split at q3
    · rename_i kvs key e' ek
      obtain ⟨ws, hw, rr⟩ := ok3.obj p _ e'
      have xx := x1.trans (x2.trans x3)
      refine ⟨valV ws key, by rw [(r2.ext x3).key ek]; exact DGet.k hw, ?_⟩
      rcases rr.val (k := key) with ⟨h1, h2⟩ | ⟨v, d', h1, h2, rv⟩
      · rw [h2] at q3
        rw [h1]
        exact k _ H3 _ S3 xx r3 ok3 q3
      · rw [h2] at q3
        rw [h1]
        exact k _ H3 _ S3 xx rv ok3 q3
    · exact q3.elim
  | _ => exact q1.elim
/-- dict(t), t a tuple of pairs whose object is known -/
def pairsD : List D → Option (List (L2.Key × D))
  | [] => some []
  | .tup [k, v] :: ds => match keyOf k, pairsD ds with
    | some k, some r => some ((k, v) :: r)
    | _, _ => none
  | _ :: _ => none
theorem reps_pairs {Z : List Addr} {H : Hp} {S : Store} : ∀ {vs : List V} {ds : List D} {kds : List (L2.Key × D)}, Reps K Z H S vs ds → pairsD ds = some kds → ∃ (ps : List Addr) (kvs : List (L2.Key × V)), vs = ps.map V.ref ∧ Paired (fun p kv => SqT K H p [kV kv.1, kv.2]) ps kvs ∧ RKV K Z H S kvs kds
  | _, _, _, .nil, e => by cases e; exact ⟨[], [], rfl, .nil, .nil⟩
  | _, _, _, .cons (d := d) (ds := ds) r t, e => by
    unfold pairsD at e
    split at e
    · rename_i e0; cases e0
    · rename_i k v ds' e0
      cases e0
      split at e
      · rename_i k' r' e1 e2
        cases e
        obtain ⟨ps, kvs, h1, h2, h3⟩ := reps_pairs t e2
        obtain ⟨a, ws, rfl, ht, rr⟩ := r.tupW
        cases rr with
        | cons ra rr =>
          cases rr with
          | cons rb rr =>
            cases rr
            rw [ra.key e1] at ht
            exact ⟨a :: ps, _ :: kvs, by rw [h1]; rfl, .cons (b := (k', _)) ht h2, .cons ⟨rfl, rb⟩ h3⟩
      · cases e
    · cases e
theorem pairs_at {pins : List (Addr × Obj)} {σ : L2.St} {H : Hp} {s : Shared} (I : Inv X pins σ H s) : ∀ {ps : List Addr} {kvs : List (L2.Key × V)}, Paired (fun p kv => SqT X.K H p [kV kv.1, kv.2]) ps kvs →
    ∃ (prs : List (L2.Key × Value)) (ks : List (Value × Value)), KV kvs prs ∧ prs.length = ps.length ∧ ks.length = ps.length ∧
      ∀ (j : Nat) (b : Addr), ps[j]? = some b → ∃ (u v : Value) (k : L2.Key), ks[j]? = some (u, v) ∧ prs[j]? = some (k, v) ∧ IsTup s.heap b #[u, v] ∧ keyIs k u = true
  | _, _, .nil => ⟨[], [], .nil, rfl, rfl, fun j b e => by simp at e⟩
  | _, _, .cons (a := p) (b := kv) h t => by
    obtain ⟨prs, ks, r, h1, h2, h3⟩ := pairs_at I t
    obtain ⟨its, rv, ht, _⟩ := I.tuple h
    obtain ⟨u, y, ei, ru, ry⟩ := vals2 rv
    subst ei
    refine ⟨(kv.1, y) :: prs, (u, y) :: ks, .cons ⟨rfl, ry⟩ r, by simp [h1], by simp [h2], fun j b e => ?_⟩
    cases j with
    | zero =>
      have e' : p = b := by simpa using e
      subst e'
      exact ⟨u, y, kv.1, rfl, rfl, ht, kV_is (P := X.prog) (w := X.w) ru⟩
    | succ j =>
      obtain ⟨u', v', k', q1, q2, q3, q4⟩ := h3 j b (by simpa using e)
      exact ⟨u', v', k', by simpa using q1, by simpa using q2, q3, q4⟩
theorem ptp_obj {pins : List (Addr × Obj)} {σ : L2.St} {H : Hp} {s : Shared} {S : Store} {a : Addr} {vs : List V} (I : Inv X pins σ H s) (h : PtpAt X.K H S a vs) :
    ∃ (o : Obj) (its : List Value) (n : Nat), s.heap.get? a = some o ∧ o.cls = .type "tuple" ∧ o.dict = none ∧ o.data = .seq its.toArray n ∧ Vals vs its ∧ vs.length ≤ sizeLine := by
  rcases h with ⟨o, hq, hod, _⟩ | ⟨o, its, n, h1, h2, h3, h4, h5, h6⟩
  · obtain ⟨ho, hz, its, rv, o', ho', hc, n, hdat⟩ := (show ObjOk X.prog X.w H s.heap a (.frz o (.tup vs)) from I.hok a _ hq)
    rw [ho] at ho'
    cases ho'
    exact ⟨o, its, n, ho, hc, hod, hdat, rv, hz⟩
  · refine ⟨o, its.toList, n, I.kIn a o h1, h2, h6, by simpa using h3, h5, ?_⟩
    have q := h5.length
    simp only [Array.length_toList] at q
    omega
theorem call_dictT (hcalm : X.calm = true) : CallR X (.type "dict") (fun xs H Q => ∃ (a : Addr) (S : Store) (ps : List Addr) (kvs : List (L2.Key × V)), xs = [.ref a] ∧ PtpAt X.K H S a (ps.map V.ref) ∧ Paired (fun p kv => SqT X.K H p [kV kv.1, kv.2]) ps kvs ∧
    ∀ p, H p = none → Q (.ref p) (upd H p (.dK (mergeK [] kvs)))) := by
  intro pins s σ H xs us Q I r ⟨a, S, ps, kvs, ex, hq, hp, q⟩
  subst ex
  obtain ⟨u, eu, rx⟩ := vals1 r
  subst eu
  cases rx
  obtain ⟨o, its, n, ho, hc, hod, hdat, rv, hz⟩ := ptp_obj I hq
  have ei := refs_at rv
  subst ei
  rw [List.length_map] at hz
  obtain ⟨prs, ks, rel, hl, kl, hx⟩ := pairs_at I hp
  have at_ : ∀ (j : Nat) (u v : Value), ks[j]? = some (u, v) → ∃ b k, ps[j]? = some b ∧ prs[j]? = some (k, v) ∧ IsTup s.heap b #[u, v] ∧ keyIs k u = true := by
    intro j u v e
    have hj : j < ps.length := by rw [← kl]; exact (List.getElem?_eq_some_iff.mp e).1
    obtain ⟨u', v', k, e1, e2, e3, e4⟩ := hx j ps[j] (by simp [hj])
    rw [e] at e1
    cases e1
    exact ⟨ps[j], k, by simp [hj], e2, e3, e4⟩
  have P := PairArg.tuple (prog := X.prog) (w := X.w) a (ps.map Value.ref).toArray (fun j => ps.getD j 0) ks
  refine PySem.call_dict_pairs (knd := mixKind X.prog X.w) (kvs := prs) P (I.ok.hd hcalm) ⟨⟨o, n, ho, hc, hod, by simpa using hdat⟩, by simp [kl], fun j u v e => ?_⟩ ⟨by rw [hl, kl], fun j u v e => ?_⟩ (by rw [kl]; exact hz) fun h' tk hd' kk => ?_
  · obtain ⟨b, k, e1, e2, e3, _⟩ := at_ j u v e
    refine ⟨by simp [e1], .inl ?_⟩
    show IsTup s.heap (ps.getD j 0) _
    rw [List.getD_eq_getElem?_getD, e1]
    exact e3
  · obtain ⟨b, k, e1, e2, e3, e4⟩ := at_ j u v e
    exact ⟨k, e2, e4⟩
  · have hm : (s.heap.objs.size == sysModules) = false := beq_eq_false_iff_ne.mpr (Nat.ne_of_gt I.big)
    have hlen : (mergeK [] kvs).length ≤ sizeLine := by
      have h1 := length_mergeK kvs []
      rw [List.length_nil, Nat.zero_add, rel.length, hl] at h1
      exact Nat.le_trans h1 hz
    have ob : ObjOk X.prog X.w (upd H s.heap.objs.size (.dK (mergeK [] kvs))) h' s.heap.objs.size (.dK (mergeK [] kvs)) := ⟨hlen, hm, merged [] prs, KV.merge rel .nil, hd'⟩
    exact ⟨.ref s.heap.objs.size, _, I.laid (t' := tk) (fun b o e => kk b o (by simp) e) (Nat.le_refl _) ob, rfl, q _ (I.hok.fresh (Nat.le_refl _))⟩
def rDictD : DRL := fun ds S Q => match ds with
  | [.ptp es] => match pairsD es with
    | some kds => ∀ p, S p = none → Q (.ref p) (ups S p (.dK (mergeD [] kds)))
    | none => False
  | _ => False
theorem d_dict : CallD K T (fun xs H Q => ∃ (a : Addr) (S : Store) (ps : List Addr) (kvs : List (L2.Key × V)), xs = [.ref a] ∧ PtpAt K H S a (ps.map V.ref) ∧ Paired (fun p kv => SqT K H p [kV kv.1, kv.2]) ps kvs ∧
    ∀ p, H p = none → Q (.ref p) (upd H p (.dK (mergeK [] kvs)))) rDictD := by
  intro Z H S vs ds Qd Q ok rs h k
  unfold rDictD at h
  split at h
  · split at h
    · rename_i kds e
      cases rs with
      | cons r t =>
        cases t
        cases r with
        | ptp ht rr =>
          obtain ⟨ps, kvs, e1, e2, e3⟩ := reps_pairs rr e
          subst e1
          refine ⟨_, S, ps, kvs, rfl, ht, e2, fun p hp => ?_⟩
          have m : RKV K Z H S (mergeK [] kvs) (mergeD [] kds) := RKV.merge e3 .nil
          exact k _ _ _ _ (.newS hp) (.ref p) (ok.newS (o := .dK (mergeD [] kds)) hp ⟨_, upd_same, m.ext (.newS hp)⟩) (h p (ok.fresh hp))
    · exact h.elim
  · exact h.elim
end
end Dl

set_option Elab.async false
set_option linter.all false
set_option maxRecDepth 100000
set_option maxHeartbeats 2000000
namespace Dl
open PySem PySem.Spec PyProof.Rows L2 LamX
section
variable {X : Cx} {K : PySem.W.Frag} {T : Tb} {a b c e f : Expr} {es : List Expr} {pos p2 : Pos}

/-! ### a written dict with text keys: get -/
def KAns (K : PySem.W.Frag) (d : Addr) (z : Str) : Option D → Prop
  | some dd => ∃ (u : Value) (v : V), PySem.W.nsIn K d z = some (some u) ∧ RelV v u ∧ ∀ Z H S, Rep K Z H S v dd
  | none => PySem.W.nsIn K d z = some none
/-- G.get(k, x), G a written dict at d: its known answers tb -/
def dKGet (tb : List (Str × Option D)) (B C : DE) : DE := fun τ S Q => B τ S fun y S1 => C τ S1 fun z S2 => match y with
  | .str k => match tb.lookup k with
    | some (some dd) => Q dd S2
    | some none => Q z S2
    | none => False
  | _ => False
theorem x_kget {x : Str} {B C : DE} {d : Addr} {ee : Array DictEntry} {n : Nat} {tb : List (Str × Option D)} {p apos cpos : Pos} (hg : Gl X x) (hm : X.mg x = some (.ref d)) (KD : KDict X.K X.w d ee n) (hb : ∀ p ∈ tb, KAns X.K d p.1 p.2) (he : XE X T e B) (hf : XE X T f C)
    (m : M2 X (.Name x p) "get" apos e f cpos) (hdb : (x == ("__debug__" : Str)) = false := by decide) : XE X T (.Call (.Attribute (.Name x p) "get" apos) [e, f] [] cpos) (dKGet tb B C) := by
  refine ⟨fun pins s σ H Q I ⟨Z, τ, S, G, sl, ok, h, k⟩ => ?_⟩
  have mo : s.heap.MapOf (PySem.strKind X.prog X.w) d (fun k => PySem.findBy Value.isStrOf ee k) := PySem.W.mapOf_K I.kIn KD.at_ KD.lit
  refine wpAny_Call_method m.base m.few m.line PySem.F.plainAttrs_dict PySem.F.slot_dict_get PySem.F.type_dict_get (ld_glob I hg hm ⟨mo.typeIs, fun y ey => ?_, ?_⟩ hdb)
  · cases ey
    exact ⟨_, I.kIn _ _ KD.at_, rfl⟩
  rw [m.trees]
  refine Calls.callWith_builtin rfl (Calls.evalArgs_plain (Calls.spliced_cons (thn (he.go I sl ok h) fun iv s2 ⟨v2, H2, d2, S2, I2, r2, x2, rd2, ok2, q2⟩ =>
    Calls.spliced_cons (thn (hf.go I2 (sl.ext x2) ok2 q2) fun fv s3 ⟨v3, H3, d3, S3, I3, r3, x3, rd3, ok3, q3⟩ => Calls.spliced_nil ?_))))
  have mo3 : s3.heap.MapOf (PySem.strKind X.prog X.w) d (fun k => PySem.findBy Value.isStrOf ee k) := PySem.W.mapOf_K I3.kIn KD.at_ KD.lit
  cases d2 with
  | str kk =>
    have ek := rd2.str'
    subst ek
    obtain ⟨t, rfl⟩ := r2
    refine call_meetsIn PySem.F.slot_dict_get mo3.typeIs PySem.F.entry_dict_get (PySem.F.args_dict_get_3 _ _ _) (meets_dict_get_default (PySem.strKind X.prog X.w) d (PySem.strKind_is X.prog X.w kk t) KD.low fv) ⟨_, mo3, ?_⟩
    have q3 : (match tb.lookup kk with | some (some dd) => G dd S3 | some none => G d3 S3 | none => False) := q3
    split at q3
    · rename_i dd el
      obtain ⟨u, v, e1, e2, e3⟩ := hb _ (PySem.mem_of_lookup el)
      rw [PySem.W.find_K KD.at_ e1]
      exact ⟨v, H3, I3.tok _, e2, k v H3 dd S3 (x2.trans x3) (e3 Z H3 S3) ok3 q3⟩
    · rename_i el
      have e1 := hb _ (PySem.mem_of_lookup el)
      rw [PySem.W.find_K KD.at_ e1]
      exact ⟨v3, H3, I3.tok _, r3, k v3 H3 d3 S3 (x2.trans x3) rd3 ok3 q3⟩
    · exact q3.elim
  | _ => exact q3.elim

/-! ### {k: v, ..} -/
def dPairs : List (DE × DE) → DSt → Store → (List (D × D) → Store → Prop) → Prop
  | [], _, S, Q => Q [] S
  | (A, B) :: r, τ, S, Q => A τ S fun k S1 => B τ S1 fun v S2 => dPairs r τ S2 fun ps S3 => Q ((k, v) :: ps) S3
def lfPs (K : PySem.W.Frag) (T : Tb) : List (DE × DE) → List (TE × TE)
  | [] => []
  | (A, B) :: r => (lf K T A, lf K T B) :: lfPs K T r
abbrev XPs (X : Cx) (T : Tb) (pos : Pos) (keys : List (Option Expr)) (values : List Expr) (trs : List (DE × DE)) : Prop := PPs X pos keys values (lfPs X.K T trs)
theorem xp_nil : XPs X T pos [] [] [] := pps_nil
theorem xp_cons {A B : DE} {trs : List (DE × DE)} {ks : List (Option Expr)} {vs : List Expr} (ha : XE X T a A) (hb : XE X T b B) (hr : XPs X T pos ks vs trs) : XPs X T pos (some a :: ks) (b :: vs) ((A, B) :: trs) := pps_cons ha hb hr
def keyPairs : List (D × D) → Option (List (L2.Key × D))
  | [] => some []
  | (k, v) :: r => match keyOf k, keyPairs r with
    | some k, some r => some ((k, v) :: r)
    | _, _ => none
abbrev RVV (K : PySem.W.Frag) (Z : List Addr) (H : Hp) (S : Store) : List (V × V) → List (D × D) → Prop := Paired fun p q => Rep K Z H S p.1 q.1 ∧ Rep K Z H S p.2 q.2
theorem lf_pairs {Z : List Addr} {Q : List (V × V) → Hp → Prop} : ∀ {trs : List (DE × DE)} {σ : L2.St} {H : Hp} {τ : DSt} {S : Store} {G : List (D × D) → Store → Prop}, Slots K Z H S σ τ → StOk K T Z H S → dPairs trs τ S G →
    (∀ ps H' pds S', Ext H S H' S' → RVV K Z H' S' ps pds → StOk K T Z H' S' → G pds S' → Q ps H') → tPairs (lfPs K T trs) σ H Q
  | [], σ, H, τ, S, G, sl, ok, h, k => k [] H [] S (.refl _ _) .nil ok h
  | (A, B) :: r, σ, H, τ, S, G, sl, ok, h, k => ⟨Z, τ, S, _, sl, ok, h, fun v1 H1 d1 S1 x1 r1 ok1 h1 => ⟨Z, τ, S1, _, sl.ext x1, ok1, h1, fun v2 H2 d2 S2 x2 r2 ok2 h2 =>
      lf_pairs (trs := r) (G := fun ps S3 => G ((d1, d2) :: ps) S3) (sl.ext (x1.trans x2)) ok2 h2 fun ps H3 pds S3 x3 r3 ok3 h3 => k _ H3 _ S3 (x1.trans (x2.trans x3)) (.cons ⟨r1.ext (x2.trans x3), r2.ext x3⟩ r3) ok3 h3⟩⟩
theorem key_pairs {Z : List Addr} {H : Hp} {S : Store} : ∀ {ps : List (V × V)} {pds : List (D × D)} {kds : List (L2.Key × D)}, RVV K Z H S ps pds → keyPairs pds = some kds → ∃ kvs : List (L2.Key × V), ps = kvs.map (fun kv => (kV kv.1, kv.2)) ∧ RKV K Z H S kvs kds ∧ kvs.length = kds.length
  | _, _, _, .nil, e => by cases e; exact ⟨[], rfl, .nil, rfl⟩
  | _, _, _, .cons (a := p) (b := q) r t, e => by
    obtain ⟨qk, qv⟩ := q
    unfold keyPairs at e
    split at e
    · rename_i k' r' e1 e2
      cases e
      obtain ⟨kvs, h1, h2, h3⟩ := key_pairs t e2
      refine ⟨(k', p.2) :: kvs, ?_, .cons ⟨rfl, r.2⟩ h2, by simp [h3]⟩
      rw [h1, List.map_cons]
      have z := r.1.key e1
      show p :: _ = (kV k', p.2) :: _
      rw [← z]
    · cases e
def dDisp (trs : List (DE × DE)) : DE := fun τ S Q => dPairs trs τ S fun pds S1 => match keyPairs pds with
  | some kds => kds.length ≤ 15 ∧ ∀ p, S1 p = none → Q (.ref p) (ups S1 p (.dK (mergeD [] kds)))
  | none => False
theorem x_disp {keys : List (Option Expr)} {values : List Expr} {trs : List (DE × DE)} (h : XPs X T pos keys values trs) (hall : keys.all (·.isSome) = true) (hl : keys.length = values.length) (h0 : keys ≠ []) (h15 : keys.length ≤ 15) : XE X T (.Dict keys values pos) (dDisp trs) := by
  refine (pe_disp h hall hl h0 h15).imp fun σ H Q ⟨Z, τ, S, G, sl, ok, h, k⟩ => ?_
  intro p hp
  have xp : Ext H S (upd H p (.dK [])) S := .new hp
  refine lf_pairs (Z := Z) (sl.ext xp) (ok.new hp) h fun ps H1 pds S1 x1 r1 ok1 q => ?_
  have e1 : H1 p = some (.dK []) := x1.eq p _ (ok.fresh hp) upd_same fun ps z => (by cases z)
  have n1 : S1 p = none := x1.hid p _ (ok.fresh hp) upd_same fun ps z => (by cases z)
  split at q
  · rename_i kds ek
    obtain ⟨kvs, h1, h2, h3⟩ := key_pairs r1 ek
    refine ⟨e1, kvs, h1, by rw [h3]; exact q.1, ?_⟩
    have m : RKV X.K Z H1 S1 (mergeK [] kvs) (mergeD [] kds) := RKV.merge h2 .nil
    have nz : p ∉ Z := fun z => by
      obtain ⟨_, vs, e⟩ := ok1.rsv p z
      rw [e1] at e; cases e
    -- the dict, hidden so far, comes into the store
    have x2 : Ext H S (upd H1 p (.dK (mergeK [] kvs))) (ups S1 p (.dK (mergeD [] kds))) := by
      refine ⟨fun a o n e nt => ?_⟩
      have ne : a ≠ p := ne_of_none e hp
      obtain ⟨q1, q2⟩ := (xp.trans x1).st a o n e nt
      exact ⟨by rw [ups_ne ne]; exact q1, by rw [upd_ne ne]; exact q2⟩
    obtain ⟨xx, ok2⟩ := show_new (u := .dK (mergeK [] kvs)) (o := .dK (mergeD [] kds)) ok1 e1 n1 nz ⟨fun ps z => (by cases z), fun c q => codeO_not.2.1 _⟩
    exact k _ _ _ _ x2 (.ref p) (ok2 fun f fs => ⟨_, upd_same, RKV.map f m⟩) (q.2 p n1)
  · exact q.elim
where
  show_new {Z : List Addr} {H : Hp} {S : Store} {p : Addr} {u : HO} {o : MO} (ok : StOk X.K T Z H S) (e : H p = some (.dK [])) (n : S p = none) (nz : p ∉ Z) (nt : (∀ ps, HO.dK [] ≠ .tbl ps) ∧ ∀ c q, HO.dK [] ≠ CodeO c q) :
      True ∧ (((∀ v d, Rep X.K Z H S v d → Rep X.K Z (upd H p u) (ups S p o) v d) → (∀ vs ds, Reps X.K Z H S vs ds → Reps X.K Z (upd H p u) (ups S p o) vs ds) → MOk X.K Z (upd H p u) (ups S p o) p o) → StOk X.K T Z (upd H p u) (ups S p o)) := by
    refine ⟨trivial, fun m => ?_⟩
    have r1 : ∀ v d, Rep X.K Z H S v d → Rep X.K Z (upd H p u) (ups S p o) v d := fun v d r => rep_move e n r
    have r2 : ∀ vs ds, Reps X.K Z H S vs ds → Reps X.K Z (upd H p u) (ups S p o) vs ds := fun v d r => reps_move e n r
    refine ⟨tabs_upd ok.tabs (.inr ⟨_, e, nt⟩), fun z hz => ?_, fun b o' eb => ?_⟩
    · obtain ⟨q1, vs, q2⟩ := ok.rsv z hz
      have ne : z ≠ p := fun q => nz (by rw [← q]; exact hz)
      exact ⟨by rw [ups_ne ne]; exact q1, vs, by rw [upd_ne ne]; exact q2⟩
    · by_cases hb : b = p
      · subst hb; rw [ups_same] at eb; cases eb; exact m r1 r2
      · rw [ups_ne hb] at eb
        exact (ok.obj b o' eb).map r1 r2 (upd_ne hb)
  rep_move {Z : List Addr} {H : Hp} {S : Store} {p : Addr} {u : HO} {o : MO} (e : H p = some (.dK [])) (n : S p = none) : ∀ {v : V} {d : D}, Rep X.K Z H S v d → Rep X.K Z (upd H p u) (ups S p o) v d
    | _, _, .non => .non
    | _, _, .bl b => .bl b
    | _, _, .int i => .int i
    | _, _, .str z => .str z
    | _, _, .ref a => .ref a
    | _, _, .tup (a := a) h r => .tup (h.imp (fun z => by
        have ne : a ≠ p := fun q => by
          rcases z.1 with w | ⟨o, w⟩
          · rw [q, e] at w; cases w
          · rw [q, e] at w; cases w
        refine ⟨?_, by rw [ups_ne ne]; exact z.2⟩
        rcases z.1 with w | ⟨o, w⟩
        · exact .inl (by rw [upd_ne ne]; exact w)
        · exact .inr ⟨o, by rw [upd_ne ne]; exact w⟩) id) (reps_move e n r)
    | _, _, .ptp (a := a) h r => .ptp (h.imp (fun ⟨o, w, z2, z3⟩ => by
        have ne : a ≠ p := fun q => by rw [q, e] at w; cases w
        exact ⟨o, by rw [upd_ne ne]; exact w, z2, by rw [ups_ne ne]; exact z3⟩) id) (reps_move e n r)
    | _, _, .lst (a := a) h z nz r => by
        have ne : a ≠ p := fun q => by rw [q, e] at h; cases h
        exact .lst (by rw [upd_ne ne]; exact h) (by rw [ups_ne ne]; exact z) nz (reps_move e n r)
    | _, _, .scr (a := a) h => .scr (h.imp (fun z => by
        have ne : a ≠ p := fun q => by
          rcases z.1 with w | ⟨o, w⟩
          · rw [q, e] at w; cases w
          · rw [q, e] at w; cases w
        refine ⟨?_, by rw [ups_ne ne]; exact z.2.1, z.2.2⟩
        rcases z.1 with w | ⟨o, w⟩
        · exact .inl (by rw [upd_ne ne]; exact w)
        · exact .inr ⟨o, by rw [upd_ne ne]; exact w⟩) id)
    | _, _, .fn h r => .fn (h.mv fun b o' n q _ _ l => by
        have ne : b ≠ p := fun z => l (by rw [z, e] at q; exact (Option.some.inj q).symm)
        exact ⟨by rw [ups_ne ne]; exact n, by rw [upd_ne ne]; exact q⟩) (reps_move e n r)
    | _, _, .exc0 => .exc0
    | _, _, .exc1 (b := b) h z r => by
        have ne : b ≠ p := fun q => by rw [q, e] at h; cases h
        exact .exc1 (by rw [upd_ne ne]; exact h) (by rw [ups_ne ne]; exact z) (rep_move e n r)
  reps_move {Z : List Addr} {H : Hp} {S : Store} {p : Addr} {u : HO} {o : MO} (e : H p = some (.dK [])) (n : S p = none) : ∀ {vs : List V} {ds : List D}, Reps X.K Z H S vs ds → Reps X.K Z (upd H p u) (ups S p o) vs ds
    | _, _, .nil => .nil
    | _, _, .cons r t => .cons (rep_move e n r) (reps_move e n t)

/-! ### a list of the store, from now on by what it holds -/
def hide (S : Store) (p : Addr) : Store := fun a => if a = p then none else S a
theorem hide_sub (S : Store) (p : Addr) : Sub (hide S p) S := fun a o e => by
  unfold hide at e
  split at e
  · cases e
  · exact e
theorem hide_ups {S : Store} {p : Addr} {o : MO} (h : S p = none) : hide (ups S p o) p = S := by
  funext a
  unfold hide ups
  by_cases e : a = p
  · rw [if_pos e, e, h]
  · rw [if_neg e, if_neg e]
def dFrz (A : DE) : DE := fun τ S Q => A τ S fun d S1 => match d with
  | .ref p => match S1 p with
    | some (.lst es) => Q (.lst es) (hide S1 p)
    | _ => False
  | d => Q d S1
theorem x_frz {A : DE} (h : XE X T e A) : XE X T e (dFrz A) := by
  refine h.imp fun σ H Q ⟨Z, τ, S, G, sl, ok, h, k⟩ => ⟨Z, τ, S, _, sl, ok, h, fun v H1 d S1 x1 r1 ok1 q => ?_⟩
  split at q
  · rename_i p
    split at q
    · rename_i es' e1
      cases r1
      obtain ⟨ws, hw, rr⟩ := ok1.obj p _ e1
      have sb := hide_sub S1 p
      have nz : p ∉ Z := fun z => by
        rw [(ok1.rsv p z).1] at e1; cases e1
      exact k _ H1 _ _ (x1.sub sb) (.lst hw (by unfold hide; rw [if_pos rfl]) nz (rr.sub sb)) (ok1.sub sb) q
    · exact q.elim
  · exact k v H1 _ S1 x1 r1 ok1 q
end

/-! ### defs -/
/-- a def's promise over the data -/
abbrev DSp := List D → Store → DK → Prop
def lsp (K : PySem.W.Frag) (T : Tb) (dsp : DSp) : Sp := fun vs H Q _ => ∃ Z ds S R, Reps K Z H S vs ds ∧ StOk K T Z H S ∧ dsp ds S R ∧ ∀ v H' d S', Ext H S H' S' → Rep K Z H' S' v d → StOk K T Z H' S' → R d S' → Q v H'
def startD (N : List Str) (ds : List D) : DSt := ds.map some ++ List.replicate (N.length - ds.length) none
theorem slots_start {K : PySem.W.Frag} {Z : List Addr} {H : Hp} {S : Store} {N : List Str} {vs : List V} {ds : List D} (r : Reps K Z H S vs ds) : Slots K Z H S (start N vs) (startD N ds) := by
  unfold L2.start startD
  refine ⟨by simp [r.length], fun i d h => ?_⟩
  by_cases hi : i < ds.length
  · rw [List.getElem?_append_left (by simpa using hi), List.getElem?_map] at h
    cases e : ds[i]? with
    | none => rw [e] at h; cases h
    | some d' =>
      rw [e] at h
      have h := Option.some.inj (Option.some.inj h)
      subst h
      obtain ⟨v, hv, rv⟩ := r.get e
      exact ⟨v, by rw [List.getElem?_append_left (by simp [r.length]; exact hi), List.getElem?_map, hv]; rfl, rv⟩
  · rw [List.getElem?_append_right (by simpa using hi), List.getElem?_replicate] at h
    split at h <;> cases h
/-- what a body is to reach -/
abbrev ends (R : DK) : DEnds := { nx := fun _ S' => ∃ S'', Sub S'' S' ∧ R .non S'', rt := fun d S' => ∃ S'', Sub S'' S' ∧ R d S'' }
theorem eok_ends {K : PySem.W.Frag} {T : Tb} {Z : List Addr} {H : Hp} {S : Store} {Q : VK} {R : DK} (k : ∀ v H' d S', Ext H S H' S' → Rep K Z H' S' v d → StOk K T Z H' S' → R d S' → Q v H') : EOk K T Z H S { nx := fun _ H' => Q .non H', rt := Q } (ends R) :=
  ⟨fun σ H' τ S' x sl ok ⟨S'', sb, q⟩ => k _ H' _ S'' (x.sub sb) .non (ok.sub sb) q, fun v H' d S' x r ok ⟨S'', sb, q⟩ => k v H' d S'' (x.sub sb) (r.sub sb) (ok.sub sb) q, fun _ _ _ _ _ _ _ q => q.elim, fun _ _ _ _ _ _ _ q => q.elim⟩
section
variable {P : Program} {w : World} {K : PySem.W.Frag} {mg : Str → Option Value} {base : Heap} {T : Tb}
/-- a def as it stands: its name, its promise -/
structure DFn (P : Program) (w : World) (K : PySem.W.Frag) (mg : Str → Option Value) (base : Heap) (T : Tb) (k : Nat) (x : Str) (dsp : DSp) : Prop where
  ex : ∃ (fa : Addr) (fd : FuncData) (ps : List Str), mg x = some (.ref fa) ∧ PySem.W.keepIn K (.ref fa) = true ∧ Binds K fd ps [] ∧ FnOk P w K mg base CX0 k fa fd ps (lsp K T dsp)
theorem DFn.mono {j k : Nat} {x : Str} {dsp : DSp} (F : DFn P w K mg base T j x dsp) (h : j ≤ k) : DFn P w K mg base T k x dsp := let ⟨a, b, c, d, e, f, g⟩ := F.ex; ⟨a, b, c, d, e, f, g.mono h⟩
/-- THE RULE: a def by its body -/
theorem fn_d {x qual : Str} {st : Stmt} {fa : Addr} {fd : FuncData} {N ps : List Str} {k : Nat} {dsp : DSp} (F : Fun K x qual st fa fd) (S : FnScope N ps (defScope st)) (len : ∀ ds S Q, dsp ds S Q → ds.length = ps.length)
    (hbody : ∀ (cdv : Value) (A : Around) (outer : List Env) (s : Shared) (H : Hp) (E : XK), Room k (A.deeper (envOfC qual (defScope st) s.heap.objs.size fa cdv)) →
      ∃ Θ : DS, XSs (cxOf CX0 P w K mg base N qual (defScope st) fa cdv A outer s H E).nox T (defBody st) Θ ∧ ∀ ds S R, dsp ds S R → Θ (ends R) (startD N ds) S) : FnOk P w K mg base CX0 (k + 1) fa fd ps (lsp K T dsp) := by
  refine F.ok S (fun vs H Q E ⟨Z, ds, S, R, r, ok, h, _⟩ => by rw [r.length]; exact len ds S R h) fun cdv A outer s H vs Q E hr ⟨Z, ds, S0, R, r, ok, h, kk⟩ => ?_
  obtain ⟨Θ, h1, h2⟩ := hbody cdv A outer s H E hr
  exact ⟨_, h1, Z, startD N ds, S0, ends R, slots_start r, ok, h2 ds S0 R h, eok_ends kk⟩
/-- .. whose code object is known (a lambda is made in it) -/
theorem fn_dc {x qual : Str} {st : Stmt} {fa c : Addr} {oc : Value} {od an : Option Addr} {osl : Array (Option Value)} {kV doc pm ct : Value} {N ps : List Str} {k : Nat} {dsp : DSp}
    (lk : K.lookup fa = some ⟨oc, od, .func (PySem.W.fnOf x qual (defArgs st) (defBody st) (defScope st) .none kV doc pm an (.ref c) ct), osl⟩) (hcd : PySem.W.codeIn K (.ref c) qual = true) (S : FnScope N ps (defScope st)) (len : ∀ ds S Q, dsp ds S Q → ds.length = ps.length)
    (hbody : ∀ (A : Around) (outer : List Env) (s : Shared) (H : Hp) (E : XK), Room k (A.deeper (envOfC qual (defScope st) s.heap.objs.size fa (.ref c))) →
      ∃ Θ : DS, XSs (cxOf CX0 P w K mg base N qual (defScope st) fa (.ref c) A outer s H E).nox T (defBody st) Θ ∧ ∀ ds S R, dsp ds S R → Θ (ends R) (startD N ds) S) :
    FnOk P w K mg base CX0 (k + 1) fa (PySem.W.fnOf x qual (defArgs st) (defBody st) (defScope st) .none kV doc pm an (.ref c) ct) ps (lsp K T dsp) := by
  refine fn_of lk hcd S (fun vs H Q E ⟨Z, ds, S, R, r, ok, h, _⟩ => by rw [r.length]; exact len ds S R h) fun A outer s H vs Q E hr ⟨Z, ds, S0, R, r, ok, h, kk⟩ => ?_
  obtain ⟨Θ, h1, h2⟩ := hbody A outer s H E hr
  exact ⟨_, h1.nox, Z, startD N ds, S0, ends R, slots_start r, ok, h2 ds S0 R h, eok_ends kk⟩
end
section
variable {X : Cx} {T : Tb} {e : Expr} {es : List Expr} {p pos : Pos} {x : Str} {k : Nat} {dsp : DSp}
def dCall (dsp : DSp) (A : DA) : DE := fun τ S Q => A τ S fun ds S1 => dsp ds S1 Q
theorem lf_call {A : DA} (σ : L2.St) (H : Hp) (Q : VK) (h : lf X.K T (dCall dsp A) σ H Q) : tCall (lsp X.K T dsp) [] E0 (lfA X.K T A) σ H Q := by
  obtain ⟨Z, τ, S, G, sl, ok, h, kk⟩ := h
  refine ⟨Z, τ, S, _, sl, ok, h, fun vs H1 ds S1 x1 r1 ok1 h1 => ?_⟩
  show lsp X.K T dsp (vs ++ []) H1 Q E0
  rw [List.append_nil]
  exact ⟨Z, ds, S1, G, r1, ok1, h1, fun v H' d S' x => kk v H' d S' (x1.trans x)⟩
theorem x_call {A : DA} (F : DFn X.prog X.w X.K X.mg X.base T k x dsp) (hr : Room k X.A) (hg : Gl X x) (ha : XA X T (e :: es) A) (hdb : (x == ("__debug__" : Str)) = false := by decide) (he : starEach (e :: es) X.env = (false, eval e X.env) :: starEach es X.env := by rfl)
    (hpl : (backTo pos (starEach es X.env)).any (·.1) = false := by rfl) : XE X T (.Call (.Name x p) (e :: es) [] pos) (dCall dsp A) := by
  obtain ⟨fa, fd, ps, hm, hk, hb, F⟩ := F.ex
  exact (pe_call F hr hg hm hk hb .nil pass0 ha hdb he hpl).imp fun σ H Q h => lf_call σ H Q h
end

/-! ### the end of a law's row -/
def spLaw : DSp := fun ds S R => ∃ ns : List Int, ds = [.scr ns] ∧ ns.length ≤ 63 ∧ (∀ z ∈ ns, Builtin.Int.intBits z ≤ 1048576) ∧ ∀ S', R (.bl true) S'
theorem walk_d {l : PySem.W.OpenLaw} {k : Nat} {q : Program} {loose : List Str} {XP : (Str → Option Value) → Heap → Prop} {YP : World → Heap → Prop} {d : DefRec} {K : Params → PySem.W.Frag} {x : Str}
    (hn : l.most = some 63) (hdf : d.params.defaults = []) (hr : Room k callerA) (hY : ∀ (w : World) (h : Heap), YP w h → (K w.params).In h)
    (F : ∀ (w : World) (mg : Str → Option Value) (fa : Addr) (h : Heap), (K w.params).In h → h.Ns mainGlobals mg → mg d.name = some (.ref fa) →
      (∀ (y : Str) (c P : Addr), ((PyProof.Rows.recsOf q).find? (fun e => e.name == y)).isSome = true → PySem.W.tabIn (K w.params) y = some (c, P) → PySem.W.CodeHd h c P ∧ h.get? P = some { cls := .none, data := .fields #[] }) →
      ∃ (fd : FuncData) (cs : List (Addr × Addr × Str)), (∀ p ∈ cs, h.get? p.2.1 = some { cls := .none, data := .fields #[] }) ∧ (∀ p ∈ cs, (K w.params).lookup p.2.1 = none) ∧ (∀ p ∈ cs, PySem.W.CodeHd h p.1 p.2.1) ∧
        (∀ (s : Shared) (u : Value), BindsTo s fd ⟨[u], []⟩ [(x, u)]) ∧ ∀ base : Heap, (K w.params).In base → base.Ns mainGlobals mg → (∀ p ∈ cs, TabB base mg p.1 p.2.1) → FnOk l.prog w (K w.params) mg base CX0 k fa fd [x] (lsp (K w.params) (cs.map fun p => p.2) spLaw)) :
    PySem.W.WalkO q loose XP YP l.row.toRowW d [] (fun f vs => PySem.call f vs) := by
  refine Att.attach_callB hn hdf fun w s₀ s₁ mg mb fa o pm cd doc a vs ns G Y ho hd hcd hmg hobj hints hlen hbits hg => ?_
  have KX := hY w _ Y
  obtain ⟨fd, cs, hT, nT, C, hb, hF⟩ := F w mg fa _ KX G.T.g hmg fun y c P hy ht => by
    obtain ⟨dd, hdd⟩ := Option.isSome_iff_exists.mp hy
    exact PySem.W.tab_of G.T KX hdd ht
  have i : ∀ p ∈ cs.map (fun p => (p.1, p.2.1)), ∃ z ∈ cs, p = (z.1, z.2.1) := fun p hp => let ⟨z, hz, e⟩ := List.mem_map.mp hp; ⟨z, hz, e.symm⟩
  refine law_callTs (cs := cs.map fun p => (p.1, p.2.1)) (CX := CX0) KX G.T.g G.T.b G.T.builtins G.T.nolimit hg (fun p hp => ?_) (fun p hp => ?_) (fun p hp => ?_) G.T.bmain hobj hints (Nat.le_trans hlen (by rw [sizeLine_eq]; decide)) hr
    (fun base h1 h2 h3 => hF base h1 h2 fun p hp => h3 (p.1, p.2.1) (List.mem_map.mpr ⟨p, hp, rfl⟩)) hb (fun H hH hS => ?_) fun H e s' z => z
  · obtain ⟨z, hz, e⟩ := i p hp; rw [e]; exact hT z hz
  · obtain ⟨z, hz, e⟩ := i p hp; rw [e]; exact nT z hz
  · obtain ⟨z, hz, e⟩ := i p hp; rw [e]; exact C z hz
  · refine ⟨[], [.scr ns], fun _ => none, fun d _ => d = .bl true, .cons (.scr ?_) .nil, ⟨fun p hp => ?_, fun z hz => (by cases hz), fun a o e => (by cases e)⟩, ⟨ns, rfl, hlen, hbits, fun _ => rfl⟩, fun v H' d S' _ r _ e => ?_⟩
    · rcases hS with h | h
      · exact .inl ⟨h, rfl, by simp⟩
      · exact .inr h
    · obtain ⟨z, hz, e⟩ := List.mem_map.mp hp
      subst e
      exact TabS.nil (hH (z.1, z.2.1) (List.mem_map.mpr ⟨z, hz, rfl⟩))
    · subst e; exact r.bool
end Dl

set_option Elab.async false
set_option linter.all false
set_option maxRecDepth 100000
namespace Dl
open PySem PySem.Spec PyProof.Rows L2 LamX
/-! ### readings by name -/
abbrev rLtD : DR2 := rII (fun _ _ => True) fun i j => .bl (decide (i < j))
abbrev rLeD : DR2 := rII (fun _ _ => True) fun i j => .bl (decide (i ≤ j))
abbrev rGtD : DR2 := rII (fun _ _ => True) fun i j => .bl (decide (j < i))
abbrev rGeD : DR2 := rII (fun _ _ => True) fun i j => .bl (decide (j ≤ i))
abbrev rSubD : DR2 := rII (fun _ _ => True) fun i j => .int (i - j)
abbrev rModD : DR2 := rII (fun _ j => 0 < j) fun i j => .int (i % j)
abbrev rDivD : DR2 := rII CDiv fun i j => .int (i / j)
abbrev rPowD : DR2 := rII CPow fun i j => .int (i ^ j.toNat)
section
variable {X : Cx} {K : PySem.W.Frag} {T : Tb} {a b e : Expr} {pos : Pos}
/-- a name of the module and what it stands for -/
def GV (X : Cx) (x : Str) (d : D) : Prop := ∃ v u, X.mg x = some u ∧ RelV v u ∧ ∀ Z H S, Rep X.K Z H S v d
theorem x_glob {x : Str} {d : D} (hg : Gl X x) (h : GV X x d) (hd : (x == ("__debug__" : Str)) = false := by decide) : XE X T (.Name x pos) (dC d) := by
  obtain ⟨v, u, hm, r, q⟩ := h
  exact xc (pe_glob hg hm r hd) q
def dNeg (A : DE) : DE := fun τ S Q => A τ S fun d S1 => match d with
  | .int i => Q (.int (-i)) S1
  | _ => False
theorem x_neg {A : DE} (ha : XE X T a A) : XE X T (.UnaryOp .USub a pos) (dNeg A) :=
  (pe_un un_neg ha).imp fun σ H Q ⟨Z, τ, S, R, sl, ok, h, k⟩ => ⟨Z, τ, S, _, sl, ok, h, fun v H1 d S1 x1 r1 ok1 h1 => by
    cases d with
    | int i => exact ⟨i, r1.int', k _ H1 _ S1 x1 (.int _) ok1 h1⟩
    | _ => exact h1.elim⟩
/-- [x] * n, by ref -/
def rMulDR : DR2 := fun x y S Q => match x, y with
  | .lst a, .int k => -(2 ^ 63) ≤ k ∧ k < 2 ^ 63 ∧ a.length * k.toNat ≤ sizeLine ∧ ∀ p, S p = none → Q (.ref p) (ups S p (.lst (List.replicate k.toNat a).flatten))
  | _, _ => False
theorem d_mulR : Op2 K T rMulV rMulDR := by
  intro Z H S vx vy x y Qd Q ok rx ry h k
  unfold rMulDR at h
  split at h
  · obtain ⟨h1, h2, hz, q⟩ := h
    cases rx with
    | lst e1 n1 z1 r1 => exact .inr ⟨_, _, _, rfl, ry.int', e1, h1, h2, by rw [r1.length]; exact hz, fun p hp => k _ _ _ _ (.newS hp) (.ref p) (ok.newS hp (.newLst (reps_rep r1 _) hp)) (q p (ok.fresh hp))⟩
  · exact h.elim
end
abbrev rMaxD : DRL := rM2D fun i j => if j > i then j else i
abbrev rMinD : DRL := rM2D fun i j => if j < i then j else i
end Dl

set_option Elab.async false
set_option linter.all false
set_option maxRecDepth 100000
set_option maxHeartbeats 2000000
namespace Dl
open PySem PySem.Spec PyProof.Rows L2 LamX
/-! ### set(xs) of a list of ints -/
/-- an empty set's object -/
def setO0 (w : World) : Obj := { cls := .type "set", dict := none, data := .set #[] 0 (.fresh 0 0 (!w.params.followText "set-order")) }
section
variable {P : Program} {w : World} {A : Around} {E : Value → Shared → Prop} {s : Shared}
set_option maxHeartbeats 3200000 in
theorem call_setL {l : Addr} {its : Array Value} (ns : List Int) {Q : Value → Shared → Prop} (hh : A.handled = none) (hl : s.heap.IsList l its) (hi : IntsAre its.toList ns) (hb : ns.length + 1 < scanBound)
    (h : ∀ (h' : Heap) (tk c : Nat), SetR w h' s.heap.objs.size (fun j => decide (j ∈ ns)) c → c ≤ ns.length → (∀ b o, s.heap.get? b = some o → h'.get? b = some o) → Q (.ref s.heap.objs.size) { s with heap := h', toks := tk }) :
    wpAny (model P w) A (call (.type "set") [.ref l]) Q E s := by
  have zn : its.size = ns.length := (Array.length_toList ▸ IntsAre.length hi :)
  obtain ⟨c, tl, q0⟩ := PySem.F.called_set.mro
  have q1 := PySem.F.called_set.made
  have q2 := PySem.F.called_set.sub
  refine wpAny_call (codeAny_of_tree ?_); show wpAny _ _ (callAny (.type "set") _) _ _ _
  refine wpAny_pure ⟨Code.quiet_builtin _ (by decide +kernel), codeAny_builtin PySem.F.entry_type_call ?_⟩
  rw [Around.under_plain (weight_type_call_type "set" [.ref l] []) rfl]
  have q3 := PySem.F.called_set.notType
  have q4 := PySem.F.called_set.canCreate
  have q5 := PySem.F.typeCall_set_1 (.ref l)
  repeat (any_goals (first | assumption | wp_step))

  refine codeAny_mono (L2.code_set_led1 (.ref l) (E := E) (Q₁ := fun u t => u = .ref s.heap.objs.size ∧ t = { s with heap := s.heap.push (setO0 w) }) ⟨rfl, rfl⟩) fun r t hr => ?_
  rcases r with e | fl
  · exact hr
  rcases fl with obj | _ | _ | _
  all_goals first | exact hr.elim | skip
  obtain ⟨rfl, rfl⟩ := hr
  have at0 : (s.heap.push (setO0 w)).get? s.heap.objs.size = some (setO0 w) := Heap.get?_push_size _ rfl
  have ty0 : Shared.TypeIs { s with heap := s.heap.push (setO0 w) } (.ref s.heap.objs.size) "set" := ⟨_, at0, rfl⟩
  have q6 := PySem.F.called_set.init.lookup
  have q7 := PySem.F.called_set.init.bind (.ref s.heap.objs.size)
  repeat (any_goals (first | assumption | wp_step))

  refine codeAny_mono (codeAny_call_builtin (R := wants (fun u t => u = .none ∧ ∃ h' tk c, t = { s with heap := h', toks := tk } ∧ SetR w h' s.heap.objs.size (fun j => decide (j ∈ ns)) c ∧ c ≤ ns.length ∧
      ∀ b o, s.heap.get? b = some o → h'.get? b = some o) E) PySem.F.called_set.init.plain PySem.F.entry_set_init (check_set_init_1 ty0 ?_)) fun r2 t2 hr2 => ?_
  · obtain ⟨⟨ocls, odict, odata, oslots⟩, ol, cl, nl, dl⟩ := hl
    simp only at cl dl
    subst cl; subst dl
    have ol1 : (s.heap.push (setO0 w)).get? l = some { cls := .type "list", dict := odict, data := .seq its nl, slots := oslots } := Heap.get?_push_of_some _ ol
    have r1 := PySem.F.sub_list_set
    have r2 := PySem.F.sub_list_frozenset
    have r3 : (Value.type "list" == Value.type "dict") = false := by decide
    have il : (s.heap.push (setO0 w)).IsList l its := ⟨_, ol1, rfl, nl, rfl⟩
    unfold Builtin.«set.__init__» noKeywords Builtin.Frozenset.updateFrom; generalize hPI : pyIter = PI
    wp_walk
    subst hPI
    refine wpAny_pyIter_list il (wpAny_bind (wpAny_runValue ?_))
    have ls : l < s.heap.objs.size := Heap.lt_size ol
    have hh3 : A.in1.in1.in1.handled = none := by simp [hh]
    have z1 : (s.heap.push (setO0 w)).objs.size = s.heap.objs.size + 1 := Heap.size_push ..
    have ni : l ≠ (s.heap.push (setO0 w)).objs.size := by rw [z1]; exact Nat.ne_of_lt (Nat.lt_succ_of_lt ls)
    have nf : s.heap.objs.size ∉ [(s.heap.push (setO0 w)).objs.size, l] := by
      rw [z1]; simp only [List.mem_cons, List.not_mem_nil, or_false, not_or]; exact ⟨Nat.ne_of_lt (Nat.lt_succ_self _), Nat.ne_of_gt ls⟩
    have val : ∀ (i : Nat) (v : Value), its[i]? = some v → ∃ k t, ns[i]? = some k ∧ v = .int k t := fun i v hv => by
      have lt : i < ns.length := zn ▸ (Array.getElem?_eq_some_iff.mp hv).1
      obtain ⟨t, e⟩ := PyProof.Rows.IntsAre.int_at hi i v (Array.getElem?_toList ▸ hv :)
      exact ⟨ns[i], t, List.getElem?_eq_getElem lt, by rw [e, List.getD_eq_getElem?_getD, List.getElem?_eq_getElem lt] <;> rfl⟩
    refine L2.set_update_ints (Walks.list hh3 _ l ni its).toS s.heap.objs.size nf ns zn hb val (its.size - 0) 0 _ (by omega) (Nat.zero_le _) ⟨⟨_, Heap.get?_push_size _ rfl, rfl, rfl⟩, il.push _⟩ ?a0 ?a1
    case a0 => exact ⟨0, Nat.le_refl 0, L2.setR_new_at (Heap.get?_push_of_some _ at0)⟩
    case a1 =>
      rintro ⟨h', g2, d2, tk, o2⟩ c' hm lc hS
      obtain rfl : g2 = s.gens := hm.gens
      obtain rfl : d2 = s.drawn := hm.drawn
      obtain rfl : o2 = s.os := hm.os
      refine wpAny_pure ?_
      show wpAny _ _ (ret Value.none) _ _ _
      refine wpAny_pure ⟨rfl, h', tk, c', rfl, hS, by omega, fun b o e => ?_⟩
      have lb : b < s.heap.objs.size := Heap.lt_size e
      exact hm.heap b o (by rw [z1]; simp only [List.mem_cons, List.not_mem_nil, or_false, not_or]; exact ⟨Nat.ne_of_lt lb, Nat.ne_of_lt (Nat.lt_succ_of_lt lb)⟩) (Heap.get?_push_of_some _ (Heap.get?_push_of_some _ e))

  rcases r2 with e | fl
  · exact hr2
  rcases fl with obj | _ | _ | _
  all_goals first | exact hr2.elim | skip
  obtain ⟨rfl, h', tk, c', rfl, hS, lc, kp⟩ := hr2
  repeat (any_goals (first | assumption | wp_step))
  exact h _ _ _ hS lc kp
end
section
variable {X : Cx} {K : PySem.W.Frag} {T : Tb} {a b c e f : Expr} {es : List Expr} {pos p2 : Pos}
/-- set of a list, or a tuple, of ints -/
def rSetSq (K : PySem.W.Frag) (w : World) : List V → Hp → VK → Prop := fun xs H Q => ∃ (l : Addr) (ns : List Int), xs = [.ref l] ∧ (SqL K H l (ns.map V.int) ∨ SqT K H l (ns.map V.int)) ∧ ns.length ≤ 1000 ∧
  ∀ p c, H p = none → c ≤ ns.length → Q (.ref p) (upd H p (SetO w p (fun j => decide (j ∈ ns)) c))
theorem cr_setSq (hc : X.calm = true) : CallR X (.type "set") (rSetSq X.K X.w) := by
  intro pins s σ H xs us Q I r h
  obtain ⟨l, ns, rfl, hs, hl, q⟩ := h
  rw [Vals.ref1 r]
  have fin : ∀ (h' : Heap) (tk c : Nat), SetR X.w h' s.heap.objs.size (fun j => decide (j ∈ ns)) c → c ≤ ns.length → (∀ b o, s.heap.get? b = some o → h'.get? b = some o) → EP X pins σ Q (.ref s.heap.objs.size) { s with heap := h', toks := tk } := fun h' tk c R lc k =>
    ⟨.ref _, upd H s.heap.objs.size (SetO X.w s.heap.objs.size (fun j => decide (j ∈ ns)) c), I.laid (t' := tk) k (Nat.le_refl _) (setO_new R), rfl, q _ c (I.hok.fresh (Nat.le_refl _)) lc⟩
  have sb : ns.length + 1 < scanBound := by unfold scanBound; omega
  rcases hs with hs | hs
  · obtain ⟨its, rv, il, _⟩ := I.list hs
    exact call_setL ns (I.ok.hd hc) il.isList rv.ints sb fin
  · obtain ⟨its, rv, il, _⟩ := I.tuple hs
    exact L2.call_set_tupI ns (I.ok.hd hc) il rv.ints sb fin
end
end Dl

set_option Elab.async false
set_option linter.all false
set_option maxRecDepth 100000
set_option maxHeartbeats 2000000
namespace Dl
open PySem PySem.Spec PyProof.Rows L2 LamX
section
variable {X : Cx} {K : PySem.W.Frag} {T : Tb} {a b c e f : Expr} {es : List Expr} {pos p2 : Pos}
/-- sorted(set(e)): e a list, a tuple, of few ints -/
def dSortSet (A : DE) : DE := fun τ S Q => A τ S fun d S1 => ∃ ns : List Int, items S1 d = some (ns.map D.int) ∧ ns.length < 64 ∧ ∀ out : List Int, out.Pairwise (· < ·) → (∀ k, k ∈ out ↔ k ∈ ns) → Q (.lst (out.map D.int)) S1
theorem x_sortSet {A : DE} {p q p3 : Pos} (hc : X.calm = true) (hg : Gl X "sorted") (hm : X.mg "sorted" = none) (hg2 : Gl X "set") (hm2 : X.mg "set" = none) (ha : XE X T e A)
    (he : starEach [e] X.env = [(false, eval e X.env)] := by rfl) (he2 : starEach [Expr.Call (.Name "set" p) [e] [] q] X.env = [(false, eval (.Call (.Name "set" p) [e] [] q) X.env)] := by rfl) :
    XE X T (.Call (.Name "sorted" p3) [.Call (.Name "set" p) [e] [] q] [] pos) (dSortSet A) := by
  refine (pe_callB (cr_sortedSet hc) hg hm (by decide +kernel) (pa_cons (pe_callTy (cr_setSq hc) hg2 hm2 (by decide +kernel) (pa_cons ha pa_nil he) (he := he) (hpl := rfl)) pa_nil he2) (he := he2) (hpl := rfl)).imp fun σ H Q h => ?_
  obtain ⟨Z, τ, S, R, sl, ok, h, k⟩ := h
  refine ⟨Z, τ, S, _, sl, ok, h, fun v H1 d S1 x1 r1 ok1 q1 => ?_⟩
  obtain ⟨ns, ei, l64, q1⟩ := q1
  obtain ⟨p, vs, rfl, hs, rr⟩ := items_at ok1 r1 ei
  rw [rr.ints_of] at hs
  refine ⟨p, ns, rfl, hs, by omega, fun p c hp lc => ?_⟩
  refine ⟨p, _, c, rfl, upd_same, by omega, fun out p' so hmem hl hp' => ?_⟩
  have ok2 : StOk X.K T Z (upd H1 p (SetO X.w p (fun j => decide (j ∈ ns)) c)) S1 := ok1.new hp
  have x2 := x1.trans (.new (u := SetO X.w p (fun j => decide (j ∈ ns)) c) hp)
  exact k _ _ _ S1 (x2.trans (.new hp')) (.newLst (Reps.ints out) hp' (ok2.fresh hp') (ok2.nz hp')) (ok2.new hp') (q1 out so fun k => by rw [hmem k]; simp)
/-- max of a list of ints -/
def rMaxLD : DRL := fun ds S Q => match ds with
  | [d] => ∃ ns : List Int, deref S d = .lst (ns.map D.int) ∧ 0 < ns.length ∧ ∀ m, m ∈ ns → (∀ y, y ∈ ns → y ≤ m) → Q (.int m) S
  | _ => False
theorem d_maxL : CallD K T (L2.rMax K) rMaxLD := by
  intro Z H S vs ds Qd Q ok rs h k
  unfold rMaxLD at h
  split at h
  · obtain ⟨ns, e, l0, h⟩ := h
    cases rs with
    | cons r t =>
      cases t
      obtain ⟨a, xs, rfl, hs, rr⟩ := lst_at ok r e
      rw [rr.ints_of] at hs
      exact ⟨a, ns, rfl, hs, l0, fun m h1 h2 => k _ H _ S (.refl _ _) (.int _) ok (h m h1 h2)⟩
  · exact h.elim
/-- min of a list of ints -/
def rMinLD : DRL := fun ds S Q => match ds with
  | [d] => ∃ ns : List Int, deref S d = .lst (ns.map D.int) ∧ 0 < ns.length ∧ ∀ m, m ∈ ns → (∀ y, y ∈ ns → m ≤ y) → Q (.int m) S
  | _ => False
theorem d_minL : CallD K T (L2.rMin K) rMinLD := by
  intro Z H S vs ds Qd Q ok rs h k
  unfold rMinLD at h
  split at h
  · obtain ⟨ns, e, l0, h⟩ := h
    cases rs with
    | cons r t =>
      cases t
      obtain ⟨a, xs, rfl, hs, rr⟩ := lst_at ok r e
      rw [rr.ints_of] at hs
      exact ⟨a, ns, rfl, hs, l0, fun m h1 h2 => k _ H _ S (.refl _ _) (.int _) ok (h m h1 h2)⟩
  · exact h.elim
/-- x, xs[i] = e -/
def dAsgNS (A : DE) (i : Nat) (O J : DE) : DS := fun E τ S => A τ S fun d S1 => match d with
  | .tup [d1, d2] => O (τ.set i (some d1)) S1 fun o S2 => J (τ.set i (some d1)) S2 fun j S3 => match o, j with
    | .ref p, .int n => match S3 p with
      | some (.lst es) => match ixN es.length n with
        | some m => E.nx (τ.set i (some d1)) (ups S3 p (.lst (es.set m d2)))
        | none => False
      | _ => False
    | _, _ => False
  | _ => False
theorem s_asgNS {A O J : DE} {i : Nat} {x : Str} {o j : Expr} {px tpos pt : Pos} {kt : Nat} (hc : X.calm = true) (hN : X.N.Nodup) (hi : X.N[i]? = some x) (hx : Loc X.env.scope x) (he : XE X T e A) (ho : XE X T o O) (hj : XE X T j J)
    (hs : swapsWithSole [.Tuple [.Name x px, .Subscript o j tpos] kt pt] e pos.line X.env = pure false := by rfl) (hw : swappedStores [.Tuple [.Name x px, .Subscript o j tpos] kt pt] e X.env = pure none := by rfl)
    (h1 : (assignEach [.Tuple [.Name x px, .Subscript o j tpos] kt pt] X.env).map (·.2) = [assign (.Tuple [.Name x px, .Subscript o j tpos] kt pt) X.env] := by rfl)
    (hf : X.fn x = true ∨ X.env.scope.names.lookup x = some .local := by first | exact .inl rfl | exact .inr rfl | assumption)
    (ha : ∀ v, assign (.Subscript o j tpos) X.env v = (do
      let ov ← holding [v] (eval o X.env)
      let iv ← holding [v, ov] (eval j X.env)
      standAt tpos
      holding [v, ov, iv] (setItem ov iv v)
      release [v, ov, iv] []) := by intro _; rfl)
    (hs1 : (assignEach [.Name x px, .Subscript o j tpos] X.env).map (·.2) = assign (.Name x px) X.env :: (assignEach [.Subscript o j tpos] X.env).map (·.2) := by rfl)
    (hs2 : (assignEach [.Subscript o j tpos] X.env).map (·.2) = [assign (.Subscript o j tpos) X.env] := by rfl)
    (hn : (assignEach [.Name x px, .Subscript o j tpos] X.env).length = 2 := by rfl) (hst : (assignEach [.Name x px, .Subscript o j tpos] X.env).findIdx? (·.1) = none := by rfl) :
    XS X T (.Assign [.Tuple [.Name x px, .Subscript o j tpos] kt pt] e pos) (dAsgNS A i O J) := by
  refine (ps_asg he (pg_tup (n := 2) hc (pgs_cons (pg_name hN hi hx hf) (pgs_cons (pg_sub ho hj set_list ha) pgs_nil hs2) hs1) hn hst) hs hw h1).imp fun D σ H ⟨Z, τ, S, E, sl, ok, h, k⟩ => ?_
  refine ⟨Z, τ, S, _, sl, ok, h, fun v H1 d S1 x1 r1 ok1 q1 => ?_⟩
  split at q1
  · rename_i d1 d2
    obtain ⟨a, vs, rfl, ht, rr⟩ := r1.tupW
    cases rr with
    | cons rv1 rr =>
      cases rr with
      | cons rv2 rr =>
        cases rr
        rename_i v1 v2
        refine ⟨a, [v1, v2], rfl, ht, rfl, v1, [v2], rfl, v2, [], rfl, ?_⟩
        have sl1 := (sl.ext x1).set i rv1
        refine ⟨Z, _, S1, _, sl1, ok1, q1, fun vo H2 dd S2 x2 r2 ok2 q2 => ?_⟩
        refine ⟨Z, _, S2, _, sl1.ext x2, ok2, q2, fun vi H3 di S3 x3 r3 ok3 q3 => ?_⟩
        split at q3
        · rename_i p n
          split at q3
          · rename_i es' e'
            split at q3
            · rename_i m em
              cases r2
              obtain ⟨ws, hw', rr⟩ := ok3.obj p _ e'
              obtain ⟨x4, ok4⟩ := put_lst ok3 e' (rr.set m (rv2.ext (x2.trans x3)))
              have x14 := x2.trans (x3.trans x4)
              exact ⟨p, ws, n, m, rfl, r3.int', hw', by rw [rr.length]; exact em, rfl, k.nx _ _ _ _ (x1.trans x14) (sl1.ext x14) ok4 q3⟩
            · exact q3.elim
          · exact q3.elim
        · exact q3.elim
  · exact q1.elim
/-- x, y = e, f -/
def dPar (i j : Nat) (A : DA) : DS := fun E τ S => A τ S fun ds S1 => match ds with
  | [d1, d2] => E.nx ((τ.set i (some d1)).set j (some d2)) S1
  | _ => False
theorem s_par {A : DA} {i j : Nat} {x y : Str} {a b : Expr} {px py pt : Pos} {kt k2 pt2} (hc : X.calm = true) (hN : X.N.Nodup) (hi : X.N[i]? = some x) (hj : X.N[j]? = some y) (hij : i ≠ j)
    (hx : X.env.scope.names.lookup x = some .local) (hy : X.env.scope.names.lookup y = some .local) (ha : XA X T [a, b] A)
    (hw : swappedStores [.Tuple [.Name x px, .Name y py] kt pt] (.Tuple [a, b] k2 pt2) X.env = pure (some [x, y]))
    (hs : swapsWithSole [.Tuple [.Name x px, .Name y py] kt pt] (.Tuple [a, b] k2 pt2) pos.line X.env = pure false := by rfl) :
    XS X T (.Assign [.Tuple [.Name x px, .Name y py] kt pt] (.Tuple [a, b] k2 pt2) pos) (dPar i j A) := by
  refine (ps_par hc hN hi hj hij hx hy ha hw hs).imp fun D σ H ⟨Z, τ, S, E, sl, ok, h, k⟩ => ?_
  refine ⟨Z, τ, S, _, sl, ok, h, fun vs H1 ds S1 x1 rs ok1 q1 => ?_⟩
  split at q1
  · rename_i d1 d2
    cases rs with
    | cons r1 rs =>
      cases rs with
      | cons r2 rs =>
        cases rs
        exact ⟨_, _, rfl, k.nx _ _ _ _ x1 (((sl.ext x1).set i r1).set j r2) ok1 q1⟩
  · exact q1.elim

/-! ### + of tuples of any kind -/
def rCatX (K : PySem.W.Frag) : R2 := fun x y H Q => ∃ a b xs ys, x = .ref a ∧ y = .ref b ∧ SqT K H a xs ∧ SqT K H b ys ∧ xs.length + ys.length ≤ sizeLine ∧
  (xs = [] → Q (.ref b) H) ∧ (xs ≠ [] → ys = [] → Q (.ref a) H) ∧ (xs ≠ [] → ys ≠ [] → ∀ p (o : Obj), H p = none → o.dict = none → Q (.ref p) (upd H p (.frz o (.tup (xs ++ ys)))))
theorem op_catX : OpR X (binaryOp .Add) (rCatX X.K) := by
  intro pins s σ H x y v u Q I rx ry ⟨a, b, xs, ys, ex, ey, ha, hb, hz, q0, q1, q2⟩
  subst ex; subst ey
  cases rx; cases ry
  obtain ⟨its, r1, p1, _⟩ := I.tuple ha
  obtain ⟨its2, r2, p2, _⟩ := I.tuple hb
  by_cases hx : xs = []
  · subst hx
    cases r1
    exact L2.cat_tup0 p1 p2 ⟨.ref b, H, I, rfl, q0 rfl⟩
  · refine HT.cat_tup p1 p2 (fun z => hx (r1.nil_iff.mp z)) (fun z => ⟨.ref a, H, I, rfl, q1 hx (r2.nil_iff.mp z)⟩) (fun z => ?_) (by rw [← r1.length, ← r2.length]; exact hz)
    have ob : (s.heap.push { cls := .type "tuple", data := .seq (its ++ its2).toArray }).get? s.heap.objs.size = some { cls := .type "tuple", data := .seq (its ++ its2).toArray } := Heap.get?_push_size _ rfl
    exact ⟨.ref s.heap.objs.size, _, I.laid (a := s.heap.objs.size) (o := .frz { cls := .type "tuple", data := .seq (its ++ its2).toArray } (.tup (xs ++ ys))) (t' := s.toks) (fun b o e => Heap.get?_push_of_some _ e) (Nat.le_refl _)
      ⟨ob, by rw [List.length_append]; exact hz, _, r1.append r2, IsTup.new _ _⟩, rfl, q2 hx (fun w => z (r2.nil_iff.mpr w)) _ _ (I.hok.fresh (Nat.le_refl _)) rfl⟩
theorem o_catX : Op2 K T (rCatX K) (fun x y S Q => ∃ a b, ((x = .tup a ∧ y = .tup b ∧ Q (.tup (a ++ b)) S) ∨ (x = .ptp a ∧ y = .ptp b ∧ Q (.ptp (a ++ b)) S)) ∧ a.length + b.length ≤ sizeLine) := by
  intro Z H S vx vy x y Qd Q ok rx ry ⟨a, b, h, hz⟩ k
  rcases h with ⟨rfl, rfl, q⟩ | ⟨rfl, rfl, q⟩
  · cases rx with
    | tup h1 r1 =>
      cases ry with
      | tup h2 r2 =>
        refine ⟨_, _, _, _, rfl, rfl, h1.sq, h2.sq, by rw [r1.length, r2.length]; exact hz, fun e => ?_, fun _ e => ?_, fun _ _ p o hp ho => ?_⟩
        · subst e; cases r1
          exact k _ H _ S (.refl _ _) (.tup h2 r2) ok q
        · subst e; cases r2
          rw [List.append_nil] at q
          exact k _ H _ S (.refl _ _) (.tup h1 r1) ok q
        · exact k _ _ _ S (.new hp) (.tup (.inl ⟨.inr ⟨o, upd_same⟩, ok.fresh hp⟩) ((r1.append r2).ext (.new hp))) (ok.new hp) q
  · cases rx with
    | ptp h1 r1 =>
      cases ry with
      | ptp h2 r2 =>
        refine ⟨_, _, _, _, rfl, rfl, h1.sq, h2.sq, by rw [r1.length, r2.length]; exact hz, fun e => ?_, fun _ e => ?_, fun _ _ p o hp ho => ?_⟩
        · subst e; cases r1
          exact k _ H _ S (.refl _ _) (.ptp h2 r2) ok q
        · subst e; cases r2
          rw [List.append_nil] at q
          exact k _ H _ S (.refl _ _) (.ptp h1 r1) ok q
        · exact k _ _ _ S (.new hp) (.newPtp (r1.append r2) hp (ok.fresh hp) ho) (ok.new hp) q
def rAddXD : DR2 := fun x y S Q => match x, y with
  | .int i, .int j => Q (.int (i + j)) S
  | .tup a, .tup b => a.length + b.length ≤ sizeLine ∧ Q (.tup (a ++ b)) S
  | .ptp a, .ptp b => a.length + b.length ≤ sizeLine ∧ Q (.ptp (a ++ b)) S
  | .lst a, .lst b => a.length + b.length ≤ sizeLine ∧ Q (.lst (a ++ b)) S
  | _, _ => False
abbrev rAddXV (K : PySem.W.Frag) : R2 := fun x y H Q => (rI0 (fun i j => .int (i + j)) x y H Q ∨ rCatX K x y H Q) ∨ rCat x y H Q
theorem op_addX : OpR X (binaryOp .Add) (rAddXV X.K) := (op_add.or op_catX).or op_cat
theorem d_addX : Op2 K T (rAddXV K) rAddXD := ((o_int0.or o_catX).or o_cat).imp fun x y S Q h => by
  unfold rAddXD at h
  split at h
  · exact .inl (.inl ⟨_, _, rfl, rfl, h⟩)
  · exact .inl (.inr ⟨_, _, .inl ⟨rfl, rfl, h.2⟩, h.1⟩)
  · exact .inl (.inr ⟨_, _, .inr ⟨rfl, rfl, h.2⟩, h.1⟩)
  · exact .inr ⟨_, _, rfl, rfl, h.1, h.2⟩
  · exact h.elim
/-! ### {} -/
def dNewK : DE := fun _ S Q => ∀ p, S p = none → Q (.ref p) (ups S p (.dK []))
def dNewT : DE := fun _ S Q => ∀ p, S p = none → Q (.ref p) (ups S p (.dT []))
theorem x_newK : XE X T (.Dict [] [] pos) dNewK :=
  pe_dnewK.imp fun σ H Q ⟨Z, τ, S, R, sl, ok, h, k⟩ => fun p hp => k _ _ _ _ (.newS hp) (.ref p) (ok.newS (o := .dK []) hp ⟨[], upd_same, .nil⟩) (h p (ok.fresh hp))
theorem x_newT : XE X T (.Dict [] [] pos) dNewT :=
  pe_dnewT.imp fun σ H Q ⟨Z, τ, S, R, sl, ok, h, k⟩ => fun p hp => k _ _ _ _ (.newS hp) (.ref p) (ok.newS (o := .dT []) hp ⟨[], upd_same, .nil⟩) (h p (ok.fresh hp))

/-! ### x in d -/
def rInKV (neg : Bool) : R2 := fun x y H Q => ∃ a o, y = .ref a ∧ DGet H a x o ∧ Q (.bl (if neg then !o.isSome else o.isSome)) H
theorem op_inK (hu : X.A.units + 1 < cLine) : OpR X (compareOp .In) (rInKV false) := by
  intro pins s σ H x y v u Q I rx ry ⟨a, o, e, g, q⟩
  subst e
  obtain rfl : u = Value.ref a := ry
  exact L2.d_in hu I g rx fun s3 I3 => ⟨.bl o.isSome, H, I3, rfl, q⟩
theorem op_notInK (hu : X.A.units + 1 < cLine) : OpR X (compareOp .NotIn) (rInKV true) := by
  intro pins s σ H x y v u Q I rx ry ⟨a, o, e, g, q⟩
  subst e
  obtain rfl : u = Value.ref a := ry
  exact L2.d_notIn hu I g rx fun s3 I3 => ⟨.bl (!o.isSome), H, I3, rfl, q⟩
def rInKD (neg : Bool) : DR2 := fun x y S Q => match y with
  | .ref p => match S p with
    | some (.dK kvs) => match keyOf x with
      | some k => Q (.bl (if neg then !(valD kvs k).isSome else (valD kvs k).isSome)) S
      | none => False
    | _ => False
  | _ => False
theorem d_inK (neg : Bool) : Op2 K T (rInKV neg) (rInKD neg) := by
  intro Z H S vx vy x y Qd Q ok rx ry h k
  unfold rInKD at h
  split at h
  · rename_i p
    cases ry
    split at h
    · rename_i kvs e
      split at h
      · rename_i key ek
        obtain ⟨vs, hv, rr⟩ := ok.obj p _ e
        rw [rx.key ek]
        have fin : ∀ o : Option V, o.isSome = (valD kvs key).isSome → Q (.bl (if neg then !o.isSome else o.isSome)) H := fun o eo => by
          rw [eo]
          exact k _ H _ S (.refl _ _) (.bl _) ok h
        refine ⟨p, valV vs key, rfl, .k hv, fin _ ?_⟩
        rcases rr.val (k := key) with ⟨h1, h2⟩ | ⟨v, d, h1, h2, _⟩
        · rw [h1, h2]; rfl
        · rw [h1, h2]; rfl
      · exact h.elim
    · exact h.elim
  · exact h.elim
end
end Dl

set_option Elab.async false
set_option linter.all false
set_option maxRecDepth 100000
set_option maxHeartbeats 2000000
namespace Dl
open PySem PySem.Spec PyProof.Rows L2 LamX
/-! ### statements that may raise own errors (classes without fields) -/
/-- what the ends give, the wish of errors too -/
structure EOkx (K : PySem.W.Frag) (T : Tb) (Z : List Addr) (H : Hp) (S : Store) (W : WX) (D : Ends) (E : DEnds) : Prop extends EOk K T Z H S D E where
  xx : ∀ C σ H' τ S', Ext H S H' S' → Slots K Z H' S' σ τ → StOk K T Z H' S' → E.ex C τ S' → W (.ref C) none σ H'
theorem EOkx.later {K : PySem.W.Frag} {T : Tb} {Z : List Addr} {H H' : Hp} {S S' : Store} {W : WX} {D : Ends} {E : DEnds} (e : EOkx K T Z H S W D E) (x : Ext H S H' S') : EOkx K T Z H' S' W D E :=
  ⟨e.toEOk.later x, fun C σ H2 τ S2 y => e.xx C σ H2 τ S2 (x.trans y)⟩
def lfSx (K : PySem.W.Frag) (T : Tb) (W : WX) (Θ : DS) : TS := fun D σ H => ∃ Z τ S E, Slots K Z H S σ τ ∧ StOk K T Z H S ∧ Θ E τ S ∧ EOkx K T Z H S W D E
abbrev XSx (X : Cx) (T : Tb) (W : WX) (st : Stmt) (Θ : DS) : Prop := PS X st (lfSx X.K T W Θ)
abbrev XSsx (X : Cx) (T : Tb) (W : WX) (st : List Stmt) (Θ : DS) : Prop := PSs X st (lfSx X.K T W Θ)
theorem EOkx.nxt {K : PySem.W.Frag} {T : Tb} {Z : List Addr} {H : Hp} {S : Store} {W : WX} {D : Ends} {E : DEnds} {B : DS} (e : EOkx K T Z H S W D E) : EOkx K T Z H S W { D with nx := lfSx K T W B D } { E with nx := B E } :=
  ⟨⟨fun σ H' τ S' x sl ok h => ⟨Z, τ, S', E, sl, ok, h, e.later x⟩, e.rt, e.bk, e.ct⟩, e.xx⟩
section
variable {X : Cx} {K : PySem.W.Frag} {T : Tb} {W : WX} {a b c e f : Expr} {es : List Expr} {st : Stmt} {sts : List Stmt} {pos p2 : Pos} {A B : DS}
theorem XS.x (h : XS X T st A) : XSx X T W st A := h.imp fun D σ H ⟨Z, τ, S, E, sl, ok, h, k⟩ => ⟨Z, τ, S, E, sl, ok, h, k.toEOk⟩
theorem XSs.x (h : XSs X T sts A) : XSsx X T W sts A := h.imp fun D σ H ⟨Z, τ, S, E, sl, ok, h, k⟩ => ⟨Z, τ, S, E, sl, ok, h, k.toEOk⟩
theorem sx_nil : XSsx X T W [] dNext := XSs.x s_nil
theorem sx_cons (h1 : XSx X T W st A) (h2 : XSsx X T W sts B) : XSsx X T W (st :: sts) (dSeq A B) :=
  (pss_cons h1 h2).imp fun D σ H ⟨Z, τ, S, E, sl, ok, h, k⟩ => ⟨Z, τ, S, _, sl, ok, h, k.nxt⟩
theorem sx_one (h1 : XSx X T W st A) : XSsx X T W [st] A := pss_one h1
theorem sx_if {C : DT} {sa sb : List Stmt} (hc : XT X T c C) (ha : XSsx X T W sa A) (hb : XSsx X T W sb B) : XSx X T W (.If c sa sb pos) (dIfS C A B) :=
  (ps_if hc ha hb).imp fun D σ H ⟨Z, τ, S, E, sl, ok, h, k⟩ => ⟨Z, τ, S, _, sl, ok, h, fun x H1 S1 x1 ok1 h1 => by
    cases x with
    | true => exact ⟨Z, τ, S1, E, sl.ext x1, ok1, h1, k.later x1⟩
    | false => exact ⟨Z, τ, S1, E, sl.ext x1, ok1, h1, k.later x1⟩⟩
theorem sx_for {tgt iter : Expr} {body : List Stmt} {I : DI} {tg : Tg} (hp : PassesOwn (model X.prog X.w) X.A X.env X.xe) (hc : X.calm = true) (hi : XI X T tg tgt iter I) (hg : PG X tgt (tg.g X.K)) (hb : XSsx X T W body B)
    (hs : ∀ x, foldedSetIterable iter X.env x = pure x := by intro _; rfl) : XSx X T W (.For tgt iter body [] pos) (dFor I tg B) := by
  refine (ps_for hp hc hi hg hb hs).imp fun D σ H ⟨Z, τ, S, E, sl, ok, h, k⟩ => ?_
  refine ⟨Z, τ, S, _, sl, ok, h, fun J H1 ds S1 x1 ok1 wk q => ?_⟩
  have sl1 := sl.ext x1
  refine ⟨fun i m σ' H' => m = ds.length - i ∧ i ≤ ds.length ∧ ∃ τ' S', Ext H1 S1 H' S' ∧ Slots X.K Z H' S' σ' τ' ∧ StOk X.K T Z H' S' ∧ loopD tg B E (ds.drop i) τ' S', ⟨ds.length, by simp, Nat.zero_le _, τ, S1, .refl _ _, sl1, ok1, by simpa using q⟩, ?_⟩
  rintro i m σ' H' ⟨rfl, hi', τ', S', x2, sl2, ok2, q2⟩
  by_cases hlt : i < ds.length
  · rw [drop_at hlt] at q2
    refine .inr ⟨wk.go i H' S' x2 hlt, fun σ2 H2 => ∃ τ2 S2, Ext H1 S1 H2 S2 ∧ Slots X.K Z H2 S2 σ2 τ2 ∧ StOk X.K T Z H2 S2 ∧ loopD tg B E (ds.drop (i + 1)) τ2 S2, fun σ2 H2 ⟨τ2, S2, a1, a2, a3, a4⟩ => ⟨ds.length - (i + 1), by omega, rfl, hlt, τ2, S2, a1, a2, a3, a4⟩, fun v H2 y => ?_⟩
    obtain ⟨x3, ok3, r3⟩ := wk.yld Z i ds[i] H' S' v H2 (fun _ h => .inl h) x2 ok2 (by simp [hlt]) y
    unfold loopD at q2
    cases et : tg.d τ' ds[i] with
    | none => rw [et] at q2; exact q2.elim
    | some τ'' =>
      rw [et] at q2
      refine Tg.of r3 (sl2.ext x3) et fun σ3 sl3 _ => ⟨Z, τ'', S', _, sl3, ok3, q2, ?_⟩
      have kl := k.later (x1.trans (x2.trans x3))
      exact ⟨⟨fun σ4 H4 τ4 S4 x4 s4 o4 h4 => ⟨τ4, S4, x2.trans (x3.trans x4), s4, o4, h4⟩, kl.rt, fun σ4 H4 τ4 S4 x4 s4 o4 h4 => kl.nx σ4 H4 τ4 S4 x4 s4 o4 h4, fun σ4 H4 τ4 S4 x4 s4 o4 h4 => ⟨τ4, S4, x2.trans (x3.trans x4), s4, o4, h4⟩⟩, kl.xx⟩
  · have e : i = ds.length := by omega
    subst e
    rw [List.drop_length] at q2
    exact .inl ⟨wk.stop _ H' S' x2 (Nat.le_refl _), (k.later (x1.trans x2)).nx σ' H' τ' S' (.refl _ _) sl2 ok2 q2⟩
/-- raise C('..') -/
def dRaise (C : Addr) : DS := fun E τ S => E.ex C τ S
theorem sx_raise {C : Addr} {bmB : List Value} {B newId initId : String} {x m : Str} {j : Nat} {p p2 pos pos2 : Pos} (hc : X.calm = true) (tk : Takes X W) (F : ExcBaseFacts B newId initId bmB) (q : PySem.W.excIn X.K C bmB newId = true) (gC : X.mg x = some (.ref C)) (kC : PySem.W.keepIn X.K (.ref C) = true)
    (b1 : PySem.W.subIn X.K (.ref C) (.type "BaseException") = some true) (t1 : PySem.W.typeIn X.K (.ref C) = some (.type "type")) (hg : Gl X x) (hdb : (x == ("__debug__" : Str)) = false := by decide) : XSx X T W (.Raise (some (.Call (.Name x p) [.Constant (.str m) j p2] [] pos)) none pos2) (dRaise C) :=
  (ps_raise hc tk (pmk_own F q gC kC (raises_own b1 t1) hg hdb)).imp fun D σ H ⟨Z, τ, S, E, sl, ok, h, k⟩ => k.xx C σ H τ S (.refl _ _) sl ok h
/-! ### defs that may raise -/
abbrev DSx := List D → Store → DK → (Addr → Store → Prop) → Prop
def lspx (K : PySem.W.Frag) (T : Tb) (dsp : DSx) : Sp := fun vs H Q E => ∃ Z ds S R RE, Reps K Z H S vs ds ∧ StOk K T Z H S ∧ dsp ds S R RE ∧ (∀ v H' d S', Ext H S H' S' → Rep K Z H' S' v d → StOk K T Z H' S' → R d S' → Q v H') ∧
  ∀ C H' S', Ext H S H' S' → StOk K T Z H' S' → RE C S' → E (.ref C) none H'
abbrev endsx (R : DK) (RE : Addr → Store → Prop) : DEnds := { nx := fun _ S' => ∃ S'', Sub S'' S' ∧ R .non S'', rt := fun d S' => ∃ S'', Sub S'' S' ∧ R d S'', ex := fun C _ S' => ∃ S'', Sub S'' S' ∧ RE C S'' }
end
section
variable {P : Program} {w : World} {K : PySem.W.Frag} {mg : Str → Option Value} {base : Heap} {T : Tb}
structure DFx (P : Program) (w : World) (K : PySem.W.Frag) (mg : Str → Option Value) (base : Heap) (T : Tb) (k : Nat) (x : Str) (dsp : DSx) : Prop where
  ex : ∃ (fa : Addr) (fd : FuncData) (ps : List Str), mg x = some (.ref fa) ∧ PySem.W.keepIn K (.ref fa) = true ∧ Binds K fd ps [] ∧ FnOk P w K mg base (L2.CX P w) k fa fd ps (lspx K T dsp)
theorem DFx.mono {j k : Nat} {x : Str} {dsp : DSx} (F : DFx P w K mg base T j x dsp) (h : j ≤ k) : DFx P w K mg base T k x dsp := let ⟨a, b, c, d, e, f, g⟩ := F.ex; ⟨a, b, c, d, e, f, g.mono h⟩
/-- a def that may raise, by its body -/
theorem fn_dx {x qual : Str} {st : Stmt} {fa : Addr} {fd : FuncData} {N ps : List Str} {k : Nat} {dsp : DSx} (F : Fun K x qual st fa fd) (S : FnScope N ps (defScope st)) (len : ∀ ds S Q E, dsp ds S Q E → ds.length = ps.length)
    (hbody : ∀ (cdv : Value) (A : Around) (outer : List Env) (s : Shared) (H : Hp) (E : XK), Room k (A.deeper (envOfC qual (defScope st) s.heap.objs.size fa cdv)) →
      ∃ Θ : DS, XSsx (cxOf (L2.CX P w) P w K mg base N qual (defScope st) fa cdv A outer s H E) T (fun cls d _ H => E cls d H) (defBody st) Θ ∧ ∀ ds S R RE, dsp ds S R RE → Θ (endsx R RE) (startD N ds) S) : FnOk P w K mg base (L2.CX P w) (k + 1) fa fd ps (lspx K T dsp) := by
  refine F.okX S (fun vs H Q E ⟨Z, ds, S, R, RE, r, ok, h, _⟩ => by rw [r.length]; exact len ds S R RE h) fun cdv A outer s H vs Q E hr ⟨Z, ds, S0, R, RE, r, ok, h, kk, kx⟩ => ?_
  obtain ⟨Θ, h1, h2⟩ := hbody cdv A outer s H E hr
  refine ⟨_, h1, Z, startD N ds, S0, endsx R RE, slots_start r, ok, h2 ds S0 R RE h, ⟨fun σ H' τ S' x sl ok ⟨S'', sb, q⟩ => kk _ H' _ S'' (x.sub sb) .non (ok.sub sb) q, fun v H' d S' x r ok ⟨S'', sb, q⟩ => kk v H' d S'' (x.sub sb) (r.sub sb) (ok.sub sb) q, fun _ _ _ _ _ _ _ q => q.elim, fun _ _ _ _ _ _ _ q => q.elim⟩, fun C σ H' τ S' x sl ok ⟨S'', sb, q⟩ => kx C H' S'' (x.sub sb) (ok.sub sb) q⟩
end
section
variable {X : Cx} {T : Tb} {W : WX} {e : Expr} {es : List Expr} {p pos pos2 : Pos} {x : Str} {k : Nat} {dsp : DSx}
/-- called where nothing is to be let out -/
def dCallN (dsp : DSx) (A : DA) : DE := fun τ S Q => A τ S fun ds S1 => dsp ds S1 Q fun _ _ => False
theorem x_callN {A : DA} (F : DFx X.prog X.w X.K X.mg X.base T k x dsp) (hr : Room k X.A) (hg : Gl X x) (ha : XA X T (e :: es) A) (hdb : (x == ("__debug__" : Str)) = false := by decide) (he : starEach (e :: es) X.env = (false, eval e X.env) :: starEach es X.env := by rfl)
    (hpl : (backTo pos (starEach es X.env)).any (·.1) = false := by rfl) : XE X T (.Call (.Name x p) (e :: es) [] pos) (dCallN dsp A) := by
  obtain ⟨fa, fd, ps, hm, hk, hb, F⟩ := F.ex
  refine (pe_call F hr hg hm hk hb .nil L2.passL ha hdb he hpl).imp fun σ H Q ⟨Z, τ, S, G, sl, ok, h, kk⟩ => ?_
  refine ⟨Z, τ, S, _, sl, ok, h, fun vs H1 ds S1 x1 r1 ok1 h1 => ?_⟩
  show lspx X.K T dsp (vs ++ []) H1 Q E0
  rw [List.append_nil]
  exact ⟨Z, ds, S1, G, _, r1, ok1, h1, fun v H' d S' x => kk v H' d S' (x1.trans x), fun _ _ _ _ _ z => z.elim⟩
/-- a call that may raise, its value dropped -/
def dDropX (dsp : DSx) (A : DA) : DS := fun E τ S => A τ S fun ds S1 => dsp ds S1 (fun _ S2 => E.nx τ S2) fun C S2 => E.ex C τ S2
theorem sx_callX {A : DA} (tk : Takes X W) (F : DFx X.prog X.w X.K X.mg X.base T k x dsp) (hr : Room k X.A) (hg : Gl X x) (ha : XA X T (e :: es) A) (hdb : (x == ("__debug__" : Str)) = false := by decide) (he : starEach (e :: es) X.env = (false, eval e X.env) :: starEach es X.env := by rfl)
    (hpl : (backTo pos (starEach es X.env)).any (·.1) = false := by rfl) (hs : swapsWith (.Call (.Name x p) (e :: es) [] pos) none pos2.line X.env = pure false := by rfl) : XSx X T W (.Expr (.Call (.Name x p) (e :: es) [] pos) pos2) (dDropX dsp A) := by
  obtain ⟨fa, fd, ps, hm, hk, hb, F⟩ := F.ex
  refine (ps_expr (pe_callS F hr hg hm hk hb (fun σ => passAt tk σ) ha hdb he hpl) hs).imp fun D σ H ⟨Z, τ, S, E, sl, ok, h, kk⟩ => ?_
  refine ⟨Z, τ, S, _, sl, ok, h, fun vs H1 ds S1 x1 r1 ok1 h1 => ?_⟩
  exact ⟨Z, ds, S1, _, _, r1, ok1, h1, fun v H' d S' x r ok' q => kk.nx σ H' τ S' (x1.trans x) (sl.ext (x1.trans x)) ok' q, fun C H' S' x ok' q => kk.xx C σ H' τ S' (x1.trans x) (sl.ext (x1.trans x)) ok' q⟩
/-- return f(..), f may raise -/
def dRetX (dsp : DSx) (A : DA) : DS := fun E τ S => A τ S fun ds S1 => dsp ds S1 E.rt fun C S2 => E.ex C τ S2
theorem sx_retX {A : DA} (tk : Takes X W) (F : DFx X.prog X.w X.K X.mg X.base T k x dsp) (hr : Room k X.A) (hg : Gl X x) (ha : XA X T (e :: es) A) (hdb : (x == ("__debug__" : Str)) = false := by decide) (he : starEach (e :: es) X.env = (false, eval e X.env) :: starEach es X.env := by rfl)
    (hpl : (backTo pos (starEach es X.env)).any (·.1) = false := by rfl) : XSx X T W (.Return (some (.Call (.Name x p) (e :: es) [] pos)) pos2) (dRetX dsp A) := by
  obtain ⟨fa, fd, ps, hm, hk, hb, F⟩ := F.ex
  refine (ps_ret (pe_callS F hr hg hm hk hb (fun σ => passAt tk σ) ha hdb he hpl)).imp fun D σ H ⟨Z, τ, S, E, sl, ok, h, kk⟩ => ?_
  refine ⟨Z, τ, S, _, sl, ok, h, fun vs H1 ds S1 x1 r1 ok1 h1 => ?_⟩
  exact ⟨Z, ds, S1, _, _, r1, ok1, h1, fun v H' d S' x r ok' q => kk.rt v H' d S' (x1.trans x) r ok' q, fun C H' S' x ok' q => kk.xx C σ H' τ S' (x1.trans x) (sl.ext (x1.trans x)) ok' q⟩
/-! ### try .. except X -/
/-- the body's errors: those of the clause's class go to the suite, the others out -/
def dTry (K : PySem.W.Frag) (c : Value) (A B : DS) : DS := fun E τ S => A { E with ex := fun C τ' S' => ∃ b, PySem.W.exmOne K (.ref C) c = some b ∧ if b = true then B E τ' S' else E.ex C τ' S' } τ S
theorem sx_try {A B : DS} {xn : Str} {c : Value} {body suite : List Stmt} {b₀ : Stmt} {np pos' : Pos} (hs : X.stack = X.env :: X.outer) (hf : X.env.frame = some X.env.locals) (hc : Names X xn c) (tk : Takes X W)
    (hb : ∀ (W' : WX) (pn : List (Addr × Obj)) (xe : Value → Shared → Prop), Takes (X.tr pn xe) W' → PassesOwn (model X.prog X.w) X.A X.env xe → XSsx (X.tr pn xe) T W' body A)
    (hsu : ∀ (a : Addr) (oe : Obj) (cls : Value) (d : Option Addr) (pn : List (Addr × Obj)), Zc cls d oe → (∃ vs, oe.data = .fields vs) → XSs (X.suite a ((a, oe) :: pn)) T (b₀ :: suite) B) :
    XSx X T W (.Try body [.ExceptHandler (some (.Name xn np)) none (b₀ :: suite) pos'] [] [] pos) (dTry X.K c A B) := by
  refine (ps_try_only (tb := fun W2 => lfSx X.K T W2 A) (ts := fun _ _ _ => lfS X.K T B) hs hf hc tk hb hsu).imp fun D σ H ⟨Z, τ, S, E, sl, ok, h, k⟩ => ?_
  refine ⟨Z, τ, S, _, sl, ok, h, ⟨k.nx, k.rt, k.bk, k.ct⟩, fun C σ' H' τ' S' x sl' ok' ⟨b, e1, q⟩ => ?_⟩
  refine ⟨b, e1, fun eb a na => ?_, fun eb => ?_⟩
  · rw [if_pos eb] at q
    exact ⟨Z, τ', S', E, sl', ok', q, k.toEOk.later x⟩
  · rw [if_neg (by rw [eb]; decide)] at q
    exact k.xx C σ' H' τ' S' x sl' ok' q
/-- in a def that lets nothing out -/
theorem s_try {A B : DS} {xn : Str} {c : Value} {body suite : List Stmt} {b₀ : Stmt} {np pos' : Pos} (hs : X.stack = X.env :: X.outer) (hf : X.env.frame = some X.env.locals) (hc : Names X xn c)
    (hb : ∀ (W' : WX) (pn : List (Addr × Obj)) (xe : Value → Shared → Prop), Takes (X.tr pn xe) W' → PassesOwn (model X.prog X.w) X.A X.env xe → XSsx (X.tr pn xe) T W' body A)
    (hsu : ∀ (a : Addr) (oe : Obj) (cls : Value) (d : Option Addr) (pn : List (Addr × Obj)), Zc cls d oe → (∃ vs, oe.data = .fields vs) → XSs (X.suite a ((a, oe) :: pn)) T (b₀ :: suite) B) :
    XS X T (.Try body [.ExceptHandler (some (.Name xn np)) none (b₀ :: suite) pos'] [] [] pos) (fun E τ S => dTry X.K c A B { E with ex := fun _ _ _ => False } τ S) :=
  (sx_try (W := fun _ _ _ _ => False) hs hf hc L2.takes0 hb hsu).imp fun D σ H ⟨Z, τ, S, E, sl, ok, h, k⟩ => ⟨Z, τ, S, _, sl, ok, h, ⟨k.nx, k.rt, k.bk, k.ct⟩, fun _ _ _ _ _ _ _ _ z => z.elim⟩
end
/-- an own error class, as the top left it -/
structure Ecl (K : PySem.W.Frag) (mg : Str → Option Value) (x : Str) (C : Addr) : Prop where
  q : PySem.W.excIn K C [.type "ValueError", .type "Exception", .type "BaseException", .type "object"] "ValueError.__new__" = true
  g : mg x = some (.ref C)
  k : PySem.W.keepIn K (.ref C) = true
  b : PySem.W.subIn K (.ref C) (.type "BaseException") = some true
  t : PySem.W.typeIn K (.ref C) = some (.type "type")
  m : PySem.W.exmOne K (.ref C) (.ref C) = some true
theorem exm_sub {K : PySem.W.Frag} {S C : Addr} {v : Bool} (h1 : PySem.W.subIn K (.ref S) (.type "BaseException") = some true) (h2 : PySem.W.isClsIn K S = true) (h3 : PySem.W.typeIn K (.ref S) = some (.type "type")) (h4 : PySem.W.subIn K (.ref C) (.ref S) = some v) :
    PySem.W.exmOne K (.ref C) (.ref S) = some v := by
  unfold PySem.W.exmOne
  rw [h1, if_pos (by decide)]
  show (if ((PySem.W.clsIn K S).isSome && PySem.W.typeIn K (.ref S) == some (.type "type")) = true then PySem.W.subIn K (.ref C) (.ref S) else none) = some v
  have h2' : (PySem.W.clsIn K S).isSome = true := h2
  rw [h2', h3]
  exact (if_pos (by decide)).trans h4
end Dl

set_option Elab.async false
set_option linter.all false
set_option maxRecDepth 100000
set_option maxHeartbeats 2000000
namespace Dl
open PySem PySem.Spec PyProof.Rows L2 LamX
section
variable {X : Cx} {K : PySem.W.Frag} {T : Tb} {a b c e f : Expr} {es : List Expr} {pos p2 : Pos}
/-! ### dicts with nested keys -/
mutual
theorem Rep.kvr {Z : List Addr} {H : Hp} {S : Store} : ∀ {d : D} {v : V} {k : Kt}, Rep K Z H S v d → ktOf d = some k → KVr K H k v
  | .int i, _, _, .int _, e => by simp only [ktOf] at e; cases e; exact .int i
  | .tup ds, _, k, .tup h r, e => by
    simp only [ktOf, Option.map_eq_some_iff] at e
    obtain ⟨ks, e, rfl⟩ := e
    exact .tup h.sq (Reps.kvrs r e)
  | .ptp ds, _, k, .ptp h r, e => by
    simp only [ktOf, Option.map_eq_some_iff] at e
    obtain ⟨ks, e, rfl⟩ := e
    exact .tup h.sq (Reps.kvrs r e)
  | .non, _, _, _, e => by simp [ktOf] at e
  | .bl b, _, _, _, e => by simp [ktOf] at e
  | .str b, _, _, _, e => by simp [ktOf] at e
  | .lst b, _, _, _, e => by simp [ktOf] at e
  | .scr b, _, _, _, e => by simp [ktOf] at e
  | .fn .., _, _, _, e => by simp [ktOf] at e
  | .exc .., _, _, _, e => by simp [ktOf] at e
  | .ref b, _, _, _, e => by simp [ktOf] at e
theorem Reps.kvrs {Z : List Addr} {H : Hp} {S : Store} : ∀ {ds : List D} {vs : List V} {ks : List Kt}, Reps K Z H S vs ds → ktsOf ds = some ks → KVrs K H ks vs
  | [], _, _, .nil, e => by simp only [ktsOf] at e; cases e; exact .nil
  | d :: ds, _, ks, .cons r t, e => by
    simp only [ktsOf] at e
    split at e
    · rename_i k ks' e1 e2
      cases e
      exact .cons (Rep.kvr r e1) (Reps.kvrs t e2)
    · cases e
end
theorem kt_tup {d : D} {k : Kt} {v : V} {Z : List Addr} {H : Hp} {S : Store} (r : Rep K Z H S v d) (e : ktOf d = some k) (n : 1 ≤ dpK k) : ∃ b, v = .ref b := by
  cases r with
  | int i => simp only [ktOf] at e; cases e; simp [dpK] at n
  | tup _ _ => exact ⟨_, rfl⟩
  | ptp _ _ => exact ⟨_, rfl⟩
  | _ => simp [ktOf] at e
def dMemo0 : DE := fun _ S Q => ∀ p, S p = none → Q (.ref p) (ups S p (.memo []))
theorem x_memo0 : XE X T (.Dict [] [] pos) dMemo0 :=
  pe_memo0.imp fun σ H Q ⟨Z, τ, S, R, sl, ok, h, k⟩ => fun p hp => k _ _ _ _ (.newS hp) (.ref p) (ok.newS (o := .memo []) hp ⟨[], upd_same, rfl, fun x hx => by cases hx⟩) (h p (ok.fresh hp))
def rMemoInD (neg : Bool) : DR2 := fun x y S Q => match y with
  | .ref p => match S p with
    | some (.memo ks) => match ktOf x with
      | some k => 1 ≤ dpK k ∧ dpK k ≤ 5 ∧ Q (.bl (if neg then !ks.contains k else ks.contains k)) S
      | none => False
    | _ => False
  | _ => False
theorem d_memoIn (neg : Bool) : Op2 K T (rMemoIn K neg) (rMemoInD neg) := by
  intro Z H S vx vy x y Qd Q ok rx ry h k
  unfold rMemoInD at h
  split at h
  · rename_i p
    cases ry
    split at h
    · rename_i ks e
      split at h
      · rename_i key ek
        obtain ⟨d1, d5, h⟩ := h
        obtain ⟨b, rfl⟩ := kt_tup rx ek d1
        obtain ⟨xs, hx, rfl, hk⟩ := ok.obj p _ e
        exact ⟨p, b, key, xs, rfl, rfl, hx, fun q hq => let ⟨d, r, e2, l⟩ := hk q hq; ⟨r.kvr e2, l⟩, rx.kvr ek, d5, k _ H _ S (.refl _ _) (.bl _) ok h⟩
      · exact h.elim
    · exact h.elim
  · exact h.elim
/-- d[k] = v -/
def dMemoSet (A O J : DE) : DS := fun E τ S => A τ S fun _ S1 => O τ S1 fun o S2 => J τ S2 fun i S3 => match o with
  | .ref p => match S3 p with
    | some (.memo ks) => match ktOf i with
      | some k => 1 ≤ dpK k ∧ dpK k ≤ 5 ∧ ks.length < sizeLine ∧ E.nx τ (ups S3 p (.memo (if ks.contains k then ks else ks ++ [k])))
      | none => False
    | _ => False
  | _ => False
theorem stored_keys {xs : List (Kt × Addr × Value)} {k : Kt} {b : Addr} {u : Value} : (storedH xs k b u).map (·.1) = if (xs.map (·.1)).contains k then xs.map (·.1) else xs.map (·.1) ++ [k] := by
  unfold storedH
  rw [atKey_has]
  split
  · exact keys_map_putAt xs k u
  · rw [List.map_append]; rfl
theorem stored_mem {xs : List (Kt × Addr × Value)} {k : Kt} {b : Addr} {u : Value} {q : Kt × Addr × Value} (h : q ∈ storedH xs k b u) : (q.1 = k ∧ q.2.1 = b) ∨ ∃ p ∈ xs, q.1 = p.1 ∧ q.2.1 = p.2.1 := by
  unfold storedH at h
  split at h
  · obtain ⟨p, hp, rfl⟩ := List.mem_map.mp h
    refine .inr ⟨p, hp, ?_⟩
    unfold putAt
    split <;> exact ⟨rfl, rfl⟩
  · rcases List.mem_append.mp h with h | h
    · exact .inr ⟨q, h, rfl, rfl⟩
    · rw [List.mem_singleton.mp h]; exact .inl ⟨rfl, rfl⟩
theorem s_memoSet {o i : Expr} {A O J : DE} {tpos : Pos} (hu : X.A.units + 9 < cLine) (ho : XE X T o O) (hi : XE X T i J) (he : XE X T e A) (hs : swapsWithSole [.Subscript o i tpos] e pos.line X.env = pure false := by rfl) (hw : swappedStores [.Subscript o i tpos] e X.env = pure none := by rfl)
    (h1 : (assignEach [.Subscript o i tpos] X.env).map (·.2) = [assign (.Subscript o i tpos) X.env] := by rfl)
    (ha : ∀ v, assign (.Subscript o i tpos) X.env v = (do
      let ov ← holding [v] (eval o X.env)
      let iv ← holding [v, ov] (eval i X.env)
      standAt tpos
      holding [v, ov, iv] (setItem ov iv v)
      release [v, ov, iv] []) := by intro _; rfl) : XS X T (.Assign [.Subscript o i tpos] e pos) (dMemoSet A O J) := by
  refine (ps_asg he (pg_sub ho hi (set_memo hu) ha) hs hw h1).imp fun D σ H ⟨Z, τ, S, E, sl, ok, h, k⟩ => ?_
  refine ⟨Z, τ, S, _, sl, ok, h, fun v H1 d S1 x1 r1 ok1 q1 => ?_⟩
  refine ⟨Z, τ, S1, _, sl.ext x1, ok1, q1, fun vo H2 dd S2 x2 r2 ok2 q2 => ?_⟩
  refine ⟨Z, τ, S2, _, sl.ext (x1.trans x2), ok2, q2, fun vi H3 di S3 x3 r3 ok3 q3 => ?_⟩
  split at q3
  · rename_i p
    cases r2
    split at q3
    · rename_i ks e
      split at q3
      · rename_i key ek
        obtain ⟨d1, d5, hl, q3⟩ := q3
        obtain ⟨b, rfl⟩ := kt_tup r3 ek d1
        obtain ⟨xs, hx, rfl, hk⟩ := ok3.obj p _ e
        refine ⟨p, b, key, xs, rfl, rfl, hx, fun q hq => let ⟨d, r, e2, l⟩ := hk q hq; ⟨r.kvr e2, l⟩, r3.kvr ek, d5, by rw [List.length_map] at hl; exact hl, fun u => ?_⟩
        rw [← stored_keys (b := b) (u := u)] at q3
        have x4 : Ext H3 S3 (upd H3 p (MemoO p (storedH xs key b u))) (ups S3 p (.memo ((storedH xs key b u).map (·.1)))) := .put e
        refine k.nx _ _ _ _ (x1.trans (x2.trans (x3.trans x4))) (sl.ext (x1.trans (x2.trans (x3.trans x4)))) (ok3.put e ⟨_, upd_same, rfl, fun q hq => ?_⟩) q3
        rcases stored_mem hq with ⟨e1, e2⟩ | ⟨y, hy, e1, e2⟩
        · rw [e1, e2]; exact ⟨di, r3.ext x4, ek, d5⟩
        · obtain ⟨d, r, e3, l⟩ := hk y hy
          rw [e1, e2]; exact ⟨d, r.ext x4, e3, l⟩
      · exact q3.elim
    · exact q3.elim
  · exact q3.elim
/-! ### ranges as values -/
theorem reps_rg {Z : List Addr} {H : Hp} {S : Store} (n : Int) : Reps K Z H S (rgV 0 n) (intsFrom 0 n.toNat) := by
  have e : rgV 0 n = ((List.range n.toNat).map fun i => (0 + (i : Nat) : Int)).map V.int := by
    unfold rgV
    rw [List.map_map, Int.sub_zero]
    rfl
  have gen : ∀ (m : Nat) (lo : Int), intsFrom lo m = ((List.range m).map fun i => (lo + (i : Nat) : Int)).map D.int := by
    intro m
    induction m with
    | zero => intro lo; rfl
    | succ m ih =>
      intro lo
      rw [intsFrom, ih, List.range_succ_eq_map, List.map_cons, List.map_cons, List.map_map, List.map_map, List.map_map]
      refine congr (congrArg _ (by simp)) (List.map_congr_left fun i _ => ?_)
      simp only [Function.comp, Nat.succ_eq_add_one]
      congr 1
      omega
  rw [e, gen]
  exact Reps.ints _
def dTupRg (A : DE) : DE := fun τ S Q => A τ S fun d S1 => match d with
  | .int n => 0 ≤ n ∧ n ≤ 1000000 ∧ Q (.tup (intsFrom 0 n.toNat)) S1
  | _ => False
def dLstRg (A : DE) : DE := fun τ S Q => A τ S fun d S1 => match d with
  | .int n => 0 ≤ n ∧ n ≤ 1000000 ∧ Q (.lst (intsFrom 0 n.toNat)) S1
  | _ => False
def dLstRgR (A : DE) : DE := fun τ S Q => A τ S fun d S1 => match d with
  | .int n => 0 ≤ n ∧ n ≤ 1000000 ∧ ∀ p, S1 p = none → Q (.ref p) (ups S1 p (.lst (intsFrom 0 n.toNat)))
  | _ => False
theorem rg_ok {n : Int} (h0 : 0 ≤ n) (h1 : n ≤ 1000000) : RgOk 0 n := RgOk.of_le (by omega) (by omega) (by omega) h0
theorem x_tupRg {A : DE} {p q : Pos} (hc : X.calm = true) (hg : Gl X "tuple") (hm : X.mg "tuple" = none) (hg2 : Gl X "range") (hm2 : X.mg "range" = none) (ha : XE X T a A) (na : starEach [a] X.env = (false, eval a X.env) :: starEach [] X.env := by rfl)
    (nb : starEach [Expr.Call (.Name "range" q) [a] [] p2] X.env = (false, eval (.Call (.Name "range" q) [a] [] p2) X.env) :: starEach [] X.env := by rfl) : XE X T (.Call (.Name "tuple" p) [.Call (.Name "range" q) [a] [] p2] [] pos) (dTupRg A) :=
  (pe_tupRg hc hg hm (prg_1 hg2 hm2 ha na) nb).imp fun σ H Q ⟨Z, τ, S, R, sl, ok, h, k⟩ => ⟨Z, τ, S, _, sl, ok, h, fun v H1 d S1 x1 r1 ok1 q => by
    split at q
    · rename_i n
      exact ⟨n, r1.int', rg_ok q.1 q.2.1, fun l hl => k _ _ _ S1 (x1.trans (.new hl)) (.newTup (reps_rg n) hl (ok1.fresh hl)) (ok1.new hl) q.2.2⟩
    · exact q.elim⟩
theorem x_lstRg {A : DE} {p q : Pos} (hc : X.calm = true) (hg : Gl X "list") (hm : X.mg "list" = none) (hg2 : Gl X "range") (hm2 : X.mg "range" = none) (ha : XE X T a A) (na : starEach [a] X.env = (false, eval a X.env) :: starEach [] X.env := by rfl)
    (nb : starEach [Expr.Call (.Name "range" q) [a] [] p2] X.env = (false, eval (.Call (.Name "range" q) [a] [] p2) X.env) :: starEach [] X.env := by rfl) : XE X T (.Call (.Name "list" p) [.Call (.Name "range" q) [a] [] p2] [] pos) (dLstRg A) :=
  (pe_listRg hc hg hm (prg_1 hg2 hm2 ha na) nb).imp fun σ H Q ⟨Z, τ, S, R, sl, ok, h, k⟩ => ⟨Z, τ, S, _, sl, ok, h, fun v H1 d S1 x1 r1 ok1 q => by
    split at q
    · rename_i n
      exact ⟨n, r1.int', rg_ok q.1 q.2.1, fun l hl => k _ _ _ S1 (x1.trans (.new hl)) (.newLst (reps_rg n) hl (ok1.fresh hl) (ok1.nz hl)) (ok1.new hl) q.2.2⟩
    · exact q.elim⟩
theorem x_lstRgR {A : DE} {p q : Pos} (hc : X.calm = true) (hg : Gl X "list") (hm : X.mg "list" = none) (hg2 : Gl X "range") (hm2 : X.mg "range" = none) (ha : XE X T a A) (na : starEach [a] X.env = (false, eval a X.env) :: starEach [] X.env := by rfl)
    (nb : starEach [Expr.Call (.Name "range" q) [a] [] p2] X.env = (false, eval (.Call (.Name "range" q) [a] [] p2) X.env) :: starEach [] X.env := by rfl) : XE X T (.Call (.Name "list" p) [.Call (.Name "range" q) [a] [] p2] [] pos) (dLstRgR A) :=
  (pe_listRg hc hg hm (prg_1 hg2 hm2 ha na) nb).imp fun σ H Q ⟨Z, τ, S, R, sl, ok, h, k⟩ => ⟨Z, τ, S, _, sl, ok, h, fun v H1 d S1 x1 r1 ok1 q => by
    split at q
    · rename_i n
      exact ⟨n, r1.int', rg_ok q.1 q.2.1, fun l hl => k _ _ _ _ (x1.trans (.newS hl)) (.ref l) (ok1.newS hl (.newLst (reps_rg n) hl)) (q.2.2 l (ok1.fresh hl))⟩
    · exact q.elim⟩
/-- range(n) as an object -/
theorem pe_rng1 {ta : TE} {p : Pos} (hg : Gl X "range") (hm : X.mg "range" = none) (ha : PE X a ta) (na : starEach [a] X.env = (false, eval a X.env) :: starEach [] X.env := by rfl) :
    PE X (.Call (.Name "range" p) [a] [] pos) (fun σ H Q => ta σ H fun x H1 => ∃ n, x = .int n ∧ ∀ q, H1 q = none → Q (.ref q) (upd H1 q (.rng 0 n))) := by
  refine ⟨fun pins s σ H Q I h => ?_⟩
  refine Call_ (ld_blt I hg hm boot_range (PyProof.Rows.callWith_type1 (one_arg ha I h (fun v s2 x H2 I2 r q => ?_) na) na))
  obtain ⟨n, rfl, q⟩ := q
  obtain ⟨t, rfl⟩ := r
  exact call_range_1 ⟨.ref s2.heap.objs.size, upd H2 s2.heap.objs.size (.rng 0 n), I2.laid (t' := _) (fun b o e => Heap.get?_push_of_some _ e) (Nat.le_refl _) ⟨_, _, _, Heap.get?_push_size _ rfl⟩, rfl, q _ (I2.hok.fresh (Nat.le_refl _))⟩
theorem op_notin_rng : OpR X (compareOp .NotIn) (fun x y H Q => ∃ i p lo hi, x = V.int i ∧ y = V.ref p ∧ H p = some (.rng lo hi) ∧ Q (.bl (!decide (lo ≤ i ∧ i < hi))) H) := by
  intro pins s σ H x y v u Q I rx ry ⟨i, p, lo, hi, ex, ey, hp, q⟩
  subst ex; subst ey
  obtain ⟨k, rfl⟩ := rx
  obtain rfl : u = Value.ref p := ry
  obtain ⟨t1, t2, t3, ho⟩ := I.hok p _ hp
  show wpAny _ _ (do return Value.bool (!(← contains (Value.ref p) (Value.int i k)))) _ _ s
  refine wpAny_bind (wpAny_contains_slot (T := "range") ⟨_, ho, rfl⟩ PySem.F.slot_range_contains (call_meets PySem.F.slot_range_contains ⟨_, ho, rfl⟩ PySem.F.entry_range_contains (PySem.F.args_range_contains_2 _ _) (q_contains p lo hi i t1 t2 t3 k) ⟨ho, wpAny_truthy_bool (wpAny_pure ⟨.bl _, H, I, rfl, ?_⟩)⟩))
  rw [place1]
  exact q
def dInRg (neg : Bool) (A B : DE) : DT := fun τ S Q => A τ S fun x S1 => B τ S1 fun y S2 => match x, y with
  | .int i, .int n => Q (if neg then !decide (0 ≤ i ∧ i < n) else decide (0 ≤ i ∧ i < n)) S2
  | _, _ => False
theorem t_inRg {A B : DE} {p : Pos} (hg : Gl X "range") (hm : X.mg "range" = none) (ha : XE X T a A) (hb : XE X T b B) (nb : starEach [b] X.env = (false, eval b X.env) :: starEach [] X.env := by rfl) (hk : behindInMarks .In (.Call (.Name "range" p) [b] [] p2) = false := by rfl) :
    XT X T (.Compare a [.In] [.Call (.Name "range" p) [b] [] p2] pos) (dInRg false A B) := by
  refine (pt_cmpR op_in_rng ha (pe_rng1 hg hm hb nb) hk).imp fun σ H Q ⟨Z, τ, S, R, sl, ok, h, k⟩ => ?_
  refine ⟨Z, τ, S, _, sl, ok, h, fun v H1 x S1 x1 r1 ok1 q1 => ⟨Z, τ, S1, _, sl.ext x1, ok1, q1, fun u H2 y S2 x2 r2 ok2 q2 => ?_⟩⟩
  split at q2
  · rename_i i n
    refine ⟨n, r2.int', fun p hp => ⟨i, p, 0, n, (r1.ext x2).int', rfl, upd_same, _, rfl, ?_⟩⟩
    exact k _ _ S2 (x1.trans (x2.trans (.new hp))) (ok2.new hp) q2
  · exact q2.elim
theorem t_notInRg {A B : DE} {p : Pos} (hg : Gl X "range") (hm : X.mg "range" = none) (ha : XE X T a A) (hb : XE X T b B) (nb : starEach [b] X.env = (false, eval b X.env) :: starEach [] X.env := by rfl) (hk : behindInMarks .NotIn (.Call (.Name "range" p) [b] [] p2) = false := by rfl) :
    XT X T (.Compare a [.NotIn] [.Call (.Name "range" p) [b] [] p2] pos) (dInRg true A B) := by
  refine (pt_cmpR op_notin_rng ha (pe_rng1 hg hm hb nb) hk).imp fun σ H Q ⟨Z, τ, S, R, sl, ok, h, k⟩ => ?_
  refine ⟨Z, τ, S, _, sl, ok, h, fun v H1 x S1 x1 r1 ok1 q1 => ⟨Z, τ, S1, _, sl.ext x1, ok1, q1, fun u H2 y S2 x2 r2 ok2 q2 => ?_⟩⟩
  split at q2
  · rename_i i n
    refine ⟨n, r2.int', fun p hp => ⟨i, p, 0, n, (r1.ext x2).int', rfl, upd_same, _, rfl, ?_⟩⟩
    exact k _ _ S2 (x1.trans (x2.trans (.new hp))) (ok2.new hp) q2
  · exact q2.elim
/-- len(set(e)): e a list of few ints -/
def dLenSet (A : DE) : DE := fun τ S Q => A τ S fun d S1 => ∃ ns : List Int, deref S1 d = .lst (ns.map D.int) ∧ ns.Nodup ∧ ns.length < 64 ∧ Q (.int ns.length) S1
theorem x_lenSet {A : DE} {p q p3 : Pos} (hc : X.calm = true) (hg : Gl X "len") (hm : X.mg "len" = none) (hg2 : Gl X "set") (hm2 : X.mg "set" = none) (ha : XE X T a A) (na : starEach [a] X.env = (false, eval a X.env) :: starEach [] X.env := by rfl) :
    XE X T (.Call (.Name "len" p) [.Call (.Name "set" p3) [a] [] q] [] pos) (dLenSet A) :=
  (RZ.pe_lenSetI hg hm hg2 hm2 ha hc na).imp fun σ H Q ⟨Z, τ, S, R, sl, ok, h, k⟩ => ⟨Z, τ, S, _, sl, ok, h, fun v H1 d S1 x1 r1 ok1 ⟨ns, e, nd, hl, q⟩ => by
    obtain ⟨l, vs, rfl, hs, rr⟩ := lst_at ok1 r1 e
    rw [rr.ints_of] at hs
    exact ⟨l, ns, rfl, hs, nd, by omega, k _ H1 _ S1 x1 (.int _) ok1 q⟩⟩
end
/-- xs + ys, a new list of the store -/
def rCatRD : DR2 := fun x y S Q => match deref S x, deref S y with
  | .lst a, .lst b => a.length + b.length ≤ sizeLine ∧ ∀ p, S p = none → Q (.ref p) (ups S p (.lst (a ++ b)))
  | _, _ => False
theorem lst_trk {K : PySem.W.Frag} {T : Tb} {Z : List Addr} {H : Hp} {S : Store} {v : V} {d : D} {ds : List D} (ok : StOk K T Z H S) (r : Rep K Z H S v d) (e : deref S d = .lst ds) : ∃ p vs, v = .ref p ∧ H p = some (.lst vs) ∧ Reps K Z H S vs ds := by
  rcases deref_cases S d with q | ⟨a, es, rfl, q, q2⟩
  · rw [q] at e
    subst e
    cases r with
    | lst h n z rr => exact ⟨_, _, rfl, h, rr⟩
  · rw [q2] at e
    cases e
    cases r
    obtain ⟨vs, h, rr⟩ := ok.obj a _ q
    exact ⟨a, vs, rfl, h, rr⟩
theorem d_catR {K : PySem.W.Frag} {T : Tb} : Op2 K T (rAddXV K) rCatRD := by
  intro Z H S vx vy x y Qd Q ok rx ry h k
  unfold rCatRD at h
  split at h
  · rename_i a b e1 e2
    obtain ⟨p, vs, rfl, h1, r1⟩ := lst_trk ok rx e1
    obtain ⟨q, ws, rfl, h2, r2⟩ := lst_trk ok ry e2
    exact .inr ⟨p, q, vs, ws, rfl, rfl, h1, h2, by rw [r1.length, r2.length]; exact h.1, fun l hl => k _ _ _ _ (.newS hl) (.ref l) (ok.newS hl (.newLst (r1.append r2) hl)) (h.2 l (ok.fresh hl))⟩
  · exact h.elim
theorem hu9_of {k : Nat} {A : Around} (hr : Room k A) : A.units + 9 < cLine := by have := hr.un; omega
/-! ### while -/
def dWhile (C : DT) (B : DS) : DS := fun E τ S => ∃ W : Nat → DSt → Store → Prop, (∃ m, W m τ S) ∧ ∀ m τ S, W m τ S →
  C τ S fun b S1 => if b = true then ∃ N : DSt → Store → Prop, (∀ τ' S', N τ' S' → ∃ m', m' < m ∧ W m' τ' S') ∧ B { E with nx := N, ct := N, bk := E.nx } τ S1 else E.nx τ S1
theorem s_while {X : Cx} {T : Tb} {c : Expr} {body : List Stmt} {pos : Pos} {C : DT} {B : DS} (hp : PassesOwn (model X.prog X.w) X.A X.env X.xe) (hc : XT X T c C) (hb : XSs X T body B) : XS X T (.While c body [] pos) (dWhile C B) := by
  refine (ps_while hp hc hb).imp fun D σ H ⟨Z, τ, S, E, sl, ok, ⟨W, ⟨m0, w0⟩, turn⟩, k⟩ => ?_
  refine ⟨fun m σ' H' => ∃ τ' S', Ext H S H' S' ∧ Slots X.K Z H' S' σ' τ' ∧ StOk X.K T Z H' S' ∧ W m τ' S', ⟨m0, τ, S, .refl _ _, sl, ok, w0⟩, ?_⟩
  rintro m σ' H' ⟨τ', S', x, sl', ok', w⟩
  refine ⟨Z, τ', S', _, sl', ok', turn m τ' S' w, fun b H1 S1 x1 ok1 q => ?_⟩
  cases b with
  | true =>
    rw [if_pos rfl] at q ⊢
    obtain ⟨N, hN, q⟩ := q
    have xx := x.trans x1
    refine ⟨fun σ2 H2 => ∃ τ2 S2, Ext H S H2 S2 ∧ Slots X.K Z H2 S2 σ2 τ2 ∧ StOk X.K T Z H2 S2 ∧ N τ2 S2, fun σ2 H2 ⟨τ2, S2, a1, a2, a3, a4⟩ => ?_, Z, τ', S1, _, sl'.ext x1, ok1, q, ?_⟩
    · obtain ⟨m', l, w'⟩ := hN τ2 S2 a4
      exact ⟨m', l, τ2, S2, a1, a2, a3, w'⟩
    · exact ⟨fun σ4 H4 τ4 S4 x4 s4 o4 h4 => ⟨τ4, S4, xx.trans x4, s4, o4, h4⟩, (k.later xx).rt, fun σ4 H4 τ4 S4 x4 s4 o4 h4 => (k.later xx).nx σ4 H4 τ4 S4 x4 s4 o4 h4, fun σ4 H4 τ4 S4 x4 s4 o4 h4 => ⟨τ4, S4, xx.trans x4, s4, o4, h4⟩⟩
  | false =>
    rw [if_neg (by decide)] at q ⊢
    exact (k.later x).nx σ' H1 τ' S1 x1 (sl'.ext x1) ok1 q
end Dl

set_option Elab.async false
set_option linter.all false
set_option maxRecDepth 100000
set_option maxHeartbeats 2000000
namespace Dl
open PySem PySem.Spec PyProof.Rows L2 LamX
/-! ### walks over a list of the store -/
abbrev DIR := DSt → Store → (Addr → List D → Store → Prop) → Prop
def itR (A : DE) : DIR := fun τ S Q => A τ S fun d S1 => match d with
  | .ref p => match S1 p with
    | some (.lst ds) => Q p ds S1
    | _ => False
  | _ => False
def lfIR (K : PySem.W.Frag) (T : Tb) (Ψ : DIR) : TI := fun σ H R => ∃ Z τ S G, Slots K Z H S σ τ ∧ StOk K T Z H S ∧ Ψ τ S G ∧ ∀ p H' ds S', Ext H S H' S' → StOk K T Z H' S' → S' p = some (.lst ds) → G p ds S' → R (Itl K p) H'
theorem i_ref {X : Cx} {T : Tb} {e tgt : Expr} {A : DE} (h : XE X T e A) : PI X tgt e (lfIR X.K T (itR A)) := by
  refine ⟨fun pins s σ H R I ⟨Z, τ, S, G, sl, ok, h1, k⟩ => ?_⟩
  refine thn (h.go I sl ok h1) fun u s1 ⟨v, H1, d, S1, I1, rv, x1, rd, ok1, q⟩ => ?_
  cases d with
  | ref p =>
    cases rd
    cases e : S1 p with
    | none => simp only [e] at q
    | some o =>
      cases o with
      | lst ds =>
        simp only [e] at q
        obtain ⟨vs, hv, rr⟩ := ok1.obj p _ e
        obtain rfl : u = Value.ref p := rv
        exact it_list I1 (.inl (.inl hv)) (k p H1 ds S1 x1 ok1 e q)
      | _ => simp only [e] at q
  | _ => exact q.elim
section
variable {K : PySem.W.Frag} {T : Tb} {Z : List Addr} {H : Hp} {S : Store} {p : Addr} {ds : List D}
theorem ref_go (ok : StOk K T Z H S) (e : S p = some (.lst ds)) {i : Nat} (h : i < ds.length) : (Itl K p).go i H := by
  obtain ⟨vs, hv, rr⟩ := ok.obj p _ e
  obtain ⟨v, hx, _⟩ := rr.get (i := i) (d := ds[i]) (by simp [h])
  exact ⟨vs, v, .inl (.inl hv), hx⟩
theorem ref_yld {tg : Tg} (ok : StOk K T Z H S) (e : S p = some (.lst ds)) {i : Nat} {d : D} {v : V} {H3 : Hp} (hd : ds[i]? = some d) (y : (Itl K p).yld i H v H3) : H3 = H ∧ tg.rep K Z H S v d := by
  obtain ⟨vs, hv, rr⟩ := ok.obj p _ e
  obtain ⟨e2, y⟩ := y
  have q := y vs (.inl (.inl hv))
  obtain ⟨v', hx, r⟩ := rr.get hd
  rw [q] at hx; cases hx
  exact ⟨e2, Tg.rep_of r⟩
theorem ref_stop (ok : StOk K T Z H S) (e : S p = some (.lst ds)) {i : Nat} (h : ds.length ≤ i) : (Itl K p).stop i H := by
  obtain ⟨vs, hv, rr⟩ := ok.obj p _ e
  exact ⟨vs, .inl (.inl hv), by rw [rr.length]; exact h⟩
end
def loopR (p : Addr) (es : List D) (tg : Tg) (B : DS) (E : DEnds) : List D → DSt → Store → Prop
  | [], τ, S => S p = some (.lst es) ∧ E.nx τ S
  | d :: r, τ, S => S p = some (.lst es) ∧ match tg.d τ d with
    | some τ' => B { E with nx := loopR p es tg B E r, ct := loopR p es tg B E r, bk := E.nx } τ' S
    | none => False
def dForR (I : DIR) (tg : Tg) (B : DS) : DS := fun E τ S => I τ S fun p ds S1 => loopR p ds tg B E ds τ S1
theorem s_forR {X : Cx} {T : Tb} {pos : Pos} {tgt iter : Expr} {body : List Stmt} {I : DIR} {tg : Tg} {B : DS} (hp : PassesOwn (model X.prog X.w) X.A X.env X.xe) (hc : X.calm = true) (hi : PI X tgt iter (lfIR X.K T I)) (hg : PG X tgt (tg.g X.K)) (hb : XSs X T body B)
    (hs : ∀ x, foldedSetIterable iter X.env x = pure x := by intro _; rfl) : XS X T (.For tgt iter body [] pos) (dForR I tg B) := by
  refine (ps_for hp hc hi hg hb hs).imp fun D σ H ⟨Z, τ, S, E, sl, ok, h, k⟩ => ?_
  refine ⟨Z, τ, S, _, sl, ok, h, fun p H1 ds S1 x1 ok1 e1 q => ?_⟩
  have sl1 := sl.ext x1
  refine ⟨fun i m σ' H' => m = ds.length - i ∧ i ≤ ds.length ∧ ∃ τ' S', Ext H1 S1 H' S' ∧ Slots X.K Z H' S' σ' τ' ∧ StOk X.K T Z H' S' ∧ loopR p ds tg B E (ds.drop i) τ' S', ⟨ds.length, by simp, Nat.zero_le _, τ, S1, .refl _ _, sl1, ok1, by simpa using q⟩, ?_⟩
  rintro i m σ' H' ⟨rfl, hi', τ', S', x2, sl2, ok2, q2⟩
  by_cases hlt : i < ds.length
  · rw [drop_at hlt] at q2
    unfold loopR at q2
    obtain ⟨ep, q2⟩ := q2
    refine .inr ⟨ref_go ok2 ep hlt, fun σ2 H2 => ∃ τ2 S2, Ext H1 S1 H2 S2 ∧ Slots X.K Z H2 S2 σ2 τ2 ∧ StOk X.K T Z H2 S2 ∧ loopR p ds tg B E (ds.drop (i + 1)) τ2 S2, fun σ2 H2 ⟨τ2, S2, a1, a2, a3, a4⟩ => ⟨ds.length - (i + 1), by omega, rfl, hlt, τ2, S2, a1, a2, a3, a4⟩, fun v H2 y => ?_⟩
    obtain ⟨rfl, r3⟩ := ref_yld (tg := tg) ok2 ep (d := ds[i]) (by simp [hlt]) y
    cases et : tg.d τ' ds[i] with
    | none => rw [et] at q2; exact q2.elim
    | some τ'' =>
      rw [et] at q2
      refine Tg.of r3 sl2 et fun σ3 sl3 _ => ⟨Z, τ'', S', _, sl3, ok2, q2, ?_⟩
      have xx := x1.trans x2
      exact ⟨fun σ4 H4 τ4 S4 x4 s4 o4 h4 => ⟨τ4, S4, x2.trans x4, s4, o4, h4⟩, (k.later xx).rt, fun σ4 H4 τ4 S4 x4 s4 o4 h4 => (k.later xx).nx σ4 H4 τ4 S4 x4 s4 o4 h4, fun σ4 H4 τ4 S4 x4 s4 o4 h4 => ⟨τ4, S4, x2.trans x4, s4, o4, h4⟩⟩
  · have e : i = ds.length := by omega
    subst e
    rw [List.drop_length] at q2
    unfold loopR at q2
    exact .inl ⟨ref_stop ok2 q2.1 (Nat.le_refl _), (k.later (x1.trans x2)).nx σ' H' τ' S' (.refl _ _) sl2 ok2 q2.2⟩
/-! ### comprehensions over a list of the store -/
def compR (p : Addr) (es : List D) (tg : Tg) (C : DT) (A : DE) (τ : DSt) : List D → List D → Store → (List D → Store → Prop) → Prop
  | [], acc, S, Q => S p = some (.lst es) ∧ Q acc S
  | d :: r, acc, S, Q => S p = some (.lst es) ∧ match tg.d τ d with
    | some τ' => C τ' S fun b S1 => if b = true then A τ' S1 fun y S2 => compR p es tg C A τ r (acc ++ [y]) S2 Q else compR p es tg C A τ r acc S1 Q
    | none => False
def dCompR (I : DIR) (tg : Tg) (C : DT) (A : DE) (ws : List Nat) : DI := fun τ S Q => I τ S fun p ds S1 => ds.length ≤ sizeLine ∧ compR p ds tg C A (wipeD τ ws) ds [] S1 Q
def dLcX (I : DIR) (tg : Tg) (C : DT) (A : DE) (ws : List Nat) : DE := fun τ S Q => dCompR I tg C A ws τ S fun ds S1 => Q (.lst ds) S1
def dLcXR (I : DIR) (tg : Tg) (C : DT) (A : DE) (ws : List Nat) : DE := fun τ S Q => dCompR I tg C A ws τ S fun ds S1 => ∀ p, S1 p = none → Q (.ref p) (ups S1 p (.lst ds))
theorem lf_compR {K : PySem.W.Frag} {T : Tb} {Z : List Addr} {I : DIR} {tg : Tg} {C : DT} {A : DE} {ws : List Nat} (hws : ∀ i ∈ tg.sl, i ∈ ws) {σ : L2.St} {H : Hp} {Q : VK} {τ : DSt} {S : Store} {G : List D → Store → Prop} (sl : Slots K Z H S σ τ) (ok : StOk K T Z H S) (h : dCompR I tg C A ws τ S G)
    (k : ∀ p H1 vs ds S1, Ext H S H1 S1 → H1 p = some (.lst vs) → S1 p = none → p ∉ Z → (∀ a o, S a = none → H a = some o → (∀ ps, o ≠ .tbl ps) → a ≠ p) → Reps K (p :: Z) H1 S1 vs ds → StOk K T (p :: Z) H1 S1 → G ds S1 → Q (.ref p) H1) :
    tLc (lfIR K T I) (tg.g K) (lfT K T C) (lf K T A) ws σ H Q := by
  refine ⟨Z, τ, S, _, sl, ok, h, fun w H1 ds S1 x1 ok1 ew ⟨hz, q⟩ D hD => ?_⟩
  have nD : S1 D = none := ok1.fresh hD
  have xD : Ext H1 S1 (upd H1 D (.lst [])) S1 := .new hD
  have nZ : D ∉ Z := fun q => by
    obtain ⟨_, vs, e⟩ := ok1.rsv D q
    rw [hD] at e; cases e
  have hDH : ∀ a o, S a = none → H a = some o → (∀ ps, o ≠ .tbl ps) → a ≠ D := fun a o n e nt z => by
    have q := x1.eq a o n e nt
    rw [z, hD] at q; cases q
  have zz : ∀ z ∈ D :: Z, z ∈ Z ∨ H1 z = none := fun z h => (List.mem_cons.mp h).elim (fun e => .inr (by rw [e]; exact hD)) .inl
  have sl1 := (sl.ext x1).map fun _ _ r => r.zw zz
  refine ⟨fun i m H' => m = ds.length - i ∧ i ≤ ds.length ∧ ∃ S' vs acc, Ext H1 S1 H' S' ∧ S' D = none ∧ H' D = some (.lst vs) ∧ Reps K (D :: Z) H' S' vs acc ∧ acc.length ≤ i ∧ StOk K T (D :: Z) H' S' ∧ compR w ds tg C A (wipeD τ ws) (ds.drop i) acc S' G, ?_, ?_⟩
  · exact ⟨ds.length, by simp, Nat.zero_le _, S1, [], [], xD, nD, upd_same, .nil, Nat.zero_le _, ok1.zn hD, by simpa using q⟩
  · rintro i m H' ⟨rfl, hi, S', vs, acc, x2, n2, e2, r2, l2, ok2, q2⟩
    by_cases hlt : i < ds.length
    · rw [drop_at hlt] at q2
      unfold compR at q2
      obtain ⟨ep, q2⟩ := q2
      refine .inr ⟨ref_go ok2 ep hlt, fun H3 => ∃ S3 vs3 acc3, Ext H1 S1 H3 S3 ∧ S3 D = none ∧ H3 D = some (.lst vs3) ∧ Reps K (D :: Z) H3 S3 vs3 acc3 ∧ acc3.length ≤ i + 1 ∧ StOk K T (D :: Z) H3 S3 ∧ compR w ds tg C A (wipeD τ ws) (ds.drop (i + 1)) acc3 S3 G, fun H3 ⟨S3, vs3, acc3, a1, a2, a3, a4, a5, a6, a7⟩ => ⟨ds.length - (i + 1), by omega, rfl, hlt, S3, vs3, acc3, a1, a2, a3, a4, a5, a6, a7⟩, fun v H3 y => ?_⟩
      obtain ⟨rfl, r3⟩ := ref_yld (tg := tg) ok2 ep (d := ds[i]) (by simp [hlt]) y
      cases et : tg.d (wipeD τ ws) ds[i] with
      | none => rw [et] at q2; exact q2.elim
      | some τ' =>
        rw [et] at q2
        have slw : Slots K (D :: Z) H3 S' (L2.wipe σ ws) (wipeD τ ws) := ((sl1.ext x2).wipe ws)
        refine Tg.of r3 slw et fun σ3 sl3 hw => ⟨?_, ?_⟩
        · rw [hw ws hws]
          exact wipe_idem ws
        · refine ⟨D :: Z, τ', S', _, sl3, ok2, q2, fun b H4 S4 x4 ok4 q4 => ?_⟩
          have e4 : H4 D = some (.lst vs) := x4.eq D _ n2 e2 fun ps z => (by cases z)
          have n4 := x4.hid D _ n2 e2 fun ps z => (by cases z)
          cases b with
          | false => exact ⟨S4, vs, acc, x2.trans x4, n4, e4, r2.ext x4, by omega, ok4, q4⟩
          | true =>
            refine ⟨D :: Z, τ', S4, _, sl3.ext x4, ok4, q4, fun w H5 d5 S5 x5 r5 ok5 q5 => ?_⟩
            have x45 := x4.trans x5
            have e5 : H5 D = some (.lst vs) := x5.eq D _ n4 e4 fun ps z => (by cases z)
            have n5 := x5.hid D _ n4 e4 fun ps z => (by cases z)
            have inD : D ∈ D :: Z := List.mem_cons_self
            refine ⟨vs, e5, ?_, S5, vs ++ [w], acc ++ [d5], ?_, n5, upd_same, ?_, by simp; omega, ?_, q5⟩
            · rw [r2.length]; omega
            · exact (x2.trans x45).hset hD
            · exact ((r2.ext x45).append (.cons r5 .nil)).hset e5 inD
            · exact ok5.hset e5 inD
    · have e : i = ds.length := by omega
      subst e
      rw [List.drop_length] at q2
      unfold compR at q2
      exact .inl ⟨ref_stop ok2 q2.1 (Nat.le_refl _), k D H' vs acc S' (x1.trans x2) e2 n2 nZ hDH r2 ok2 q2.2⟩
section
variable {X : Cx} {T : Tb} {pos : Pos} {elt tgt iter : Expr} {ifs : List Expr} {scope : Scope} {own : List (Str × Nat)} {I : DIR} {tg : Tg} {C : DT} {A : DE}
theorem x_lcX (hc : X.calm = true) (hN : X.N.Nodup) (hi : PI X tgt iter (lfIR X.K T I)) (ok : BlkOk X.N X.env.scope scope own) (hg : Blk X scope fun Y => PG Y tgt (tg.g Y.K)) (ht : Blk X scope fun Y => XTs Y T ifs C) (he : Blk X scope fun Y => XE Y T elt A)
    (hws : ∀ i ∈ tg.sl, i ∈ own.map (·.2)) (hs : ∀ x, foldedSetIterable iter X.env x = pure x := by intro _; rfl) : XE X T (.ListComp elt [⟨tgt, iter, ifs, 0⟩] scope pos) (dLcX I tg C A (own.map (·.2))) :=
  (pe_lc (g := tg.g X.K) (tt := lfT X.K T C) (te := lf X.K T A) hc hN hi ok hg ht he hs).imp fun σ H Q ⟨Z, τ, S, R, sl, ok, h, k⟩ => lf_compR hws sl ok h fun p H1 vs ds S1 x1 e1 n1 nz _ r1 ok1 g => k _ H1 _ S1 x1 (.lst e1 n1 nz (r1.zs fun z h => List.mem_cons_of_mem _ h)) (ok1.zs fun z h => List.mem_cons_of_mem _ h) g
theorem x_lcXR (hc : X.calm = true) (hN : X.N.Nodup) (hi : PI X tgt iter (lfIR X.K T I)) (ok : BlkOk X.N X.env.scope scope own) (hg : Blk X scope fun Y => PG Y tgt (tg.g Y.K)) (ht : Blk X scope fun Y => XTs Y T ifs C) (he : Blk X scope fun Y => XE Y T elt A)
    (hws : ∀ i ∈ tg.sl, i ∈ own.map (·.2)) (hs : ∀ x, foldedSetIterable iter X.env x = pure x := by intro _; rfl) : XE X T (.ListComp elt [⟨tgt, iter, ifs, 0⟩] scope pos) (dLcXR I tg C A (own.map (·.2))) :=
  (pe_lc (g := tg.g X.K) (tt := lfT X.K T C) (te := lf X.K T A) hc hN hi ok hg ht he hs).imp fun σ H Q ⟨Z, τ, S, R, sl, ok, h, k⟩ => lf_compR hws sl ok h fun p H1 vs ds S1 x1 e1 n1 nz f r1 ok1 g => k _ H1 _ _ (x1.toRef f) (.ref p) (ok1.show e1 nz r1) (g p n1)
end
/-! what they ask -/
theorem loopR_ind {p : Addr} {es : List D} {tg : Tg} {B : DS} {E : DEnds} (P : List D → DSt → Store → Prop) (hk : ∀ ds τ S, P ds τ S → S p = some (.lst es)) (h0 : ∀ τ S, P [] τ S → E.nx τ S)
    (h1 : ∀ d r τ S (N : DSt → Store → Prop), P (d :: r) τ S → (∀ τ' S', P r τ' S' → N τ' S') → match tg.d τ d with
      | some τ' => B { nx := N, rt := E.rt, bk := E.nx, ct := N, ex := E.ex, ey := E.ey } τ' S
      | none => False) : ∀ (ds : List D) (τ : DSt) (S : Store), P ds τ S → loopR p es tg B E ds τ S
  | [], τ, S, q => ⟨hk _ τ S q, h0 τ S q⟩
  | d :: r, τ, S, q => by
    have w := h1 d r τ S (loopR p es tg B E r) q fun τ' S' q' => loopR_ind P hk h0 h1 r τ' S' q'
    unfold loopR
    exact ⟨hk _ τ S q, w⟩
theorem compR_of {p : Addr} {es : List D} {tg : Tg} {C : DT} {A : DE} {τ : DSt} {Q : List D → Store → Prop} {S : Store} (hp : S p = some (.lst es)) {α : Type} (enc : α → D) (c : α → Bool) (f : α → D) (xs : List α)
    (h : ∀ x ∈ xs, match tg.d τ (enc x) with
      | some τ' => ∀ (G : Bool → Store → Prop), (G (c x) S → C τ' S G) ∧ ∀ (G : DK), c x = true → G (f x) S → A τ' S G
      | none => False) (q : Q ((xs.filter c).map f) S) : compR p es tg C A τ (xs.map enc) [] S Q := by
  have main : ∀ (ys : List α) (acc : List D), (∀ y ∈ ys, y ∈ xs) → Q (acc ++ (ys.filter c).map f) S → compR p es tg C A τ (ys.map enc) acc S Q := by
    intro ys
    induction ys with
    | nil => intro acc _ q; exact ⟨hp, by simpa using q⟩
    | cons y r ih =>
      intro acc hm q
      have hy := h y (hm y List.mem_cons_self)
      rw [List.map_cons]
      unfold compR
      refine ⟨hp, ?_⟩
      cases e : tg.d τ (enc y) with
      | none => rw [e] at hy; exact hy.elim
      | some τ' =>
        rw [e] at hy
        refine (hy _).1 ?_
        cases ec : c y with
        | true =>
          simp only [if_true]
          refine (hy (fun _ _ => False)).2 _ ec (ih _ (fun z hz => hm z (List.mem_cons_of_mem _ hz)) ?_)
          rw [List.filter_cons_of_pos ec] at q
          simpa using q
        | false =>
          simp only [Bool.false_eq_true, if_false]
          refine ih _ (fun z hz => hm z (List.mem_cons_of_mem _ hz)) ?_
          rw [List.filter_cons_of_neg (by simp [ec])] at q
          exact q
  exact main xs [] (fun _ h => h) (by simpa using q)
/-! ### a comprehension within a comprehension -/
theorem lookup_rel (env : Env) (x : Str) : ∀ (names : List (Str × NameKind)), names.lookup x = some .cell ∨ names.lookup x = some .free →
    (names.map fun (n, k) => if (k == NameKind.free && env.scope.kind == .function && env.kindOf n == some .cell) then (n, NameKind.cell) else (n, k)).lookup x = some .cell ∨
      (names.map fun (n, k) => if (k == NameKind.free && env.scope.kind == .function && env.kindOf n == some .cell) then (n, NameKind.cell) else (n, k)).lookup x = some .free
  | [], h => by simp at h
  | (n, k) :: r, h => by
    have ih := lookup_rel env x r
    show List.lookup x ((if (k == NameKind.free && env.scope.kind == .function && env.kindOf n == some .cell) = true then (n, NameKind.cell) else (n, k)) :: _) = _ ∨ List.lookup x ((if (k == NameKind.free && env.scope.kind == .function && env.kindOf n == some .cell) = true then (n, NameKind.cell) else (n, k)) :: _) = _
    cases hx : x == n with
    | true =>
      simp only [List.lookup_cons, hx] at h
      by_cases hc : (k == NameKind.free && env.scope.kind == .function && env.kindOf n == some .cell) = true
      · rw [if_pos hc]; simp only [List.lookup_cons, hx]; exact .inl trivial
      · rw [if_neg hc]; simp only [List.lookup_cons, hx]; exact h
    | false =>
      simp only [List.lookup_cons, hx] at h
      by_cases hc : (k == NameKind.free && env.scope.kind == .function && env.kindOf n == some .cell) = true
      · rw [if_pos hc]; simp only [List.lookup_cons, hx]; exact ih h
      · rw [if_neg hc]; simp only [List.lookup_cons, hx]; exact ih h
theorem blkOk_rel {N : List Str} {sc scope : Scope} {own : List (Str × Nat)} {env : Env} (h : BlkOk N sc scope own) : BlkOk N (relabel sc env) scope own :=
  ⟨h.kind, h.uniq, h.ix, fun y hy e => lookup_rel env y.1 sc.names (h.free y hy e), h.own⟩
end Dl

set_option Elab.async false
set_option linter.all false
set_option maxRecDepth 100000
namespace Dl
open PySem PySem.Spec PyProof.Rows L2 LamX
/-! ### how readings compute -/
theorem atI0 {α : Type} (a : α) (l : List α) : atI (a :: l) 0 = some a := by
  unfold atI ixN
  rw [if_pos (by omega), if_pos (by simp)]
  rfl
theorem atI_n {α : Type} {l : List α} {n : Nat} (h : n < l.length) : atI l (n : Int) = l[n]? := by
  unfold atI ixN
  rw [if_pos (by omega), if_pos (by omega)]
  rfl
theorem atI1 {α : Type} (a b : α) (l : List α) : atI (a :: b :: l) 1 = some b := (atI_n (n := 1) (by simp)).trans rfl
theorem atI2 {α : Type} (a b c : α) (l : List α) : atI (a :: b :: c :: l) 2 = some c := (atI_n (n := 2) (by simp)).trans rfl
theorem atI3 {α : Type} (a b c d : α) (l : List α) : atI (a :: b :: c :: d :: l) 3 = some d := (atI_n (n := 3) (by simp)).trans rfl
theorem atI4 {α : Type} (a b c d e : α) (l : List α) : atI (a :: b :: c :: d :: e :: l) 4 = some e := (atI_n (n := 4) (by simp)).trans rfl
theorem atI5 {α : Type} (a b c d e f : α) (l : List α) : atI (a :: b :: c :: d :: e :: f :: l) 5 = some f := (atI_n (n := 5) (by simp)).trans rfl
theorem atIm2 {α : Type} (a b : α) : atI [a, b] (-1) = some b := rfl
theorem atIm3 {α : Type} (a b c : α) : atI [a, b, c] (-1) = some c := rfl
theorem atIm4 {α : Type} (a b c d : α) : atI [a, b, c, d] (-1) = some d := rfl
theorem ixN_n {n i : Nat} (h : i < n) : ixN n (i : Int) = some i := by
  unfold ixN
  rw [if_pos (by omega), if_pos (by omega)]
  rfl
theorem ixN3_0 : ixN 3 0 = some 0 := rfl
theorem ixN3_1 : ixN 3 1 = some 1 := rfl
theorem deref_non (S : Store) : deref S .non = .non := rfl
theorem deref_bl (S : Store) (b : Bool) : deref S (.bl b) = .bl b := rfl
theorem deref_int (S : Store) (b : Int) : deref S (.int b) = .int b := rfl
theorem deref_str (S : Store) (b : Str) : deref S (.str b) = .str b := rfl
theorem deref_tp (S : Store) (b : List D) : deref S (.tup b) = .tup b := rfl
theorem deref_ptp (S : Store) (b : List D) : deref S (.ptp b) = .ptp b := rfl
theorem deref_lst (S : Store) (b : List D) : deref S (.lst b) = .lst b := rfl
theorem deref_rf {S : Store} {p : Addr} {ds : List D} (h : S p = some (.lst ds)) : deref S (.ref p) = .lst ds := by unfold deref; simp [h]
theorem deref_rfK {S : Store} {p : Addr} {ds : List (L2.Key × D)} (h : S p = some (.dK ds)) : deref S (.ref p) = .ref p := by unfold deref; simp [h]
theorem items_tup (S : Store) (b : List D) : items S (.tup b) = some b := rfl
theorem items_ptp (S : Store) (b : List D) : items S (.ptp b) = some b := rfl
theorem items_lst (S : Store) (b : List D) : items S (.lst b) = some b := rfl
theorem items_rf {S : Store} {p : Addr} {ds : List D} (h : S p = some (.lst ds)) : items S (.ref p) = some ds := by unfold items; rw [deref_rf h]
theorem len6 : (6 : Nat) ≤ sizeLine := by rw [sizeLine_eq]; decide
theorem len_ok {n : Nat} (h : n ≤ 1000) : n ≤ sizeLine := by rw [sizeLine_eq]; omega
/-- what a def gives back may know less -/
theorem sub_ups {S : Store} {p : Addr} {o : MO} (h : S p = none) : Sub S (ups S p o) := fun a u e => by
  rw [ups_ne (fun z => by rw [z, h] at e; cases e)]; exact e
theorem fin_of {R : DK} {d : D} {S : Store} (h : R d S) : ∃ S'', Sub S'' S ∧ R d S'' := ⟨S, .refl S, h⟩
theorem fin_sub {R : DK} {d : D} {S S' : Store} (h : R d S) (s : Sub S S') : ∃ S'', Sub S'' S' ∧ R d S'' := ⟨S, s, h⟩
/-! loops, by what is left -/
theorem loop_ind {tg : Tg} {B : DS} {E : DEnds} (P : List D → DSt → Store → Prop) (h0 : ∀ τ S, P [] τ S → E.nx τ S)
    (h1 : ∀ d r τ S (N : DSt → Store → Prop), P (d :: r) τ S → (∀ τ' S', P r τ' S' → N τ' S') → match tg.d τ d with
      | some τ' => B { nx := N, rt := E.rt, bk := E.nx, ct := N, ex := E.ex, ey := E.ey } τ' S
      | none => False) : ∀ (ds : List D) (τ : DSt) (S : Store), P ds τ S → loopD tg B E ds τ S
  | [], τ, S, p => h0 τ S p
  | d :: r, τ, S, p => by
    have q := h1 d r τ S (loopD tg B E r) p fun τ' S' p' => loop_ind P h0 h1 r τ' S' p'
    unfold loopD
    exact q
theorem comp_ind {tg : Tg} {C : DT} {A : DE} {τ : DSt} {Q : List D → Store → Prop} (P : List D → List D → Store → Prop) (h0 : ∀ acc S, P [] acc S → Q acc S)
    (h1 : ∀ d r acc S (N : List D → Store → Prop), P (d :: r) acc S → (∀ acc' S', P r acc' S' → N acc' S') → match tg.d τ d with
      | some τ' => C τ' S fun b S1 => if b = true then A τ' S1 fun y S2 => N (acc ++ [y]) S2 else N acc S1
      | none => False) : ∀ (ds acc : List D) (S : Store), P ds acc S → compD tg C A τ ds acc S Q
  | [], acc, S, p => h0 acc S p
  | d :: r, acc, S, p => by
    have q := h1 d r acc S (fun a s => compD tg C A τ r a s Q) p fun a s p' => comp_ind P h0 h1 r a s p'
    unfold compD
    exact q
/-- [f x for x in xs if c x], plain -/
theorem comp_pure {α : Type} {tg : Tg} {C : DT} {A : DE} {τ : DSt} {Q : List D → Store → Prop} {S : Store} (enc : α → D) (c : α → Bool) (f : α → D) (xs : List α)
    (h : ∀ x ∈ xs, match tg.d τ (enc x) with
      | some τ' => ∀ (G : Bool → Store → Prop), (G (c x) S → C τ' S G) ∧ ∀ (G : DK), c x = true → G (f x) S → A τ' S G
      | none => False) (q : Q ((xs.filter c).map f) S) : compD tg C A τ (xs.map enc) [] S Q := by
  have main : ∀ (ys : List α) (acc : List D), (∀ y ∈ ys, y ∈ xs) → Q (acc ++ (ys.filter c).map f) S → compD tg C A τ (ys.map enc) acc S Q := by
    intro ys
    induction ys with
    | nil => intro acc _ q; simpa [compD] using q
    | cons y r ih =>
      intro acc hm q
      have hy := h y (hm y List.mem_cons_self)
      rw [List.map_cons]
      unfold compD
      cases e : tg.d τ (enc y) with
      | none => rw [e] at hy; exact hy.elim
      | some τ' =>
        rw [e] at hy
        refine (hy _).1 ?_
        cases ec : c y with
        | true =>
          simp only [if_true]
          refine (hy (fun _ _ => False)).2 _ ec (ih _ (fun z hz => hm z (List.mem_cons_of_mem _ hz)) ?_)
          rw [List.filter_cons_of_pos ec] at q
          simpa using q
        | false =>
          simp only [Bool.false_eq_true, if_false]
          refine ih _ (fun z hz => hm z (List.mem_cons_of_mem _ hz)) ?_
          rw [List.filter_cons_of_neg (by simp [ec])] at q
          exact q
  exact main xs [] (fun _ h => h) (by simpa using q)
/-- two strictly sorted lists with the same members -/
theorem sorted_ext {α : Type} (lt : α → α → Prop) (irr : ∀ a, ¬ lt a a) (tr : ∀ a b c, lt a b → lt b c → lt a c) : ∀ {l m : List α}, l.Pairwise lt → m.Pairwise lt → (∀ x, x ∈ l ↔ x ∈ m) → l = m
  | [], [], _, _, _ => rfl
  | [], y :: m, _, _, h => by have := (h y).mpr List.mem_cons_self; simp at this
  | x :: l, [], _, _, h => by have := (h x).mp List.mem_cons_self; simp at this
  | x :: l, y :: m, hl, hm, h => by
    rw [List.pairwise_cons] at hl hm
    have e : x = y := by
      rcases List.mem_cons.mp ((h x).mp List.mem_cons_self) with e | e
      · exact e
      · rcases List.mem_cons.mp ((h y).mpr List.mem_cons_self) with e' | e'
        · exact e'.symm
        · exact absurd (tr _ _ _ (hl.1 y e') (hm.1 x e)) (irr x)
    subst e
    rw [sorted_ext lt irr tr hl.2 hm.2 fun z => ?_]
    constructor
    · intro hz
      rcases List.mem_cons.mp ((h z).mp (List.mem_cons_of_mem _ hz)) with e | e
      · subst e; exact absurd (hl.1 z hz) (irr z)
      · exact e
    · intro hz
      rcases List.mem_cons.mp ((h z).mpr (List.mem_cons_of_mem _ hz)) with e | e
      · subst e; exact absurd (hm.1 z hz) (irr z)
      · exact e
theorem dq_ii (i j : Int) : deq (.int i) (.int j) = (i == j) := by simp only [deq]
theorem dq_bb (i j : Bool) : deq (.bl i) (.bl j) = (i == j) := by simp only [deq]
theorem dq_ss (i j : Str) : deq (.str i) (.str j) = (i == j) := by simp only [deq]
theorem dq_tt (i j : List D) : deq (.tup i) (.tup j) = deqs i j := by simp only [deq]
theorem dq_tp (i j : List D) : deq (.tup i) (.ptp j) = deqs i j := by simp only [deq]
theorem dq_pt (i j : List D) : deq (.ptp i) (.tup j) = deqs i j := by simp only [deq]
theorem dq_pp (i j : List D) : deq (.ptp i) (.ptp j) = deqs i j := by simp only [deq]
theorem dq_ll (i j : List D) : deq (.lst i) (.lst j) = deqs i j := by simp only [deq]
theorem dq_n0 : deqs [] [] = true := by simp only [deqs]
theorem dq_nc (x : D) (l : List D) : deqs [] (x :: l) = false := by simp only [deqs]
theorem dq_cn (x : D) (l : List D) : deqs (x :: l) [] = false := by simp only [deqs]
theorem dq_cc (x y : D) (l m : List D) : deqs (x :: l) (y :: m) = (deq x y && deqs l m) := by simp only [deqs]
theorem ok_non (n : Nat) : okd n .non = true := by simp only [okd]
theorem ok_bl (n : Nat) (b : Bool) : okd n (.bl b) = true := by simp only [okd]
theorem ok_int (n : Nat) (b : Int) : okd n (.int b) = true := by simp only [okd]
theorem ok_str (n : Nat) (b : Str) : okd n (.str b) = PyData.strOk b := by simp only [okd]
theorem ok_tp (ds : List D) : okd 60 (.tup ds) = okds 59 ds := by simp only [okd]
theorem ok_pp (ds : List D) : okd 60 (.ptp ds) = okds 59 ds := by simp only [okd]
theorem ok_ls (ds : List D) : okd 60 (.lst ds) = okds 59 ds := by simp only [okd]
theorem ok_n0 (n : Nat) : okds n [] = true := by simp only [okds]
theorem ok_cc (n : Nat) (d : D) (ds : List D) : okds n (d :: ds) = (okd n d && okds n ds) := by simp only [okds]
end Dl

set_option Elab.async false
set_option linter.all false
set_option maxRecDepth 100000
namespace Dl
open PySem PySem.Spec PyProof.Rows L2 LamX
theorem passN {X : Cx} : Passes (L2N.CX X.prog X.w) X E0 := fun _ _ _ _ _ _ _ ⟨_, _, _, _, _, _, _, _, _, _, _, _, z⟩ => z.elim
theorem takesN0 {X : Cx} : L2N.Takes X (fun _ _ _ _ => False) := fun _ _ ⟨_, _, _, _, _, _, _, _, _, _, _, _, _, _, _, _, z⟩ => z.elim
/-! ### own errors by name, perhaps with a value -/
abbrev MGm := Str → Option Value
def PayOk (K : PySem.W.Frag) (Z : List Addr) (H : Hp) (S : Store) (nm : Str) (ps : List D) (d : Option Addr) : Prop := Rep K Z H S (.ref 0) (.exc 0 d nm ps)
theorem PayOk.to {K : PySem.W.Frag} {Z : List Addr} {H : Hp} {S : Store} {nm : Str} {ps : List D} {d : Option Addr} (h : PayOk K Z H S nm ps d) (a : Addr) : Rep K Z H S (.ref a) (.exc a d nm ps) := by
  unfold PayOk at h
  cases h with
  | exc0 => exact .exc0
  | exc1 h n r => exact .exc1 h n r
theorem PayOk.none {K : PySem.W.Frag} {Z : List Addr} {H : Hp} {S : Store} {nm : Str} : PayOk K Z H S nm [] none := .exc0
structure EOky (K : PySem.W.Frag) (T : Tb) (mg : MGm) (Z : List Addr) (H : Hp) (S : Store) (W : WX) (D : Ends) (E : DEnds) : Prop extends EOk K T Z H S D E where
  yy : ∀ nm C ps d σ H' τ S', Ext H S H' S' → Slots K Z H' S' σ τ → StOk K T Z H' S' → mg nm = some (.ref C) → PayOk K Z H' S' nm ps d → E.ey nm ps τ S' → W (.ref C) d σ H'
theorem EOky.later {K : PySem.W.Frag} {T : Tb} {mg : MGm} {Z : List Addr} {H H' : Hp} {S S' : Store} {W : WX} {D : Ends} {E : DEnds} (e : EOky K T mg Z H S W D E) (x : Ext H S H' S') : EOky K T mg Z H' S' W D E :=
  { e.toEOk.later x with yy := fun nm C ps d σ H2 τ S2 y => e.yy nm C ps d σ H2 τ S2 (x.trans y) }
def lfSy (K : PySem.W.Frag) (T : Tb) (mg : MGm) (W : WX) (Θ : DS) : TS := fun D σ H => ∃ Z τ S E, Slots K Z H S σ τ ∧ StOk K T Z H S ∧ Θ E τ S ∧ EOky K T mg Z H S W D E
abbrev XSy (X : Cx) (T : Tb) (W : WX) (st : Stmt) (Θ : DS) : Prop := PS X st (lfSy X.K T X.mg W Θ)
abbrev XSsy (X : Cx) (T : Tb) (W : WX) (st : List Stmt) (Θ : DS) : Prop := PSs X st (lfSy X.K T X.mg W Θ)
theorem EOky.nxt {K : PySem.W.Frag} {T : Tb} {mg : MGm} {Z : List Addr} {H : Hp} {S : Store} {W : WX} {D : Ends} {E : DEnds} {B : DS} (e : EOky K T mg Z H S W D E) : EOky K T mg Z H S W { D with nx := lfSy K T mg W B D } { E with nx := B E } :=
  ⟨⟨fun σ H' τ S' x sl ok q => ⟨Z, τ, S', E, sl, ok, q, e.later x⟩, e.rt, e.bk, e.ct⟩, e.yy⟩
/-- an expression that may raise -/
abbrev DEy := DSt → Store → DK → (Str → List D → Store → Prop) → Prop
def lfy (K : PySem.W.Frag) (T : Tb) (mg : MGm) (W : WX) (Ψ : DEy) : TE := fun σ H Q => ∃ Z τ S R RE, Slots K Z H S σ τ ∧ StOk K T Z H S ∧ Ψ τ S R RE ∧ (∀ v H' d S', Ext H S H' S' → Rep K Z H' S' v d → StOk K T Z H' S' → R d S' → Q v H') ∧
  ∀ nm C ps d H' S', Ext H S H' S' → StOk K T Z H' S' → mg nm = some (.ref C) → PayOk K Z H' S' nm ps d → RE nm ps S' → W (.ref C) d σ H'
abbrev XEy (X : Cx) (T : Tb) (W : WX) (e : Expr) (Ψ : DEy) : Prop := PE X e (lfy X.K T X.mg W Ψ)
def dQ (A : DE) : DEy := fun τ S Q _ => A τ S Q
section
variable {X : Cx} {K : PySem.W.Frag} {T : Tb} {W : WX} {a b c e f : Expr} {es : List Expr} {st : Stmt} {sts : List Stmt} {pos p2 : Pos} {A B : DS}
theorem XS.y (h : XS X T st A) : XSy X T W st A := h.imp fun D σ H ⟨Z, τ, S, E, sl, ok, h, k⟩ => ⟨Z, τ, S, E, sl, ok, h, k.toEOk⟩
theorem XSs.y (h : XSs X T sts A) : XSsy X T W sts A := h.imp fun D σ H ⟨Z, τ, S, E, sl, ok, h, k⟩ => ⟨Z, τ, S, E, sl, ok, h, k.toEOk⟩
theorem sy_nil : XSsy X T W [] dNext := XSs.y s_nil
theorem sy_cons (h1 : XSy X T W st A) (h2 : XSsy X T W sts B) : XSsy X T W (st :: sts) (dSeq A B) :=
  (pss_cons h1 h2).imp fun D σ H ⟨Z, τ, S, E, sl, ok, h, k⟩ => ⟨Z, τ, S, _, sl, ok, h, k.nxt⟩
theorem sy_one (h1 : XSy X T W st A) : XSsy X T W [st] A := pss_one h1
theorem sy_if {C : DT} {sa sb : List Stmt} (hc : XT X T c C) (ha : XSsy X T W sa A) (hb : XSsy X T W sb B) : XSy X T W (.If c sa sb pos) (dIfS C A B) :=
  (ps_if hc ha hb).imp fun D σ H ⟨Z, τ, S, E, sl, ok, h, k⟩ => ⟨Z, τ, S, _, sl, ok, h, fun x H1 S1 x1 ok1 h1 => by
    cases x with
    | true => rw [if_pos rfl] at h1; exact ⟨Z, τ, S1, E, sl.ext x1, ok1, h1, k.later x1⟩
    | false => rw [if_neg (by decide)] at h1; exact ⟨Z, τ, S1, E, sl.ext x1, ok1, h1, k.later x1⟩⟩
end
end Dl

set_option Elab.async false
set_option linter.all false
set_option maxRecDepth 100000
namespace Dl
open PySem PySem.Spec PyProof.Rows L2 LamX
section
variable {X : Cx} {K : PySem.W.Frag} {T : Tb} {W : WX} {a b c e f : Expr} {es : List Expr} {st : Stmt} {sts : List Stmt} {pos p2 : Pos} {A B : DS}
theorem sy_for {tgt iter : Expr} {body : List Stmt} {I : DI} {tg : Tg} (hp : PassesOwn (model X.prog X.w) X.A X.env X.xe) (hc : X.calm = true) (hi : XI X T tg tgt iter I) (hg : PG X tgt (tg.g X.K)) (hb : XSsy X T W body B)
    (hs : ∀ x, foldedSetIterable iter X.env x = pure x := by intro _; rfl) : XSy X T W (.For tgt iter body [] pos) (dFor I tg B) := by
  refine (ps_for hp hc hi hg hb hs).imp fun D σ H ⟨Z, τ, S, E, sl, ok, h, k⟩ => ?_
  refine ⟨Z, τ, S, _, sl, ok, h, fun J H1 ds S1 x1 ok1 wk q => ?_⟩
  have sl1 := sl.ext x1
  refine ⟨fun i m σ' H' => m = ds.length - i ∧ i ≤ ds.length ∧ ∃ τ' S', Ext H1 S1 H' S' ∧ Slots X.K Z H' S' σ' τ' ∧ StOk X.K T Z H' S' ∧ loopD tg B E (ds.drop i) τ' S', ⟨ds.length, by simp, Nat.zero_le _, τ, S1, .refl _ _, sl1, ok1, by simpa using q⟩, ?_⟩
  rintro i m σ' H' ⟨rfl, hi', τ', S', x2, sl2, ok2, q2⟩
  by_cases hlt : i < ds.length
  · rw [drop_at hlt] at q2
    refine .inr ⟨wk.go i H' S' x2 hlt, fun σ2 H2 => ∃ τ2 S2, Ext H1 S1 H2 S2 ∧ Slots X.K Z H2 S2 σ2 τ2 ∧ StOk X.K T Z H2 S2 ∧ loopD tg B E (ds.drop (i + 1)) τ2 S2, fun σ2 H2 ⟨τ2, S2, a1, a2, a3, a4⟩ => ⟨ds.length - (i + 1), by omega, rfl, hlt, τ2, S2, a1, a2, a3, a4⟩, fun v H2 y => ?_⟩
    obtain ⟨x3, ok3, r3⟩ := wk.yld Z i ds[i] H' S' v H2 (fun _ h => .inl h) x2 ok2 (by simp [hlt]) y
    unfold loopD at q2
    cases et : tg.d τ' ds[i] with
    | none => rw [et] at q2; exact q2.elim
    | some τ'' =>
      rw [et] at q2
      refine Tg.of r3 (sl2.ext x3) et fun σ3 sl3 _ => ⟨Z, τ'', S', _, sl3, ok3, q2, ?_⟩
      have kl := k.later (x1.trans (x2.trans x3))
      exact ⟨⟨fun σ4 H4 τ4 S4 x4 s4 o4 h4 => ⟨τ4, S4, x2.trans (x3.trans x4), s4, o4, h4⟩, kl.rt, fun σ4 H4 τ4 S4 x4 s4 o4 h4 => kl.nx σ4 H4 τ4 S4 x4 s4 o4 h4, fun σ4 H4 τ4 S4 x4 s4 o4 h4 => ⟨τ4, S4, x2.trans (x3.trans x4), s4, o4, h4⟩⟩, kl.yy⟩
  · have e : i = ds.length := by omega
    subst e
    rw [List.drop_length] at q2
    exact .inl ⟨wk.stop _ H' S' x2 (Nat.le_refl _), (k.later (x1.trans x2)).nx σ' H' τ' S' (.refl _ _) sl2 ok2 q2⟩
/-! expressions that may raise -/
theorem XE.y {Ψ : DE} (h : XE X T e Ψ) : XEy X T W e (dQ Ψ) := h.imp fun σ H Q ⟨Z, τ, S, R, RE, sl, ok, h, k, _⟩ => ⟨Z, τ, S, R, sl, ok, h, k⟩
def dIfy (C : DT) (A B : DEy) : DEy := fun τ S Q RE => C τ S fun x S1 => if x = true then A τ S1 Q RE else B τ S1 Q RE
theorem xy_if {C : DT} {A B : DEy} (hc : XT X T c C) (ha : XEy X T W a A) (hb : XEy X T W b B) : XEy X T W (.IfExp c a b pos) (dIfy C A B) := by
  refine (pe_ifExp hc ha hb).imp fun σ H Q ⟨Z, τ, S, R, RE, sl, ok, h, k, ky⟩ => ?_
  refine ⟨Z, τ, S, _, sl, ok, h, fun x H1 S1 x1 ok1 h1 => ?_⟩
  cases x with
  | true =>
    rw [if_pos rfl] at h1
    rw [if_pos rfl]
    exact ⟨Z, τ, S1, R, RE, sl.ext x1, ok1, h1, fun v H' d S' x => k v H' d S' (x1.trans x), fun nm C ps d H' S' x => ky nm C ps d H' S' (x1.trans x)⟩
  | false =>
    rw [if_neg (by decide)] at h1
    rw [if_neg (by decide)]
    exact ⟨Z, τ, S1, R, RE, sl.ext x1, ok1, h1, fun v H' d S' x => k v H' d S' (x1.trans x), fun nm C ps d H' S' x => ky nm C ps d H' S' (x1.trans x)⟩
def dExpY (A : DEy) : DS := fun E τ S => A τ S (fun _ S1 => E.nx τ S1) fun nm ps S1 => E.ey nm ps τ S1
theorem sy_expr {A : DEy} (he : XEy X T W e A) (hs : swapsWith e none pos.line X.env = pure false := by rfl) : XSy X T W (.Expr e pos) (dExpY A) :=
  (ps_expr he hs).imp fun D σ H ⟨Z, τ, S, E, sl, ok, h, k⟩ => ⟨Z, τ, S, _, _, sl, ok, h, fun v H' d S' x r ok' q => k.nx σ H' τ S' x (sl.ext x) ok' q, fun nm C ps d H' S' x ok' g p q => k.yy nm C ps d σ H' τ S' x (sl.ext x) ok' g p q⟩
def dRetY (A : DEy) : DS := fun E τ S => A τ S E.rt fun nm ps S1 => E.ey nm ps τ S1
theorem sy_ret {A : DEy} (he : XEy X T W e A) : XSy X T W (.Return (some e) pos) (dRetY A) :=
  (ps_ret he).imp fun D σ H ⟨Z, τ, S, E, sl, ok, h, k⟩ => ⟨Z, τ, S, _, _, sl, ok, h, k.rt, fun nm C ps d H' S' x ok' g p q => k.yy nm C ps d σ H' τ S' x (sl.ext x) ok' g p q⟩
def dSetY (i : Nat) (A : DEy) : DS := fun E τ S => A τ S (fun d S1 => E.nx (τ.set i (some d)) S1) fun nm ps S1 => E.ey nm ps τ S1
theorem sy_set {i : Nat} {x : Str} {A : DEy} {pos' : Pos} (hN : X.N.Nodup) (hi : X.N[i]? = some x) (hx : Loc X.env.scope x) (he : XEy X T W e A) (hs : swapsWith e (some (.Name x pos')) pos.line X.env = pure false := by rfl)
    (hf : X.fn x = true ∨ X.env.scope.names.lookup x = some .local := by first | exact .inl rfl | exact .inr rfl | assumption) : XSy X T W (.Assign [.Name x pos'] e pos) (dSetY i A) :=
  (ps_set hN hi hx he hs hf).imp fun D σ H ⟨Z, τ, S, E, sl, ok, h, k⟩ => ⟨Z, τ, S, _, _, sl, ok, h, fun v H' d S' x r ok' q => k.nx _ H' _ S' x ((sl.ext x).set i r) ok' q, fun nm C ps d H' S' x ok' g p q => k.yy nm C ps d σ H' τ S' x (sl.ext x) ok' g p q⟩
/-! ### defs that may raise -/
abbrev DSy := List D → Store → DK → (Str → List D → Store → Prop) → Prop
def lspy (K : PySem.W.Frag) (T : Tb) (mg : MGm) (dsp : DSy) : Sp := fun vs H Q E => ∃ Z ds S R RE, Reps K Z H S vs ds ∧ StOk K T Z H S ∧ dsp ds S R RE ∧ (∀ v H' d S', Ext H S H' S' → Rep K Z H' S' v d → StOk K T Z H' S' → R d S' → Q v H') ∧
  ∀ nm C ps d H' S', Ext H S H' S' → StOk K T Z H' S' → mg nm = some (.ref C) → PayOk K Z H' S' nm ps d → RE nm ps S' → E (.ref C) d H'
abbrev endsy (R : DK) (RE : Str → List D → Store → Prop) : DEnds := { nx := fun _ S' => ∃ S'', Sub S'' S' ∧ R .non S'', rt := fun d S' => ∃ S'', Sub S'' S' ∧ R d S'', ey := fun nm ps _ S' => ∃ S'', Sub S'' S' ∧ RE nm ps S'' }
end
section
variable {P : Program} {w : World} {K : PySem.W.Frag} {mg : Str → Option Value} {base : Heap} {T : Tb}
structure DFy (P : Program) (w : World) (K : PySem.W.Frag) (mg : Str → Option Value) (base : Heap) (T : Tb) (k : Nat) (x : Str) (dsp : DSy) : Prop where
  ex : ∃ (fa : Addr) (fd : FuncData) (ps : List Str), mg x = some (.ref fa) ∧ PySem.W.keepIn K (.ref fa) = true ∧ Binds K fd ps [] ∧ FnOk P w K mg base (L2N.CX P w) k fa fd ps (lspy K T mg dsp)
theorem DFy.mono {j k : Nat} {x : Str} {dsp : DSy} (F : DFy P w K mg base T j x dsp) (h : j ≤ k) : DFy P w K mg base T k x dsp := let ⟨a, b, c, d, e, f, g⟩ := F.ex; ⟨a, b, c, d, e, f, g.mono h⟩
theorem PayOk.sub {Z : List Addr} {H : Hp} {S S' : Store} {nm : Str} {ps : List D} {d : Option Addr} (h : PayOk K Z H S nm ps d) (x : Sub S' S) : PayOk K Z H S' nm ps d := Rep.sub x h
/-- the end of a body that may raise -/
theorem eoky_ends {Z : List Addr} {H : Hp} {S : Store} {Q : VK} {E : XK} {R : DK} {RE : Str → List D → Store → Prop} (kk : ∀ v H' d S', Ext H S H' S' → Rep K Z H' S' v d → StOk K T Z H' S' → R d S' → Q v H')
    (ky : ∀ nm C ps d H' S', Ext H S H' S' → StOk K T Z H' S' → mg nm = some (.ref C) → PayOk K Z H' S' nm ps d → RE nm ps S' → E (.ref C) d H') : EOky K T mg Z H S (fun cls d _ H => E cls d H) { nx := fun _ H' => Q .non H', rt := Q } (endsy R RE) :=
  ⟨⟨fun σ H' τ S' x sl ok ⟨S'', sb, q⟩ => kk _ H' _ S'' (x.sub sb) .non (ok.sub sb) q, fun v H' d S' x r ok ⟨S'', sb, q⟩ => kk v H' d S'' (x.sub sb) (r.sub sb) (ok.sub sb) q, fun _ _ _ _ _ _ _ q => q.elim, fun _ _ _ _ _ _ _ q => q.elim⟩,
    fun nm C ps d σ H' τ S' x sl ok g p ⟨S'', sb, q⟩ => ky nm C ps d H' S'' (x.sub sb) (ok.sub sb) g (p.sub sb) q⟩
/-- a def that may raise, by its body -/
theorem fn_dy {x qual : Str} {st : Stmt} {fa : Addr} {fd : FuncData} {N ps : List Str} {k : Nat} {dsp : DSy} (F : Fun K x qual st fa fd) (S : FnScope N ps (defScope st)) (len : ∀ ds S Q E, dsp ds S Q E → ds.length = ps.length)
    (hbody : ∀ (cdv : Value) (A : Around) (outer : List Env) (s : Shared) (H : Hp) (E : XK), Room k (A.deeper (envOfC qual (defScope st) s.heap.objs.size fa cdv)) →
      ∃ Θ : DS, XSsy (cxOf (L2N.CX P w) P w K mg base N qual (defScope st) fa cdv A outer s H E) T (fun cls d _ H => E cls d H) (defBody st) Θ ∧ ∀ ds S R RE, dsp ds S R RE → Θ (endsy R RE) (startD N ds) S) : FnOk P w K mg base (L2N.CX P w) (k + 1) fa fd ps (lspy K T mg dsp) := by
  obtain ⟨oc, od, kV, doc, pm, an, cdv, ct, osl, rfl, lk, hcd⟩ := F.ex
  refine fn_of lk hcd S (fun vs H Q E ⟨Z, ds, S, R, RE, r, ok, h, _⟩ => by rw [r.length]; exact len ds S R RE h) fun A outer s H vs Q E hr ⟨Z, ds, S0, R, RE, r, ok, h, kk, ky⟩ => ?_
  obtain ⟨Θ, h1, h2⟩ := hbody cdv A outer s H E hr
  exact ⟨_, h1, Z, startD N ds, S0, endsy R RE, slots_start r, ok, h2 ds S0 R RE h, eoky_ends kk ky⟩
end
section
variable {X : Cx} {T : Tb} {W : WX} {e : Expr} {es : List Expr} {p pos pos2 : Pos} {x : Str} {k : Nat} {dsp : DSy}
/-- called where nothing is to be let out -/
def dCallN2 (dsp : DSy) (A : DA) : DE := fun τ S Q => A τ S fun ds S1 => dsp ds S1 Q fun _ _ _ => False
theorem x_callN2 {A : DA} (F : DFy X.prog X.w X.K X.mg X.base T k x dsp) (hr : Room k X.A) (hg : Gl X x) (ha : XA X T (e :: es) A) (hdb : (x == ("__debug__" : Str)) = false := by decide) (he : starEach (e :: es) X.env = (false, eval e X.env) :: starEach es X.env := by rfl)
    (hpl : (backTo pos (starEach es X.env)).any (·.1) = false := by rfl) : XE X T (.Call (.Name x p) (e :: es) [] pos) (dCallN2 dsp A) := by
  obtain ⟨fa, fd, ps, hm, hk, hb, F⟩ := F.ex
  refine (pe_call F hr hg hm hk hb .nil passN ha hdb he hpl).imp fun σ H Q ⟨Z, τ, S, G, sl, ok, h, kk⟩ => ?_
  refine ⟨Z, τ, S, _, sl, ok, h, fun vs H1 ds S1 x1 r1 ok1 h1 => ?_⟩
  show lspy X.K T X.mg dsp (vs ++ []) H1 Q E0
  rw [List.append_nil]
  exact ⟨Z, ds, S1, G, _, r1, ok1, h1, fun v H' d S' x => kk v H' d S' (x1.trans x), fun _ _ _ _ _ _ _ _ _ _ z => z.elim⟩
def dCallY (dsp : DSy) (A : DA) : DEy := fun τ S Q RE => A τ S fun ds S1 => dsp ds S1 Q RE
theorem xy_call {A : DA} (tk : L2N.Takes X W) (F : DFy X.prog X.w X.K X.mg X.base T k x dsp) (hr : Room k X.A) (hg : Gl X x) (ha : XA X T (e :: es) A) (hdb : (x == ("__debug__" : Str)) = false := by decide) (he : starEach (e :: es) X.env = (false, eval e X.env) :: starEach es X.env := by rfl)
    (hpl : (backTo pos (starEach es X.env)).any (·.1) = false := by rfl) : XEy X T W (.Call (.Name x p) (e :: es) [] pos) (dCallY dsp A) := by
  obtain ⟨fa, fd, ps, hm, hk, hb, F⟩ := F.ex
  refine (pe_callS F hr hg hm hk hb (fun σ => L2N.passAt tk σ) ha hdb he hpl).imp fun σ H Q ⟨Z, τ, S, R, RE, sl, ok, h, kk, ky⟩ => ?_
  refine ⟨Z, τ, S, _, sl, ok, h, fun vs H1 ds S1 x1 r1 ok1 h1 => ?_⟩
  exact ⟨Z, ds, S1, _, _, r1, ok1, h1, fun v H' d S' x r ok' q => kk v H' d S' (x1.trans x) r ok' q, fun nm C ps d H' S' x ok' g p q => ky nm C ps d H' S' (x1.trans x) ok' g p q⟩
/-- an own error class, as the top left it -/
structure Ecy (K : PySem.W.Frag) (mg : Str → Option Value) (x : Str) (C : Addr) : Prop where
  q : PySem.W.excIn K C [.type "ValueError", .type "Exception", .type "BaseException", .type "object"] "ValueError.__new__" = true
  g : mg x = some (.ref C)
  k : PySem.W.keepIn K (.ref C) = true
  b : PySem.W.subIn K (.ref C) (.type "BaseException") = some true
  t : PySem.W.typeIn K (.ref C) = some (.type "type")
/-- raise C('..') -/
def dRaiseY (x : Str) : DS := fun E τ S => E.ey x [] τ S
theorem sy_raise {C : Addr} {bmB : List Value} {B newId initId : String} {m : Str} {j : Nat} {p p2 pos pos2 : Pos} (hc : X.calm = true) (tk : L2N.Takes X W) (F : ExcBaseFacts B newId initId bmB) (q : PySem.W.excIn X.K C bmB newId = true) (gC : X.mg x = some (.ref C)) (kC : PySem.W.keepIn X.K (.ref C) = true)
    (b1 : PySem.W.subIn X.K (.ref C) (.type "BaseException") = some true) (t1 : PySem.W.typeIn X.K (.ref C) = some (.type "type")) (hg : Gl X x) (hdb : (x == ("__debug__" : Str)) = false := by decide) : XSy X T W (.Raise (some (.Call (.Name x p) [.Constant (.str m) j p2] [] pos)) none pos2) (dRaiseY x) :=
  (L2N.ps_raise hc tk (L2N.pmk_own F q gC kC (raises_own b1 t1) hg hdb)).imp fun D σ H ⟨Z, τ, S, E, sl, ok, h, k⟩ => k.yy x C [] none σ H τ S (.refl _ _) sl ok gC .none h
end
end Dl

set_option Elab.async false
set_option linter.all false
set_option maxRecDepth 100000
namespace Dl
open PySem PySem.Spec PyProof.Rows L2 LamX
/-! ### what a suite knows of its exception -/
/-- an own error that is raised -/
structure Erz (K : PySem.W.Frag) (mg : MGm) (nm : Str) (C : Addr) : Prop where
  g : mg nm = some (.ref C)
  cl : (PySem.W.clsIn K C).isSome = true
  ga : PySem.W.findIn K (.ref C) "__getattribute__" = some (some (.builtin "BaseException.__getattribute__"))
  gg : PySem.W.findIn K (.ref C) "__getattr__" = some none
  sb : PySem.W.subIn K (.ref C) (.type "BaseException") = some true
  ha : PySem.W.findIn K (.ref C) "__class__" = some (some (.builtin "object.__class__"))
  hn : PySem.W.specialIn K (.builtin "object.__class__") "__get__" = some (some (.builtin "getset_descriptor.__get__"))
  htk : PySem.W.takesIn K (.builtin "object.__class__") = some true
  hm : PySem.W.mroIn K C (.type "object") = some true
  hd : PySem.W.hasDictIn K C = true
def subE (nm c : Str) : Bool := nm == c || c == "SplitError" || c == "ValueError"
/-- try: A  except c as (slot i): B -/
def dTryAs (RN : List Str) (cn : Str) (i : Nat) (A : DS) (B : Addr → Option Addr → Str → DS) : DS := fun E τ S =>
  A { E with ey := fun nm ps τ' S' => nm ∈ RN ∧ if subE nm cn = true then ∀ a d, B a d nm { E with nx := fun τ2 S2 => E.nx (τ2.set i none) S2, bk := fun τ2 S2 => E.bk (τ2.set i none) S2, ct := fun τ2 S2 => E.ct (τ2.set i none) S2 } (τ'.set i (some (.exc a d nm ps))) S' else E.ey nm ps τ' S' } τ S
section
variable {X : Cx} {T : Tb} {W : WX} {pos : Pos}
theorem Slots.none {K : PySem.W.Frag} {Z : List Addr} {H : Hp} {S : Store} {σ : L2.St} {τ : DSt} (s : Slots K Z H S σ τ) (i : Nat) : Slots K Z H S (σ.set i none) (τ.set i none) := by
  refine ⟨by simp [s.len], fun j d e => ?_⟩
  by_cases h : i = j
  · subst h
    by_cases hl : i < τ.length
    · rw [List.getElem?_set_self hl] at e; cases e
    · rw [List.getElem?_eq_none (by simpa using hl)] at e; cases e
  · rw [List.getElem?_set_ne h] at e
    rw [List.getElem?_set_ne h]
    exact s.at_ j d e
theorem sy_tryAs {RN : List Str} {A : DS} {B : Addr → Option Addr → Str → DS} {xn n : Str} {c : Value} {i : Nat} {body suite : List Stmt} {b₀ : Stmt} {np pos' : Pos} (hs : X.stack = X.env :: X.outer) (hf : X.env.frame = some X.env.locals) (hN : X.N.Nodup) (hi : X.N[i]? = some n) (hln : X.env.kindOf n = some .local) (hc : Names X xn c)
    (hx : ∀ nm C, nm ∈ RN → X.mg nm = some (.ref C) → PySem.W.exmOne X.K (.ref C) c = some (subE nm xn)) (tk : L2N.Takes X W)
    (hb : ∀ (W' : WX) (pn : List (Addr × Obj)) (xe : Value → Shared → Prop), L2N.Takes (X.tr pn xe) W' → PassesOwn (model X.prog X.w) X.A X.env xe → XSsy (X.tr pn xe) T W' body A)
    (hsu : ∀ (a : Addr) (oe : Obj) (nm : Str) (C : Addr) (d : Option Addr) (pn : List (Addr × Obj)), nm ∈ RN → X.mg nm = some (.ref C) → L2N.Zn (.ref C) d oe → (∃ vs, oe.data = .fields vs) → XSs (X.suite a ((a, oe) :: pn)) T (b₀ :: suite) (B a d nm)) :
    XSy X T W (.Try body [.ExceptHandler (some (.Name xn np)) (some n) (b₀ :: suite) pos'] [] [] pos) (dTryAs RN xn i A B) := by
  refine (L2N.ps_try_as (i := i) (tb := fun W2 => lfSy X.K T X.mg W2 A) (ts := fun a cls d => fun D σ H => ∃ nm C, nm ∈ RN ∧ cls = .ref C ∧ X.mg nm = some (.ref C) ∧ lfS X.K T (B a d nm) D σ H) hs hf hN hi hln hc tk hb (fun a oe cls d pn hz hf => ⟨fun pins s σ H D I ⟨nm, C, hm, e, g, h⟩ => ?_⟩)).imp fun D σ H ⟨Z, τ, S, E, sl, ok, h, k⟩ => ?_
  · subst e
    exact (hsu a oe nm C d pn hm g hz hf).run pins s σ H D I h
  · refine ⟨Z, τ, S, _, sl, ok, h, ⟨k.nx, k.rt, k.bk, k.ct⟩, fun nm C ps d σ' H' τ' S' x sl' ok' g p ⟨hm, q⟩ => ?_⟩
    refine ⟨subE nm xn, hx nm C hm g, fun eb a na => ?_, fun eb => ?_⟩
    · rw [if_pos eb] at q
      refine ⟨nm, C, hm, rfl, g, Z, τ'.set i (some (.exc a d nm ps)), S', _, sl'.set i (p.to a), ok', q a d, ?_⟩
      have kl := k.toEOk.later x
      exact ⟨fun σ2 H2 τ2 S2 x2 s2 o2 q2 => kl.nx _ H2 _ S2 x2 (s2.none i) o2 q2, kl.rt, fun σ2 H2 τ2 S2 x2 s2 o2 q2 => kl.bk _ H2 _ S2 x2 (s2.none i) o2 q2, fun σ2 H2 τ2 S2 x2 s2 o2 q2 => kl.ct _ H2 _ S2 x2 (s2.none i) o2 q2⟩
    · rw [if_neg (by rw [eb]; decide)] at q
      exact k.yy nm C ps d σ' H' τ' S' x sl' ok' g p q
/-- in a def that lets nothing out -/
def dTryA0 (RN : List Str) (cn : Str) (i : Nat) (A : DS) (B : Addr → Option Addr → Str → DS) : DS := fun E τ S => dTryAs RN cn i A B { E with ey := fun _ _ _ _ => False } τ S
theorem s_tryAs {RN : List Str} {A : DS} {B : Addr → Option Addr → Str → DS} {xn n : Str} {c : Value} {i : Nat} {body suite : List Stmt} {b₀ : Stmt} {np pos' : Pos} (hs : X.stack = X.env :: X.outer) (hf : X.env.frame = some X.env.locals) (hN : X.N.Nodup) (hi : X.N[i]? = some n) (hln : X.env.kindOf n = some .local) (hc : Names X xn c)
    (hx : ∀ nm C, nm ∈ RN → X.mg nm = some (.ref C) → PySem.W.exmOne X.K (.ref C) c = some (subE nm xn))
    (hb : ∀ (W' : WX) (pn : List (Addr × Obj)) (xe : Value → Shared → Prop), L2N.Takes (X.tr pn xe) W' → PassesOwn (model X.prog X.w) X.A X.env xe → XSsy (X.tr pn xe) T W' body A)
    (hsu : ∀ (a : Addr) (oe : Obj) (nm : Str) (C : Addr) (d : Option Addr) (pn : List (Addr × Obj)), nm ∈ RN → X.mg nm = some (.ref C) → L2N.Zn (.ref C) d oe → (∃ vs, oe.data = .fields vs) → XSs (X.suite a ((a, oe) :: pn)) T (b₀ :: suite) (B a d nm)) :
    XS X T (.Try body [.ExceptHandler (some (.Name xn np)) (some n) (b₀ :: suite) pos'] [] [] pos) (dTryA0 RN xn i A B) :=
  (sy_tryAs (W := fun _ _ _ _ => False) hs hf hN hi hln hc hx takesN0 hb hsu).imp fun D σ H ⟨Z, τ, S, E, sl, ok, h, k⟩ => ⟨Z, τ, S, _, sl, ok, h, ⟨k.nx, k.rt, k.bk, k.ct⟩, fun _ _ _ _ _ _ _ _ _ _ _ _ _ z => z.elim⟩
/-- in the suite the exception is handled -/
theorem hot_suite {X : Cx} {a : Addr} {oe : Obj} {cls : Value} {d : Option Addr} {pn : List (Addr × Obj)} (hz : L2N.Zn cls d oe) (hf : ∃ vs, oe.data = .fields vs) : L2H.HotC (X.suite a ((a, oe) :: pn)) := by
  obtain ⟨vs, hv⟩ := hf
  exact ⟨(a, oe), ⟨rfl, vs, hv, hz.2.2 vs hv⟩, List.mem_cons_self⟩
/-! isinstance(e, C), e.f -/
def dIsiE (a : Addr) (d : Option Addr) (nm : Str) (i : Nat) (c : Str) : DE := fun τ S Q => (∃ ps, τ[i]? = some (some (.exc a d nm ps))) ∧ Q (.bl (subE nm c)) S
def rIsiE (a : Addr) (d : Option Addr) (cv : V) (b : Bool) : List V → Hp → VK → Prop := fun xs H Q => xs = [.ref a, cv] ∧ (d = none ∨ ∃ dd fs, d = some dd ∧ H dd = some (.xd fs)) ∧ Q (.bl b) H
theorem call_isiE {a C : Addr} {oe : Obj} {d : Option Addr} {nm : Str} {pn : List (Addr × Obj)} {cv : V} {u : Value} {b : Bool} (Ez : Erz X.K X.mg nm C) (hz : L2N.Zn (.ref C) d oe) (hf : ∃ vs, oe.data = .fields vs) (hc : ClsV cv u) (e : PySem.W.kitOne X.K (.ref C) u = some b) :
    CallR (X.suite a ((a, oe) :: pn)) (.builtin "isinstance") (rIsiE a d cv b) := by
  intro pins s σ H xs us Q I r h
  obtain ⟨rfl, hd, q⟩ := h
  obtain ⟨u1, u2, rfl, r1, r2⟩ := vals2 r
  have e2 := hc.eq r2
  subst e2
  obtain rfl : u1 = Value.ref a := r1
  obtain ⟨ha, _⟩ := I.pin (a, oe) (List.mem_append_left _ List.mem_cons_self)
  obtain ⟨vs, hv⟩ := hf
  have J : ∃ od, PySem.W.InstAt s.heap a oe C od := by
    rcases hd with rfl | ⟨dd, fs, rfl, hx⟩
    · exact ⟨none, ha, hz.1, by unfold PySem.W.notCls; rw [hv], by rw [hz.2.1]; trivial⟩
    · obtain ⟨mA, hns, _⟩ := (show ObjOk X.prog X.w H s.heap dd (.xd fs) from I.hok dd _ hx)
      obtain ⟨od, ho, _⟩ := lookIn_ns hns
      exact ⟨some od, ha, hz.1, by unfold PySem.W.notCls; rw [hv], by rw [hz.2.1]; exact ho⟩
  obtain ⟨od, J⟩ := J
  exact PySem.W.kia_one (PySem.W.kitx_exc (ox := oe) (od := od) Ez.cl Ez.ga Ez.gg Ez.sb Ez.ha Ez.hn Ez.htk Ez.hm) I.kIn J e (fun z => nomatch z) fun tk => ⟨.bl b, H, I.tok tk, rfl, q⟩
theorem exc_dict {K : PySem.W.Frag} {Z : List Addr} {H : Hp} {S : Store} {v : V} {a : Addr} {d : Option Addr} {nm : Str} {ps : List D} (r : Rep K Z H S v (.exc a d nm ps)) : v = .ref a ∧ (d = none ∨ ∃ dd fs, d = some dd ∧ H dd = some (.xd fs)) := by
  cases r with
  | exc0 => exact ⟨rfl, .inl rfl⟩
  | exc1 h _ _ => exact ⟨rfl, .inr ⟨_, _, rfl, h⟩⟩
theorem x_isiE {a C : Addr} {oe : Obj} {d : Option Addr} {nm c n : Str} {i : Nat} {pn : List (Addr × Obj)} {cv : V} {u : Value} {p p1 p2 : Pos} (Ez : Erz X.K X.mg nm C) (hz : L2N.Zn (.ref C) d oe) (hf : ∃ vs, oe.data = .fields vs) (hcl : ClsV cv u) (e : PySem.W.kitOne X.K (.ref C) u = some (subE nm c))
    (hg : Gl X "isinstance") (hm : X.mg "isinstance" = none) (hv : PE (X.suite a ((a, oe) :: pn)) (.Name n p1) (tVar i)) (hcv : PE (X.suite a ((a, oe) :: pn)) (.Name c p2) (tC cv)) (he : starEach [Expr.Name n p1, .Name c p2] X.env = (false, eval (.Name n p1) X.env) :: starEach [Expr.Name c p2] X.env := by rfl)
    (he2 : starEach [Expr.Name c p2] X.env = (false, eval (.Name c p2) X.env) :: starEach [] X.env := by rfl) (hpl : (backTo pos (starEach [Expr.Name c p2] X.env)).any (·.1) = false := by rfl) :
    XE (X.suite a ((a, oe) :: pn)) T (.Call (.Name "isinstance" p) [.Name n p1, .Name c p2] [] pos) (dIsiE a d nm i c) := by
  refine (pe_callB (X := X.suite a ((a, oe) :: pn)) (call_isiE Ez hz hf hcl e) hg hm (by decide +kernel) (pa_cons hv (pa_cons hcv pa_nil he2) he) (by decide) (by decide) he hpl).imp fun σ H Q ⟨Z, τ, S, R, sl, ok, ⟨⟨ps, et⟩, h⟩, k⟩ => ?_
  obtain ⟨v, ev, rv⟩ := sl.at_ i _ et
  obtain ⟨rfl, hd⟩ := exc_dict rv
  exact ⟨.ref a, ev, rfl, hd, k _ H _ S (.refl _ _) (.bl _) ok h⟩
def dExF (a : Addr) (d : Option Addr) (nm : Str) (i : Nat) (f : Str) : DE := fun τ S Q => ∃ dd, fieldOf nm = f ∧ τ[i]? = some (some (.exc a d nm [dd])) ∧ Q dd S
theorem x_exF {a C : Addr} {oe : Obj} {d : Option Addr} {nm n f : Str} {i : Nat} {pn : List (Addr × Obj)} {p1 pos : Pos} (Ez : Erz X.K X.mg nm C) (hno : fieldOf nm = f → PySem.W.findIn X.K (.ref C) f = some none) (hz : L2N.Zn (.ref C) d oe) (hf : ∃ vs, oe.data = .fields vs) (hv : PE (X.suite a ((a, oe) :: pn)) (.Name n p1) (tVar i))
    (hb : attributeBase (.Name n p1) f X.env (eval (.Name n p1) X.env) = eval (.Name n p1) X.env := by rfl) : XE (X.suite a ((a, oe) :: pn)) T (.Attribute (.Name n p1) f pos) (dExF a d nm i f) := by
  refine ⟨fun pins s σ H Q I ⟨Z, τ, S, R, sl, ok, ⟨dd, hff, et, h⟩, k⟩ => ?_⟩
  obtain ⟨v, ev, rv⟩ := sl.at_ i _ et
  obtain ⟨rfl, _⟩ := exc_dict rv
  refine attr_of hb (thn (hv.run pins s σ H (fun v H1 => v = .ref a ∧ H1 = H) I ⟨_, ev, rfl, rfl⟩) fun u s1 ⟨x, H1, I1, rx, q⟩ => ?_)
  obtain ⟨rfl, rfl⟩ := q
  obtain rfl : u = Value.ref a := rx
  cases rv with
  | @exc1 _ b _ w _ hx hn rw' =>
    rw [hff] at hx
    obtain ⟨ha, _⟩ := I1.pin (a, oe) (List.mem_append_left _ List.mem_cons_self)
    obtain ⟨vs, hd⟩ := hf
    obtain ⟨mA, hns, hr⟩ := (show ObjOk X.prog X.w H1 s1.heap b (.xd [(f, w)]) from I1.hok b _ hx)
    obtain ⟨od, ho, hl⟩ := lookIn_ns hns
    have l : List.lookup f [(f, w)] = some w := by simp [List.lookup]
    obtain ⟨u, hu, ru⟩ := RelO.some_of (v := w) (o := mA f) (by rw [← l]; exact hr f)
    have J : PySem.W.InstAt s1.heap a oe C (some od) := ⟨ha, hz.1, by unfold PySem.W.notCls; rw [hd] <;> rfl, by rw [hz.2.1]; exact ho⟩
    exact HandSPX.exc_get I1.kIn J Ez.ga Ez.gg Ez.sb (PySem.W.findObj_own Ez.hd (hno hff) rfl (by rw [hl, hu])) (handed_of ru) ⟨w, H1, I1.tok _, ru, k _ H1 _ S (.refl _ _) rw' ok h⟩
end
end Dl

set_option Elab.async false
set_option linter.all false
set_option maxRecDepth 100000
namespace Dl
open PySem PySem.Spec PyProof.Rows L2 LamX
/-! ### own errors with an own __init__ that hands on to its base's and keeps one value -/
section
variable {X : Cx} {o e : Expr} {es : List Expr} {ta : TA} {p p' p1 p2 pos : Pos}
theorem pe_sinit {pl : Sem Bool} {SC : Addr} (hg : Gl X "SplitError") (hm : X.mg "SplitError" = some (.ref SC)) (hsp : PySem.W.specialIn X.K (.ref SC) "__getattribute__" = some (some (.builtin "type.__getattribute__"))) (hr : PySem.W.readsIn X.K SC (.type "type") = true)
    (vV : PySem.W.findCls X.K (.ref SC) (.type "type") "__init__" = some (.val (.builtin "ValueError.__init__"))) (ha : PA X (e :: es) ta)
    (hc : eval (.Call (.Attribute (.Name "SplitError" p1) "__init__" p2) (e :: es) [] pos) X.env = (do
      let ov ← eval (.Name "SplitError" p1) X.env
      standAt p2.atName
      let (f, first) ← holding [ov] (getMethod ov "__init__" pl)
      callWith pos f first (backTo pos (starEach (e :: es) X.env)) (backToKw pos (keywordEach [] X.env))) := by rfl)
    (he : starEach (e :: es) X.env = (false, eval e X.env) :: starEach es X.env := by rfl) (hpl : (backTo pos (starEach es X.env)).any (·.1) = false := by rfl) :
    PE X (.Call (.Attribute (.Name "SplitError" p1) "__init__" p2) (e :: es) [] pos) (tVeI X.K ta) := by
  refine ⟨fun pins s σ H Q I h => ?_⟩
  refine PySem.W.methodCall_KW (ld_glob I hg hm ?_ (by decide)) hc
  obtain ⟨m, fr⟩ := I.fr
  refine PySem.W.method_of_cls fr I.ok.mod.kin hsp (PySem.W.cls_value I.kIn hr vV (by decide +kernel) ?_)
  show wpAny _ _ (callWith pos (Value.builtin "ValueError.__init__") [] (backTo pos (starEach (e :: es) X.env)) []) _ _ _
  refine PyProof.Rows.callWith_method1 (thn (ha.run pos pins _ σ H _ (I.tok _) h) fun us s1 ⟨vs, H1, I1, r1, a, C, ws, ev, hl, T, ea, q⟩ => ?_) he hpl
  subst ev
  cases r1 with
  | @cons _ u0 _ ur ra rw' =>
    obtain rfl : u0 = Value.ref a := ra
    have hlen : ur.length ≤ sizeLine := by
      rw [← Paired.length rw', sizeLine_eq]
      omega
    exact oinit_ok T I1 ea hlen fun s' J => ⟨.non, H1, J, rfl, q⟩
end
/-- the promise of such an __init__ -/
def spInit (K : PySem.W.Frag) (f : Str) : Sp := fun vs H Q _ => ∃ (a C : Addr) (v : V), vs = [.ref a, v] ∧ OexC K C ∧ PySem.W.findIn K (.ref C) f = some none ∧ H a = some (exo a C none) ∧ ∀ dx, H dx = none → dx ≠ a → Q .non (upd (upd H dx (exd dx [(f, v)])) a (exo a C (some dx)))
/-- what the written part says of such an error -/
structure Epay (P : Program) (w : World) (K : PySem.W.Frag) (mg : MGm) (base : Heap) (nm : Str) (C : Addr) : Prop where
  o : OexC K C
  g : mg nm = some (.ref C)
  no : PySem.W.findIn K (.ref C) (fieldOf nm) = some none
  ini : ∃ (fI : Addr) (fd : FuncData), PySem.W.findIn K (.ref C) "__init__" = some (some (.ref fI)) ∧ PySem.W.typeIn K (.ref fI) = some (.type "function") ∧ FnOk P w K mg base CX0 1 fI fd ["self", fieldOf nm] (spInit K (fieldOf nm)) ∧ Binds K fd ["self", fieldOf nm] []
section
variable {X : Cx} {x : Str} {C fI : Addr} {k : Nat} {fd : FuncData} {ps : List Str} {sp : Sp} {ta : TA} {e : Expr} {es : List Expr} {p pos : Pos}
/-- such an error is made: none stands behind it -/
theorem pmk_pay (T : OexC X.K C) (i1 : PySem.W.findIn X.K (.ref C) "__init__" = some (some (.ref fI))) (i2 : PySem.W.typeIn X.K (.ref fI) = some (.type "function")) (G : FnOk X.prog X.w X.K X.mg X.base CX0 k fI fd ps sp) (room : Room (k + 1) X.A) (bi : Binds X.K fd ps []) (hg : Gl X x) (hm : X.mg x = some (.ref C)) (args : PA X (e :: es) ta)
    (nd : (x == ("__debug__" : Str)) = false) (st : starEach (e :: es) X.env = (false, eval e X.env) :: starEach es X.env) (pl : (backTo pos (starEach es X.env)).any (·.1) = false) : L2N.PMk X (.Call (.Name x p) (e :: es) [] pos) (tMkO C sp [] ta) := fun pins s σ H Q I asks => by
  obtain ⟨_, _, _, _, bm, _, _, _, _, _, _, _, _, _, _, lC, rbm⟩ := T.cls
  refine wpAny_Call_Name_kw (ld_glob I hg hm (PySem.W.callWith_K (h₀ := X.base) I.ok.mod.kin T.kC (thn (args.run pos pins s σ H _ I asks) fun us ⟨h1, gs, dr, tk, os⟩ got => ⟨got.choose_spec.choose_spec.1.kIn, ?_⟩) st pl) nd)
  obtain ⟨vs, H1, J, rv, few, wants⟩ := got
  have free1 : H1 (h1.objs.size + 1) = none := J.hok.fresh (Nat.le_succ _)
  have wish := wants _ free1
  rw [List.append_nil] at wish
  -- the heap with the arguments' tuple and the bare error
  obtain ⟨g, eg⟩ : ∃ g, g = (h1.push (PySem.W.kdv_tup us)).push (PySem.HandSPX.excO C h1.objs.size) := ⟨_, rfl⟩
  have grow : ∀ b o, h1.get? b = some o → g.get? b = some o := fun b o q => by rw [eg]; exact Heap.get?_push_of_some _ (Heap.get?_push_of_some _ q)
  have bare : g.get? (h1.objs.size + 1) = some (PySem.HandSPX.excO C h1.objs.size) := by rw [eg]; heap_get
  have J2 : Inv X pins σ (upd H1 (h1.objs.size + 1) (exo (h1.objs.size + 1) C none)) ⟨g, gs, dr, tk, os⟩ := J.laid (t' := tk) grow (Nat.le_succ _) (exo_ok bare)
  have both : Vals (V.ref (h1.objs.size + 1) :: vs) (Value.ref (h1.objs.size + 1) :: us) := .cons rfl rv
  have as_many : (Value.ref (h1.objs.size + 1) :: us).length = ps.length := by rw [← both.length]; exact G.len _ _ _ _ wish
  have binds := bi ⟨g, gs, dr, tk, os⟩ (Value.ref (h1.objs.size + 1) :: us) J2.kIn (by rw [List.append_nil]; exact as_many)
  rw [List.append_nil] at binds
  have small : us.length ≤ sizeLine := by
    rw [← Paired.length rv, sizeLine_eq]
    omega
  have ran := G.run _ X.stack ⟨g, gs, dr, tk, os⟩ _ ⟨Value.ref (h1.objs.size + 1) :: us, []⟩ _ _ _ (fun _ _ _ => False) (room.make C us []) (J2.env0.make C us []) binds both wish
  rw [eg] at ran
  refine wpAny_call (PySem.HandSPX.call_own PySem.F.excBase_ValueError (fun Y => PySem.HandSPX.refsVE_contains Y bm rbm) (J.kIn _ _ lC) (PySem.W.looks_findIn J.kIn i1) (fun self => PySem.W.bind_fn J.kIn self i2) small (codeAny_mono ran fun r s' end_ => ?_))
  cases r with
  | error er => exact False.elim end_
  | ok fl =>
    cases fl with
    | ret u =>
      obtain ⟨h2, gs2, dr2, tk2, os'⟩ := s'
      obtain ⟨v, H2, osE, bareG, un, hok2, rv2, ev, d, fs, at1, at2, nd1, q2⟩ := end_
      subst ev
      refine ⟨rv2, ?_⟩
      rw [← eg] at un
      obtain ⟨t0, G0, J3, keep, gone, there, hid⟩ := mk_end0 (d2 := dr2) (t2 := tk2) J (Nat.le_succ _) grow un hok2 osE bareG at1 at2 nd1
      exact ⟨_, _, _, ⟨G0, gs2, dr2, tk2, os'⟩, _, .ref C, some d, rfl, J3, keep, gone, there, ⟨rfl, rfl, fun z ez => by cases ez; rfl⟩, rfl, rfl, hid, rfl, bareG, raises_own T.exC T.tyC, q2⟩
    | next => exact False.elim end_
    | brk => exact False.elim end_
    | cont => exact False.elim end_
end
section
variable {X : Cx} {T : Tb} {W : WX} {e : Expr} {x : Str} {A : DE} {p pos pos2 : Pos}
/-- raise C(e) -/
def dRaiseP (x : Str) (A : DE) : DS := fun E τ S => A τ S fun d S1 => E.ey x [d] τ S1
theorem sy_raiseP {C : Addr} (hc : X.calm = true) (tk : L2N.Takes X W) (Ep : Epay X.prog X.w X.K X.mg X.base x C) (hr : Room 2 X.A) (hg : Gl X x) (ha : XE X T e A) (hdb : (x == ("__debug__" : Str)) = false := by decide)
    (he : starEach [e] X.env = (false, eval e X.env) :: starEach [] X.env := by rfl) (hpl : (backTo pos (starEach [] X.env)).any (·.1) = false := by rfl) :
    XSy X T W (.Raise (some (.Call (.Name x p) [e] [] pos)) none pos2) (dRaiseP x A) := by
  obtain ⟨fI, fd, i1, i2, i3, i4⟩ := Ep.ini
  refine (L2N.ps_raise hc tk (pmk_pay Ep.o i1 i2 i3 hr i4 hg Ep.g (pa_cons ha pa_nil he) hdb he hpl)).imp fun D σ H ⟨Z, τ, S, E, sl, ok, h, k⟩ => ?_
  show lf X.K T A σ H fun v H1 => _
  refine ⟨Z, τ, S, _, sl, ok, h, fun v H1 d S1 x1 r1 ok1 h1 => ?_⟩
  refine ⟨by simp, fun a na => ⟨a, C, v, rfl, Ep.o, Ep.no, upd_same, fun dx hn ne => ⟨rfl, dx, [(fieldOf x, v)], upd_same, ?_, ?_, ?_⟩⟩⟩
  · rw [upd_ne ne, upd_same]
  · rwa [upd_ne ne] at hn
  · have hn1 : H1 dx = none := by rwa [upd_ne ne] at hn
    have eq : upd (del (upd (upd (upd H1 a (exo a C none)) dx (exd dx [(fieldOf x, v)])) a (exo a C (some dx))) a) dx (.xd [(fieldOf x, v)]) = upd H1 dx (.xd [(fieldOf x, v)]) := by
      funext b
      by_cases hb : b = dx
      · subst hb; rw [upd_same, upd_same]
      · rw [upd_ne hb, upd_ne hb]
        by_cases hba : b = a
        · subst hba; rw [del_same, na]
        · rw [del_ne hba, upd_ne hba, upd_ne hb, upd_ne hba]
    rw [eq]
    have x2 : Ext H1 S1 (upd H1 dx (.xd [(fieldOf x, v)])) S1 := Ext.new hn1
    exact k.yy x C [d] (some dx) σ _ τ S1 (x1.trans x2) (sl.ext (x1.trans x2)) (ok1.new hn1) Ep.g (.exc1 upd_same (ok1.fresh hn1) (r1.ext x2)) h1
end
section
variable {P : Program} {w : World} {K : PySem.W.Frag} {mg : Str → Option Value} {base : Heap}
/-- def __init__(self, f): SplitError.__init__(self, f); self.f = f -/
theorem fn_init {f qual : Str} {st : Stmt} {fa SC : Addr} {fd : FuncData} {p1 p2 p3 p4 p5 p6 p7 p8 p9 : Pos} (F : Fun K "__init__" qual st fa fd) (S : FnScope ["self", f] ["self", f] (defScope st))
    (hb : defBody st = [.Expr (.Call (.Attribute (.Name "SplitError" p1) "__init__" p2) [.Name "self" p3, .Name f p4] [] p5) p5, .Assign [.Attribute (.Name "self" p6) f p7] (.Name f p8) p9])
    (hc : ∃ pl : Env → Sem Bool, ∀ env : Env, eval (.Call (.Attribute (.Name "SplitError" p1) "__init__" p2) [.Name "self" p3, .Name f p4] [] p5) env = (do
      let ov ← eval (.Name "SplitError" p1) env
      standAt p2.atName
      let (g, first) ← holding [ov] (getMethod ov "__init__" (pl env))
      callWith p5 g first (backTo p5 (starEach [.Name "self" p3, .Name f p4] env)) (backToKw p5 (keywordEach [] env))))
    (hg : (defScope st).names.lookup ("SplitError" : Str) = some .globalImplicit) (h0 : (defScope st).names.lookup ("self" : Str) = some .local) (h1 : (defScope st).names.lookup f = some .local) (hdf : (f == ("__debug__" : Str)) = false) (hcf : (f == ("__classdict__" : Str)) = false)
    (hm : mg "SplitError" = some (.ref SC)) (hsp : PySem.W.specialIn K (.ref SC) "__getattribute__" = some (some (.builtin "type.__getattribute__"))) (hr : PySem.W.readsIn K SC (.type "type") = true)
    (vV : PySem.W.findCls K (.ref SC) (.type "type") "__init__" = some (.val (.builtin "ValueError.__init__"))) : FnOk P w K mg base CX0 1 fa fd ["self", f] (spInit K f) := by
  refine F.ok S (fun vs H Q E ⟨a, C, v, e, _⟩ => by rw [e]; rfl) fun cdv A outer s H vs Q E hr0 ⟨a, C, v, e, T, no, ea, k⟩ => ?_
  rw [hb]
  subst e
  obtain ⟨pl, hc⟩ := hc
  refine ⟨_, pss_cons (ps_expr (pe_sinit (hc := hc _) (show Gl _ _ from hg) hm hsp hr vV (pa_cons (pe_var (i := 0) rfl (.inl h0) (by decide) (by decide)) (pa_cons (pe_var (i := 1) rfl (.inl h1) hdf hcf) pa_nil)))) (pss_one (ps_ost (pe_var (i := 0) rfl (.inl h0) (by decide) (by decide)) (pe_var (i := 1) rfl (.inl h1) hdf hcf))), ?_⟩
  refine ⟨_, rfl, _, rfl, a, C, [v], rfl, by simp, T, ea, ?_⟩
  refine ⟨_, rfl, _, rfl, a, C, rfl, T, no, .inl ⟨ea, fun dx hn ne => k dx hn ne⟩⟩
end
end Dl

set_option Elab.async false
set_option linter.all false
set_option maxRecDepth 100000
namespace Dl
open PySem PySem.Spec PySem.Calls PyProof.Rows L2 LamX PySem.W
/-! ### lambdas with a default -/
abbrev klD (name qual : Str) (params : Arguments) (body : Expr) (scope : Scope) (cl : List (Str × Addr)) (pm cdv ct dV : Value) : FuncData :=
  { name, qualname := qual, params, body := .expr body, scope, globals := mainGlobals, closure := cl, defaults := dV, kwdefaults := .none, doc := .none, pyModule := pm, annotations := none, code := cdv, closureTuple := ct, builtins := builtinsNs }
section
variable {M : Model} {A : Around} {E : Value → Shared → Prop} {s : Shared} {name qual : Str} {params : Arguments} {body : Expr} {scope : Scope} {env : Env} {c P : Addr} {ps : Array Value} {pos : Pos} {firstLine : Nat} {mg : Str → Option Value}
  {clos : List (Str × Addr)} {Q : Value → Shared → Prop} {dV : Value}
/-- the tuple of the captured cells, if there are any -/
theorem clo_val {β : Type} {l : List (Str × Addr)} {jp : Value → Sem β} {G : β → Shared → Prop} (h : ∀ v h1, (∀ b o, s.heap.get? b = some o → h1.get? b = some o) → s.heap.objs.size ≤ h1.objs.size → wpAny M A (jp v) G E { s with heap := h1 }) :
    wpAny M A (if l.isEmpty = true then (pure Value.none >>= jp) else (newTextTuple ((l.mergeSort fun a b => a.1.cps.toList ≤ b.1.cps.toList).map fun q => Value.ref q.2) >>= jp)) G E s := by
  by_cases e : l.isEmpty = true
  · rw [if_pos e]
    exact wpAny_bind (wpAny_pure (h _ s.heap (fun _ _ q => q) (Nat.le_refl _)))
  · rw [if_neg e]
    exact wpAny_bind (wpAny_newTextTuple (h _ _ (fun b o q => Heap.get?_push_of_some _ q) (by rw [Heap.size_push]; omega)))
/-- the function's object, behind its code object cv -/
theorem fn_obj {s1 : Shared} {cv ct : Value} (gl : s1.heap.Ns mainGlobals mg) (bb : s1.heap.BuiltinsAt mg P) (h : Q (.ref s1.heap.objs.size) { s1 with heap := s1.heap.push { cls := .type "function", data := .func (klD name qual params body scope clos ((mg "__name__").getD .none) cv ct dV) } }) :
    wpAny M A (do
      let bs ← builtinsFor mainGlobals env.builtins
      let nm ← nsGet mainGlobals "__name__"
      let dc ← (pure Value.none : Sem Value)
      newObj (.type "function") (.func { name, qualname := qual, params, body := .expr body, scope, globals := mainGlobals, closure := clos, closureTuple := ct, code := cv, builtins := bs, defaults := dV, kwdefaults := .none, annotations := none, pyModule := nm.getD .none, doc := dc })) Q E s1 := by
  obtain ⟨bm, ob, b1, b2, _, _, b3, b4, b5, b6⟩ := bb
  exact wpAny_bind (wpAny_builtinsFor gl b1 b2 b3 b4 b5 b6 (wpAny_bind (wpAny_nsGet gl (wpAny_bind (wpAny_pure (wpAny_newObj_type h (by size_fits)))))))
theorem klD_tail (hcl : closureFor scope env = pure clos) (e0 : env.globals = mainGlobals) (gl : s.heap.Ns mainGlobals mg) (ec : env.code = .ref c) (C : CodeHd s.heap c P) (tb : s.heap.get? P = some (tabObj ps)) (ht : TriplesOk ps.toList) (hgP : mainGlobals ≠ P) (bb : s.heap.BuiltinsAt mg P)
    (new : codeAmong pos ps.toList = none → ∀ (c' : Addr) (ctv : Value) (h' : Heap) (tk : Nat), Heap.ExtBut P s.heap h' → s.heap.objs.size ≤ c' → c' < h'.objs.size → h'.CodeRec (.ref c') qual → h'.get? P = some (tabObj (ps ++ #[rawInt pos.line, rawInt pos.col, .ref c'])) →
      Q (.ref h'.objs.size) { s with heap := h'.push { cls := .type "function", data := .func (klD name qual params body scope clos ((mg "__name__").getD .none) (.ref c') ctv dV) }, toks := tk })
    (old : ∀ cv, codeAmong pos ps.toList = some cv → ∀ (ctv : Value) (h' : Heap) (tk : Nat), (∀ b o, s.heap.get? b = some o → h'.get? b = some o) → s.heap.objs.size ≤ h'.objs.size →
      Q (.ref h'.objs.size) { s with heap := h'.push { cls := .type "function", data := .func (klD name qual params body scope clos ((mg "__name__").getD .none) cv ctv dV) }, toks := tk }) :
    wpAny M A (makeTail name qual params (.expr body) scope env dV .none none pos firstLine) Q E s := by
  unfold makeTail
  rw [hcl, e0]
  refine wpAny_bind (wpAny_pure (clo_val fun ct h1 kp sz => ?_))
  have C1 := C.keeps kp
  have tb1 := kp _ _ tb
  have gl1 := gl.keeps kp
  cases hc : codeAmong pos ps.toList with
  | some cv =>
    refine wpAny_bind (wpAny_functionCode_hit ec (C1.code tb1 ht) hc ?_)
    exact fn_obj (s1 := { s with heap := h1 }) gl1 (bb.keeps kp) (old cv hc ct h1 s.toks kp sz)
  | none =>
    refine wpAny_bind (wpAny_functionCodeX ec (C1.code tb1 ht) (C1.tab tb1) hc fun c' h' tk hx lo hi _ rec' tb' _ => ?_)
    have kx : Heap.ExtBut P s.heap h' := fun b o nb q => hx b o nb (kp b o q)
    have bb' : h'.BuiltinsAt mg P := by
      obtain ⟨bm, ob, b1, b2, b7, b8, b3, b4⟩ := bb
      exact ⟨bm, ob, b1, b2, b7, b8, kx _ _ b8 b3, b4⟩
    exact fn_obj (s1 := { s with heap := h', toks := tk }) (gl.extBut kx hgP) bb' (new hc c' ct h' tk kx (Nat.le_trans sz lo) hi rec' tb'.2)
end
/-! ### a lambda is made -/
section
variable {X : Cx} {pins : List (Addr × Obj)} {σ : L2.St} {H : Hp} {s : Shared}
theorem inv_lam {F : LF} {o : Obj} {t' : Nat} {pm ctv : Value} (I : Inv X pins σ H s) (ho : o = { cls := .type "function", data := .func (F.fd pm ctv) }) :
    Inv X pins σ (upd H s.heap.objs.size (LamO s.heap.objs.size F)) { s with heap := s.heap.push o, toks := t' } := by
  subst ho
  refine I.laid (a := s.heap.objs.size) (fun b u e => Heap.get?_push_of_some _ e) (Nat.le_refl _) ?_
  have e : (s.heap.push ({ cls := .type "function", data := .func (F.fd pm ctv) } : Obj)).get? s.heap.objs.size = some ({ cls := .type "function", data := .func (F.fd pm ctv) } : Obj) := Heap.get?_push_size _ rfl
  exact ⟨⟨_, _, pm, ctv, e⟩, ⟨_, e⟩, fun h1 h2 ⟨od, sl, p, t, z⟩ st => ⟨od, sl, p, t, st _ z⟩⟩
theorem lam_tail {T : Tb} {c P : Addr} {params : Arguments} {body : Expr} {scope : Scope} {pos : Pos} {E : Value → Shared → Prop} {Q : Value → Shared → Prop} (dt : Option Addr) (I : Inv X pins σ H s) (TB : TabB X.base X.mg c P) (hcode : X.env.code = .ref c)
    (hm : (P, X.env.qual ++ "<lambda>") ∈ T) (hu : ∀ p ∈ T, p.1 = P → p.2 = X.env.qual ++ "<lambda>") (hT : Tabs T H) (hfree : ∀ y ∈ scope.names, y.2 = .free → ∃ c, X.env.cells.lookup y.1 = some c)
    (h : ∀ (f c' : Addr) (H1 : Hp) (s' : Shared), Inv X pins σ H1 s' → ExtN H H1 → Tabs T H1 → H f = none → H1 f = some (LamO f ⟨X.env.qual ++ "<lambda>", params, body, scope, cloFrom X.env.cells scope.names [], c', dt⟩) → (∀ S : Store, (∀ a, S a ≠ none → H a ≠ none) → (∀ a o, S a = some o → ∀ q, H a ≠ some (CodeO a q)) → S f = none ∧ S c' = none) →
      H1 c' = some (CodeO c' (X.env.qual ++ "<lambda>")) → Q (.ref f) s') :
    wpAny (model X.prog X.w) X.A (makeTail "<lambda>" (X.env.qual ++ "<lambda>") params (.expr body) scope X.env (dtV dt) .none none pos pos.line) Q E s := by
  obtain ⟨ps, hP, ht, ha⟩ := hT _ hm
  have bP : s.heap.BuiltinsAt X.mg P := TB.bm.keeps I.bk
  have hP' : s.heap.get? P = some { cls := .none, data := .fields ps } := I.hok P _ hP
  refine klD_tail (mg := X.mg) (c := c) (P := P) (ps := ps) (closure_ok hfree) I.ok.glob (I.mod.glob.keeps I.bk) hcode (TB.code.keeps I.bk) hP' ht TB.gP bP (fun hc c' ctv h' tk hx hge hlt hrec htb => ?_) fun cv hc ctv h' tk hx hsz => ?_
  ·
    obtain ⟨c2, oc, vs, t, e2, hoc, hd, hv⟩ := hrec
    cases e2
    have nC : H c' = none := I.hok.fresh hge
    have I1 := inv_table (t' := tk) (more := #[rawInt pos.line, rawInt pos.col, .ref c']) (h' := h') I hP (fun b o hb e => hx b o hb e) htb hge ⟨oc, vs, t, hoc, hd, hv⟩
    have hE : ExtN H (upd (upd H P (.tbl (ps ++ #[rawInt pos.line, rawInt pos.col, .ref c']))) c' (CodeO c' (X.env.qual ++ "<lambda>"))) := fun b o e n => by
      rw [upd_ne (ne_of_none e nC), upd_ne (fun z => n ps (Option.some.inj (e.symm.trans (by rw [z]; exact hP))))]
      exact e
    have eL : (ps ++ #[rawInt pos.line, rawInt pos.col, .ref c']).toList = ps.toList ++ [rawInt pos.line, rawInt pos.col, .ref c'] := by simp
    have T1 : Tabs T (upd (upd H P (.tbl (ps ++ #[rawInt pos.line, rawInt pos.col, .ref c']))) c' (CodeO c' (X.env.qual ++ "<lambda>"))) := fun p hp => by
      by_cases hb : p.1 = P
      · rw [hu p hp hb, hb]
        refine ⟨_, by rw [upd_ne (ne_of_none hP nC), upd_same], by rw [eL]; exact PySem.TriplesOk_snoc _ _ _ _ ht, fun p' cv hcv => ?_⟩
        rw [eL] at hcv
        rcases among_app _ ht hcv with z | z
        · obtain ⟨c0, e1, e2⟩ := ha p' cv z
          exact ⟨c0, e1, hE _ _ e2 codeO_ne⟩
        · exact ⟨c', z, upd_same⟩
      · obtain ⟨ps', a1, a2, a3⟩ := hT p hp
        refine ⟨ps', by rw [upd_ne (ne_of_none a1 nC), upd_ne hb]; exact a1, a2, fun p' cv hcv => ?_⟩
        obtain ⟨c0, e1, e2⟩ := a3 p' cv hcv
        exact ⟨c0, e1, hE _ _ e2 codeO_ne⟩
    have nF := I1.hok.fresh (Nat.le_refl _)
    have I2 := inv_lam (F := ⟨X.env.qual ++ "<lambda>", params, body, scope, cloFrom X.env.cells scope.names [], c', dt⟩) (t' := tk) (pm := (X.mg "__name__").getD .none) (ctv := ctv) I1 rfl
    have hnf : H h'.objs.size = none := I.hok.fresh (Nat.le_trans hge (Nat.le_of_lt hlt))
    refine h h'.objs.size c' _ _ I2 (fun b o e n => ?_) (T1.ext fun b o e => ?_) hnf upd_same (fun S hS _ => ⟨Classical.byContradiction fun z => hS _ z hnf, Classical.byContradiction fun z => hS _ z nC⟩) ?_
    · have e1 := hE b o e n
      exact (upd_ne (ne_of_none e1 nF)).trans e1
    · exact (upd_ne (ne_of_none e nF)).trans e
    · exact (upd_ne (Nat.ne_of_lt hlt)).trans upd_same
  · obtain ⟨c', e, hco⟩ := ha pos cv hc
    subst e
    have I1 : Inv X pins σ H { s with heap := h', toks := tk } := I.kept hx
    have nF : H h'.objs.size = none := I1.hok.fresh (Nat.le_refl _)
    have I2 := inv_lam (F := ⟨X.env.qual ++ "<lambda>", params, body, scope, cloFrom X.env.cells scope.names [], c', dt⟩) (t' := tk) (pm := (X.mg "__name__").getD .none) (ctv := ctv) I1 rfl
    refine h h'.objs.size c' _ _ I2 (fun b o e n => ?_) (hT.ext fun b o e => ?_) nF upd_same (fun S hS hS2 => ⟨Classical.byContradiction fun z => hS _ z nF, ?_⟩) ?_
    · exact (upd_ne (ne_of_none e nF)).trans e
    · exact (upd_ne (ne_of_none e nF)).trans e
    · cases q : S c' with
      | none => rfl
      | some o => exact absurd hco (hS2 _ o q _)
    · exact (upd_ne (ne_of_none hco nF)).trans hco
end
end Dl

set_option Elab.async false
set_option linter.all false
set_option maxRecDepth 100000
namespace Dl
open PySem PySem.Spec PySem.Calls PyProof.Rows L2 LamX
/-! ### lambda: e;  lambda a=0: e -/
/-- the lambda as it is made in a frame whose cells are cells -/
abbrev mkLF (cells : List (Str × Addr)) (qual : Str) (params : Arguments) (body : Expr) (scope : Scope) (c : Addr) (dt : Option Addr) : LF := ⟨qual ++ "<lambda>", params, body, scope, cloFrom cells scope.names [], c, dt⟩
section
variable {X : Cx} {T : Tb} {params : Arguments} {body : Expr} {scope : Scope} {pos : Pos} {c P : Addr}
/-- what a new lambda brings -/
theorem lam_step {K : PySem.W.Frag} {Z : List Addr} {H H1 : Hp} {S : Store} {f : Addr} {F : LF} (ok : StOk K T Z H S) (eN : ExtN H H1) (T1 : Tabs T H1) (hf : H f = none) (f1 : H1 f = some (LamO f F)) (c1 : H1 F.c = some (CodeO F.c F.qual))
    (sn : ∀ S : Store, (∀ a, S a ≠ none → H a ≠ none) → (∀ a o, S a = some o → ∀ q, H a ≠ some (CodeO a q)) → S f = none ∧ S F.c = none) (df : ∀ t, F.dt = some t → H1 t = some (.tup [.int 0]) ∧ S t = none) :
    Ext H S H1 S ∧ StOk K T Z H1 S ∧ Rep K Z H1 S (.ref f) (.fn F [] []) := by
  have x : Ext H S H1 S := ⟨fun a o n e nt => ⟨n, eN a o e nt⟩⟩
  obtain ⟨n1, n2⟩ := sn S (fun a z e => z (ok.fresh e)) fun a o e q z => by
    have m := ok.obj a o e
    cases o with
    | lst ds => obtain ⟨vs, h, _⟩ := m; rw [h] at z; exact codeO_not.1 _ (Option.some.inj z)
    | dK ds => obtain ⟨vs, h, _⟩ := m; rw [h] at z; exact codeO_not.2.1 _ (Option.some.inj z)
    | dT ds => obtain ⟨vs, h, _⟩ := m; rw [h] at z; exact codeO_not.2.2.1 _ (Option.some.inj z)
    | ins C ds => obtain ⟨_, _, dx, vs, h, _⟩ := m; rw [h] at z; exact codeO_not.2.2.2 _ _ _ (Option.some.inj z)
    | dN ks => obtain ⟨xs, h, _⟩ := m; rw [h] at z; exact nm_code (Option.some.inj z)
    | memo ks => obtain ⟨xs, h, _⟩ := m; rw [h] at z; exact memo_code (Option.some.inj z)
  refine ⟨x, ⟨T1, fun z hz => ?_, fun a o e => ?_⟩, .fn ⟨f1, n1, c1, n2, df⟩ .nil⟩
  · obtain ⟨q1, vs, q2⟩ := ok.rsv z hz
    exact ⟨q1, vs, eN _ _ q2 fun ps w => by cases w⟩
  · obtain ⟨u, hu, nt⟩ := ok.get e
    exact (ok.obj a o e).other (p := a) (u := u) x ((eN _ _ hu nt).trans hu.symm)
def dLam (mk : Addr → Option Addr → LF) : DE := fun _ S Q => ∀ c', Q (.fn (mk c' none) [] []) S
def dLamD (mk : Addr → Option Addr → LF) : DE := fun _ S Q => ∀ c' t, Q (.fn (mk c' (some t)) [] []) S
theorem x_lam (TB : TabB X.base X.mg c P) (hcode : X.env.code = .ref c) (hT : (P, X.env.qual ++ "<lambda>") ∈ T) (hu : ∀ p ∈ T, p.1 = P → p.2 = X.env.qual ++ "<lambda>") (hfree : ∀ y ∈ scope.names, y.2 = .free → X.env.scope.names.lookup y.1 = some .cell ∨ X.env.scope.names.lookup y.1 = some .free)
    (hdef : defaultsOf params X.env = ([], [])) : XE X T (.Lambda params body scope pos) (dLam (mkLF X.env.cells X.env.qual params body scope)) := by
  refine ⟨fun pins s σ H Q I ⟨Z, τ, S, R, sl, ok, h, k⟩ => ?_⟩
  have hfr : ∀ y ∈ scope.names, y.2 = .free → ∃ c, X.env.cells.lookup y.1 = some c := fun y hy e => (hfree y hy e).elim (fun z => I.ok.has _ (.inl z)) fun z => I.ok.has _ (.inr z)
  refine PySem.W.kla_eval hdef ?_
  rw [makeFunction_eq]
  simp only [List.zip_nil_right, List.filterMap_nil, List.isEmpty_nil, if_true, pure_bind]
  refine lam_tail none I TB hcode hT hu ok.tabs hfr fun f c' H1 s' I1 eN T1 hf f1 sn c1 => ?_
  obtain ⟨x, ok1, r1⟩ := lam_step ok eN T1 hf f1 c1 sn (fun t e => by cases e)
  exact ⟨.ref f, H1, I1, rfl, k _ _ _ _ x r1 ok1 (h c')⟩
theorem x_lamD {e0 : Expr} (TB : TabB X.base X.mg c P) (hcode : X.env.code = .ref c) (hT : (P, X.env.qual ++ "<lambda>") ∈ T) (hu : ∀ p ∈ T, p.1 = P → p.2 = X.env.qual ++ "<lambda>") (hfree : ∀ y ∈ scope.names, y.2 = .free → X.env.scope.names.lookup y.1 = some .cell ∨ X.env.scope.names.lookup y.1 = some .free)
    (h0 : PE X e0 (tC (.int 0))) (hdef : defaultsOf params X.env = ([eval e0 X.env], [])) : XE X T (.Lambda params body scope pos) (dLamD (mkLF X.env.cells X.env.qual params body scope)) := by
  refine ⟨fun pins s σ H Q I ⟨Z, τ, S, R, sl, ok, h, k⟩ => ?_⟩
  have hfr : ∀ y ∈ scope.names, y.2 = .free → ∃ c, X.env.cells.lookup y.1 = some c := fun y hy e => (hfree y hy e).elim (fun z => I.ok.has _ (.inl z)) fun z => I.ok.has _ (.inr z)
  rw [arm_eval_Lambda, hdef]
  show wpAny _ _ (do let dv ← evalAll [eval e0 X.env]; let kdv ← holding dv (evalAllOpt []); makeFunction "<lambda>" (X.env.qual ++ "<lambda>") params (.expr body) scope X.env dv kdv [] pos pos.line) _ _ _
  have q0 : tC (.int 0) σ H (fun v H1 => v = .int 0 ∧ H1 = H) := ⟨rfl, rfl⟩
  refine wpAny_bind ?_
  show wpAny _ _ (do let v ← eval e0 X.env; return v :: (← holding [v] (evalAll []))) _ _ _
  refine wpAny_bind (wpAny_mono (h0.run pins s σ H _ I q0) (fun u s1 ⟨v, H1, I1, r1, e1, e2⟩ => ?_) fun _ _ z => z)
  subst e1; subst e2
  refine wpAny_bind (wpAny_holding (wpAny_pure (wpAny_pure (wpAny_bind (wpAny_holding (wpAny_pure ?_))))))
  rw [makeFunction_eq]
  simp only [List.zip_nil_right, List.filterMap_nil, List.isEmpty_nil, List.isEmpty_cons, Bool.false_eq_true, if_true, if_false, pure_bind]
  refine wpAny_bind (wpAny_newTextTuple ?_)
  have nt : H1 s1.heap.objs.size = none := I1.hok.fresh (Nat.le_refl _)
  have I2 : Inv X pins σ (upd H1 s1.heap.objs.size (.tup [.int 0])) { s1 with heap := s1.heap.push { cls := .type "tuple", data := .seq #[u] } } :=
    I1.laid (t' := s1.toks) (fun b u e => Heap.get?_push_of_some _ e) (Nat.le_refl _) ⟨by rw [sizeLine_eq]; exact (by decide : 1 ≤ 16777216), [u], .cons r1 .nil, ⟨_, Heap.get?_push_size _ rfl, rfl, _, rfl⟩⟩
  have ok2 : StOk X.K T Z (upd H1 s1.heap.objs.size (.tup [.int 0])) S := ok.new nt
  have x2 : Ext H1 S (upd H1 s1.heap.objs.size (.tup [.int 0])) S := Ext.new nt
  refine lam_tail (some s1.heap.objs.size) I2 TB hcode hT hu ok2.tabs hfr fun f c' H3 s' I3 eN T3 hf f3 sn c3 => ?_
  obtain ⟨x3, ok3, r3⟩ := lam_step ok2 eN T3 hf f3 c3 sn (fun t e => by cases e; exact ⟨eN _ _ upd_same (fun ps z => by cases z), ok.fresh nt⟩)
  exact ⟨.ref f, H3, I3, rfl, k _ _ _ _ (x2.trans x3) r3 ok3 (h c' _)⟩
end
end Dl

set_option Elab.async false
set_option linter.all false
set_option maxRecDepth 100000
set_option maxHeartbeats 2000000
namespace Dl
open PySem PySem.Spec PyProof.Rows L2 LamX
section
variable {X : Cx} {elt tg iter : Expr} {ifs : List Expr} {scope : Scope} {own : List (Str × Nat)} {pos : Pos} {wi : TI} {g : TG} {tt : TT} {te : TE}
/-- a list comprehension whose condition knows how its block begins -/
theorem pe_lcW (hc : X.calm = true) (nd : X.N.Nodup) (hi : PI X tg iter wi) (ok : BlkOk X.N X.env.scope scope own) (hg : ∀ (s : Shared) (H : Hp) (C : Addr) (cl : List (Str × Addr)) (fp : List Addr), PG (X.blk s H scope (compEnvC scope cl C X.env) fp) tg g)
    (ht : ∀ (pins : List (Addr × Obj)) (σ : L2.St) (s : Shared) (H : Hp) (C : Addr) (cl : List (Str × Addr)) (fp : List Addr), Inv X pins σ H s → (∀ b ∈ fp, FpOk X pins H b ∧ b < s.heap.objs.size) → C = s.heap.objs.size → PTs (X.blk s H scope (compEnvC scope cl C X.env) fp) ifs (fun σ2 H2 Q2 => L2.wipe σ2 (own.map (·.2)) = L2.wipe σ (own.map (·.2)) ∧ tt σ2 H2 Q2)) (he : ∀ (s : Shared) (H : Hp) (C : Addr) (cl : List (Str × Addr)) (fp : List Addr), PE (X.blk s H scope (compEnvC scope cl C X.env) fp) elt te)
    (hs : ∀ x, foldedSetIterable iter X.env x = pure x := by intro _; rfl) : PE X (.ListComp elt [⟨tg, iter, ifs, 0⟩] scope pos) (tLc wi g tt te (own.map (·.2))) := by
  constructor
  intro pins s σ H Q I h
  rw [eval_ListComp]
  have cells : ∀ y ∈ scope.names, y.2 = .free → ∃ c, X.env.cells.lookup y.1 = some c := fun y my e => I.ok.has _ (ok.free y my e)
  apply wpAny_comprehension_free (use := none) rfl hs (closure_ok cells) ok.kind (fun y my e => (ok.uniq y my).trans (by rw [e]))
  refine thn (hi.run pins s σ H _ I h) fun _ s1 h1 => thn h1 fun _ s2 ⟨it, fp, tn, J, H2, e, I2, T, at0, free2, q⟩ => ?_
  subst e
  refine wpAny_newObj_type (newEnv_comp ?_) (Nat.zero_le _)
  -- the new list, at L
  obtain ⟨L, hL⟩ : ∃ L, L = s2.heap.objs.size := ⟨_, rfl⟩
  obtain ⟨W, ⟨m0, w0⟩, turn⟩ := q L (I2.hok.fresh (Nat.le_of_eq hL.symm))
  have I3 : Inv X pins σ (upd H2 L (.lst [])) { s2 with heap := s2.heap.push { cls := .type "list", data := .seq ([] : List Value).toArray } } :=
    I2.laid (t' := s2.toks) (fun b o e => Heap.get?_push_of_some _ e) (Nat.le_of_eq hL.symm) ⟨Nat.zero_le _, [], 0, .nil, by rw [hL]; exact Heap.get?_push_size _ rfl⟩
  have old : ∀ b ∈ fp, b < s2.heap.objs.size := fun b mb => by obtain ⟨o, e, _⟩ := T.obj _ _ at0 b mb; exact Heap.lt_size e
  have at3 := T.keep _ _ (s2.heap.push { cls := .type "list", data := .seq ([] : List Value).toArray }) at0 fun b _ o e => Heap.get?_push_of_some _ e
  have free3 : ∀ b ∈ fp, FpOk X pins (upd H2 L (.lst [])) b ∧ b < (s2.heap.push { cls := .type "list", data := .seq ([] : List Value).toArray }).objs.size := fun b mb =>
    ⟨⟨by rw [upd_ne (by rw [hL]; exact Nat.ne_of_lt (old b mb))]; exact (free2 b mb).1, (free2 b mb).2⟩, by rw [Heap.size_push]; exact Nat.lt_succ_of_lt (old b mb)⟩
  generalize hs3 : ({ s2 with heap := s2.heap.push { cls := .type "list", data := .seq ([] : List Value).toArray } } : Shared) = s3 at I3
  have heap3 : s3.heap = s2.heap.push { cls := .type "list", data := .seq ([] : List Value).toArray } := by rw [← hs3]
  rw [← heap3] at at3 free3
  have I4 := block_start I3 ok nd free3
  have bg := hg s3 (upd H2 L (.lst [])) s3.heap.objs.size (cellsFrom (s3.heap.objs.size + 1) scope.names (cloFrom X.env.cells scope.names [])) fp
  have bt := ht pins σ s3 (upd H2 L (.lst [])) s3.heap.objs.size (cellsFrom (s3.heap.objs.size + 1) scope.names (cloFrom X.env.cells scope.names [])) fp I3 free3 rfl
  have be := he s3 (upd H2 L (.lst [])) s3.heap.objs.size (cellsFrom (s3.heap.objs.size + 1) scope.names (cloFrom X.env.cells scope.names [])) fp
  rw [← hL]
  have at4 := T.keep _ _ (pushCells (s3.heap.push { cls := .type "dict", data := .dict #[] }) scope.names) at3 fun b _ o e => pushCells_keeps _ _ _ _ (Heap.get?_push_of_some _ e)
  show codeAny _ _ (.compStart _ 0 (.ref it) (.ref L) (compEnvC scope (cellsFrom (s3.heap.objs.size + 1) scope.names (cloFrom X.env.cells scope.names [])) s3.heap.objs.size X.env)) (compPost (model X.prog X.w) X.A X.xe none _ (.ref L) s3.heap.objs.size) { s3 with heap := pushCells (s3.heap.push { cls := .type "dict", data := .dict #[] }) scope.names }
  generalize hce : compEnvC scope (cellsFrom (s3.heap.objs.size + 1) scope.names (cloFrom X.env.cells scope.names [])) s3.heap.objs.size X.env = ce at I4 bg bt be ⊢
  have hloc : ce.locals = s3.heap.objs.size := by rw [← hce]; rfl
  generalize hH3 : upd H2 L (.lst []) = H3 at I3 I4 bg bt be w0 free3
  generalize hs4 : ({ s3 with heap := pushCells (s3.heap.push { cls := .type "dict", data := .dict #[] }) scope.names } : Shared) = s4 at I4 ⊢
  have at4' : tn 0 s4.heap := by rw [← hs4]; exact at4
  have ours : ∀ {σ' : L2.St} {H' : Hp} {s' : Shared}, Inv (X.blk s3 H3 scope ce fp) [] σ' H' s' → (∀ b ∈ fp, H' b = none) → ∀ b ∈ fp, FpOk (X.blk s3 H3 scope ce fp) [] H' b := fun {_ _ _} J hn b mb =>
    ⟨hn b mb, (J.ok.exf b mb).1, J.ok.exfs b mb, .inl mb, fun x c e => (J.ok.exf b mb).2 x c e, fun p mp => nomatch (show p ∈ ([] : List (Addr × Obj)) from mp)⟩
  have loop : codeAny (model X.prog X.w) X.A (.compLoop (.ListComp elt [⟨tg, iter, ifs, 0⟩] scope pos) 0 (.ref it) (.ref L) ce) (compPost (model X.prog X.w) X.A X.xe none (fun v s' => ∃ y H', Inv X pins σ H' s' ∧ RelV y v ∧ Q y H') (.ref L) s3.heap.objs.size) s4 := by
    apply compLoop_any (fun n s' => ∃ i H', Inv (X.blk s3 H3 scope ce fp) [] (L2.wipe σ (own.map (·.2))) H' s' ∧ tn i s'.heap ∧ (∀ b ∈ fp, H' b = none) ∧ W i n H') (n := m0) (h := ⟨0, H3, I4, at4', fun b mb => (free3 b mb).1.1, w0⟩)
    rintro n s5 ⟨i, H5, I5, at5, no5, w5⟩
    rcases turn i n H5 w5 with ⟨stop, fin⟩ | ⟨go, Nx, less, step⟩
    · refine thnF (T.done (X.blk s3 H3 scope ce fp) rfl rfl rfl hc i [] s5 _ H5 (fun _ _ => False) I5 (ours I5 no5) at5 stop) ?_
      rintro r s6 ⟨rfl, I6⟩
      -- the def's own context again
      have I7 : Inv X pins σ H5 s6 := I3.call' (ch := fp) I6.os I6.base I6.hok I6.bare fun b mb => let f := (free3 b mb).1; ⟨f.2.2.2.1, f.2.1, f.2.2.2.2.1, f.2.2.2.2.2⟩
      obtain ⟨m, ns, _⟩ := I6.loc
      have noC : H5 s3.heap.objs.size = none := by rw [← hloc]; exact I6.free
      have ns2 : s6.heap.Ns s3.heap.objs.size m := by rw [← hloc]; exact ns
      obtain ⟨c0, c1, c2, c3, c4, c5⟩ := I3.fpOk (Nat.le_refl _) noC
      exact ⟨m, ns2, fun h2 same => ⟨.ref L, H5, I7.turned (t' := s6.toks) (fun b o nb e => (same.2 b nb).trans e) c0 c1 c3 c4 c5, rfl, fin⟩⟩
    · refine thnF (T.item (X.blk s3 H3 scope ce fp) rfl rfl rfl hc i [] s5 _ H5 (fun _ _ => False) I5 (ours I5 no5) at5 go) ?_
      rintro r s6 ⟨u, rfl, h6⟩
      refine thnF h6 ?_
      rintro _ s7 ⟨x, H7, I7, r7, y7, at7, no7⟩
      refine thnF (bg.run _ s7 _ H7 x u _ (I7.pinned (ours I7 no7) (T.obj _ _ at7)) r7 (step x H7 y7)) ?_
      rintro _ s8 ⟨σ8, H8, I8, hw, q8⟩
      refine thnF (bt.run _ s8 σ8 H8 _ I8 ⟨hw, q8⟩) ?_
      rintro b s9 ⟨H9, I9, q9⟩
      have on : ∀ {s' : Shared} {H' : Hp}, Inv (X.blk s3 H3 scope ce fp) ([] ++ pinsAt fp s7.heap) σ8 H' s' → Nx H' → ∃ m, m < n ∧ ∃ i H', Inv (X.blk s3 H3 scope ce fp) [] (L2.wipe σ (own.map (·.2))) H' s' ∧ tn i s'.heap ∧ (∀ b ∈ fp, H' b = none) ∧ W i m H' := fun {s' H'} J nx => by
        obtain ⟨m', lt, w'⟩ := less H' nx
        have held := fun b (mb : b ∈ fp) o (e : s7.heap.get? b = some o) => J.pin (b, o) (List.mem_append_right _ (List.mem_append_right _ (mem_pinsAt mb e)))
        refine ⟨m', lt, i + 1, H', (J.unpinned (pins := [])).weak (by rw [← hw, wipe_length]) (fun j v e => (wipe_some (by rw [hw]; exact e)).1), T.keep _ _ _ at7 fun b mb o e => (held b mb o e).1, fun b mb => ?_, w'⟩
        obtain ⟨o, e, _⟩ := T.obj _ _ at7 b mb
        exact (held b mb o e).2.1
      cases b with
      | false => exact on I9 q9
      | true =>
        refine thnF (be.run _ s9 σ8 H9 _ I9 q9) ?_
        rintro z s10 ⟨yv, H10, I10, r10, acc, e10, z10, nx⟩
        exact app_ok (X := X.blk s3 H3 scope ce fp) I10 e10 z10 r10 fun s11 I11 => on I11 nx
  exact codeAny_compStart_list loop (T.self X.A 0 _ _ _ at4' loop)
end
end Dl

set_option Elab.async false
set_option linter.all false
set_option maxRecDepth 100000
namespace Dl
open PySem PySem.Spec PyProof.Rows L2 LamX NdefX
/-! ### what a lambda promises -/
abbrev LF.nf (F : LF) : NF := ⟨"<lambda>", F.qual, F.params, [], F.scope, F.cl, F.c⟩
/-- the lambda F: b tells what it does, its captured names holding the data -/
structure LOk (P : Program) (w : World) (K : PySem.W.Frag) (mg : MGm) (base : Heap) (T : Tb) (k : Nat) (F : LF) (fr : List Str) (b : DSy) : Prop where
  run : ∀ (A : Around) (outer : List Env) (s : Shared) (H : Hp) (f : Addr) (ws : List V) (Q : VK) (E : XK) (Z : List Addr) (S : Store) (R : DK) (RE : Str → List D → Store → Prop) (dws : List D), Room k A → Env0 P w K mg base A outer s H → FnAt H S f F → CellsAt F.cl fr (ws.map some) s.heap H → Reps K Z H S ws dws → StOk K T Z H S → b dws S R RE →
    (∀ v H' d S', Ext H S H' S' → Rep K Z H' S' v d → StOk K T Z H' S' → R d S' → Q v H') → (∀ nm C ps d H' S', Ext H S H' S' → StOk K T Z H' S' → mg nm = some (.ref C) → PayOk K Z H' S' nm ps d → RE nm ps S' → E (.ref C) d H') →
    codeAny (model P w) A (.call (.ref f) ⟨[], []⟩) (CR (L2N.CX P w) outer P w H s Q E) s
theorem lamO_at {P : Program} {w : World} {H : Hp} {h : Heap} {f : Addr} {F : LF} (hok : HOk P w H h) (e : H f = some (LamO f F)) : ∃ (od : Option Addr) (sl : Array (Option Value)) (pm ctv : Value), h.get? f = some (⟨.type "function", od, .func (F.fd pm ctv), sl⟩ : Obj) := by
  obtain ⟨z, _, _⟩ := (show ObjOk P w H h f (LamO f F) from hok f _ e)
  exact z
section
variable {P : Program} {w : World} {K : PySem.W.Frag} {mg : MGm} {base : Heap} {T : Tb} {k : Nat} {F : LF} {N ps fr : List Str} {Ψ : DEy}
theorem LOk.mono {b : DSy} {j : Nat} (o : LOk P w K mg base T j F fr b) (h : j ≤ k) : LOk P w K mg base T k F fr b := ⟨fun A outer s H f ws Q E Z S R RE dws hr => o.run A outer s H f ws Q E Z S R RE dws (hr.mono h)⟩
/-- the body is walked: vs, us, dvs the parameters' values -/
theorem lok_core (S : NScope N ps fr F.scope) (hN : N = ps ++ fr) {A : Around} {outer : List Env} {s : Shared} {H : Hp} {f : Addr} {ws vs : List V} {us : List Value} {dvs dws : List D} {Q : VK} {E : XK} {Z : List Addr} {S0 : Store} {R : DK} {RE : Str → List D → Store → Prop} (hr : Room (k + 1) A) (e0 : Env0 P w K mg base A outer s H)
    (hf : FnAt H S0 f F) (C : CellsAt F.cl fr (ws.map some) s.heap H) (rw' : Reps K Z H S0 ws dws) (ok : StOk K T Z H S0) (hb : ∀ pm ctv (G : List (Str × Value) → Shared → Prop) (E' : Value → Shared → Prop), G (ps.zip us) s → wpAny (model P w) A.in1 (bindArgs (F.fd pm ctv) ⟨[], []⟩) G E' s) (hl : vs.length = ps.length) (r : Vals vs us) (rd : Reps K Z H S0 vs dvs)
    (hbody : XEy (ncx (L2N.CX P w) P w K mg base N F.nf f A outer s H E) T (fun cls d _ H => E cls d H) F.body Ψ) (q : Ψ (dvs.map some ++ dws.map some) S0 R RE)
    (kk : ∀ v H' d S', Ext H S0 H' S' → Rep K Z H' S' v d → StOk K T Z H' S' → R d S' → Q v H') (ky : ∀ nm C ps d H' S', Ext H S0 H' S' → StOk K T Z H' S' → mg nm = some (.ref C) → PayOk K Z H' S' nm ps d → RE nm ps S' → E (.ref C) d H') :
    codeAny (model P w) A (.call (.ref f) ⟨[], []⟩) (CR (L2N.CX P w) outer P w H s Q E) s := by
  obtain ⟨od, sl, pm, ctv, ho⟩ := lamO_at e0.hok hf.at_
  have lim : s.heap.NoLimit := e0.mod.nolimit.keeps fun b o e => (e0.bs b o e).1
  refine PySem.W.kla_callFunE hr.depth ho rfl S.co S.gen rfl (codeO_at e0.hok hf.co) (hb pm ctv _ _ ?_)
  refine wpAny_newFunctionEnv S.nocell (fun ⟨n, _⟩ hy => S.par n (List.of_mem_zip hy).1) (fun h₁ hns hsb => ⟨lim.fresh _ hsb, ?_⟩) S.kind
  have kp : ∀ b o, s.heap.get? b = some o → h₁.get? b = some o := fun b o e => hsb.extBut b o (Nat.ne_of_lt (Heap.lt_size e)) (Heap.get?_push_of_some _ e)
  have I : Inv (ncx (L2N.CX P w) P w K mg base N F.nf f A outer s H E) [] (startF N vs (ws.map some)) H { s with heap := h₁, toks := s.toks + (ps.zip us).length } := inv_startN (F := F.nf) S hr.hd e0 hl r C hns kp
  have sl0 : Slots K Z H S0 (startF N vs (ws.map some)) (dvs.map some ++ dws.map some) := by
    have l1 := C.len
    have lz : N.length - vs.length - (ws.map some).length = 0 := by rw [hN, List.length_append, hl, l1]; omega
    unfold startF
    rw [lz, List.replicate_zero, List.append_nil]
    refine ⟨by simp [rd.length, rw'.length], fun i d e => ?_⟩
    rw [← List.map_append, List.getElem?_map] at e
    rw [← List.map_append, List.getElem?_map]
    have rr := rd.append rw'
    cases h : (dvs ++ dws)[i]? with
    | none => rw [h] at e; cases e
    | some d' =>
      rw [h] at e
      obtain ⟨v, e1, r1⟩ := rr.get h
      rw [e1]
      have : d' = d := Option.some.inj (Option.some.inj e)
      rw [← this]
      exact ⟨v, rfl, r1⟩
  refine PySem.W.kla_codeExpr (wpAny_mono (hbody.run [] _ _ H Q I ⟨Z, _, S0, R, RE, sl0, ok, q, kk, ky⟩) (fun v s' hq => ?_) fun e s' hq => hq)
  obtain ⟨w', H', J', rv, q'⟩ := hq
  exact ⟨w', H', J'.os, J'.bare, J'.base, J'.hok, rv, q'⟩
/-- lambda: e -/
theorem lok_of (S : NScope fr [] fr F.scope) (hd : F.dt = none) (hb : ∀ pm ctv, bindArgs (F.fd pm ctv) ⟨[], []⟩ = pure [])
    (hbody : ∀ (A : Around) (outer : List Env) (s : Shared) (H : Hp) (f : Addr) (E : XK), Room k (A.deeper (envF F.nf f s.heap.objs.size)) → XEy (ncx (L2N.CX P w) P w K mg base fr F.nf f A outer s H E) T (fun cls d _ H => E cls d H) F.body Ψ) :
    LOk P w K mg base T (k + 1) F fr (fun dws S R RE => Ψ (dws.map some) S R RE) :=
  ⟨fun A outer s H f ws Q E Z S0 R RE dws hr e0 hf C r ok q kk ky => lok_core (vs := []) (us := []) (dvs := []) S rfl hr e0 hf C r ok (fun pm ctv G E' g => by rw [hb pm ctv]; exact wpAny_pure g) rfl .nil .nil (hbody A outer s H f E (hr.deeper _)) q kk ky⟩
/-- lambda a=0: e -/
theorem lok_ofD {a : Str} {t : Addr} (S : NScope (a :: fr) [a] fr F.scope) (hd : F.dt = some t) (hb : ∀ pm ctv (u : Value), ∃ g, bindArgs (F.fd pm ctv) ⟨[], []⟩ = seqItems? (.ref t) >>= g ∧ g (some #[u]) = pure [(a, u)])
    (hbody : ∀ (A : Around) (outer : List Env) (s : Shared) (H : Hp) (f : Addr) (E : XK), Room k (A.deeper (envF F.nf f s.heap.objs.size)) → XEy (ncx (L2N.CX P w) P w K mg base (a :: fr) F.nf f A outer s H E) T (fun cls d _ H => E cls d H) F.body Ψ) :
    LOk P w K mg base T (k + 1) F fr (fun dws S R RE => Ψ (some (.int 0) :: dws.map some) S R RE) := by
  refine ⟨fun A outer s H f ws Q E Z S0 R RE dws hr e0 hf C r ok q kk ky => ?_⟩
  obtain ⟨_, its, rv, o, h1, h2, n, h3⟩ := (show ObjOk P w H s.heap t (.tup [.int 0]) from e0.hok t _ (hf.df t hd).1)
  cases rv with
  | @cons _ u _ _ r1 r2 =>
    cases r2
    refine lok_core (vs := [.int 0]) (us := [u]) (dvs := [.int 0]) S rfl hr e0 hf C r ok (fun pm ctv G E' g => ?_) rfl (.cons r1 .nil) (.cons (.int 0) .nil) (hbody A outer s H f E (hr.deeper _)) q kk ky
    obtain ⟨y, e1, e2⟩ := hb pm ctv u
    rw [e1]
    refine wpAny_bind (wpAny_seqItems h1 h3 ?_)
    rw [show y (some [u].toArray) = y (some #[u]) from rfl, e2]
    exact wpAny_pure g
end
/-! ### work() in a def that got the lambda -/
def dAct (i : Nat) (F : LF) (ws : List V) (dws : List D) (b : DSy) : DEy := fun τ S Q RE => τ[i]? = some (some (.fn F ws dws)) ∧ b dws S Q RE
section
variable {X : Cx} {T : Tb} {W : WX} {k : Nat} {F : LF} {fr : List Str} {b : DSy} {ws : List V} {dws : List D} {i : Nat} {a : Str} {p1 p2 : Pos}
theorem xy_act (tk : L2N.Takes X W) (L : LOk X.prog X.w X.K X.mg X.base T k F fr b) (hr : Room k X.A) (C : CellsAt F.cl fr (ws.map some) X.s_0.heap X.H_0) (nf : ∀ y c, F.cl.lookup y = some c → c ∉ X.fs) (nx : ∀ y c, F.cl.lookup y = some c → c ∉ X.ex)
    (hN : X.N[i]? = some a) (hv : Vis X.env.scope a) (hd : (a == ("__debug__" : Str)) = false := by decide) (hcd : (a == ("__classdict__" : Str)) = false := by decide) : XEy X T W (.Call (.Name a p1) [] [] p2) (dAct i F ws dws b) := by
  refine ⟨fun pins s σ H Q I ⟨Z, τ, S, R, RE, sl, ok, ⟨et, q⟩, kk, ky⟩ => ?_⟩
  obtain ⟨v, ev, rv⟩ := sl.at_ i _ et
  cases rv with
  | @fn f _ _ _ hf rr =>
    refine wpAny_Call_Name_kw (thn ((pe_var (pos := p1) hN hv hd hcd).run pins s σ H (fun v H1 => v = .ref f ∧ H1 = H) I ⟨.ref f, ev, rfl, rfl⟩) fun u s1 ⟨v, H1, I1, r1, q1⟩ => ?_)
    obtain ⟨e1, e2⟩ := q1
    subst e1; subst e2
    obtain rfl : u = Value.ref f := r1
    obtain ⟨od, sl', pm, ctv, ho⟩ := lamO_at I1.hok hf.at_
    refine PySem.W.callWith_F0 (first := []) ⟨_, _, _, _, ho⟩ ?_
    have tail := L.run X.A X.stack s1 H1 f ws Q (fun cls d H' => W cls d σ H') Z S R RE dws hr I1.env0 hf (C.later nf nx I1) rr ok q kk ky
    refine wpAny_call (codeAny_mono tail fun r s' hq => ?_)
    cases r with
    | error e => exact L2N.passAt tk σ pins H1 s1 e s' I1 hq
    | ok fl =>
      cases fl with
      | ret u => exact I1.after hq
      | next => exact False.elim hq
      | brk => exact False.elim hq
      | cont => exact False.elim hq
end
end Dl

set_option Elab.async false
set_option linter.all false
set_option maxRecDepth 100000
namespace Dl
open PySem PySem.Spec PyProof.Rows L2 LamX NdefX
/-! ### defs that get a lambda and let nothing out -/
abbrev DBe := Store → DK → (Str → List D → Store → Prop) → Prop
structure DGn (P : Program) (w : World) (K : PySem.W.Frag) (mg : MGm) (base : Heap) (T : Tb) (k : Nat) (x : Str) (gsp : DBe → DSp) : Prop where
  ex : ∃ fa : Addr, mg x = some (.ref fa) ∧ PySem.W.keepIn K (.ref fa) = true ∧ ∀ (A : Around) (outer : List Env) (s : Shared) (H : Hp) (us : List Value) (vs : List V) (Q : VK) (F : LF) (fr : List Str) (ws : List V) (dws rest : List D) (b : DSy) (Z : List Addr) (S : Store) (R : DK),
    Room (k + 1) A → Env0 P w K mg base A outer s H → Vals vs us → LOk P w K mg base T k F fr b → CellsAt F.cl fr (ws.map some) s.heap H → (∀ y c, F.cl.lookup y = some c → c ∉ frs outer) → Reps K Z H S vs (.fn F ws dws :: rest) → StOk K T Z H S → gsp (b dws) rest S R →
    (∀ v H' d S', Ext H S H' S' → Rep K Z H' S' v d → StOk K T Z H' S' → R d S' → Q v H') → codeAny (model P w) A (.call (.ref fa) ⟨us, []⟩) (CR CX0 outer P w H s Q E0) s
theorem fn_g {P : Program} {w : World} {K : PySem.W.Frag} {mg : MGm} {base : Heap} {T : Tb} {x qual : Str} {st : Stmt} {fa : Addr} {fd : FuncData} {N ps : List Str} {k : Nat} {gsp : DBe → DSp} (F0 : Fun K x qual st fa fd) (S : FnScope N ps (defScope st)) (bi : Binds K fd ps []) (hm : mg x = some (.ref fa)) (hk : PySem.W.keepIn K (.ref fa) = true)
    (len : ∀ b rest S R, gsp b rest S R → rest.length + 1 = ps.length)
    (hbody : ∀ (cdv : Value) (A : Around) (outer : List Env) (s : Shared) (H : Hp) (F : LF) (fr : List Str) (ws : List V) (dws : List D) (b : DSy), Room k (A.deeper (envOfC qual (defScope st) s.heap.objs.size fa cdv)) → LOk P w K mg base T k F fr b → CellsAt F.cl fr (ws.map some) s.heap H → (∀ y c, F.cl.lookup y = some c → c ∉ frs outer) →
      ∃ Θ : DS, XSs (cxOf CX0 P w K mg base N qual (defScope st) fa cdv A outer s H E0) T (defBody st) Θ ∧ ∀ rest S R, gsp (b dws) rest S R → Θ (ends R) (startD N (.fn F ws dws :: rest)) S) : DGn P w K mg base T k x gsp := by
  obtain ⟨oc, od, kV, doc, pm, an, cdv, ct, osl, rfl, lk, hcd⟩ := F0.ex
  refine ⟨fa, hm, hk, fun A outer s H us vs Q F fr ws dws rest b Z S0 R hr e0 r L C nf rr ok g kk => ?_⟩
  have hl : vs.length = ps.length := by rw [rr.length, List.length_cons]; exact len _ _ _ _ g
  have lu : us.length = ps.length := by rw [← r.length]; exact hl
  have hb := bi s us (e0.mod.kin.keeps fun b o e => (e0.bs b o e).1) (by rw [List.append_nil]; exact lu)
  rw [List.append_nil] at hb
  refine run_ofS (N := N) (ps := ps) lk hcd S hr e0 hb r hl fun hr' => ?_
  obtain ⟨Θ, h1, h2⟩ := hbody cdv A outer s H F fr ws dws b hr' L C nf
  exact ⟨_, h1, Z, startD N (.fn F ws dws :: rest), S0, ends R, slots_start rr, ok, h2 rest S0 R g, eok_ends kk⟩
section
variable {X : Cx} {pins : List (Addr × Obj)} {σ : L2.St} {H : Hp} {s : Shared}
theorem cell_nf (I : Inv X pins σ H s) (hfn : ∀ x, X.fn x = true) {y : Str} {c : Addr} (e : X.env.cells.lookup y = some c) : c ∉ frs X.stack := fun z => by
  rcases List.mem_cons.mp (I.stkSub _ z) with z | z
  · exact I.cne y c e z
  · obtain ⟨_, o, ho, _⟩ := I.ok.funs.mem z
    exact absurd (Nat.lt_of_lt_of_le (Heap.lt_size ho) (I.ok.cab y c (hfn y) e)) (Nat.lt_irrefl _)
theorem wipe_at : ∀ {σ : L2.St} {ws : List Nat} {j : Nat}, j ∉ ws → (L2.wipe σ ws)[j]? = σ[j]?
  | _, [], _, _ => rfl
  | σ, w :: ws, j, h => by
    have h1 : w ≠ j := fun z => h (by rw [z]; exact List.mem_cons_self)
    have h2 : j ∉ ws := fun z => h (List.mem_cons_of_mem _ z)
    unfold L2.wipe
    rw [List.getElem?_set_ne h1, wipe_at h2]
/-- the values of slots that hold data -/
theorem slots_vals {K : PySem.W.Frag} {Z : List Addr} {S : Store} {τ : DSt} (sl : Slots K Z H S σ τ) : ∀ {js : List Nat} {dws : List D}, js.map (fun j => τ[j]?) = dws.map (fun d => some (some d)) → ∃ ws : List V, js.map (slotAt σ) = ws.map some ∧ Reps K Z H S ws dws
  | [], [], _ => ⟨[], rfl, .nil⟩
  | j :: js, d :: dws, e => by
    simp only [List.map_cons, List.cons.injEq] at e
    obtain ⟨ws, e1, r1⟩ := slots_vals sl e.2
    obtain ⟨v, ev, rv⟩ := sl.at_ j d e.1
    exact ⟨v :: ws, by rw [List.map_cons, List.map_cons, e1, slotAt_of ev], .cons rv r1⟩
  | [], _ :: _, e => by simp at e
  | _ :: _, [], e => by simp at e
end
/-- g(w, ..), w one of the known lambdas; js: the slots of its captured names -/
def dCallG (Kn : LF → List Nat → DSy → Prop) (gsp : DBe → DSp) (A : DA) : DE := fun τ S Q => A τ S fun ds S1 => match ds with
  | .fn F [] [] :: rest => ∃ js b dws, Kn F js b ∧ js.map (fun j => τ[j]?) = dws.map (fun d => some (some d)) ∧ gsp (b dws) rest S1 Q
  | _ => False
section
variable {X : Cx} {T : Tb} {k j : Nat} {x : Str} {gsp : DBe → DSp} {Kn : LF → List Nat → DSy → Prop} {A : DA} {e : Expr} {es : List Expr} {p pos : Pos}
theorem callG_run {Y : Cx} {pins : List (Addr × Obj)} {σ : L2.St} {H : Hp} {s : Shared} {Q : VK} {fa : Addr} {us : List Value} {vs : List V} {F : LF} {fr : List Str} {js : List Nat} {b : DSy} {dws rest : List D} {Z : List Addr} {τ : DSt} {S : Store} {R : DK} {gsp : DBe → DSp}
    (run : ∀ (A : Around) (outer : List Env) (s : Shared) (H : Hp) (us : List Value) (vs : List V) (Q : VK) (F : LF) (fr : List Str) (ws : List V) (dws rest : List D) (b : DSy) (Z : List Addr) (S : Store) (R : DK),
      Room (k + 1) A → Env0 Y.prog Y.w Y.K Y.mg Y.base A outer s H → Vals vs us → LOk Y.prog Y.w Y.K Y.mg Y.base T k F fr b → CellsAt F.cl fr (ws.map some) s.heap H → (∀ y c, F.cl.lookup y = some c → c ∉ frs outer) → Reps Y.K Z H S vs (.fn F ws dws :: rest) → StOk Y.K T Z H S → gsp (b dws) rest S R →
      (∀ v H' d S', Ext H S H' S' → Rep Y.K Z H' S' v d → StOk Y.K T Z H' S' → R d S' → Q v H') → codeAny (model Y.prog Y.w) A (.call (.ref fa) ⟨us, []⟩) (CR CX0 outer Y.prog Y.w H s Q E0) s)
    (I : Inv Y pins σ H s) (hr : Room (k + 1) Y.A) (L : LOk Y.prog Y.w Y.K Y.mg Y.base T k F fr b) (C : CellsAt F.cl fr (js.map (slotAt σ)) s.heap H) (nf : ∀ y c, F.cl.lookup y = some c → c ∉ frs Y.stack) (r : Vals vs us) (rr : Reps Y.K Z H S vs (.fn F [] [] :: rest)) (sl : Slots Y.K Z H S σ τ) (ok : StOk Y.K T Z H S)
    (e : js.map (fun j => τ[j]?) = dws.map (fun d => some (some d))) (g : gsp (b dws) rest S R) (kk : ∀ v H' d S', Ext H S H' S' → Rep Y.K Z H' S' v d → StOk Y.K T Z H' S' → R d S' → Q v H') : wpAny (model Y.prog Y.w) Y.A (call (.ref fa) us) (EP Y pins σ Q) Y.xe s := by
  obtain ⟨ws, ew, rw'⟩ := slots_vals sl e
  rw [ew] at C
  have rr' : Reps Y.K Z H S vs (.fn F ws dws :: rest) := by
    cases rr with
    | cons r1 r2 =>
      cases r1 with
      | fn hf _ => exact .cons (.fn hf rw') r2
  refine wpAny_call (codeAny_mono (run Y.A Y.stack s H us vs Q F fr ws dws rest b Z S R hr I.env0 r L C nf rr' ok g kk) fun r s' hq => ?_)
  cases r with
  | error e => exact hq.elim
  | ok fl =>
    cases fl with
    | ret u => exact I.after hq
    | next => exact False.elim hq
    | brk => exact False.elim hq
    | cont => exact False.elim hq
/-- in the frame of the def that made it -/
theorem x_callG (G : DGn X.prog X.w X.K X.mg X.base T k x gsp) (hr : Room (k + 1) X.A) (hfn : ∀ x, X.fn x = true) (hK : ∀ F js b, Kn F js b → ∃ fr, (X.Ok → Caps X F.cl fr js) ∧ LOk X.prog X.w X.K X.mg X.base T k F fr b) (hg : Gl X x) (ha : XA X T (e :: es) A)
    (hdb : (x == ("__debug__" : Str)) = false := by decide) (he : starEach (e :: es) X.env = (false, eval e X.env) :: starEach es X.env := by rfl) (hpl : (backTo pos (starEach es X.env)).any (·.1) = false := by rfl) : XE X T (.Call (.Name x p) (e :: es) [] pos) (dCallG Kn gsp A) := by
  obtain ⟨fa, hm, hk, run⟩ := G.ex
  refine ⟨fun pins s σ H Q I ⟨Z, τ, S, R, sl, ok, h, kk⟩ => ?_⟩
  refine wpAny_Call_Name_kw (ld_glob I hg hm ?_ hdb)
  refine PySem.W.callWith_K (h₀ := X.base) I.ok.mod.kin hk (thn (ha.run pos pins s σ H (fun vs H1 => ∃ ds S1, Ext H S H1 S1 ∧ Reps X.K Z H1 S1 vs ds ∧ StOk X.K T Z H1 S1 ∧ (match ds with
    | .fn F [] [] :: rest => ∃ js b dws, Kn F js b ∧ js.map (fun j => τ[j]?) = dws.map (fun d => some (some d)) ∧ gsp (b dws) rest S1 R
    | _ => False)) I ⟨Z, τ, S, _, sl, ok, h, fun vs H1 ds S1 x1 r1 ok1 q => ⟨ds, S1, x1, r1, ok1, q⟩⟩) fun us s1 ⟨vs, H1, I1, r, ds, S1, x1, rr, ok1, q⟩ => ⟨I1.kIn, ?_⟩) he hpl
  split at q
  · rename_i F rest
    obtain ⟨js, b, dws, kn, e1, g⟩ := q
    obtain ⟨fr, cp, L⟩ := hK F js b kn
    have cp := cp I1.ok
    exact callG_run run I1 hr L (cells_of I1 cp) (fun y c e => cell_nf I1 hfn (cp.sub y c e)) r rr (sl.ext x1) ok1 e1 g fun v H' d S' x => kk v H' d S' (x1.trans x)
  · exact q.elim
/-! in a comprehension's condition -/
def lfp (K : PySem.W.Frag) (T : Tb) (pre : L2.St → Prop) (Ψ : DE) : TE := fun σ H Q => pre σ ∧ lf K T Ψ σ H Q
def lfTp (K : PySem.W.Frag) (T : Tb) (pre : L2.St → Prop) (Ψ : DT) : TT := fun σ H Q => pre σ ∧ lfT K T Ψ σ H Q
theorem tp_val {pre : L2.St → Prop} {Ψ : DE} (h : PE X e (lfp X.K T pre Ψ)) (he : ∀ whole, isTrue e X.env whole = (do let v ← whole; standAt e.pos; holding [v] (truthy v)) := by intro _; rfl) : PT X e (lfTp X.K T pre (dTest Ψ)) :=
  (pt_val h he).imp fun σ H Q q => by
    obtain ⟨p, Z, τ, S, R, sl, ok, h, k⟩ := q
    refine ⟨p, Z, τ, S, _, sl, ok, h, fun v H' d S' x r ok' q => ?_⟩
    cases d with
    | bl b =>
      rw [r.bool]
      exact ⟨b, rfl, k b H' S' x ok' q⟩
    | _ => exact q.elim
theorem tp_not {pre : L2.St → Prop} {Ψ : DT} (h : PT X e (lfTp X.K T pre Ψ)) : PT X (.UnaryOp .Not e pos) (lfTp X.K T pre (dNot Ψ)) :=
  (pt_not h).imp fun σ H Q ⟨p, Z, τ, S, R, sl, ok, h, k⟩ => ⟨p, Z, τ, S, _, sl, ok, h, fun b H' S' x ok' q => k _ H' S' x ok' q⟩
theorem x_callGB {pins : List (Addr × Obj)} {σ0 : L2.St} {s0 : Shared} {H0 : Hp} {scope : Scope} {ce : Env} {fp : List Addr} {own : List Nat} (I0 : Inv X pins σ0 H0 s0) (hfp : ∀ b ∈ fp, FpOk X pins H0 b ∧ b < s0.heap.objs.size) (G : DGn X.prog X.w X.K X.mg X.base T k x gsp) (hr : Room (k + 1) X.A) (hfn : ∀ x, X.fn x = true)
    (hK : ∀ F js b, Kn F js b → (∀ i ∈ js, i ∉ own) ∧ ∃ fr, (X.Ok → Caps X F.cl fr js) ∧ LOk X.prog X.w X.K X.mg X.base T k F fr b) (hg : Gl (X.blk s0 H0 scope ce fp) x) (ha : XA (X.blk s0 H0 scope ce fp) T (e :: es) A)
    (hdb : (x == ("__debug__" : Str)) = false := by decide) (he : starEach (e :: es) ce = (false, eval e ce) :: starEach es ce := by rfl) (hpl : (backTo pos (starEach es ce)).any (·.1) = false := by rfl) :
    PE (X.blk s0 H0 scope ce fp) (.Call (.Name x p) (e :: es) [] pos) (lfp X.K T (fun σ => L2.wipe σ own = L2.wipe σ0 own) (dCallG Kn gsp A)) := by
  obtain ⟨fa, hm, hk, run⟩ := G.ex
  refine ⟨fun pins' s σ H Q I ⟨hw, Z, τ, S, R, sl, ok, h, kk⟩ => ?_⟩
  refine wpAny_Call_Name_kw (ld_glob I hg hm ?_ hdb)
  refine PySem.W.callWith_K (h₀ := X.base) I.ok.mod.kin hk (thn (ha.run pos pins' s σ H (fun vs H1 => ∃ ds S1, Ext H S H1 S1 ∧ Reps X.K Z H1 S1 vs ds ∧ StOk X.K T Z H1 S1 ∧ (match ds with
    | .fn F [] [] :: rest => ∃ js b dws, Kn F js b ∧ js.map (fun j => τ[j]?) = dws.map (fun d => some (some d)) ∧ gsp (b dws) rest S1 R
    | _ => False)) I ⟨Z, τ, S, _, sl, ok, h, fun vs H1 ds S1 x1 r1 ok1 q => ⟨ds, S1, x1, r1, ok1, q⟩⟩) fun us s1 ⟨vs, H1, I1, r, ds, S1, x1, rr, ok1, q⟩ => ⟨I1.kIn, ?_⟩) he hpl
  split at q
  · rename_i F rest
    obtain ⟨js, b, dws, kn, e1, g⟩ := q
    obtain ⟨nj, fr, cp, L⟩ := hK F js b kn
    have cp := cp I0.ok
    have C0 := cells_of I0 cp
    have es' : js.map (slotAt σ0) = js.map (slotAt σ) := List.map_congr_left fun i hi => by
      unfold NdefX.slotAt
      rw [← wipe_at (σ := σ0) (nj i hi), ← wipe_at (σ := σ) (nj i hi), hw]
    rw [es'] at C0
    refine callG_run (Y := X.blk s0 H0 scope ce fp) run I1 hr L (C0.later (X := X.blk s0 H0 scope ce fp) (fun y c e => cell_nf I0 hfn (cp.sub y c e)) (fun y c e z => ?_) I1) (fun y c e => cell_nf I0 hfn (cp.sub y c e)) r rr (sl.ext x1) ok1 e1 g fun v H' d S' x => kk v H' d S' (x1.trans x)
    exact (hfp c z).1.2.2.2.2.1 y c (cp.sub y c e) rfl
  · exact q.elim
/-- [.. for x in e if ..], the condition in such words -/
theorem x_lcG {elt tgt iter : Expr} {cond : Expr} {scope : Scope} {own : List (Str × Nat)} {I : DI} {tg : Tg} {C : DT} {B : DE} (hc : X.calm = true) (hN : X.N.Nodup) (hi : XI X T tg tgt iter I) (ok : BlkOk X.N X.env.scope scope own) (hg : Blk X scope fun Y => PG Y tgt (tg.g Y.K))
    (ht : ∀ (pins : List (Addr × Obj)) (σ : L2.St) (s : Shared) (H : Hp) (C' : Addr) (cl : List (Str × Addr)) (fp : List Addr), Inv X pins σ H s → (∀ b ∈ fp, FpOk X pins H b ∧ b < s.heap.objs.size) → C' = s.heap.objs.size → PT (X.blk s H scope (compEnvC scope cl C' X.env) fp) cond (lfTp X.K T (fun σ2 => L2.wipe σ2 (own.map (·.2)) = L2.wipe σ (own.map (·.2))) C))
    (he : Blk X scope fun Y => XE Y T elt B) (hws : ∀ i ∈ tg.sl, i ∈ own.map (·.2)) (hs : ∀ x, foldedSetIterable iter X.env x = pure x := by intro _; rfl) : XE X T (.ListComp elt [⟨tgt, iter, [cond], 0⟩] scope pos) (dLc I tg C B (own.map (·.2))) :=
  (pe_lcW (g := tg.g X.K) (tt := lfT X.K T C) (te := lf X.K T B) hc hN hi ok hg (fun pins σ s H C' cl fp I0 hf hC => pts_one (ht pins σ s H C' cl fp I0 hf hC)) he hs).imp fun σ H Q ⟨Z, τ, S, R, sl, ok, h, k⟩ => lf_comp hws sl ok h fun p H1 vs ds S1 x1 e1 n1 nz _ r1 ok1 g => k _ H1 _ S1 x1 (.lst e1 n1 nz (r1.zs fun z h => List.mem_cons_of_mem _ h)) (ok1.zs fun z h => List.mem_cons_of_mem _ h) g
end
end Dl

set_option Elab.async false
set_option linter.all false
set_option maxRecDepth 100000
set_option maxHeartbeats 2000000
/-! ### within an except suite: walks over lists, comprehensions -/
namespace Dl
open PySem PySem.Spec PyProof.Rows L2 LamX L2H
/-- a list's walk ends, while an exception x is handled -/
theorem endH {prog : Program} {w : World} {A : Around} {E : Value → Shared → Prop} {s : Shared} {r l x : Addr} {i : Nat} {xs : Array Value} {G : Option Value → Shared → Prop} (hot : HotX.HotAt A x s.heap) (xr : x ≠ r)
    (at_ : s.heap.IsListIter r l i) (of : s.heap.IsList l xs) (over : xs[i]? = none) (k : ∀ h', Heap.ExtBut r s.heap h' → G none { s with heap := h' }) : wpAny (model prog w) A (pyNext (.ref r)) G E s := by
  have ty := at_.typeIs
  obtain ⟨ob, gb, _, fb⟩ := at_
  obtain ⟨ol, gl, _, m, fl⟩ := of
  obtain ⟨hh, ox, vx, gx, fx, cx⟩ := hot
  have gx2 : (s.heap.update r (Obj.mapFields fun z => z.setIfInBounds 0 Value.none)).get? x = some ox := (Heap.get?_update_other _ _ xr.symm).trans gx
  -- behind the walk: a new object of class StopIteration, its context x
  have tail : ∀ (S2 : Shared), S2 = { s with heap := s.heap.update r (Obj.mapFields fun z => z.setIfInBounds 0 Value.none) } → wpAny (model prog w) A.in1 (do let e ← newExc (.type "StopIteration") []; raiseNew e : Sem Fin) (fun fin s' => ∃ v, fin = Fin.done (Flow.ret v) ∧ wpAny (model prog w) A (pure (some v)) G E s')
      (fun e s' => wpAny (model prog w) A (do if ← isInstance e (.type "StopIteration") then pure none else throw e) G E s') S2 := by
    rintro S2 rfl
    simp only [newExc, newTuple]
    refine wpAny_bind (wpAny_bind (wpAny_newObj_type (wpAny_bind (m := firstArgMember _ _) (wpAny_of_eq (a := Value.none) (by first | rfl | (simp only [firstArgMember]; rfl)) (wpAny_newObj_type ?_ (by size_fits)))) (by size_fits)))
    refine HotX.raiseNew_hot ⟨hh, ox, vx, Heap.get?_push_of_some _ (Heap.get?_push_of_some _ gx2), fx, cx⟩ (Nat.ne_of_lt (Heap.lt_size (Heap.get?_push_of_some _ gx2))) (Heap.get?_push_size _ rfl) rfl (by first | (simp; done) | (simp; omega)) ?_
    refine wpAny_bind (wpAny_isInstance (T := "StopIteration") (b := true) ⟨_, Heap.get?_update_self _ (Heap.get?_push_size _ rfl) rfl, rfl⟩ isSubtype_stop (wpAny_pure (k _ fun b o hb e => ?_)))
    have q := ((Heap.SameBut.update (f := Obj.mapFields fun z => z.setIfInBounds 0 Value.none) ..).extBut.push { cls := .type "tuple", data := .seq #[] }) b o hb e
    exact (Heap.get?_update_other _ _ (Nat.ne_of_gt (Heap.lt_size q))).trans (Heap.get?_push_of_some _ q)
  unfold pyNext
  refine wpAny_bind (wpAny_attempt (wpAny_callSpecial?_slot ty slot_listiter_next (wpAny_call_entry slot_listiter_next ty entry_listiter_next ?_ (args_listiter_next _)) (name := "__next__")))
  refine wpAny_bind (m := field (.ref r) 0) (wpAny_field gb fb (x := .ref l) rfl ?_)
  show wpAny _ _ (if (Value.ref l == Value.none) = true then _ else _) _ _ s
  rw [if_neg (by exact Bool.false_ne_true)]
  refine wpAny_bind (m := field (.ref r) 1) (wpAny_field gb fb (x := .int i 0) rfl (wpAny_bind (m := seqItems? (.ref l)) (wpAny_seqItems gl fl ?_)))
  simp only [Int.toNat_natCast, over]
  exact wpAny_bind (wpAny_rule (wpAny_bind (wpAny_setField gb fb (by simp) (tail _ rfl))))
/-- a list, turn by turn -/
theorem listH {P : Program} {w : World} {K : PySem.W.Frag} {tg : Expr} (l r : Addr) : TurnH P w K tg (Itl K l) [r] r (fun i h => h.IsListIter r l i) := by
  have T0 := turn_list (P := P) (w := w) (K := K) (tg := tg) l r
  refine { mem := T0.mem, obj := T0.obj, keep := T0.keep, self := T0.self, item := ?_, done := ?_ }
  · rintro X rfl rfl rfl hot i pins s σ H E I free at_ ⟨vs, v, sq, hv⟩
    obtain ⟨us, rel, isl, _⟩ := I.list sq
    obtain ⟨u, hu, rv⟩ := rel.get hv
    obtain ⟨g0, g1, g2, g3, g4, g5⟩ := free r List.mem_cons_self
    exact wpAny_pyNext_list_item at_ isl.isList (x := u) (by simpa using hu) fun h2 at2 same => by
      have J : Inv X pins σ H { s with heap := h2 } := I.turned (t' := s.toks) (fun b o nb e => (same.2 b nb).trans e) g0 g1 g3 g4 g5
      obtain ⟨ob, gb, cb, db⟩ := id at2
      refine ⟨u, rfl, go_of (s := { s with heap := h2 }) gb cb db (by decide) ⟨v, H, J, rv, ⟨rfl, fun ys sy => ?_⟩, at2, fun b mb => (free b mb).1⟩⟩
      rw [I.list_inj sy sq]
      exact hv
  · rintro X rfl rfl rfl ⟨q, ⟨hh, vq, dq, cq⟩, mq⟩ i pins s σ H E I free at_ ⟨vs, sq, over⟩
    obtain ⟨us, rel, isl, _⟩ := I.list sq
    obtain ⟨g0, g1, g2, g3, g4, g5⟩ := free r List.mem_cons_self
    have mq2 : q ∈ X.pn ++ pins := List.mem_append_left _ mq
    have ul := rel.length
    exact endH ⟨hh, q.2, vq, (I.pin q mq2).1, dq, cq⟩ (g5 q mq2) at_ isl.isList (by simp; omega) fun h2 ext => ⟨rfl, I.turned (t' := s.toks) (fun b o nb e => ext b o nb e) g0 g1 g3 g4 g5⟩
theorem walkH {X : Cx} {tgt : Expr} {pins : List (Addr × Obj)} {σ : L2.St} {H : Hp} {s : Shared} {l : Addr} {vs : List V} {R : It → Hp → Prop} (I : Inv X pins σ H s) (sq : SqL X.K H l vs) (k : R (Itl X.K l) H) : wpAny (model X.prog X.w) X.A (pyIter (.ref l)) (PIEH X pins σ tgt R) X.xe s := by
  obtain ⟨us, rel, isl, _⟩ := I.list sq
  have none_ : H s.heap.objs.size = none := I.hok.fresh (Nat.le_refl _)
  exact wpAny_pyIter_list isl.isList ⟨_, [s.heap.objs.size], _, _, H, rfl, I.kept (t' := s.toks) fun b o e => Heap.get?_push_of_some _ e, listH l _, ⟨_, Heap.get?_push_size _ rfl, rfl, rfl⟩, fun b mb => by rw [List.mem_singleton.mp mb]; exact I.fpOk (Nat.le_refl _) none_, k⟩
/-! ### the block of a comprehension, what is handled kept in sight -/
abbrev blkH (X : Cx) (s : Shared) (H : Hp) (scope : Scope) (ce : Env) (fp : List Addr) : Cx := { X.blk s H scope ce fp with pn := X.pn }
theorem startH {X : Cx} {pins : List (Addr × Obj)} {σ : L2.St} {H : Hp} {s : Shared} {scope : Scope} {own : List (Str × Nat)} {fp : List Addr} (I : Inv X pins σ H s) (ok : BlkOk X.N X.env.scope scope own) (nd : X.N.Nodup) (free : ∀ b ∈ fp, FpOk X pins H b ∧ b < s.heap.objs.size) :
    Inv (blkH X s H scope (compEnvC scope (cellsFrom (s.heap.objs.size + 1) scope.names (cloFrom X.env.cells scope.names [])) s.heap.objs.size X.env) fp) [] (L2.wipe σ (own.map (·.2))) H { s with heap := pushCells (s.heap.push { cls := .type "dict", data := .dict #[] }) scope.names } := by
  have J := block_start I ok nd free
  refine ⟨?_, J.os, J.bare, J.base, J.loc, J.cell, J.free, J.freeC, fun p mp => ?_, J.hok, J.len⟩
  · have o := J.ok
    exact ⟨o.mod, o.kind, o.glob, o.blt, o.above, o.inj, o.has, o.cab, o.hd, o.frames, o.stk, o.exf, o.bs, o.bsz, o.noex, o.exfs, o.funs, o.frf⟩
  · rw [List.append_nil] at mp
    obtain ⟨p1, p2, p3, p4, p5⟩ := I.pin p (List.mem_append_left _ mp)
    refine ⟨pushCells_keeps _ _ _ _ (Heap.get?_push_of_some _ p1), p2, Nat.ne_of_lt (Heap.lt_size p1), fun z => ?_, p5⟩
    rcases List.mem_cons.mp (I.stkSub _ z) with z | z
    · exact p3 z
    · exact p4 z
end Dl

set_option Elab.async false
set_option linter.all false
set_option maxRecDepth 100000
set_option maxHeartbeats 2000000
namespace Dl
open PySem PySem.Spec PyProof.Rows L2 LamX L2H
section
variable {X : Cx} {elt tg iter : Expr} {ifs : List Expr} {scope : Scope} {own : List (Str × Nat)} {pos : Pos} {wi : TI} {g : TG} {tt : TT} {te : TE}
/-- a list comprehension, while an exception is handled -/
theorem pe_lcH (hot : HotC X) (nd : X.N.Nodup) (hi : PIH X tg iter wi) (ok : BlkOk X.N X.env.scope scope own) (hg : ∀ (s : Shared) (H : Hp) (C : Addr) (cl : List (Str × Addr)) (fp : List Addr), PG (blkH X s H scope (compEnvC scope cl C X.env) fp) tg g)
    (ht : ∀ (s : Shared) (H : Hp) (C : Addr) (cl : List (Str × Addr)) (fp : List Addr), PTs (blkH X s H scope (compEnvC scope cl C X.env) fp) ifs tt) (he : ∀ (s : Shared) (H : Hp) (C : Addr) (cl : List (Str × Addr)) (fp : List Addr), PE (blkH X s H scope (compEnvC scope cl C X.env) fp) elt te)
    (hs : ∀ x, foldedSetIterable iter X.env x = pure x := by intro _; rfl) : PE X (.ListComp elt [⟨tg, iter, ifs, 0⟩] scope pos) (tLc wi g tt te (own.map (·.2))) := by
  constructor
  intro pins s σ H Q I h
  rw [eval_ListComp]
  have cells : ∀ y ∈ scope.names, y.2 = .free → ∃ c, X.env.cells.lookup y.1 = some c := fun y my e => I.ok.has _ (ok.free y my e)
  apply wpAny_comprehension_free (use := none) rfl hs (closure_ok cells) ok.kind (fun y my e => (ok.uniq y my).trans (by rw [e]))
  refine thn (hi.run pins s σ H _ I h) fun _ s1 h1 => thn h1 fun _ s2 ⟨it, fp, tn, J, H2, e, I2, T, at0, free2, q⟩ => ?_
  subst e
  refine wpAny_newObj_type (newEnv_comp ?_) (Nat.zero_le _)
  -- the new list, at L
  obtain ⟨L, hL⟩ : ∃ L, L = s2.heap.objs.size := ⟨_, rfl⟩
  obtain ⟨W, ⟨m0, w0⟩, turn⟩ := q L (I2.hok.fresh (Nat.le_of_eq hL.symm))
  have I3 : Inv X pins σ (upd H2 L (.lst [])) { s2 with heap := s2.heap.push { cls := .type "list", data := .seq ([] : List Value).toArray } } :=
    I2.laid (t' := s2.toks) (fun b o e => Heap.get?_push_of_some _ e) (Nat.le_of_eq hL.symm) ⟨Nat.zero_le _, [], 0, .nil, by rw [hL]; exact Heap.get?_push_size _ rfl⟩
  have old : ∀ b ∈ fp, b < s2.heap.objs.size := fun b mb => by obtain ⟨o, e, _⟩ := T.obj _ _ at0 b mb; exact Heap.lt_size e
  have at3 := T.keep _ _ (s2.heap.push { cls := .type "list", data := .seq ([] : List Value).toArray }) at0 fun b _ o e => Heap.get?_push_of_some _ e
  have free3 : ∀ b ∈ fp, FpOk X pins (upd H2 L (.lst [])) b ∧ b < (s2.heap.push { cls := .type "list", data := .seq ([] : List Value).toArray }).objs.size := fun b mb =>
    ⟨⟨by rw [upd_ne (by rw [hL]; exact Nat.ne_of_lt (old b mb))]; exact (free2 b mb).1, (free2 b mb).2⟩, by rw [Heap.size_push]; exact Nat.lt_succ_of_lt (old b mb)⟩
  generalize hs3 : ({ s2 with heap := s2.heap.push { cls := .type "list", data := .seq ([] : List Value).toArray } } : Shared) = s3 at I3
  have heap3 : s3.heap = s2.heap.push { cls := .type "list", data := .seq ([] : List Value).toArray } := by rw [← hs3]
  rw [← heap3] at at3 free3
  have I4 := startH I3 ok nd free3
  have bg := hg s3 (upd H2 L (.lst [])) s3.heap.objs.size (cellsFrom (s3.heap.objs.size + 1) scope.names (cloFrom X.env.cells scope.names [])) fp
  have bt := ht s3 (upd H2 L (.lst [])) s3.heap.objs.size (cellsFrom (s3.heap.objs.size + 1) scope.names (cloFrom X.env.cells scope.names [])) fp
  have be := he s3 (upd H2 L (.lst [])) s3.heap.objs.size (cellsFrom (s3.heap.objs.size + 1) scope.names (cloFrom X.env.cells scope.names [])) fp
  rw [← hL]
  have at4 := T.keep _ _ (pushCells (s3.heap.push { cls := .type "dict", data := .dict #[] }) scope.names) at3 fun b _ o e => pushCells_keeps _ _ _ _ (Heap.get?_push_of_some _ e)
  show codeAny _ _ (.compStart _ 0 (.ref it) (.ref L) (compEnvC scope (cellsFrom (s3.heap.objs.size + 1) scope.names (cloFrom X.env.cells scope.names [])) s3.heap.objs.size X.env)) (compPost (model X.prog X.w) X.A X.xe none _ (.ref L) s3.heap.objs.size) { s3 with heap := pushCells (s3.heap.push { cls := .type "dict", data := .dict #[] }) scope.names }
  generalize hce : compEnvC scope (cellsFrom (s3.heap.objs.size + 1) scope.names (cloFrom X.env.cells scope.names [])) s3.heap.objs.size X.env = ce at I4 bg bt be ⊢
  have hloc : ce.locals = s3.heap.objs.size := by rw [← hce]; rfl
  generalize hH3 : upd H2 L (.lst []) = H3 at I3 I4 bg bt be w0 free3
  generalize hs4 : ({ s3 with heap := pushCells (s3.heap.push { cls := .type "dict", data := .dict #[] }) scope.names } : Shared) = s4 at I4 ⊢
  have at4' : tn 0 s4.heap := by rw [← hs4]; exact at4
  have ours : ∀ {σ' : L2.St} {H' : Hp} {s' : Shared}, Inv (blkH X s3 H3 scope ce fp) [] σ' H' s' → (∀ b ∈ fp, H' b = none) → ∀ b ∈ fp, FpOk (blkH X s3 H3 scope ce fp) [] H' b := fun {_ _ _} J hn b mb =>
    ⟨hn b mb, (J.ok.exf b mb).1, J.ok.exfs b mb, .inl mb, fun x c e => (J.ok.exf b mb).2 x c e, fun p mp => (free3 b mb).1.2.2.2.2.2 p (List.mem_append_left _ (by rwa [List.append_nil] at mp))⟩
  have loop : codeAny (model X.prog X.w) X.A (.compLoop (.ListComp elt [⟨tg, iter, ifs, 0⟩] scope pos) 0 (.ref it) (.ref L) ce) (compPost (model X.prog X.w) X.A X.xe none (fun v s' => ∃ y H', Inv X pins σ H' s' ∧ RelV y v ∧ Q y H') (.ref L) s3.heap.objs.size) s4 := by
    apply compLoop_any (fun n s' => ∃ i H', Inv (blkH X s3 H3 scope ce fp) [] (L2.wipe σ (own.map (·.2))) H' s' ∧ tn i s'.heap ∧ (∀ b ∈ fp, H' b = none) ∧ W i n H') (n := m0) (h := ⟨0, H3, I4, at4', fun b mb => (free3 b mb).1.1, w0⟩)
    rintro n s5 ⟨i, H5, I5, at5, no5, w5⟩
    rcases turn i n H5 w5 with ⟨stop, fin⟩ | ⟨go, Nx, less, step⟩
    · refine thnF (T.done (blkH X s3 H3 scope ce fp) rfl rfl rfl hot i [] s5 _ H5 (fun _ _ => False) I5 (ours I5 no5) at5 stop) ?_
      rintro r s6 ⟨rfl, I6⟩
      -- the def's own context again
      have I7 : Inv X pins σ H5 s6 := I3.call' (ch := fp) I6.os I6.base I6.hok I6.bare fun b mb => let f := (free3 b mb).1; ⟨f.2.2.2.1, f.2.1, f.2.2.2.2.1, f.2.2.2.2.2⟩
      obtain ⟨m, ns, _⟩ := I6.loc
      have noC : H5 s3.heap.objs.size = none := by rw [← hloc]; exact I6.free
      have ns2 : s6.heap.Ns s3.heap.objs.size m := by rw [← hloc]; exact ns
      obtain ⟨c0, c1, c2, c3, c4, c5⟩ := I3.fpOk (Nat.le_refl _) noC
      exact ⟨m, ns2, fun h2 same => ⟨.ref L, H5, I7.turned (t' := s6.toks) (fun b o nb e => (same.2 b nb).trans e) c0 c1 c3 c4 c5, rfl, fin⟩⟩
    · refine thnF (T.item (blkH X s3 H3 scope ce fp) rfl rfl rfl hot i [] s5 _ H5 (fun _ _ => False) I5 (ours I5 no5) at5 go) ?_
      rintro r s6 ⟨u, rfl, h6⟩
      refine thnF h6 ?_
      rintro _ s7 ⟨x, H7, I7, r7, y7, at7, no7⟩
      refine thnF (bg.run _ s7 _ H7 x u _ (I7.pinned (ours I7 no7) (T.obj _ _ at7)) r7 (step x H7 y7)) ?_
      rintro _ s8 ⟨σ8, H8, I8, hw, q8⟩
      refine thnF (bt.run _ s8 σ8 H8 _ I8 q8) ?_
      rintro b s9 ⟨H9, I9, q9⟩
      have on : ∀ {s' : Shared} {H' : Hp}, Inv (blkH X s3 H3 scope ce fp) ([] ++ pinsAt fp s7.heap) σ8 H' s' → Nx H' → ∃ m, m < n ∧ ∃ i H', Inv (blkH X s3 H3 scope ce fp) [] (L2.wipe σ (own.map (·.2))) H' s' ∧ tn i s'.heap ∧ (∀ b ∈ fp, H' b = none) ∧ W i m H' := fun {s' H'} J nx => by
        obtain ⟨m', lt, w'⟩ := less H' nx
        have held := fun b (mb : b ∈ fp) o (e : s7.heap.get? b = some o) => J.pin (b, o) (List.mem_append_right _ (List.mem_append_right _ (mem_pinsAt mb e)))
        refine ⟨m', lt, i + 1, H', (J.unpinned (pins := [])).weak (by rw [← hw, wipe_length]) (fun j v e => (wipe_some (by rw [hw]; exact e)).1), T.keep _ _ _ at7 fun b mb o e => (held b mb o e).1, fun b mb => ?_, w'⟩
        obtain ⟨o, e, _⟩ := T.obj _ _ at7 b mb
        exact (held b mb o e).2.1
      cases b with
      | false => exact on I9 q9
      | true =>
        refine thnF (be.run _ s9 σ8 H9 _ I9 q9) ?_
        rintro z s10 ⟨yv, H10, I10, r10, acc, e10, z10, nx⟩
        exact app_ok (X := blkH X s3 H3 scope ce fp) I10 e10 z10 r10 fun s11 I11 => on I11 nx
  exact codeAny_compStart_list loop (T.self X.A 0 _ _ _ at4' loop)
end
end Dl

set_option Elab.async false
set_option linter.all false
set_option maxRecDepth 100000
set_option maxHeartbeats 2000000
namespace Dl
open PySem PySem.Spec PyProof.Rows L2 LamX L2H
/-! ### comprehensions of an except suite, for data -/
def itemsLI (A : DE) : DI := fun τ S Q => A τ S fun d S1 => match d with
  | .lst ds => Q ds S1
  | _ => False
theorem i_listH {X : Cx} {T : Tb} {e : Expr} {tg : Tg} {tgt : Expr} {A : DE} (h : XE X T e A) : PIH X tgt e (lfI X.K T tg (itemsLI A)) := by
  refine ⟨fun pins s σ H R I ⟨Z, τ, S, G, sl, ok, h1, k⟩ => ?_⟩
  refine thn (h.go I sl ok h1) fun u s1 ⟨v, H1, d, S1, I1, rv, x1, rd, ok1, q⟩ => ?_
  cases d with
  | lst ds =>
    cases rd with
    | lst ht hn hz rr =>
      cases rv
      exact walkH I1 (SqL.of ht) (k _ H1 ds S1 x1 ok1 (wk_list (fun H' S' x => SqL.of (x.eq _ _ hn ht fun ps z => (by cases z))) rr) q)
  | _ => exact q.elim
abbrev BlkH (X : Cx) (scope : Scope) (P : Cx → Prop) : Prop := ∀ (s : Shared) (H : Hp) (C : Addr) (cl : List (Str × Addr)) (fp : List Addr), P (blkH X s H scope (compEnvC scope cl C X.env) fp)
theorem x_lcH {X : Cx} {T : Tb} {pos : Pos} {elt tgt iter : Expr} {ifs : List Expr} {scope : Scope} {own : List (Str × Nat)} {I : DI} {tg : Tg} {C : DT} {A : DE} (hot : HotC X) (hN : X.N.Nodup) (hi : PIH X tgt iter (lfI X.K T tg I)) (ok : BlkOk X.N X.env.scope scope own)
    (hg : BlkH X scope fun Y => PG Y tgt (tg.g Y.K)) (ht : BlkH X scope fun Y => XTs Y T ifs C) (he : BlkH X scope fun Y => XE Y T elt A) (hws : ∀ i ∈ tg.sl, i ∈ own.map (·.2)) (hs : ∀ x, foldedSetIterable iter X.env x = pure x := by intro _; rfl) :
    XE X T (.ListComp elt [⟨tgt, iter, ifs, 0⟩] scope pos) (dLc I tg C A (own.map (·.2))) :=
  (pe_lcH (g := tg.g X.K) (tt := lfT X.K T C) (te := lf X.K T A) hot hN hi ok hg ht he hs).imp fun σ H Q ⟨Z, τ, S, R, sl, ok, h, k⟩ => lf_comp hws sl ok h fun p H1 vs ds S1 x1 e1 n1 nz _ r1 ok1 g => k _ H1 _ S1 x1 (.lst e1 n1 nz (r1.zs fun z h => List.mem_cons_of_mem _ h)) (ok1.zs fun z h => List.mem_cons_of_mem _ h) g
end Dl

set_option Elab.async false
set_option linter.all false
set_option maxRecDepth 100000
set_option maxHeartbeats 2000000
namespace Dl
open PySem PySem.Spec PyProof.Rows L2 LamX L2H
section
variable {P : Program} {w : World} {K : PySem.W.Frag} {mg : Str → Option Value} {base : Heap} {T : Tb}
/-- a def that may be called while an exception is handled -/
structure DFnH (P : Program) (w : World) (K : PySem.W.Frag) (mg : Str → Option Value) (base : Heap) (T : Tb) (k : Nat) (x : Str) (dsp : DSp) : Prop where
  ex : ∃ (fa : Addr) (fd : FuncData) (ps : List Str), mg x = some (.ref fa) ∧ PySem.W.keepIn K (.ref fa) = true ∧ Binds K fd ps [] ∧ FnH P w K mg base CX0 k fa fd ps (lsp K T dsp)
theorem fn_dH {x qual : Str} {st : Stmt} {fa : Addr} {fd : FuncData} {N ps : List Str} {k : Nat} {dsp : DSp} (F : Fun K x qual st fa fd) (S : FnScope N ps (defScope st)) (len : ∀ ds S Q, dsp ds S Q → ds.length = ps.length)
    (hbody : ∀ (cdv : Value) (A : Around) (outer : List Env) (s : Shared) (H : Hp) (E : XK) (p : Addr × Obj), Hot1 A p → RoomH k (A.deeper (envOfC qual (defScope st) s.heap.objs.size fa cdv)) →
      ∃ Θ : DS, XSs (cxH CX0 P w K mg base N qual (defScope st) fa cdv A outer s H E p).nox T (defBody st) Θ ∧ ∀ ds S R, dsp ds S R → Θ (ends R) (startD N ds) S) : FnH P w K mg base CX0 (k + 1) fa fd ps (lsp K T dsp) := by
  obtain ⟨oc, od, kV, doc, pm, an, cdv, ct, osl, rfl, lk, hcd⟩ := F.ex
  refine fn_ofH lk hcd S (fun vs H Q E ⟨Z, ds, S, R, r, ok, h, _⟩ => by rw [r.length]; exact len ds S R h) fun A outer s H vs Q E p hp hr ⟨Z, ds, S0, R, r, ok, h, kk⟩ => ?_
  obtain ⟨Θ, h1, h2⟩ := hbody cdv A outer s H E p hp hr
  exact ⟨_, h1.nox, Z, startD N ds, S0, ends R, slots_start r, ok, h2 ds S0 R h, eok_ends kk⟩
end
section
variable {X : Cx} {T : Tb} {e : Expr} {es : List Expr} {p pos : Pos} {x : Str} {k : Nat} {dsp : DSp}
theorem x_callH {A : DA} (F : DFnH X.prog X.w X.K X.mg X.base T k x dsp) (hr : RoomH k X.A) (hot : HotC X) (hg : Gl X x) (ha : XA X T (e :: es) A) (hdb : (x == ("__debug__" : Str)) = false := by decide) (he : starEach (e :: es) X.env = (false, eval e X.env) :: starEach es X.env := by rfl)
    (hpl : (backTo pos (starEach es X.env)).any (·.1) = false := by rfl) : XE X T (.Call (.Name x p) (e :: es) [] pos) (dCall dsp A) := by
  obtain ⟨fa, fd, ps, hm, hk, hb, F⟩ := F.ex
  refine (pe_callH (E := fun _ => E0) F hr hot hg hm hk hb (fun σ _ _ _ _ _ _ z => z.elim) ha hdb he hpl).imp fun σ H Q h => ?_
  obtain ⟨Z, τ, S, G, sl, ok, h, kk⟩ := h
  refine ⟨Z, τ, S, _, sl, ok, h, fun vs H1 ds S1 x1 r1 ok1 h1 => ?_⟩
  exact ⟨Z, ds, S1, G, r1, ok1, h1, fun v H' d S' x => kk v H' d S' (x1.trans x)⟩
end
end Dl

set_option Elab.async false
set_option linter.all false
set_option maxRecDepth 100000
namespace Dl
open PySem PySem.Spec PyProof.Rows L2 LamX
/-- what the module's errors are: RN those that are raised, CS those that are asked for -/
structure ErrF (K : PySem.W.Frag) (mg : MGm) (RN CS : List Str) (SC : Addr) : Prop where
  s : mg "SplitError" = some (.ref SC)
  f : ∀ nm ∈ RN, ∃ C, Erz K mg nm C ∧ PySem.W.exmOne K (.ref C) (.ref SC) = some (subE nm "SplitError") ∧ (∀ c ∈ CS, ∃ Cc, mg c = some (.ref Cc) ∧ PySem.W.kitOne K (.ref C) (.ref Cc) = some (subE nm c)) ∧ PySem.W.kitOne K (.ref C) (.type "ValueError") = some true ∧
    ∀ f, fieldOf nm = f → PySem.W.findIn K (.ref C) f = some none ∨ nm ∉ (["BadHistory", "BadText"] : List Str)
section
variable {X : Cx} {T : Tb} {RN CS : List Str} {SC : Addr}
theorem ErrF.exm {K : PySem.W.Frag} {mg : MGm} (E : ErrF K mg RN CS SC) : ∀ nm C, nm ∈ RN → mg nm = some (.ref C) → PySem.W.exmOne K (.ref C) (.ref SC) = some (subE nm "SplitError") := fun nm C h g => by
  obtain ⟨C', z, e, _⟩ := E.f nm h
  have q := z.g
  rw [g] at q
  cases q
  exact e
theorem x_isiF {a C : Addr} {oe : Obj} {d : Option Addr} {nm c n : Str} {i : Nat} {pn : List (Addr × Obj)} {p p1 p2 : Pos} (E : ErrF X.K X.mg RN CS SC) (hm : nm ∈ RN) (g : X.mg nm = some (.ref C)) (hz : L2N.Zn (.ref C) d oe) (hf : ∃ vs, oe.data = .fields vs) (hc : c ∈ CS)
    (hg : Gl X "isinstance") (hi : X.mg "isinstance" = none) (hgc : Gl X c) (hv : PE (X.suite a ((a, oe) :: pn)) (.Name n p1) (tVar i)) (hd : (c == ("__debug__" : Str)) = false := by decide) (he : starEach [Expr.Name n p1, .Name c p2] X.env = (false, eval (.Name n p1) X.env) :: starEach [Expr.Name c p2] X.env := by rfl)
    (he2 : starEach [Expr.Name c p2] X.env = (false, eval (.Name c p2) X.env) :: starEach [] X.env := by rfl) (hpl : (backTo pos (starEach [Expr.Name c p2] X.env)).any (·.1) = false := by rfl) :
    XE (X.suite a ((a, oe) :: pn)) T (.Call (.Name "isinstance" p) [.Name n p1, .Name c p2] [] pos) (dIsiE a d nm i c) := by
  obtain ⟨C', z, _, k, _⟩ := E.f nm hm
  have q := z.g
  rw [g] at q
  cases q
  obtain ⟨Cc, g2, e⟩ := k c hc
  exact x_isiE z hz hf (.own Cc) e hg hi hv (pe_glob (X := X.suite a ((a, oe) :: pn)) hgc g2 rfl hd) he he2 hpl
theorem x_isiVE {a C : Addr} {oe : Obj} {d : Option Addr} {nm n : Str} {i : Nat} {pn : List (Addr × Obj)} {p p1 p2 : Pos} (E : ErrF X.K X.mg RN CS SC) (hm : nm ∈ RN) (g : X.mg nm = some (.ref C)) (hz : L2N.Zn (.ref C) d oe) (hf : ∃ vs, oe.data = .fields vs)
    (hg : Gl X "isinstance") (hi : X.mg "isinstance" = none) (hgc : Gl X "ValueError") (hv2 : X.mg "ValueError" = none) (hv : PE (X.suite a ((a, oe) :: pn)) (.Name n p1) (tVar i)) (he : starEach [Expr.Name n p1, .Name "ValueError" p2] X.env = (false, eval (.Name n p1) X.env) :: starEach [Expr.Name "ValueError" p2] X.env := by rfl)
    (he2 : starEach [Expr.Name "ValueError" p2] X.env = (false, eval (.Name "ValueError" p2) X.env) :: starEach [] X.env := by rfl) (hpl : (backTo pos (starEach [Expr.Name "ValueError" p2] X.env)).any (·.1) = false := by rfl) :
    XE (X.suite a ((a, oe) :: pn)) T (.Call (.Name "isinstance" p) [.Name n p1, .Name "ValueError" p2] [] pos) (dIsiE a d nm i "ValueError") := by
  obtain ⟨C', z, _, _, k, _⟩ := E.f nm hm
  have q := z.g
  rw [g] at q
  cases q
  exact x_isiE z hz hf (.ty "ValueError") (by rw [k]; unfold subE; rw [Bool.or_comm]; rfl) hg hi hv (pe_bltn (X := X.suite a ((a, oe) :: pn)) hgc hv2 PyProof.Rows.Boot.«ValueError» rfl) he he2 hpl
theorem x_exFF {a C : Addr} {oe : Obj} {d : Option Addr} {nm n f : Str} {i : Nat} {pn : List (Addr × Obj)} {p1 pos : Pos} (E : ErrF X.K X.mg RN CS SC) (hm : nm ∈ RN) (g : X.mg nm = some (.ref C)) (hz : L2N.Zn (.ref C) d oe) (hf : ∃ vs, oe.data = .fields vs) (hv : PE (X.suite a ((a, oe) :: pn)) (.Name n p1) (tVar i))
    (hb : attributeBase (.Name n p1) f X.env (eval (.Name n p1) X.env) = eval (.Name n p1) X.env := by rfl) : XE (X.suite a ((a, oe) :: pn)) T (.Attribute (.Name n p1) f pos) (fun τ S Q => nm ∈ (["BadHistory", "BadText"] : List Str) ∧ dExF a d nm i f τ S Q) := by
  obtain ⟨C', z, _, _, _, k⟩ := E.f nm hm
  have q := z.g
  rw [g] at q
  cases q
  by_cases h : nm ∈ (["BadHistory", "BadText"] : List Str)
  · exact (x_exF z (fun e => (k f e).resolve_right fun y => y h) hz hf hv hb).imp fun σ H Q ⟨Z, τ, S, R, sl, ok, q, k⟩ => ⟨Z, τ, S, R, sl, ok, q.2, k⟩
  · exact ⟨fun pins s σ H Q I ⟨Z, τ, S, R, sl, ok, q, k⟩ => absurd q.1 h⟩
end
end Dl

set_option Elab.async false
set_option linter.all false
set_option maxRecDepth 100000
namespace Dl
open PySem PySem.Spec PyProof.Rows L2 LamX
section
variable {X : Cx} {K : PySem.W.Frag} {T : Tb} {e o : Expr} {es : List Expr} {pos apos cpos : Pos}
/-! ### texts -/
/-- str of an int -/
def rStrID : DRL := fun ds S Q => match ds with
  | [.int i] => i.natAbs.log2 < 1920 ∧ Q (.str (toString i)) S
  | _ => False
theorem d_strI : CallD K T (fun xs H Q => ∃ i, xs = [.int i] ∧ i.natAbs.log2 < 1920 ∧ Q (.str (toString i)) H) rStrID := by
  intro Z H S vs ds Qd Q ok rs h k
  unfold rStrID at h
  split at h
  · cases rs with
    | cons r t =>
      cases t
      cases r
      exact ⟨_, rfl, h.1, k _ H _ S (.refl _ _) (.str _) ok h.2⟩
  · exact h.elim
/-- a method of a text, with arguments -/
def dMS (R : DRM) (A : DE) (B : DA) : DE := fun τ S Q => A τ S fun x S1 => (match x with | .str _ => True | _ => False) ∧ B τ S1 fun ds S2 => R x ds S2 Q
theorem x_ms {name : Str} {id : String} {r : V → List V → Hp → VK → Prop} {R : DRM} {A : DE} {B : DA} (slot : Slot "str" name id) (hty : typeOf (.builtin id) = pure (.type "method_descriptor")) (hm : MtR X id r) (hr : MtD X.K T r R) (ho : XE X T o A) (ha : XA X T (e :: es) B)
    (hbase : attributeBase o name X.env (eval o X.env) = eval o X.env := by rfl)
    (hfew : ((backTo cpos (starEach (e :: es) X.env)).all (fun x => !x.1) && (backToKw cpos (keywordEach [] X.env)).all (fun x => x.1.isSome)
      && decide ((e :: es).length + ([] : List Keyword).length + (if ([] : List Keyword).isEmpty then 0 else 1) < 30)) = true := by rfl)
    (hline : (apos.endLine == cpos.line) = true := by rfl) (hs : starEach (e :: es) X.env = (false, eval e X.env) :: starEach es X.env := by rfl) (hplain : (backTo cpos (starEach es X.env)).any (·.1) = false := by rfl) :
    XE X T (.Call (.Attribute o name apos) (e :: es) [] cpos) (dMS R A B) :=
  (pe_bm PySem.F.plainAttrs_str slot hty hm ho ha hbase hfew hline hs hplain).imp fun σ H Q ⟨Z, τ, S, G, sl, ok, h, k⟩ => ⟨Z, τ, S, _, sl, ok, h, fun v H1 d S1 x1 r1 ok1 ⟨ty, q⟩ => ⟨by
    cases d with
    | str z => cases r1; rfl
    | _ => exact ty.elim, Z, τ, S1, _, sl.ext x1, ok1, q, fun vs H2 ds S2 x2 r2 ok2 q2 => hr Z H2 S2 v vs d ds G Q ok2 (r1.ext x2) r2 q2 fun v H' d S' x => k v H' d S' (x1.trans (x2.trans x))⟩⟩
theorem Reps.strs {Z : List Addr} {H : Hp} {S : Store} : ∀ {vs : List V} {ys : List Str}, Reps K Z H S vs (ys.map D.str) → vs = ys.map V.str
  | [], [], _ => rfl
  | _, [], .nil => rfl
  | _, _ :: ys, .cons (.str _) t => by rw [Reps.strs t]; rfl
theorem Reps.ofStrs {Z : List Addr} {H : Hp} {S : Store} : ∀ (ys : List Str), Reps K Z H S (ys.map V.str) (ys.map D.str)
  | [] => .nil
  | y :: ys => .cons (.str y) (Reps.ofStrs ys)
/-- sep.join(list | tuple of texts) -/
def rJoinD : DRM := fun x ds S Q => match x, ds with
  | .str a, [d] => ∃ ys : List Str, items S d = some (ys.map D.str) ∧ (ys.map (·.length)).sum + ys.length * a.length ≤ 16777216 ∧ Q (.str (Txt.join a ys)) S
  | _, _ => False
theorem d_join : MtD K T (fun x xs H Q => ∃ a p, ∃ ys : List Str, x = .str a ∧ xs = [.ref p] ∧ (SqL K H p (ys.map V.str) ∨ SqT K H p (ys.map V.str)) ∧ (ys.map (·.length)).sum + ys.length * a.length ≤ 16777216 ∧ Q (.str (Txt.join a ys)) H) rJoinD := by
  intro Z H S vx vs x ds Qd Q ok rx rs h k
  unfold rJoinD at h
  split at h
  · rename_i a d
    obtain ⟨ys, e, z, q⟩ := h
    cases rx
    cases rs with
    | cons r t =>
      cases t
      obtain ⟨p, ws, ev, sq, rr⟩ := items_at ok r e
      have ew := rr.strs
      subst ew
      rw [ev]
      exact ⟨a, p, ys, rfl, rfl, sq, z, k _ H _ S (.refl _ _) (.str _) ok q⟩
  · exact h.elim
/-- a.split(b) -/
def rSplitD : DRM := fun x ds S Q => match x, ds with
  | .str a, [.str b] => (b.length == 0) = false ∧ a.length + 2 ≤ sizeLine ∧ Q (.lst ((Txt.split a b).map D.str)) S
  | _, _ => False
theorem d_split : MtD K T (fun x xs H Q => ∃ a b, x = .str a ∧ xs = [.str b] ∧ (b.length == 0) = false ∧ a.length + 2 ≤ sizeLine ∧ rNewStrs (Txt.split a b) H Q) rSplitD := by
  intro Z H S vx vs x ds Qd Q ok rx rs h k
  unfold rSplitD at h
  split at h
  · rename_i a b
    obtain ⟨e, z, q⟩ := h
    cases rx
    cases rs with
    | cons r t =>
      cases t
      cases r
      refine ⟨a, b, rfl, rfl, e, z, fun p hp => ?_⟩
      have rr := Reps.ofStrs (K := K) (Z := Z) (H := H) (S := S) (Txt.split a b)
      exact k _ _ _ S (Ext.new hp) (Rep.newLst rr hp (ok.fresh hp) (ok.nz hp)) (ok.new hp) q
  · exact h.elim
end
end Dl

set_option Elab.async false
set_option linter.all false
set_option maxRecDepth 100000
set_option maxHeartbeats 2000000
namespace Dl
open PySem PySem.Spec PyProof.Rows L2 LamX
section
variable {X : Cx} {K : PySem.W.Frag} {T : Tb} {e o f : Expr} {es : List Expr} {pos p2 p apos cpos : Pos}
/-! ### a sign in a text -/
def rInSD (neg : Bool) : DR2 := fun x y S Q => match x, y with
  | .str a, .str z => ∃ c, a = ⟨#[c]⟩ ∧ Q (.bl (if neg then !decide (c ∈ z.cps.toList) else decide (c ∈ z.cps.toList))) S
  | _, _ => False
abbrev rInSV (neg : Bool) : R2 := fun x y H Q => ∃ (c : Nat) (z : Str), x = .str ⟨#[c]⟩ ∧ y = .str z ∧ Q (.bl (if neg then !decide (c ∈ z.cps.toList) else decide (c ∈ z.cps.toList))) H
theorem op_inSign : OpR X (compareOp .In) (rInSV false) := op_in_sign
theorem op_notInSign : OpR X (compareOp .NotIn) (rInSV true) := op_notIn_sign
theorem d_inSign (neg : Bool) : Op2 K T (rInSV neg) (rInSD neg) := by
  intro Z H S vx vy x y Qd Q ok rx ry h k
  unfold rInSD at h
  split at h
  · obtain ⟨c, rfl, h⟩ := h
    cases rx
    cases ry
    exact ⟨c, _, rfl, rfl, k _ H _ S (.refl _ _) (.bl _) ok h⟩
  · exact h.elim
/-! ### texts put together, cut -/
abbrev rAddZV : R2 := fun x y H Q => ∃ i j, x = .str i ∧ y = .str j ∧ i.length + j.length ≤ sizeLine ∧ Q (.str (i ++ j)) H
def rAddZD : DR2 := fun x y S Q => match x, y with
  | .str i, .str j => i.length + j.length ≤ sizeLine ∧ Q (.str (i ++ j)) S
  | _, _ => False
theorem d_addZ : Op2 K T rAddZV rAddZD := by
  intro Z H S vx vy x y Qd Q ok rx ry h k
  unfold rAddZD at h
  split at h
  · cases rx
    cases ry
    exact ⟨_, _, rfl, rfl, h.1, k _ H _ S (.refl _ _) (.str _) ok h.2⟩
  · exact h.elim
def dSlZ (A : DE) (L U : DO) : DE := fun τ S Q => A τ S fun x S1 => L τ S1 fun lo S2 => U τ S2 fun hi S3 => match x with
  | .str z => z.length ≤ sizeLine ∧ Q (.str (cutS z lo hi)) S3
  | _ => False
theorem x_sliceZ {A : DE} {L U : DO} {lo hi : Option Expr} (ha : XE X T e A) (hl : XO X T lo L) (hu : XO X T hi U) : XE X T (.Subscript e (.Slice lo hi none p2) pos) (dSlZ A L U) := by
  refine (pe_slice sl_str ha hl hu).imp fun σ H Q ⟨Z, τ, S, R, sl, ok, h, k⟩ => ?_
  refine ⟨Z, τ, S, _, sl, ok, h, fun vx H1 x S1 x1 rx ok1 h1 => ?_⟩
  refine ⟨Z, τ, S1, _, sl.ext x1, ok1, h1, fun lo H2 S2 x2 ok2 h2 => ?_⟩
  refine ⟨Z, τ, S2, _, sl.ext (x1.trans x2), ok2, h2, fun hi H3 S3 x3 ok3 h3 => ?_⟩
  split at h3
  · cases rx
    exact ⟨_, rfl, h3.1, k _ H3 _ S3 (x1.trans (x2.trans x3)) (.str _) ok3 h3.2⟩
  · exact h3.elim
/-! ### the signs of a text -/
def signsD (z : Str) : List D := z.cps.toList.map fun c => .str ⟨#[c]⟩
def signsI (A : DE) : DI := fun τ S Q => A τ S fun d S1 => match d with
  | .str z => Q (signsD z) S1
  | _ => False
theorem wk_str {Z : List Addr} {tg : Tg} {H : Hp} {S : Store} {z : Str} : Wk K T Z tg (Its z) H S (signsD z) where
  go := fun i H2 S2 x h => by
    unfold signsD at h
    rw [List.length_map, Array.length_toList] at h
    exact h
  yld := fun Z2 i d H2 S2 v H3 hz x ok hd ⟨e, c, hc, y⟩ => by
    subst e
    subst y
    unfold signsD at hd
    rw [List.getElem?_map, Array.getElem?_toList, hc] at hd
    have hd : some (D.str ⟨#[c]⟩) = some d := hd
    cases hd
    exact ⟨.refl _ _, ok, Tg.rep_of (.str _)⟩
  stop := fun i H2 S2 x h => by
    unfold signsD at h
    rw [List.length_map, Array.length_toList] at h
    exact h
theorem i_str {tg : Tg} {tgt : Expr} {A : DE} (h : XE X T e A) : XI X T tg tgt e (signsI A) :=
  (pi_str h).imp fun σ H R ⟨Z, τ, S, G, sl, ok, h1, k⟩ => ⟨Z, τ, S, _, sl, ok, h1, fun v H1 d S1 x1 rd ok1 q => by
    split at q
    · cases rd
      exact ⟨_, rfl, k _ H1 _ S1 x1 ok1 wk_str q⟩
    · exact q.elim⟩
/-! ### the number of a text -/
def rIntZD : DRL := fun ds S Q => match ds with
  | [.str z] => ∃ n, intText? z = some n ∧ z.length ≤ 640 ∧ Q (.int n) S
  | _ => False
theorem d_intZ : CallD K T (fun xs H Q => ∃ a n, xs = [.str a] ∧ PySem.intText? a = some n ∧ a.length ≤ 640 ∧ Q (.int n) H) rIntZD := by
  intro Z H S vs ds Qd Q ok rs h k
  unfold rIntZD at h
  split at h
  · obtain ⟨n, e, l, h⟩ := h
    cases rs with
    | cons r t =>
      cases t
      cases r
      exact ⟨_, n, rfl, e, l, k _ H _ S (.refl _ _) (.int _) ok h⟩
  · exact h.elim
/-! ### in, of items of any depth -/
def rInWV (K : PySem.W.Frag) (neg : Bool) : R2 := fun x y H Q => ∃ d ds, Dp K H x d ∧ (Dp K H y (.list ds) ∨ Dp K H y (.tuple ds)) ∧ SeqAt.shaped d = true ∧ PyData.canLayAll0 ds = true ∧ Q (.bl (if neg then !(ds.any fun z => PyData.eqv z d) else ds.any fun z => PyData.eqv z d)) H
theorem op_inW (hu : X.A.units + 65 < cLine) : OpR X (compareOp .In) (rInWV X.K false) := by
  intro pins s σ H x y v u Q I rx ry h
  obtain ⟨d, ds, hd, he, sd, se, q⟩ := h
  obtain ⟨as, r1⟩ := Dp.reads I d x v hd rx
  rcases he with he | he
  · obtain ⟨bs, r2⟩ := Dp.reads I (.list ds) y u he ry
    exact SeqAt.in_list_reads r2 r1 se (SeqAt.canLay_of_shaped sd) (room_in_shaped sd hu) ⟨.bl _, H, I, rfl, q⟩
  · obtain ⟨bs, r2⟩ := Dp.reads I (.tuple ds) y u he ry
    exact SeqAt.in_tuple_reads r2 r1 se (SeqAt.canLay_of_shaped sd) (room_in_shaped sd hu) ⟨.bl _, H, I, rfl, q⟩
theorem op_notInW (hu : X.A.units + 65 < cLine) : OpR X (compareOp .NotIn) (rInWV X.K true) := by
  intro pins s σ H x y v u Q I rx ry h
  obtain ⟨d, ds, hd, he, sd, se, q⟩ := h
  obtain ⟨as, r1⟩ := Dp.reads I d x v hd rx
  rcases he with he | he
  · obtain ⟨bs, r2⟩ := Dp.reads I (.list ds) y u he ry
    exact SeqAt.notIn_list_reads r2 r1 se (SeqAt.canLay_of_shaped sd) (room_in_shaped sd hu) ⟨.bl _, H, I, rfl, q⟩
  · obtain ⟨bs, r2⟩ := Dp.reads I (.tuple ds) y u he ry
    exact SeqAt.notIn_tuple_reads r2 r1 se (SeqAt.canLay_of_shaped sd) (room_in_shaped sd hu) ⟨.bl _, H, I, rfl, q⟩
theorem hu65_of {k : Nat} (hr : Room k X.A) : X.A.units + 65 < cLine := by have := hr.un; omega
theorem any_py : ∀ {n m : Nat} {l : List D} {x : D}, okds n l = true → okd m x = true → (pys l).any (fun z => PyData.eqv z (py x)) = l.any fun y => deq y x
  | _, _, [], _, _, _ => rfl
  | n, _, d :: l, x, h, hx => by
    simp only [okds, Bool.and_eq_true] at h
    show (PyData.eqv (py d) (py x) || (pys l).any fun z => PyData.eqv z (py x)) = _
    rw [List.any_cons, eqv_py d x h.1 hx, any_py h.2 hx]
/-- x in y, y a list or a tuple of any data -/
def rInWD (neg : Bool) : DR2 := fun x y S Q => match deref S y with
  | .lst ds => okds 59 ds = true ∧ okd 60 (deref S x) = true ∧ Q (.bl (if neg then !(ds.any fun y => deq y (deref S x)) else ds.any fun y => deq y (deref S x))) S
  | .tup ds => okds 59 ds = true ∧ okd 60 (deref S x) = true ∧ Q (.bl (if neg then !(ds.any fun y => deq y (deref S x)) else ds.any fun y => deq y (deref S x))) S
  | _ => False
theorem d_inW (neg : Bool) : Op2 K T (rInWV K neg) (rInWD neg) := by
  intro Z H S vx vy x y Qd Q ok rx ry h k
  unfold rInWD at h
  split at h
  · rename_i ds e
    obtain ⟨h1, h2, h⟩ := h
    have hy : okd 60 (deref S y) = true := by rw [e]; exact h1
    have dy := ry.dp_deref ok hy
    rw [e] at dy
    have se := shaped_of hy
    rw [e] at se
    have se : PyData.canLayAll0 (pys ds) = true := SeqAt.canLay_of_shaped se
    refine ⟨_, _, rx.dp_deref ok h2, .inl dy, shaped_of h2, se, ?_⟩
    rw [any_py h1 h2]
    exact k _ H _ S (.refl _ _) (.bl _) ok h
  · rename_i ds e
    obtain ⟨h1, h2, h⟩ := h
    have hy : okd 60 (deref S y) = true := by rw [e]; exact h1
    have dy := ry.dp_deref ok hy
    rw [e] at dy
    have se := shaped_of hy
    rw [e] at se
    have se : PyData.canLayAll0 (pys ds) = true := SeqAt.canLay_of_shaped se
    refine ⟨_, _, rx.dp_deref ok h2, .inr dy, shaped_of h2, se, ?_⟩
    rw [any_py h1 h2]
    exact k _ H _ S (.refl _ _) (.bl _) ok h
  · exact h.elim
/-! ### a written dict with text keys, asked for any word -/
def KAll (K : PySem.W.Frag) (d : Addr) (tb : List (Str × D)) : Prop := ∀ z : Str, match tb.lookup z with
  | some dd => ∃ (u : Value) (v : V), PySem.W.nsIn K d z = some (some u) ∧ RelV v u ∧ ∀ Z H S, Rep K Z H S v dd
  | none => PySem.W.nsIn K d z = some none
def dKGetA (tb : List (Str × D)) (B C : DE) : DE := fun τ S Q => B τ S fun y S1 => C τ S1 fun z S2 => match y with
  | .str k => Q ((tb.lookup k).getD z) S2
  | _ => False
theorem x_kgetA {x : Str} {B C : DE} {d : Addr} {ee : Array DictEntry} {n : Nat} {tb : List (Str × D)} (hg : Gl X x) (hm : X.mg x = some (.ref d)) (KD : KDict X.K X.w d ee n) (hb : KAll X.K d tb) (he : XE X T e B) (hf : XE X T f C)
    (m : M2 X (.Name x p) "get" apos e f cpos) (hdb : (x == ("__debug__" : Str)) = false := by decide) : XE X T (.Call (.Attribute (.Name x p) "get" apos) [e, f] [] cpos) (dKGetA tb B C) := by
  refine ⟨fun pins s σ H Q I ⟨Z, τ, S, G, sl, ok, h, k⟩ => ?_⟩
  have mo : s.heap.MapOf (PySem.strKind X.prog X.w) d (fun k => PySem.findBy Value.isStrOf ee k) := PySem.W.mapOf_K I.kIn KD.at_ KD.lit
  refine wpAny_Call_method m.base m.few m.line PySem.F.plainAttrs_dict PySem.F.slot_dict_get PySem.F.type_dict_get (ld_glob I hg hm ⟨mo.typeIs, fun y ey => ?_, ?_⟩ hdb)
  · cases ey
    exact ⟨_, I.kIn _ _ KD.at_, rfl⟩
  rw [m.trees]
  refine Calls.callWith_builtin rfl (Calls.evalArgs_plain (Calls.spliced_cons (thn (he.go I sl ok h) fun iv s2 ⟨v2, H2, d2, S2, I2, r2, x2, rd2, ok2, q2⟩ =>
    Calls.spliced_cons (thn (hf.go I2 (sl.ext x2) ok2 q2) fun fv s3 ⟨v3, H3, d3, S3, I3, r3, x3, rd3, ok3, q3⟩ => Calls.spliced_nil ?_))))
  have mo3 : s3.heap.MapOf (PySem.strKind X.prog X.w) d (fun k => PySem.findBy Value.isStrOf ee k) := PySem.W.mapOf_K I3.kIn KD.at_ KD.lit
  cases d2 with
  | str kk =>
    have ek := rd2.str'
    subst ek
    obtain ⟨t, rfl⟩ := r2
    refine call_meetsIn PySem.F.slot_dict_get mo3.typeIs PySem.F.entry_dict_get (PySem.F.args_dict_get_3 _ _ _) (meets_dict_get_default (PySem.strKind X.prog X.w) d (PySem.strKind_is X.prog X.w kk t) KD.low fv) ⟨_, mo3, ?_⟩
    have q3 : G ((tb.lookup kk).getD d3) S3 := q3
    have hz := hb kk
    cases el : tb.lookup kk with
    | some dd =>
      rw [el] at hz q3
      obtain ⟨u, v, e1, e2, e3⟩ := hz
      rw [PySem.W.find_K KD.at_ e1]
      exact ⟨v, H3, I3.tok _, e2, k v H3 dd S3 (x2.trans x3) (e3 Z H3 S3) ok3 q3⟩
    | none =>
      rw [el] at hz q3
      rw [PySem.W.find_K KD.at_ hz]
      exact ⟨v3, H3, I3.tok _, r3, k v3 H3 d3 S3 (x2.trans x3) rd3 ok3 q3⟩
  | _ => exact q3.elim
/-- a dict's words, all of them -/
theorem nsIn_all {K : PySem.W.Frag} {d : Addr} {c : Value} {o : Option Addr} {es : Array DictEntry} {n : Nat} {sl : Array (Option Value)} (l : K.lookup d = some ⟨c, o, .dict es n, sl⟩) (hr : es.toList.any (·.refKey) = false) (ks : List (Str × Value))
    (hk : es.toList.map (fun e => (fun z : Str => e.key.isStr z)) = ks.map (fun p => fun z : Str => p.1 == z)) (hv : es.toList.map (·.val) = ks.map (·.2)) (z : Str) : PySem.W.nsIn K d z = some (ks.lookup z) := by
  have main : ∀ (l : List DictEntry) (ks : List (Str × Value)), l.map (fun e => (fun z : Str => e.key.isStr z)) = ks.map (fun p => fun z : Str => p.1 == z) → l.map (·.val) = ks.map (·.2) → (l.find? (·.key.isStr z)).map (·.val) = ks.lookup z := by
    intro l
    induction l with
    | nil => intro ks h1 h2; cases ks with | nil => rfl | cons a b => cases h1
    | cons e l ih =>
      intro ks h1 h2
      cases ks with
      | nil => cases h1
      | cons p ks =>
        simp only [List.map_cons, List.cons.injEq] at h1 h2
        have hz := congrFun h1.1 z
        have ih := ih ks h1.2 h2.2
        obtain ⟨a, b⟩ := p
        rw [List.find?_cons, List.lookup_cons]
        have hz : e.key.isStr z = (a == z) := hz
        rw [hz]
        have sw : (z == a) = (a == z) := by
          by_cases c : z = a
          · rw [c]
          · rw [beq_eq_false_iff_ne.mpr c, beq_eq_false_iff_ne.mpr (Ne.symm c)]
        rw [sw]
        cases a == z with
        | true => exact congrArg some h2.1
        | false => exact ih
  unfold PySem.W.nsIn
  simp only [l]
  have m := main es.toList ks hk hv
  cases e : es.toList.find? (·.key.isStr z) with
  | some en => rw [e] at m; rw [← m]; rfl
  | none =>
    rw [e] at m
    rw [← m]
    simp only [hr]
    rfl
/-- a.split(b), into a list that is written to later -/
def rSplitRD : DRM := fun x ds S Q => match x, ds with
  | .str a, [.str b] => (b.length == 0) = false ∧ a.length + 2 ≤ sizeLine ∧ ∀ p, S p = none → Q (.ref p) (ups S p (.lst ((Txt.split a b).map D.str)))
  | _, _ => False
theorem d_splitR : MtD K T (fun x xs H Q => ∃ a b, x = .str a ∧ xs = [.str b] ∧ (b.length == 0) = false ∧ a.length + 2 ≤ sizeLine ∧ rNewStrs (Txt.split a b) H Q) rSplitRD := by
  intro Z H S vx vs x ds Qd Q ok rx rs h k
  unfold rSplitRD at h
  split at h
  · rename_i a b
    obtain ⟨e, z, q⟩ := h
    cases rx
    cases rs with
    | cons r t =>
      cases t
      cases r
      refine ⟨a, b, rfl, rfl, e, z, fun p hp => ?_⟩
      have rr := Reps.ofStrs (K := K) (Z := Z) (H := H) (S := S) (Txt.split a b)
      exact k _ _ _ _ (.newS hp) (.ref p) (ok.newS hp (.newLst rr hp)) (q p (ok.fresh hp))
  · exact h.elim
end
end Dl

set_option Elab.async false
set_option linter.all false
set_option maxRecDepth 100000
namespace Dl
open PySem PySem.Spec PyProof.Rows L2 LamX
section
variable {X : Cx} {K : PySem.W.Frag} {T : Tb}
/-! ### x is True, x None or a bool -/
def rIsTV : R2 := fun x y H Q => ∃ b : Bool, y = .bl b ∧ ((x = .non ∧ Q (.bl false) H) ∨ ∃ a : Bool, x = .bl a ∧ Q (.bl (decide (a = b))) H)
theorem op_isT : OpR X (compareOp .Is) rIsTV := by
  intro pins s σ H x y v u Q I rx ry ⟨b, ey, h⟩
  subst ey
  cases (show u = Value.bool b from ry)
  rcases h with ⟨rfl, q⟩ | ⟨a, rfl, q⟩
  · cases rx
    exact wpAny_is_other rfl (fun z => by cases z) ⟨.bl false, H, I, rfl, q⟩
  · cases (show v = Value.bool a from rx)
    by_cases e : a = b
    · subst e
      rw [decide_eq_true rfl] at q
      exact wpAny_is_self rfl ⟨.bl true, H, I, rfl, q⟩
    · rw [decide_eq_false e] at q
      exact wpAny_is_other rfl (fun z => e (Value.bool.inj z)) ⟨.bl false, H, I, rfl, q⟩
def rIsTD : DR2 := fun x y S Q => match x, y with
  | .non, .bl _ => Q (.bl false) S
  | .bl a, .bl b => Q (.bl (decide (a = b))) S
  | _, _ => False
theorem d_isT : Op2 K T rIsTV rIsTD := by
  intro Z H S vx vy x y Qd Q ok rx ry h k
  unfold rIsTD at h
  split at h
  · cases rx
    cases ry
    exact ⟨_, rfl, .inl ⟨rfl, k _ H _ S (.refl _ _) (.bl _) ok h⟩⟩
  · cases rx
    cases ry
    exact ⟨_, rfl, .inr ⟨_, rfl, k _ H _ S (.refl _ _) (.bl _) ok h⟩⟩
  · exact h.elim
end
end Dl

set_option Elab.async false
set_option linter.all false
set_option maxRecDepth 100000
namespace Dl
open PySem PySem.Spec PyProof.Rows L2 LamX
/-- a written dict's words, all of them, as data -/
theorem kall_of {K : PySem.W.Frag} {d : Addr} {c : Value} {o : Option Addr} {es : Array DictEntry} {n : Nat} {sl : Array (Option Value)} {ks : List (Str × Value)} {tb : List (Str × D)} (l : K.lookup d = some ⟨c, o, .dict es n, sl⟩) (hr : es.toList.any (·.refKey) = false)
    (hk : es.toList.map (fun e => (fun z : Str => e.key.isStr z)) = ks.map (fun p => fun z : Str => p.1 == z)) (hv : es.toList.map (·.val) = ks.map (·.2))
    (h : Paired (fun (p : Str × Value) (q : Str × D) => p.1 = q.1 ∧ ∃ v, RelV v p.2 ∧ ∀ Z H S, Rep K Z H S v q.2) ks tb) : KAll K d tb := by
  intro z
  have e := nsIn_all l hr ks hk hv z
  rw [e]
  clear e hk hv
  induction h with
  | nil => rfl
  | cons a r ih =>
    rename_i p q ks tb
    obtain ⟨pk, pv⟩ := p
    obtain ⟨qk, qv⟩ := q
    obtain ⟨e1, v, rv, rep⟩ := a
    have e1 : pk = qk := e1
    subst e1
    rw [List.lookup_cons, List.lookup_cons]
    cases c : z == pk with
    | true => exact ⟨pv, v, rfl, rv, rep⟩
    | false => exact ih
end Dl

set_option Elab.async false
set_option linter.all false
set_option maxRecDepth 100000
set_option maxHeartbeats 2000000
namespace Dl
open PySem PySem.Spec PyProof.Rows L2 LamX
section
variable {X : Cx} {T : Tb} {W : WX} {e : Expr} {es : List Expr} {p pos : Pos} {x : Str} {k : Nat} {dsp : DSy}
/-- nothing is written to -/
def noS : Store := fun _ => none
theorem noS_sub (S : Store) : Sub noS S := fun a o e => by cases e
theorem flat_keep {K : PySem.W.Frag} {Z : List Addr} {H : Hp} {S S' : Store} {v : V} {d : D} (f : flat d = true) (r : Rep K Z H S v d) : Rep K Z H S' v d := by
  cases d with
  | non => cases r; exact .non
  | bl b => cases r; exact .bl _
  | int b => cases r; exact .int _
  | str b => cases r; exact .str _
  | _ => cases f
theorem stok_no {K : PySem.W.Frag} {Z : List Addr} {H : Hp} {S : Store} (ok : StOk K T Z H S) : StOk K T Z H noS := ⟨ok.tabs, fun z hz => ⟨rfl, (ok.rsv z hz).2⟩, fun a o e => by cases e⟩
theorem rep_no {K : PySem.W.Frag} {Z : List Addr} {H : Hp} {S : Store} {v : V} {d : D} (ok : StOk K T Z H S) (r : Rep K Z H S v d) : Rep K Z H noS v (deref S d) := by
  rcases deref_cases S d with q | ⟨a, ds, q1, q2, q3⟩
  · rw [q]; exact r.sub (noS_sub S)
  · rw [q3]
    subst q1
    cases r
    obtain ⟨ws, hw, rr⟩ := ok.obj a _ q2
    exact .lst hw rfl (fun z => by rw [(ok.rsv a z).1] at q2; cases q2) (rr.sub (noS_sub S))
theorem reps_no {K : PySem.W.Frag} {Z : List Addr} {H : Hp} {S : Store} (ok : StOk K T Z H S) : ∀ {vs : List V} {ds : List D}, Reps K Z H S vs ds → Reps K Z H noS vs (ds.map (deref S))
  | _, _, .nil => .nil
  | _, _, .cons r t => .cons (rep_no ok r) (reps_no ok t)
/-- a call of what writes to nothing that stands here -/
def dCallYP (dsp : DSy) (A : DA) : DEy := fun τ S Q RE => A τ S fun ds S1 => dsp (ds.map (deref S1)) noS (fun d _ => flat d = true ∧ Q d S1) fun nm ps _ => ps.all flat = true ∧ RE nm ps S1
theorem ext_no {H H' : Hp} {S S' : Store} (x : Ext H noS H' S') : Ext H S H' S := ⟨fun a o n e nt => ⟨n, (x.st a o rfl e nt).2⟩⟩
theorem stok_back {K : PySem.W.Frag} {Z : List Addr} {H H' : Hp} {S S' : Store} (ok : StOk K T Z H S) (x : Ext H noS H' S') (t : Tabs T H') : StOk K T Z H' S := by
  refine ⟨t, fun z hz => ?_, fun a o e => ?_⟩
  · obtain ⟨a, vs, b⟩ := ok.rsv z hz
    exact ⟨a, vs, (x.st z _ rfl b fun ps w => by cases w).2⟩
  · obtain ⟨u, hu, nt⟩ := ok.get e
    exact (ok.obj a o e).other (p := a) (u := u) (ext_no x) (((x.st a _ rfl hu nt).2).trans hu.symm)
theorem pay_back {K : PySem.W.Frag} {Z : List Addr} {H' : Hp} {S S' : Store} {nm : Str} {ps : List D} {d : Option Addr} (ok : StOk K T Z H' S) (f : ps.all flat = true) (h : PayOk K Z H' S' nm ps d) : PayOk K Z H' S nm ps d := by
  unfold PayOk at h ⊢
  cases h with
  | exc0 => exact .exc0
  | exc1 h n r =>
    refine .exc1 h ?_ (flat_keep (by simpa using f) r)
    rename_i b v d'
    cases e : S b with
    | none => rfl
    | some o =>
      have m := ok.obj b o e
      cases o with
      | lst ds => obtain ⟨vs, q, _⟩ := m; rw [h] at q; cases q
      | dK ds => obtain ⟨vs, q, _⟩ := m; rw [h] at q; cases q
      | dT ds => obtain ⟨vs, q, _⟩ := m; rw [h] at q; cases q
      | ins C ds => obtain ⟨_, _, dx, vs, q, _⟩ := m; rw [h] at q; cases q
      | dN ks => obtain ⟨xs, q, _⟩ := m; rw [h] at q; cases q
      | memo ks => obtain ⟨xs, q, _⟩ := m; rw [h] at q; cases q
theorem xy_callP {A : DA} (tk : L2N.Takes X W) (F : DFy X.prog X.w X.K X.mg X.base T k x dsp) (hr : Room k X.A) (hg : Gl X x) (ha : XA X T (e :: es) A) (hdb : (x == ("__debug__" : Str)) = false := by decide) (he : starEach (e :: es) X.env = (false, eval e X.env) :: starEach es X.env := by rfl)
    (hpl : (backTo pos (starEach es X.env)).any (·.1) = false := by rfl) : XEy X T W (.Call (.Name x p) (e :: es) [] pos) (dCallYP dsp A) := by
  obtain ⟨fa, fd, ps, hm, hk, hb, F⟩ := F.ex
  refine (pe_callS F hr hg hm hk hb (fun σ => L2N.passAt tk σ) ha hdb he hpl).imp fun σ H Q ⟨Z, τ, S, R, RE, sl, ok, h, kk, ky⟩ => ?_
  refine ⟨Z, τ, S, _, sl, ok, h, fun vs H1 ds S1 x1 r1 ok1 h1 => ?_⟩
  exact ⟨Z, ds.map (deref S1), noS, _, _, reps_no ok1 r1, stok_no ok1, h1, fun v H' d S' x r ok' q => kk v H' d S1 (x1.trans (ext_no x)) (flat_keep q.1 r) (stok_back ok1 x ok'.tabs) q.2,
    fun nm C ps d H' S' x ok' g p q => ky nm C ps d H' S1 (x1.trans (ext_no x)) (stok_back ok1 x ok'.tabs) g (pay_back (stok_back ok1 x ok'.tabs) q.1 p) q.2⟩
end
end Dl

set_option Elab.async false
set_option linter.all false
set_option maxRecDepth 100000
set_option maxHeartbeats 2000000
namespace Dl
open PySem PySem.Spec PyProof.Rows L2 LamX
/-! ### attributes of instances -/
def fldD (S : Store) (d : D) (f : Str) : Option D := match d with
  | .ref p => match S p with
    | some (.ins _ fs) => fs.lookup f
    | _ => none
  | _ => none
/-- the attributes with one put -/
def putFD (f : Str) (v : D) : List (Str × D) → List (Str × D)
  | [] => [(f, v)]
  | (g, x) :: r => if g = f then (g, v) :: r else (g, x) :: putFD f v r
theorem putFD_len (f : Str) (v : D) : ∀ fs : List (Str × D), (putFD f v fs).length ≤ fs.length + 1
  | [] => by simp [putFD]
  | (k, x) :: r => by
    have ih := putFD_len f v r
    rw [show putFD f v ((k, x) :: r) = (if k = f then (k, v) :: r else (k, x) :: putFD f v r) from rfl]
    split <;> simp only [List.length_cons] <;> omega
section
variable {K : PySem.W.Frag} {T : Tb} {Z : List Addr} {H H' : Hp} {S S' : Store}
theorem RKV.lookup {fvs : List (Str × V)} {fds : List (Str × D)} (r : RKV K Z H S fvs fds) (f : Str) {d : D} (h : fds.lookup f = some d) : ∃ v, fvs.lookup f = some v ∧ Rep K Z H S v d := by
  induction r with
  | nil => cases h
  | cons p r ih =>
    rename_i x y xs ys
    obtain ⟨g, v⟩ := x
    obtain ⟨g', d'⟩ := y
    obtain ⟨e, rv⟩ := p
    have e : g = g' := e
    subst e
    rw [List.lookup_cons] at h ⊢
    cases c : f == g with
    | true => rw [c] at h; cases h; exact ⟨v, rfl, rv⟩
    | false => rw [c] at h; exact ih h
theorem RKV.lookup_none {fvs : List (Str × V)} {fds : List (Str × D)} (r : RKV K Z H S fvs fds) (f : Str) (h : fds.lookup f = none) : fvs.lookup f = none := by
  induction r with
  | nil => rfl
  | cons p r ih =>
    rename_i x y xs ys
    obtain ⟨g, v⟩ := x
    obtain ⟨g', d'⟩ := y
    obtain ⟨e, rv⟩ := p
    have e : g = g' := e
    subst e
    rw [List.lookup_cons] at h ⊢
    cases c : f == g with
    | true => rw [c] at h; cases h
    | false => rw [c] at h; exact ih h
theorem RKV.putFs {fvs : List (Str × V)} {fds : List (Str × D)} (r : RKV K Z H S fvs fds) (f : Str) {v : V} {d : D} (h : Rep K Z H S v d) : RKV K Z H S (putF f v fvs) (putFD f d fds) := by
  induction r with
  | nil => exact .cons ⟨rfl, h⟩ .nil
  | cons p r ih =>
    rename_i x y xs ys
    obtain ⟨g, v'⟩ := x
    obtain ⟨g', d'⟩ := y
    obtain ⟨e, rv⟩ := p
    have e : g = g' := e
    subst e
    rw [show putF f v ((g, v') :: xs) = (if g = f then (g, v) :: xs else (g, v') :: putF f v xs) from rfl, show putFD f d ((g, d') :: ys) = (if g = f then (g, d) :: ys else (g, d') :: putFD f d ys) from rfl]
    by_cases c : g = f
    · rw [if_pos c, if_pos c]; exact .cons ⟨rfl, h⟩ r
    · rw [if_neg c, if_neg c]; exact .cons ⟨rfl, rv⟩ ih
/-- a store to an instance -/
theorem put_ins {a C dx : Addr} {fvs : List (Str × V)} {fds fds0 : List (Str × D)} (ok : StOk K T Z H S) (e : S a = some (.ins C fds0)) (oc : OwnC K C) (fl : fds.length ≤ 100) (hd : ∃ fvs0, H a = some (.ins C dx fvs0)) (r : RKV K Z H S fvs fds) :
    Ext H S (upd H a (.ins C dx fvs)) (ups S a (.ins C fds)) ∧ StOk K T Z (upd H a (.ins C dx fvs)) (ups S a (.ins C fds)) := by
  have x : Ext H S (upd H a (.ins C dx fvs)) (ups S a (.ins C fds)) := .put e
  refine ⟨x, ok.put e ?_⟩
  exact ⟨oc, fl, dx, fvs, upd_same, r.ext x⟩
end

section
variable {X : Cx} {T : Tb} {e o value : Expr} {es : List Expr} {f m x : Str} {pos pos' p apos : Pos} {k : Nat}
/-- o.f -/
def dFld (f : Str) (A : DE) : DE := fun τ S Q => A τ S fun d S1 => match fldD S1 d f with
  | some v => Q v S1
  | none => False
theorem fldD_at {S : Store} {d v : D} {f : Str} (h : fldD S d f = some v) : ∃ a C fds, d = .ref a ∧ S a = some (.ins C fds) ∧ fds.lookup f = some v := by
  unfold fldD at h
  split at h
  · rename_i a
    split at h
    · rename_i C fds e
      exact ⟨a, C, fds, rfl, e, h⟩
    · cases h
  · cases h
theorem x_fld {A : DE} (h : XE X T o A) (hf : f ∈ flds := by decide) (hb : attributeBase o f X.env (eval o X.env) = eval o X.env := by rfl) : XE X T (.Attribute o f pos) (dFld f A) := by
  refine (pe_fld h hb).imp fun σ H Q ⟨Z, τ, S, R, sl, ok, h, kk⟩ => ⟨Z, τ, S, _, sl, ok, h, fun vo H1 d S1 x1 r1 ok1 h1 => ?_⟩
  split at h1
  · rename_i v e
    obtain ⟨a, C, fds, rfl, e1, e2⟩ := fldD_at e
    cases r1
    obtain ⟨oc, _, dx, fvs, e3, r⟩ := ok1.obj a _ e1
    obtain ⟨w, e4, rw⟩ := r.lookup f e2
    exact ⟨a, C, dx, fvs, w, rfl, e3, oc.c, oc.n f hf, e4, kk w H1 v S1 x1 rw ok1 h1⟩
  · exact h1.elim
/-- o.f = value -/
def dSetF (f : Str) (A V : DE) : DS := fun E τ S => V τ S fun v S1 => A τ S1 fun d S2 => match d with
  | .ref a => match S2 a with
    | some (.ins C fds) => fds.length < 100 ∧ E.nx τ (ups S2 a (.ins C (putFD f v fds)))
    | _ => False
  | _ => False
theorem s_setF {A V : DE} (ho : XE X T o A) (hv : XE X T value V) (hf : f ∈ flds := by decide) (hs : swapsWith value (some (.Attribute o f pos')) pos.line X.env = pure false := by rfl) : XS X T (.Assign [.Attribute o f pos'] value pos) (dSetF f A V) := by
  refine (ps_fld ho hv hs).imp fun D σ H ⟨Z, τ, S, E, sl, ok, h, kk⟩ => ?_
  refine ⟨Z, τ, S, _, sl, ok, h, fun v H1 d S1 x1 r1 ok1 h1 => ?_⟩
  refine ⟨Z, τ, S1, _, sl.ext x1, ok1, h1, fun vo H2 dd S2 x2 r2 ok2 h2 => ?_⟩
  split at h2
  · rename_i a
    split at h2
    · rename_i C fds e1
      cases r2
      obtain ⟨oc, _, dx, fvs, e3, r⟩ := ok2.obj a _ e1
      have r' := r.putFs f (r1.ext x2)
      obtain ⟨x4, ok4⟩ := put_ins ok2 e1 oc (by have := putFD_len f d fds; omega) ⟨fvs, e3⟩ r'
      have xx := x1.trans (x2.trans x4)
      exact ⟨a, C, dx, fvs, rfl, e3, oc.c, oc.n f hf, by rw [r.length]; omega, kk.nx σ _ τ _ xx (sl.ext xx) ok4 h2.2⟩
    · exact h2.elim
  · exact h2.elim
/-! ### methods -/
/-- the method m of the class at C keeps its promise -/
structure DMt (P : Program) (w : World) (K : PySem.W.Frag) (mg : Str → Option Value) (base : Heap) (T : Tb) (k : Nat) (C : Addr) (m : Str) (dsp : DSp) : Prop where
  ex : ∃ (fa : Addr) (fd : FuncData) (ps : List Str), Meth K C m fa ∧ Binds K fd ps [] ∧ FnOk P w K mg base CX0 k fa fd ps (lsp K T dsp)
/-- the class name's methods -/
def insC (S : Store) (d : D) (C : Addr) (m : Str) : Prop := ∃ a fds, d = .ref a ∧ S a = some (.ins C fds) ∧ fds.lookup m = none
def dMeth (C : Addr) (m : Str) (dsp : DSp) (O : DE) (A : DA) : DE := fun τ S Q => O τ S fun d S1 => insC S1 d C m ∧ A τ S1 fun ds S2 => dsp (d :: ds) S2 Q
variable {C : Addr} {dsp : DSp} {O : DE} {A : DA}
theorem x_meth {pl : Sem Bool} (F : DMt X.prog X.w X.K X.mg X.base T k C m dsp) (hr : Room k X.A) (ho : XE X T o O) (ha : XA X T (e :: es) A)
    (hst : starEach (e :: es) X.env = (false, eval e X.env) :: starEach es X.env := by rfl) (hpl : (backTo pos (starEach es X.env)).any (·.1) = false := by rfl)
    (ht : eval (.Call (.Attribute o m apos) (e :: es) [] pos) X.env = (do
      let ov ← eval o X.env
      standAt apos.atName
      let (f, first) ← holding [ov] (getMethod ov m pl)
      callWith pos f first (backTo pos (starEach (e :: es) X.env)) (backToKw pos (keywordEach [] X.env))) := by rfl) (hc : Cls X.K C) :
    XE X T (.Call (.Attribute o m apos) (e :: es) [] pos) (dMeth C m dsp O A) := by
  obtain ⟨fa, fd, ps, M, hb, F⟩ := F.ex
  refine (pe_meth ho hc M F hr hb .nil pass0 ha hst hpl ht).imp fun σ H Q ⟨Z, τ, S, R, sl, ok, h, kk⟩ => ⟨Z, τ, S, _, sl, ok, h, fun vo H1 d S1 x1 r1 ok1 ⟨⟨a, fds, ed, e1, ln⟩, h1⟩ => ?_⟩
  subst ed
  cases r1
  obtain ⟨oc, _, dx, fvs, e3, r⟩ := ok1.obj a _ e1
  refine ⟨a, dx, fvs, rfl, e3, r.lookup_none m ln, Z, τ, S1, _, sl.ext x1, ok1, h1, fun vs H2 ds S2 x2 r2 ok2 h2 => ?_⟩
  show lsp X.K T dsp (.ref a :: (vs ++ [])) H2 Q E0
  rw [List.append_nil]
  exact ⟨Z, _, S2, R, .cons (.ref a) r2, ok2, h2, fun v H' d S' x => kk v H' d S' (x1.trans (x2.trans x))⟩
theorem x_meth0 {pl : Sem Bool} (F : DMt X.prog X.w X.K X.mg X.base T k C m dsp) (hr : Room k X.A) (ho : XE X T o O)
    (ht : eval (.Call (.Attribute o m apos) [] [] pos) X.env = (do
      let ov ← eval o X.env
      standAt apos.atName
      let (f, first) ← holding [ov] (getMethod ov m pl)
      callWith pos f first (backTo pos (starEach [] X.env)) (backToKw pos (keywordEach [] X.env))) := by rfl) (hc : Cls X.K C) :
    XE X T (.Call (.Attribute o m apos) [] [] pos) (dMeth C m dsp O dNil) := by
  obtain ⟨fa, fd, ps, M, hb, F⟩ := F.ex
  refine (pe_meth0 ho hc M F hr hb .nil pass0 ht).imp fun σ H Q ⟨Z, τ, S, R, sl, ok, h, kk⟩ => ⟨Z, τ, S, _, sl, ok, h, fun vo H1 d S1 x1 r1 ok1 ⟨⟨a, fds, ed, e1, ln⟩, h1⟩ => ?_⟩
  subst ed
  cases r1
  obtain ⟨oc, _, dx, fvs, e3, r⟩ := ok1.obj a _ e1
  refine ⟨a, dx, fvs, rfl, e3, r.lookup_none m ln, ?_⟩
  exact ⟨Z, _, S1, R, .cons (.ref a) .nil, ok1, h1, fun v H' d S' x => kk v H' d S' (x1.trans x)⟩
/-! ### new instances -/
structure DMk (P : Program) (w : World) (K : PySem.W.Frag) (mg : Str → Option Value) (base : Heap) (T : Tb) (k : Nat) (x : Str) (C : Addr) (dsp : DSp) : Prop where
  ex : ∃ (fa : Addr) (fd : FuncData) (ps : List Str), mg x = some (.ref C) ∧ Mk K C fa ∧ Binds K fd ps [] ∧ FnOk P w K mg base CX0 k fa fd ps (lsp K T dsp)
  own : OwnC K C
/-- C(..): the new instance, then __init__ -/
def dMake (C : Addr) (dsp : DSp) (A : DA) : DE := fun τ S Q => A τ S fun ds S1 => ∀ a, S1 a = none → dsp (.ref a :: ds) (ups S1 a (.ins C [])) fun v S2 => v = .non ∧ Q (.ref a) S2
theorem x_make {A : DA} (F : DMk X.prog X.w X.K X.mg X.base T k x C dsp) (hr : Room (k + 1) X.A) (hg : Gl X x) (ha : XA X T (e :: es) A)
    (hdb : (x == ("__debug__" : Str)) = false := by decide) (he : starEach (e :: es) X.env = (false, eval e X.env) :: starEach es X.env := by rfl) (hpl : (backTo pos (starEach es X.env)).any (·.1) = false := by rfl) :
    XE X T (.Call (.Name x p) (e :: es) [] pos) (dMake C dsp A) := by
  obtain ⟨⟨fa, fd, ps, hm, M, hb, F⟩, oc⟩ := F
  refine (pe_make M F hr hg hm hb .nil pass0 ha hdb he hpl).imp fun σ H Q ⟨Z, τ, S, R, sl, ok, h, kk⟩ => ⟨Z, τ, S, _, sl, ok, h, fun vs H1 ds S1 x1 r1 ok1 h1 => ?_⟩
  intro a dx ha hdx ne
  rw [List.append_nil]
  have y1 : Ext H1 S1 (upd H1 dx (.own a)) S1 := .new hdx
  have o1 := ok1.new (u := .own a) hdx
  have ha' : (upd H1 dx (.own a)) a = none := by rw [upd_ne (Ne.symm ne)]; exact ha
  have y2 : Ext (upd H1 dx (.own a)) S1 (upd (upd H1 dx (.own a)) a (.ins C dx [])) (ups S1 a (.ins C [])) := .newS ha'
  have o2 : StOk X.K T Z (upd (upd H1 dx (.own a)) a (.ins C dx [])) (ups S1 a (.ins C [])) := o1.newS ha' ⟨oc, Nat.zero_le _, dx, [], upd_same, .nil⟩
  have yy := y1.trans y2
  refine ⟨Z, _, _, _, .cons (.ref a) (r1.ext yy), o2, h1 a (ok1.fresh ha), fun v H' d S' xx rv ok' ⟨ev, q⟩ => ?_⟩
  subst ev
  cases rv
  exact ⟨rfl, kk _ _ _ _ (x1.trans (yy.trans xx)) (.ref a) ok' q⟩
end
end Dl

set_option Elab.async false
set_option linter.all false
set_option maxRecDepth 100000
set_option maxHeartbeats 2000000
namespace Dl
open PySem PySem.Spec PyProof.Rows L2 LamX
/-! ### dicts by names (tuples of ints), by values -/
def NmK (K : PySem.W.Frag) (H : Hp) (xs : List (Kt × Addr × V)) : Prop := ∀ p ∈ xs, KVr K H p.1 (.ref p.2.1) ∧ dpK p.1 ≤ 5
section
variable {X : Cx} {pins : List (Addr × Obj)} {σ : L2.St} {H : Hp} {s : Shared} {a b : Addr} {k : Kt} {xs : List (Kt × Addr × V)} {A : Around} {E : Value → Shared → Prop}
theorem nm_open (I : Inv X pins σ H s) (ha : H a = some (NmO a xs)) (hk : NmK X.K H xs) : (a == sysModules) = false ∧ ∃ ys, Paired NmRel xs ys ∧ s.heap.DictOfH (kKind X.prog X.w) a ys :=
  nm_at I.hok ha fun p hp => ⟨(hk p hp).1.isV I rfl, (hk p hp).2⟩
theorem nm_len {ys : List (Kt × Addr × Value)} (h : Paired NmRel xs ys) : ys.length = xs.length := (Paired.length h).symm
theorem nm_back (I : Inv X pins σ H s) {h' : Heap} {t : Nat} {xs' : List (Kt × Addr × V)} {ys' : List (Kt × Addr × Value)} (ha : H a = some (NmO a xs)) (n : (a == sysModules) = false) (hm : h'.DictOfH (kKind X.prog X.w) a ys') (hs : Heap.SameBut a s.heap h') (p : Paired NmRel xs' ys') :
    Inv X pins σ (upd H a (NmO a xs')) { s with heap := h', toks := t } := by
  obtain ⟨ob, es, ep, h1, h2, h3, h4, _, h5⟩ := hm
  exact I.write (x := a) (e := a) (by rw [ha]; trivial) (.inl rfl) (fun c r hb z => (hs.2 c hb).trans z) ⟨ob, h1⟩ (nm_ok n h1 h2 h3 h4 h5 p)
/-- x in d, x not in d -/
def rNmIn (K : PySem.W.Frag) (neg : Bool) : R2 := fun x y H Q => ∃ (a b : Addr) (k : Kt) (xs : List (Kt × Addr × V)), y = .ref a ∧ x = .ref b ∧ H a = some (NmO a xs) ∧ NmK K H xs ∧ KVr K H k (.ref b) ∧ dpK k ≤ 5 ∧ Q (.bl (if neg then !(atNm xs k).isSome else (atNm xs k).isSome)) H
theorem nm_some {ys : List (Kt × Addr × Value)} (p : Paired NmRel xs ys) (k : Kt) : (atKey ys k).isSome = (atNm xs k).isSome := by
  rcases nm_find p k with ⟨h1, h2⟩ | ⟨_, _, _, h1, h2, _⟩ <;> rw [h1, h2] <;> rfl
theorem op_nmIn (hu : X.A.units + 9 < cLine) : OpR X (compareOp .In) (rNmIn X.K false) := by
  intro pins s σ H x y v u Q I rx ry ⟨a, b, k, xs, ey, ex, ha, hk, hx, dk, q⟩
  subst ey; subst ex
  cases rx; cases ry
  obtain ⟨n, ys, p, dd⟩ := nm_open I ha hk
  refine wpAny_in_heap (knd := kKind X.prog X.w) (show X.A.units + 1 + 7 < cLine by omega) ⟨hx.isV I rfl, dk⟩ n dd ?_
  rw [nm_some p]
  exact ⟨.bl _, H, I.tok _, rfl, q⟩
theorem op_nmNotIn (hu : X.A.units + 9 < cLine) : OpR X (compareOp .NotIn) (rNmIn X.K true) := by
  intro pins s σ H x y v u Q I rx ry ⟨a, b, k, xs, ey, ex, ha, hk, hx, dk, q⟩
  subst ey; subst ex
  cases rx; cases ry
  obtain ⟨n, ys, p, dd⟩ := nm_open I ha hk
  refine wpAny_notIn_heap (knd := kKind X.prog X.w) (show X.A.units + 1 + 7 < cLine by omega) ⟨hx.isV I rfl, dk⟩ n dd ?_
  rw [nm_some p]
  exact ⟨.bl _, H, I.tok _, rfl, q⟩
/-- d[k], d[k] there -/
def tNmGet (K : PySem.W.Frag) (td ty : TE) : TE := fun σ H Q => td σ H fun x H1 => ty σ H1 fun y H2 => ∃ (a b : Addr) (k : Kt) (xs : List (Kt × Addr × V)) (c : Addr) (v : V), x = .ref a ∧ y = .ref b ∧ H2 a = some (NmO a xs) ∧ NmK K H2 xs ∧ KVr K H2 k (.ref b) ∧ dpK k ≤ 5 ∧ atNm xs k = some (c, v) ∧ Q v H2
variable {o i value f e : Expr} {td ty tv tx : TE} {pos pos' apos cpos : Pos}
theorem pe_nmGet (hu : X.A.units + 9 < cLine) (ho : PE X o td) (hi : PE X i ty) (hs : NoSl i) : PE X (.Subscript o i pos) (tNmGet X.K td ty) := by
  refine ⟨fun pins s σ H Q I h => ?_⟩
  refine subD_of PySem.F.slot_dict_getitem.lookup hs (thn (ho.run pins s σ H _ I h) fun u s1 ⟨x, H1, I1, rx, q1⟩ => thn (hi.run pins s1 σ H1 _ I1 q1) fun iv s2 ⟨y, H2, I2, ry, a, b, k, xs, c, v, ex, ey, ha, hk, hx, dk, hv, q2⟩ => ?_)
  subst ex; subst ey
  cases rx; cases ry
  obtain ⟨n, ys, p, dd⟩ := nm_open I2 ha hk
  rcases nm_find p k with ⟨h1, _⟩ | ⟨c', v', w, h1, h2, rv⟩
  · rw [h1] at hv; cases hv
  · rw [h1] at hv; cases hv
    refine ⟨dd.typeIs, wpAny_getItem_heap (knd := kKind X.prog X.w) (show X.A.units + 1 + 7 < cLine by omega) ⟨hx.isV I2 rfl, dk⟩ dd h2 ?_⟩
    exact ⟨v, H2, I2.tok _, rv, q2⟩
/-- d[k] = v -/
def sNmPut (K : PySem.W.Frag) (td ty tv : TE) : TS := fun D σ H => tv σ H fun v H1 => td σ H1 fun x H2 => ty σ H2 fun y H3 => ∃ (a b : Addr) (k : Kt) (xs : List (Kt × Addr × V)), x = .ref a ∧ y = .ref b ∧ H3 a = some (NmO a xs) ∧ NmK K H3 xs ∧ KVr K H3 k (.ref b) ∧ dpK k ≤ 5 ∧ xs.length ≤ sizeLine ∧
  D.nx σ (upd H3 a (NmO a (putNm xs k b v)))
theorem ps_nmPut (hu : X.A.units + 9 < cLine) (ho : PE X o td) (hi : PE X i ty) (hv : PE X value tv) (hs : swapsWith value (some (.Subscript o i pos')) pos.line X.env = pure false) :
    PS X (.Assign [.Subscript o i pos'] value pos) (sNmPut X.K td ty tv) := by
  refine ⟨fun pins s σ H D I h => ?_⟩
  refine wpAny_Assign_Subscript (thn (hv.run pins s σ H _ I h) fun r s1 ⟨v, H1, I1, rv, q1⟩ => thn (ho.run pins s1 σ H1 _ I1 q1) fun u s2 ⟨x, H2, I2, rx, q2⟩ => thn (hi.run pins s2 σ H2 _ I2 q2) fun iv s3 ⟨y, H3, I3, ry, a, b, k, xs, ex, ey, ha, hk, hx, dk, hl, q3⟩ => ?_) hs
  subst ex; subst ey
  cases rx; cases ry
  obtain ⟨n, ys, p, dd⟩ := nm_open I3 ha hk
  refine wpAny_setItem_heap (hsz := by rw [nm_len p]; exact hl) (knd := kKind X.prog X.w) (show X.A.units + 1 + 7 < cLine by omega) ⟨hx.isV I3 rfl, dk⟩ dd fun h' dd' hs' => ?_
  exact ⟨σ, _, nm_back I3 ha n dd' hs' (nm_put p k b rv), q3⟩
/-- d.get(k, x) -/
def tNmGet2 (K : PySem.W.Frag) (td ty tx : TE) : TE := fun σ H Q => td σ H fun x H1 => ∃ (a : Addr) (xs0 : List (Kt × Addr × V)), x = .ref a ∧ H1 a = some (NmO a xs0) ∧ NmK K H1 xs0 ∧ ty σ H1 fun y H2 => tx σ H2 fun z H3 => ∃ (b : Addr) (k : Kt) (xs : List (Kt × Addr × V)), y = .ref b ∧ H3 a = some (NmO a xs) ∧ NmK K H3 xs ∧ KVr K H3 k (.ref b) ∧ dpK k ≤ 5 ∧ Q (((atNm xs k).map (·.2)).getD z) H3
theorem pe_nmGet2 (hu : X.A.units + 9 < cLine) (ho : PE X o td) (he : PE X e ty) (hf : PE X f tx) (m : M2 X o "get" apos e f cpos) : PE X (.Call (.Attribute o "get" apos) [e, f] [] cpos) (tNmGet2 X.K td ty tx) := by
  refine ⟨fun pins s σ H Q I h => ?_⟩
  refine wpAny_Call_method m.base m.few m.line PySem.F.plainAttrs_dict PySem.F.slot_dict_get PySem.F.type_dict_get (thn (ho.run pins s σ H _ I h) fun u s1 ⟨x, H1, I1, rx, a, xs0, ex, ha0, hk0, q1⟩ => ?_)
  subst ex
  cases rx
  obtain ⟨n, ys0, p0, dd0⟩ := nm_open I1 ha0 hk0
  refine ⟨dd0.typeIs, fun y ey => ?_, ?_⟩
  · cases ey
    obtain ⟨o0, es, ep, g1, g2, _⟩ := dd0
    exact ⟨o0, g1, g2.2.1⟩
  rw [m.trees]
  refine wpAny_dict_get2_heap (knd := kKind X.prog X.w) (show X.A.units + 1 + 7 < cLine by omega) n (thn (he.run pins s1 σ H1 _ I1 q1) fun iv s2 ⟨y, H2, I2, ry, q2⟩ =>
    thn (hf.run pins s2 σ H2 _ I2 q2) fun fv s3 ⟨z, H3, I3, rz, b, k, xs, ey, ha, hk, hx, dk, q3⟩ => ?_)
  subst ey
  cases ry
  obtain ⟨_, ys, p, dd⟩ := nm_open I3 ha hk
  refine ⟨b, k, ys, rfl, ⟨hx.isV I3 rfl, dk⟩, dd, ?_⟩
  rcases nm_find p k with ⟨h1, h2⟩ | ⟨c', v', w, h1, h2, rv⟩
  · rw [h1] at q3; rw [h2]
    exact ⟨z, H3, I3.tok _, rz, q3⟩
  · rw [h1] at q3; rw [h2]
    exact ⟨v', H3, I3.tok _, rv, q3⟩
end
end Dl
namespace Dl
open PySem PySem.Spec PyProof.Rows L2 LamX
section
variable {X : Cx} {pos : Pos}
/-- {} for names -/
def tNm0 : TE := fun _ H Q => ∀ p, H p = none → Q (.ref p) (upd H p (NmO p []))
theorem nm_new {P : Program} {w : World} {H : Hp} {h h' : Heap} {a : Addr} {xs : List (Kt × Addr × V)} {ys : List (Kt × Addr × Value)} (n : (a == sysModules) = false) (hm : h'.DictOfH (kKind P w) a ys) (p : Paired NmRel xs ys) : ObjOk P w H h' a (NmO a xs) := by
  obtain ⟨ob, es, ep, h1, h2, h3, h4, _, h5⟩ := hm
  exact nm_ok n h1 h2 h3 h4 h5 p
theorem pe_nm0 : PE X (.Dict [] [] pos) tNm0 := ⟨fun pins s σ H Q I h => by
  refine wpAny_Dict_empty ?_
  have n : (s.heap.objs.size == sysModules) = false := by
    have := I.big
    exact beq_eq_false_iff_ne.mpr (Nat.ne_of_gt this)
  exact ⟨.ref s.heap.objs.size, _, I.laid (a := s.heap.objs.size) (o := NmO s.heap.objs.size []) (t' := s.toks) (fun _ _ q => Heap.get?_push_of_some _ q) (Nat.le_refl _) (nm_ok n (Heap.get?_push_size _ rfl) ⟨rfl, rfl, rfl⟩ rfl rfl (by simp) .nil), rfl, h _ (I.hok.fresh (Nat.le_refl _))⟩⟩
theorem dict_pairsA {prog : Program} {w : World} {K : Type} [DecidableEq K] {knd : HeapKind prog w K} {A : Around} {E : Value → Shared → Prop} {s : Shared} {env : Env} {keys : List (Option Expr)} {values : List Expr} {pos : Pos} {pairs : List (Sem Value × Sem Value)} {Q : Value → Shared → Prop} (hu : knd.room A)
    (hshape : (evalEachOpt keys env).zip ((evalEach values env).map fun v => do let x ← v; standAt pos; pure x) = pairs.map fun p => (some p.1, p.2)) (h0 : pairs ≠ []) (hlen : pairs.length ≤ 15)
    (h : wpAny (model prog w) A (evalPairs pairs) (fun vs s₁ => ∃ ps, CarriesH knd s₁.heap vs ps ∧ s₁.heap.DictOfH knd s.heap.objs.size [] ∧
      ∀ h' tk, h'.DictOfH knd s.heap.objs.size (storedAllH [] ps) → Heap.SameBut s.heap.objs.size s₁.heap h' → Q (.ref s.heap.objs.size) { s₁ with heap := h', toks := tk }) E
      { s with heap := s.heap.push { cls := .type "dict", data := .dict #[] } }) :
    wpAny (model prog w) A (eval (.Dict keys values pos) env) Q E s := by
  rw [arm_eval_Dict, hshape, dictDisplay_pairs pairs h0 (by omega)]
  exact wpAny_bind (wpAny_standAt (wpAny_bind (wpAny_subDictH (knd := knd) (Q := fun d s' => wpAny (model prog w) A (pure (Value.ref d)) Q E s') hu hlen
    (wpAny_mono h (fun vs s₁ h₁ => by obtain ⟨ps, hc, hm, hq⟩ := h₁; exact ⟨ps, hc, hm, fun h' tk a b => wpAny_pure (hq h' tk a b)⟩) fun _ _ e => e))))
/-- {k: v} -/
def tNm1 (K : PySem.W.Frag) (tk tv : TE) : TE := fun σ H Q => ∀ p, H p = none → tk σ (upd H p (NmO p [])) fun y H1 => tv σ H1 fun v H2 => ∃ (b : Addr) (k : Kt), y = .ref b ∧ KVr K H2 k (.ref b) ∧ dpK k ≤ 5 ∧ H2 p = some (NmO p []) ∧ Q (.ref p) (upd H2 p (NmO p [(k, b, v)]))
theorem pe_nm1 {k v : Expr} {tk tv : TE} (hu : X.A.units + 9 < cLine) (hk : PE X k tk) (hv : PE X v tv) : PE X (.Dict [some k] [v] pos) (tNm1 X.K tk tv) := by
  refine ⟨fun pins s σ H Q I q => ?_⟩
  have hn := I.hok.fresh (Nat.le_refl s.heap.objs.size)
  have n : (s.heap.objs.size == sysModules) = false := by
    have := I.big
    exact beq_eq_false_iff_ne.mpr (Nat.ne_of_gt this)
  have I1 := I.laid (a := s.heap.objs.size) (o := NmO s.heap.objs.size []) (h' := s.heap.push { cls := .type "dict", data := .dict #[] }) (t' := s.toks) (fun _ _ q => Heap.get?_push_of_some _ q) (Nat.le_refl _) (nm_ok n (Heap.get?_push_size _ rfl) ⟨rfl, rfl, rfl⟩ rfl rfl (by simp) .nil)
  have hl := pairTrees_length [some k] [v] X.env pos rfl rfl
  refine dict_pairsA (knd := kKind X.prog X.w) (pairs := pairTrees [some k] [v] X.env pos) (show X.A.units + 7 < cLine by omega) (zip_pairTrees [some k] [v] X.env pos rfl rfl) (fun he => by rw [he] at hl; cases hl) (by rw [hl]; exact (show 1 ≤ 15 by decide)) ?_
  refine pairTrees_cons_walk (thn (hk.run pins _ σ _ _ I1 (q _ hn)) fun u s1 ⟨y, H1, I2, ry, q1⟩ => thn (hv.run pins s1 σ H1 _ I2 q1) fun w2 s2 ⟨z, H2, I3, rz, b, kt, ey, hx, dk, hp, q2⟩ => pairTrees_nil_walk ?_)
  subst ey
  cases ry
  obtain ⟨_, ys, p, dd⟩ := nm_open I3 hp (fun x hx => by cases hx)
  cases p
  refine ⟨[(kt, b, w2)], ⟨rfl, rfl, ⟨hx.isV I3 rfl, dk⟩, trivial⟩, dd, fun h' tk dd' hs => ?_⟩
  have dd2 : h'.DictOfH (kKind X.prog X.w) s.heap.objs.size [(kt, b, w2)] := dd'
  exact ⟨.ref s.heap.objs.size, _, nm_back I3 hp n dd2 hs (.cons ⟨rfl, rfl, rz⟩ .nil), rfl, q2⟩
end
end Dl

set_option Elab.async false
set_option linter.all false
set_option maxRecDepth 100000
set_option maxHeartbeats 2000000
namespace Dl
open PySem PySem.Spec PyProof.Rows L2 LamX
/-! ### dicts by names, as data -/
def intsD : List D → Option (List Int)
  | [] => some []
  | .int i :: r => (intsD r).map (i :: ·)
  | _ :: _ => none
theorem intsD_map : ∀ ks : List Int, intsD (ks.map D.int) = some ks
  | [] => rfl
  | k :: ks => by rw [List.map_cons, intsD, intsD_map ks]; rfl
theorem intsD_some : ∀ {ds : List D} {ks : List Int}, intsD ds = some ks → ds = ks.map D.int
  | [], ks, h => by cases h; rfl
  | d :: r, ks, h => by
    cases d with
    | int i =>
      rw [intsD] at h
      obtain ⟨l, e, rfl⟩ := Option.map_eq_some_iff.mp h
      rw [intsD_some e]; rfl
    | _ => cases h
def nameD : D → Option (List Int)
  | .tup ds => intsD ds
  | _ => none
theorem nameD_tup (ks : List Int) : nameD (.tup (ks.map D.int)) = some ks := intsD_map ks
theorem nameD_some {d : D} {ks : List Int} (h : nameD d = some ks) : d = .tup (ks.map D.int) := by
  cases d with
  | tup ds => rw [intsD_some (show intsD ds = some ks from h)]
  | _ => cases h
def namesAt (S : Store) (d : D) : Option (List (List Int × D)) := match d with
  | .ref p => match S p with
    | some (.dN kvs) => some kvs
    | _ => none
  | _ => none
theorem namesAt_some {S : Store} {d : D} {kvs : List (List Int × D)} (h : namesAt S d = some kvs) : ∃ p, d = .ref p ∧ S p = some (.dN kvs) := by
  unfold namesAt at h
  split at h
  · rename_i p
    split at h
    · rename_i kvs' e
      cases h
      exact ⟨p, rfl, e⟩
    · cases h
  · cases h
def atN (kvs : List (List Int × D)) (k : List Int) : Option D := (kvs.find? fun p => decide (p.1 = k)).map (·.2)
def putN (kvs : List (List Int × D)) (k : List Int) (v : D) : List (List Int × D) := if (atN kvs k).isSome then kvs.map (fun p => if p.1 = k then (p.1, v) else p) else kvs ++ [(k, v)]
theorem kint_inj : ∀ {a b : List Int}, a.map Kt.int = b.map Kt.int → a = b
  | [], [], _ => rfl
  | [], _ :: _, h => by cases h
  | _ :: _, [], h => by cases h
  | x :: a, y :: b, h => by
    simp only [List.map_cons, List.cons.injEq, Kt.int.injEq] at h
    rw [h.1, kint_inj h.2]
theorem ktI_inj {a b : List Int} (h : ktI a = ktI b) : a = b := kint_inj (Kt.tup.inj h)
theorem dpKs_int : ∀ ks : List Int, dpKs (ks.map Kt.int) = 0
  | [] => rfl
  | k :: ks => by rw [List.map_cons, dpKs, dpKs_int ks]; rfl
theorem dp_ktI (ks : List Int) : dpK (ktI ks) ≤ 5 := by unfold ktI; rw [dpK, dpKs_int]; decide
abbrev NmP (K : PySem.W.Frag) (Z : List Addr) (H : Hp) (S : Store) : List (Kt × Addr × V) → List (List Int × D) → Prop := Paired fun (x : Kt × Addr × V) (kv : List Int × D) => x.1 = ktI kv.1 ∧ Rep K Z H S (.ref x.2.1) (.tup (kv.1.map D.int)) ∧ Rep K Z H S x.2.2 kv.2
section
variable {K : PySem.W.Frag} {T : Tb} {Z : List Addr} {H H' : Hp} {S S' : Store}
theorem kvrs_ints : ∀ {ks : List Int} {vs : List V}, Reps K Z H S vs (ks.map D.int) → KVrs K H (ks.map Kt.int) vs
  | [], _, .nil => .nil
  | k :: ks, _, .cons (.int _) t => .cons (.int k) (kvrs_ints t)
theorem rep_key {b : Addr} {ks : List Int} (r : Rep K Z H S (.ref b) (.tup (ks.map D.int))) : KVr K H (ktI ks) (.ref b) := by
  cases r with
  | tup h rs => exact .tup h.sq (kvrs_ints rs)
theorem rep_name {v : V} {d : D} {ks : List Int} (r : Rep K Z H S v d) (h : nameD d = some ks) : ∃ b, v = .ref b ∧ Rep K Z H S (.ref b) (.tup (ks.map D.int)) := by
  have e := nameD_some h
  subst e
  cases r with
  | tup h rs => exact ⟨_, rfl, .tup h rs⟩
theorem nmp_keys {xs : List (Kt × Addr × V)} {kvs : List (List Int × D)} (p : NmP K Z H S xs kvs) : NmK K H xs := by
  induction p with
  | nil => intro x hx; cases hx
  | cons q r ih =>
    intro x hx
    rcases List.mem_cons.mp hx with rfl | hx
    · obtain ⟨e, rk, _⟩ := q
      rw [e]
      exact ⟨rep_key rk, dp_ktI _⟩
    · exact ih x hx
theorem nmp_at {xs : List (Kt × Addr × V)} {kvs : List (List Int × D)} (p : NmP K Z H S xs kvs) (k : List Int) : (atNm xs (ktI k) = none ∧ atN kvs k = none) ∨ ∃ c v d, atNm xs (ktI k) = some (c, v) ∧ atN kvs k = some d ∧ Rep K Z H S v d := by
  induction p with
  | nil => exact .inl ⟨rfl, rfl⟩
  | cons q r ih =>
    rename_i x y xs ys
    obtain ⟨kk, b, v⟩ := x
    obtain ⟨k2, d⟩ := y
    obtain ⟨e1, rk, rv⟩ := q
    have e1 : kk = ktI k2 := e1
    subst e1
    unfold atNm atN at ih ⊢
    by_cases c : k2 = k
    · rw [List.find?_cons, List.find?_cons]
      simp only [decide_eq_true c, decide_eq_true (show ktI k2 = ktI k by rw [c])]
      exact .inr ⟨b, v, d, rfl, rfl, rv⟩
    · rw [List.find?_cons, List.find?_cons]
      simp only [decide_eq_false c, decide_eq_false (show ¬ ktI k2 = ktI k from fun z => c (ktI_inj z))]
      exact ih
theorem nmp_put {xs : List (Kt × Addr × V)} {kvs : List (List Int × D)} (p : NmP K Z H S xs kvs) (k : List Int) {b : Addr} {v : V} {d : D} (rb : Rep K Z H S (.ref b) (.tup (k.map D.int))) (rv : Rep K Z H S v d) : NmP K Z H S (putNm xs (ktI k) b v) (putN kvs k d) := by
  have e : (atNm xs (ktI k)).isSome = (atN kvs k).isSome := by
    rcases nmp_at p k with ⟨h1, h2⟩ | ⟨_, _, _, h1, h2, _⟩ <;> rw [h1, h2] <;> rfl
  unfold putNm putN
  rw [e]
  split
  · rename_i hs
    clear hs e
    induction p with
    | nil => exact .nil
    | cons q r ih =>
      rename_i x y xs ys
      rw [List.map_cons, List.map_cons]
      refine .cons ?_ ih
      obtain ⟨e1, rk, rw⟩ := q
      by_cases c : y.1 = k
      · rw [if_pos c, if_pos (by rw [e1, c])]; exact ⟨e1, rk, rv⟩
      · rw [if_neg c, if_neg fun z => c (ktI_inj (e1.symm.trans z))]; exact ⟨e1, rk, rw⟩
  · exact paired_app p (.cons ⟨rfl, rb, rv⟩ .nil)
theorem nmp_len {xs : List (Kt × Addr × V)} {kvs : List (List Int × D)} (p : NmP K Z H S xs kvs) : xs.length = kvs.length := Paired.length p
/-- a store to a dict by names -/
theorem put_nm {a : Addr} {xs : List (Kt × Addr × V)} {kvs kvs0 : List (List Int × D)} (ok : StOk K T Z H S) (e : S a = some (.dN kvs0)) (r : NmP K Z H S xs kvs) :
    Ext H S (upd H a (NmO a xs)) (ups S a (.dN kvs)) ∧ StOk K T Z (upd H a (NmO a xs)) (ups S a (.dN kvs)) := by
  have x : Ext H S (upd H a (NmO a xs)) (ups S a (.dN kvs)) := .put e
  exact ⟨x, ok.put e ⟨xs, upd_same, L2.Paired.mapP r fun _ _ q => ⟨q.1, q.2.1.ext x, q.2.2.ext x⟩⟩⟩
/-- x in d -/
def rNmInD (neg : Bool) : DR2 := fun x y S Q => match namesAt S y, nameD x with
  | some kvs, some k => Q (.bl (if neg then !(atN kvs k).isSome else (atN kvs k).isSome)) S
  | _, _ => False
theorem d_nmIn (neg : Bool) : Op2 K T (rNmIn K neg) (rNmInD neg) := by
  intro Z H S vx vy x y Qd Q ok rx ry h k
  unfold rNmInD at h
  split at h
  · rename_i kvs ks e1 e2
    obtain ⟨p, rfl, e3⟩ := namesAt_some e1
    cases ry
    obtain ⟨xs, ha, pr⟩ := ok.obj p _ e3
    obtain ⟨b, rfl, rb⟩ := rep_name rx e2
    refine ⟨p, b, ktI ks, xs, rfl, rfl, ha, nmp_keys pr, rep_key rb, dp_ktI ks, ?_⟩
    have e : (atNm xs (ktI ks)).isSome = (atN kvs ks).isSome := by
      rcases nmp_at pr ks with ⟨h1, h2⟩ | ⟨_, _, _, h1, h2, _⟩ <;> rw [h1, h2] <;> rfl
    rw [e]
    exact k _ H _ S (.refl _ _) (.bl _) ok h
  · exact h.elim
end
section
variable {X : Cx} {T : Tb} {o i value f e : Expr} {pos pos' apos cpos : Pos}
theorem hu9N {k : Nat} (hr : Room k X.A) : X.A.units + 9 < cLine := by have := hr.un; omega
/-- d[k] -/
def dIxN (A B : DE) : DE := fun τ S Q => A τ S fun x S1 => B τ S1 fun y S2 => match namesAt S2 x, nameD y with
  | some kvs, some k => match atN kvs k with
    | some d => Q d S2
    | none => False
  | _, _ => False
theorem x_ixN {A B : DE} (hu : X.A.units + 9 < cLine) (ho : XE X T o A) (hi : XE X T i B) (hs : NoSl i := by exact fun _ _ => rfl) : XE X T (.Subscript o i pos) (dIxN A B) := by
  refine (pe_nmGet hu ho hi hs).imp fun σ H Q ⟨Z, τ, S, R, sl, ok, h, kk⟩ => ⟨Z, τ, S, _, sl, ok, h, fun vx H1 x S1 x1 r1 ok1 h1 => ?_⟩
  refine ⟨Z, τ, S1, _, sl.ext x1, ok1, h1, fun vy H2 y S2 x2 r2 ok2 h2 => ?_⟩
  split at h2
  · rename_i kvs ks e1 e2
    split at h2
    · rename_i d e3
      obtain ⟨p, rfl, e4⟩ := namesAt_some e1
      cases r1
      obtain ⟨xs, ha, pr⟩ := ok2.obj p _ e4
      obtain ⟨b, rfl, rb⟩ := rep_name r2 e2
      rcases nmp_at pr ks with ⟨h1, h2'⟩ | ⟨c, v, d', h1, h2', rv⟩
      · rw [e3] at h2'; cases h2'
      · rw [e3] at h2'; cases h2'
        exact ⟨p, b, ktI ks, xs, c, v, rfl, rfl, ha, nmp_keys pr, rep_key rb, dp_ktI ks, h1, kk v H2 d S2 (x1.trans x2) rv ok2 h2⟩
    · exact h2.elim
  · exact h2.elim
/-- d[k] = v -/
def dPutN (A O I : DE) : DS := fun E τ S => A τ S fun v S1 => O τ S1 fun o S2 => I τ S2 fun i S3 => match o with
  | .ref p => match S3 p, nameD i with
    | some (.dN kvs), some k => kvs.length ≤ 10000 ∧ E.nx τ (ups S3 p (.dN (putN kvs k v)))
    | _, _ => False
  | _ => False
theorem s_putN {A O J : DE} (hu : X.A.units + 9 < cLine) (ho : XE X T o O) (hi : XE X T i J) (hv : XE X T value A) (hs : swapsWith value (some (.Subscript o i pos')) pos.line X.env = pure false := by rfl) :
    XS X T (.Assign [.Subscript o i pos'] value pos) (dPutN A O J) := by
  refine (ps_nmPut hu ho hi hv hs).imp fun D σ H ⟨Z, τ, S, E, sl, ok, h, kk⟩ => ?_
  refine ⟨Z, τ, S, _, sl, ok, h, fun v H1 d S1 x1 r1 ok1 h1 => ?_⟩
  refine ⟨Z, τ, S1, _, sl.ext x1, ok1, h1, fun vo H2 dd S2 x2 r2 ok2 h2 => ?_⟩
  refine ⟨Z, τ, S2, _, sl.ext (x1.trans x2), ok2, h2, fun vi H3 di S3 x3 r3 ok3 h3 => ?_⟩
  split at h3
  · rename_i p
    split at h3
    · rename_i kvs ks e1 e2
      cases r2
      obtain ⟨xs, ha, pr⟩ := ok3.obj p _ e1
      obtain ⟨b, rfl, rb⟩ := rep_name r3 e2
      obtain ⟨x4, ok4⟩ := put_nm ok3 e1 (nmp_put pr ks rb (r1.ext (x2.trans x3)))
      have xx := x1.trans (x2.trans (x3.trans x4))
      exact ⟨p, b, ktI ks, xs, rfl, rfl, ha, nmp_keys pr, rep_key rb, dp_ktI ks, by rw [nmp_len pr, sizeLine_eq]; omega, kk.nx σ _ τ _ xx (sl.ext xx) ok4 h3.2⟩
    · exact h3.elim
  · exact h3.elim
/-- d.get(k, x) -/
def dGet2N (A B C : DE) : DE := fun τ S Q => A τ S fun x S1 => (namesAt S1 x).isSome = true ∧ B τ S1 fun y S2 => C τ S2 fun z S3 => match namesAt S3 x, nameD y with
  | some kvs, some k => Q ((atN kvs k).getD z) S3
  | _, _ => False
theorem x_get2N {A B C : DE} (hu : X.A.units + 9 < cLine) (ho : XE X T o A) (he : XE X T e B) (hf : XE X T f C) (m : M2 X o "get" apos e f cpos) : XE X T (.Call (.Attribute o "get" apos) [e, f] [] cpos) (dGet2N A B C) := by
  refine (pe_nmGet2 hu ho he hf m).imp fun σ H Q ⟨Z, τ, S, R, sl, ok, h, kk⟩ => ⟨Z, τ, S, _, sl, ok, h, fun vx H1 x S1 x1 r1 ok1 ⟨hs, h1⟩ => ?_⟩
  obtain ⟨kvs0, e0⟩ := Option.isSome_iff_exists.mp hs
  obtain ⟨p, rfl, e4⟩ := namesAt_some e0
  cases r1
  obtain ⟨xs0, ha0, pr0⟩ := ok1.obj p _ e4
  refine ⟨p, xs0, rfl, ha0, nmp_keys pr0, Z, τ, S1, _, sl.ext x1, ok1, h1, fun vy H2 y S2 x2 r2 ok2 h2 => ?_⟩
  refine ⟨Z, τ, S2, _, sl.ext (x1.trans x2), ok2, h2, fun vz H3 z S3 x3 r3 ok3 h3 => ?_⟩
  split at h3
  · rename_i kvs ks e1 e2
    obtain ⟨p', ep, e5⟩ := namesAt_some e1
    cases ep
    obtain ⟨xs, ha, pr⟩ := ok3.obj p _ e5
    obtain ⟨b, rfl, rb⟩ := rep_name (r2.ext x3) e2
    refine ⟨b, ktI ks, xs, rfl, ha, nmp_keys pr, rep_key rb, dp_ktI ks, ?_⟩
    rcases nmp_at pr ks with ⟨q1, q2⟩ | ⟨c, v, d', q1, q2, rv⟩
    · rw [q1]; rw [q2] at h3
      exact kk vz H3 z S3 (x1.trans (x2.trans x3)) r3 ok3 h3
    · rw [q1]; rw [q2] at h3
      exact kk v H3 d' S3 (x1.trans (x2.trans x3)) rv ok3 h3
  · exact h3.elim
/-- {}, {k: v} -/
def dNewN : DE := fun _ S Q => ∀ p, S p = none → Q (.ref p) (ups S p (.dN []))
theorem x_newN : XE X T (.Dict [] [] pos) dNewN :=
  pe_nm0.imp fun σ H Q ⟨Z, τ, S, R, sl, ok, h, k⟩ => fun p hp => k _ _ _ _ (.newS hp) (.ref p) (ok.newS (o := .dN []) hp ⟨[], upd_same, .nil⟩) (h p (ok.fresh hp))
def dNewN1 (A B : DE) : DE := fun τ S Q => ∀ p, S p = none → A τ (ups S p (.dN [])) fun y S1 => B τ S1 fun v S2 => S2 p = some (.dN []) ∧ ∃ k, nameD y = some k ∧ Q (.ref p) (ups S2 p (.dN [(k, v)]))
theorem x_newN1 {k v : Expr} {A B : DE} (hu : X.A.units + 9 < cLine) (hk : XE X T k A) (hv : XE X T v B) : XE X T (.Dict [some k] [v] pos) (dNewN1 A B) := by
  refine (pe_nm1 hu hk hv).imp fun σ H Q ⟨Z, τ, S, R, sl, ok, h, kk⟩ p hp => ?_
  have x0 : Ext H S (upd H p (NmO p [])) (ups S p (.dN [])) := .newS hp
  have ok0 : StOk X.K T Z (upd H p (NmO p [])) (ups S p (.dN [])) := ok.newS (o := .dN []) hp ⟨[], upd_same, .nil⟩
  refine ⟨Z, τ, _, _, sl.ext x0, ok0, h p (ok.fresh hp), fun vy H1 y S1 x1 r1 ok1 h1 => ?_⟩
  refine ⟨Z, τ, S1, _, sl.ext (x0.trans x1), ok1, h1, fun vz H2 z S2 x2 r2 ok2 ⟨e, ks, en, h2⟩ => ?_⟩
  obtain ⟨xs, ha, pr⟩ := ok2.obj p _ e
  cases pr
  obtain ⟨b, rfl, rb⟩ := rep_name (r1.ext x2) en
  obtain ⟨x4, ok4⟩ := put_nm (xs := [(ktI ks, b, vz)]) (kvs := [(ks, z)]) ok2 e (.cons ⟨rfl, rb, r2⟩ .nil)
  exact ⟨b, ktI ks, rfl, rep_key rb, dp_ktI ks, ha, kk _ _ _ _ (x0.trans (x1.trans (x2.trans x4))) (.ref p) ok4 h2⟩
end
end Dl

set_option Elab.async false
set_option linter.all false
set_option maxRecDepth 100000
set_option maxHeartbeats 2000000
namespace Dl
open PySem PySem.Spec PyProof.Rows L2 LamX
/-! ### the names of a dict, walked -/
def Itn (d : Addr) (o : Obj) (xs : List (Kt × Addr × V)) : It :=
  ⟨fun i H => H d = some (.frz o (NmO d xs)) ∧ i < xs.length, fun i H x H' => H' = H ∧ ∃ y, xs[i]? = some y ∧ x = .ref y.2.1, fun i H => H d = some (.frz o (NmO d xs)) ∧ xs.length ≤ i⟩
theorem pair_at {α β : Type} {R : α → β → Prop} : ∀ {l : List α} {m : List β} {i : Nat} {x : α}, Paired R l m → l[i]? = some x → ∃ y, m[i]? = some y ∧ R x y
  | _, _, _, _, .nil, h => by simp at h
  | _, _, 0, _, .cons p r, h => by simp at h; subst h; exact ⟨_, rfl, p⟩
  | _, _, i + 1, x, .cons p r, h => by
    obtain ⟨y, h1, h2⟩ := pair_at (i := i) (x := x) r (by simpa using h)
    exact ⟨y, by simpa using h1, h2⟩
theorem pair_at' {α β : Type} {R : α → β → Prop} : ∀ {l : List α} {m : List β} {i : Nat} {y : β}, Paired R l m → m[i]? = some y → ∃ x, l[i]? = some x ∧ R x y
  | _, _, _, _, .nil, h => by simp at h
  | _, _, 0, _, .cons p r, h => by simp at h; subst h; exact ⟨_, rfl, p⟩
  | _, _, i + 1, x, .cons p r, h => by
    obtain ⟨y, h1, h2⟩ := pair_at' (i := i) (y := x) r (by simpa using h)
    exact ⟨y, by simpa using h1, h2⟩
section
variable {X : Cx} {pins : List (Addr × Obj)} {σ : L2.St} {H : Hp} {s : Shared} {d : Addr} {o : Obj} {xs : List (Kt × Addr × V)}
theorem frzN (I : Inv X pins σ H s) (h : H d = some (.frz o (NmO d xs))) :
    (d == sysModules) = false ∧ s.heap.get? d = some o ∧ o.ExactDict ∧ ∃ (es : Array DictEntry) (ep : Nat), o.data = .dict es ep ∧ es.size = xs.length ∧ ∀ (i : Nat) (x : Kt × Addr × V), xs[i]? = some x → ∃ en : DictEntry, es[i]? = some en ∧ en.key = .ref x.2.1 := by
  obtain ⟨hd, ⟨n, o', es, ep, ys, h1, h2, h3, h4, h5, h6⟩, -⟩ := I.hok d _ h
  rw [hd] at h1
  cases h1
  refine ⟨n, hd, h2, es, ep, h3, ?_, fun i x e => ?_⟩
  · have l1 : es.toList.length = ys.length := by rw [h4, List.length_map]
    have l2 := Paired.length h6
    rw [Array.length_toList] at l1
    omega
  · obtain ⟨y, e1, e2⟩ := pair_at h6 e
    have q : es.toList[i]? = some (entK y) := by rw [h4, List.getElem?_map, e1]; rfl
    rw [Array.getElem?_toList] at q
    exact ⟨_, q, by show Value.ref y.2.1 = _; rw [e2.2.1]⟩
theorem turn_names {P : Program} {w : World} {K : PySem.W.Frag} {tg : Expr} {es : Array DictEntry} {ep : Nat} (it : Addr) (hod : o.data = .dict es ep) : Turn P w K tg (Itn d o xs) [it] it (fun i h => h.IsKeyIter it d i xs.length ep) where
  mem := by simp
  obj := fun i h st b hb => by
    have e : b = it := by simpa using hb
    subst e
    obtain ⟨oi, e, c, dd⟩ := st
    exact ⟨oi, e, fun v z => by rw [dd] at z; cases z⟩
  keep := fun i h h' st k => st.at fun oi e => k it (by simp) oi e
  item := by
    intro X hP hw hK hc i pins s σ H E I hf st hg
    subst hP hw hK
    obtain ⟨hd, hi⟩ := hg
    obtain ⟨f0, f1, f2, f3, f4, f5⟩ := hf it (by simp)
    obtain ⟨hs, hgd, hx, es', ep', hdt, hsz, ent⟩ := frzN I hd
    obtain ⟨rfl, rfl⟩ := dict_ep hod hdt
    obtain ⟨y, hkv⟩ : ∃ p, xs[i]? = some p := ⟨xs[i], List.getElem?_eq_getElem hi⟩
    obtain ⟨en, hen, hkey⟩ := ent i y hkv
    refine next_key_item st hgd hdt hsz hen fun h' st' sb => ?_
    have I1 : Inv X pins σ H { s with heap := h' } := I.turned (t' := s.toks) (fun b ob hb e => (sb.2 b hb).trans e) f0 f1 f3 f4 f5
    obtain ⟨oi, e, c, dd⟩ := id st'
    exact ⟨en.key, rfl, go_of (s := { s with heap := h' }) e c dd (by decide) ⟨.ref y.2.1, H, I1, hkey, ⟨rfl, y, hkv, rfl⟩, st', fun b hb => (hf b hb).1⟩⟩
  done := by
    intro X hP hw hK hc i pins s σ H E I hf st hg
    subst hP hw hK
    obtain ⟨hd, hi⟩ := hg
    obtain ⟨f0, f1, f2, f3, f4, f5⟩ := hf it (by simp)
    obtain ⟨hs, hgd, hx, es', ep', hdt, hsz, ent⟩ := frzN I hd
    obtain ⟨rfl, rfl⟩ := dict_ep hod hdt
    exact next_key_end (I.ok.hd hc) st hgd hdt hsz hi fun h' eb => ⟨rfl, I.turned (t' := s.toks) (fun b ob hb e => eb b ob hb e) f0 f1 f3 f4 f5⟩
  self := fun A i s Q E st h => by
    refine wpAny_pyIter_slot st.typeIs F.slot_dict_keyiterator_iter (wpAny_call_entry F.slot_dict_keyiterator_iter st.typeIs F.entry_dict_keyiterator_iter ?_ (F.args_dict_keyiterator_iter_1 _))
    show wpAny _ _ (ret (.ref it)) _ _ s
    exact wpAny_pure ⟨_, rfl, "dict_keyiterator", _, st.typeIs, F.slot_dict_keyiterator_next.lookup, h⟩
def iNames (td : TE) : TI := fun σ H R => td σ H fun x H1 => ∃ d o xs, x = .ref d ∧ H1 d = some (.frz o (NmO d xs)) ∧ R (Itn d o xs) H1
theorem pi_names {tg e : Expr} {td : TE} (he : PE X e td) : PI X tg e (iNames td) := by
  refine ⟨fun pins s σ H R I h => ?_⟩
  refine thn (he.run pins s σ H _ I h) fun u s1 ⟨x, H1, I1, rx, d, o, xs, ex, hd, q⟩ => ?_
  subst ex
  obtain rfl : u = Value.ref d := rx
  obtain ⟨hs, hgd, hx, es, ep, hdt, hsz, ent⟩ := frzN I1 hd
  refine iter_keys hs hgd hx hdt (pi_one (tk := s1.toks) I1 _ (turn_names _ hdt) ⟨_, Heap.get?_push_size _ rfl, rfl, ?_⟩ q)
  rw [hsz] <;> rfl
end
/-! ### as data -/
section
variable {K : PySem.W.Frag} {T : Tb} {Z : List Addr} {H : Hp} {S : Store} {p : Addr} {od : Obj} {xs : List (Kt × Addr × V)} {u : HO} {o : MO}
theorem own_ne (e : H p = some (.frz od (NmO p xs))) {a : Addr} {w : HO} (h : H a = some w) (n : w ≠ .frz od (NmO p xs)) : a ≠ p := fun z => by
  rw [z, e] at h
  exact n (Option.some.inj h).symm
theorem own_kp (e : H p = some (.frz od (NmO p xs))) (b : Addr) (w : HO) (n : S b = none) (h : H b = some w) (ne : w ≠ .frz od (NmO p xs)) : ups S p o b = none ∧ upd H p u b = some w :=
  ⟨by rw [ups_ne (own_ne e h ne)]; exact n, by rw [upd_ne (own_ne e h ne)]; exact h⟩
theorem own_rd (e : H p = some (.frz od (NmO p xs))) {a : Addr} {w : HO} (h : Rd H a w) (n : S a = none) (w1 : w ≠ .frz od (NmO p xs)) (w2 : w ≠ NmO p xs) : Rd (upd H p u) a w ∧ ups S p o a = none := by
  rcases h with h | ⟨o', h⟩
  · obtain ⟨h1, h2⟩ := own_kp (u := u) (o := o) e a _ n h w1
    exact ⟨.inl h2, h1⟩
  · obtain ⟨h1, h2⟩ := own_kp (u := u) (o := o) e a _ n h fun z => by cases z; exact w2 rfl
    exact ⟨.inr ⟨o', h2⟩, h1⟩
theorem lamO_frz {f : Addr} {F : LF} {w : HO} : LamO f F ≠ .frz od w := fun z => by unfold LamO at z; cases z
theorem codeO_frz {c : Addr} {q : Str} {w : HO} : CodeO c q ≠ .frz od w := fun z => by unfold CodeO at z; cases z
theorem nm_tup {vs : List V} : HO.tup vs ≠ NmO p xs := fun z => by unfold NmO at z; cases z
theorem nm_lst {vs : List V} : HO.lst vs ≠ NmO p xs := fun z => by unfold NmO at z; cases z
mutual
theorem Rep.own (e : H p = some (.frz od (NmO p xs))) : ∀ {v : V} {d : D}, Rep K Z H S v d → Rep K Z (upd H p u) (ups S p o) v d
  | _, _, .non => .non
  | _, _, .bl b => .bl b
  | _, _, .int i => .int i
  | _, _, .str z => .str z
  | _, _, .ref a => .ref a
  | _, _, .tup h r => .tup (h.imp (fun z => own_rd e z.1 z.2 (fun w => by cases w) nm_tup) id) (Reps.own e r)
  | _, _, .ptp h r => .ptp (h.imp (fun ⟨o', z1, z2, z3⟩ => let q := own_kp e _ _ z3 z1 (fun w => by cases w); ⟨o', q.2, z2, q.1⟩) id) (Reps.own e r)
  | _, _, .lst h n nz r => let q := own_kp e _ _ n h (fun w => by cases w); .lst q.2 q.1 nz (Reps.own e r)
  | _, _, .scr h => .scr (h.imp (fun z => let q := own_rd e z.1 z.2.1 (fun w => by cases w) nm_lst; ⟨q.1, q.2, z.2.2⟩) id)
  | _, _, .fn h r => .fn (let a := own_kp e _ _ h.ns h.at_ lamO_frz; let c := own_kp e _ _ h.nc h.co codeO_frz; ⟨a.2, a.1, c.2, c.1, fun t et => let d := h.df t et; let q := own_kp e _ _ d.2 d.1 (fun w => by cases w); ⟨q.2, q.1⟩⟩) (Reps.own e r)
  | _, _, .exc0 => .exc0
  | _, _, .exc1 h n r => let q := own_kp e _ _ n h (fun w => by cases w); .exc1 q.2 q.1 (Rep.own e r)
theorem Reps.own (e : H p = some (.frz od (NmO p xs))) : ∀ {vs : List V} {ds : List D}, Reps K Z H S vs ds → Reps K Z (upd H p u) (ups S p o) vs ds
  | _, _, .nil => .nil
  | _, _, .cons r t => .cons (Rep.own e r) (Reps.own e t)
end
theorem hide_ne {a : Addr} (h : a ≠ p) : hide S p a = S a := by unfold hide; rw [if_neg h]
theorem hide_same : hide S p p = none := by unfold hide; rw [if_pos rfl]
/-- locked -/
theorem lock_nm {kvs : List (List Int × D)} (ok : StOk K T Z H S) (e : S p = some (.dN kvs)) (hp : H p = some (NmO p xs)) : Ext H S (upd H p (.frz od (NmO p xs))) (hide S p) ∧ StOk K T Z (upd H p (.frz od (NmO p xs))) (hide S p) := by
  have ne : ∀ a, S a = none → a ≠ p := fun a n z => by rw [z, e] at n; cases n
  have x : Ext H S (upd H p (.frz od (NmO p xs))) (hide S p) := ⟨fun a o n h _ => ⟨by rw [hide_ne (ne a n)]; exact n, by rw [upd_ne (ne a n)]; exact h⟩⟩
  refine ⟨x, tabs_upd ok.tabs (.inr ⟨_, hp, nm_tbl, fun c q => nm_code⟩), fun z hz => ?_, fun b o eb => ?_⟩
  · obtain ⟨n, vs, h⟩ := ok.rsv z hz
    exact ⟨by rw [hide_ne (ne z n)]; exact n, vs, by rw [upd_ne (ne z n)]; exact h⟩
  · have nb : b ≠ p := fun z => by rw [z, hide_same] at eb; cases eb
    rw [hide_ne nb] at eb
    exact (ok.obj b o eb).other (p := p) (u := .frz od (NmO p xs)) x (upd_ne nb)
/-- unlocked -/
theorem unlock_nm {kvs : List (List Int × D)} (ok : StOk K T Z H S) (e : H p = some (.frz od (NmO p xs))) (n : S p = none) (pr : NmP K Z H S xs kvs) : StOk K T Z (upd H p (NmO p xs)) (ups S p (.dN kvs)) := by
  refine ⟨tabs_upd ok.tabs (.inr ⟨_, e, fun ps z => (by cases z), fun c q z => codeO_frz z.symm⟩), fun z hz => ?_, fun b o eb => ?_⟩
  · obtain ⟨nz, vs, h⟩ := ok.rsv z hz
    have q := own_kp (u := NmO p xs) (o := .dN kvs) e z _ nz h (fun w => by cases w)
    exact ⟨q.1, vs, q.2⟩
  · by_cases hb : b = p
    · subst hb
      rw [ups_same] at eb
      cases eb
      exact ⟨xs, upd_same, L2.Paired.mapP pr fun _ _ q => ⟨q.1, q.2.1.own e, q.2.2.own e⟩⟩
    · rw [ups_ne hb] at eb
      exact (ok.obj b o eb).map (fun v d r => r.own e) (fun vs ds r => r.own e) (upd_ne hb)
end
theorem lf_compG {K : PySem.W.Frag} {T : Tb} {Z : List Addr} {I : DI} {tg : Tg} {C : DT} {A : DE} {ws : List Nat} (hws : ∀ i ∈ tg.sl, i ∈ ws) {σ : L2.St} {H : Hp} {Q : VK} {τ : DSt} {S : Store} {G : List D → Store → Prop} (sl : Slots K Z H S σ τ) (ok : StOk K T Z H S) (h : dComp I tg C A ws τ S G)
    (k : ∀ p H1 vs ds S1, Ext H S H1 S1 → H1 p = some (.lst vs) → S1 p = none → p ∉ Z → (∀ a o, S a = none → H a = some o → (∀ ps, o ≠ .tbl ps) → a ≠ p) → Reps K (p :: Z) H1 S1 vs ds → StOk K T (p :: Z) H1 S1 → G ds S1 → Q (.ref p) H1) :
    ∃ G', I τ S G' ∧ ∀ J H1 ds S1, Ext H S H1 S1 → StOk K T Z H1 S1 → Wk K T Z tg J H1 S1 ds → G' ds S1 → tLc (fun _ _ R => R J H1) (tg.g K) (lfT K T C) (lf K T A) ws σ H1 Q := by
  refine ⟨_, h, fun J H1 ds S1 x1 ok1 wk ⟨hz, q⟩ D hD => ?_⟩
  have nD : S1 D = none := ok1.fresh hD
  have xD : Ext H1 S1 (upd H1 D (.lst [])) S1 := .new hD
  have nZ : D ∉ Z := fun q => by
    obtain ⟨_, vs, e⟩ := ok1.rsv D q
    rw [hD] at e; cases e
  have hDH : ∀ a o, S a = none → H a = some o → (∀ ps, o ≠ .tbl ps) → a ≠ D := fun a o n e nt z => by
    have q := x1.eq a o n e nt
    rw [z, hD] at q; cases q
  have zz : ∀ z ∈ D :: Z, z ∈ Z ∨ H1 z = none := fun z h => (List.mem_cons.mp h).elim (fun e => .inr (by rw [e]; exact hD)) .inl
  have sl1 := (sl.ext x1).map fun _ _ r => r.zw zz
  refine ⟨fun i m H' => m = ds.length - i ∧ i ≤ ds.length ∧ ∃ S' vs acc, Ext H1 S1 H' S' ∧ S' D = none ∧ H' D = some (.lst vs) ∧ Reps K (D :: Z) H' S' vs acc ∧ acc.length ≤ i ∧ StOk K T (D :: Z) H' S' ∧ compD tg C A (wipeD τ ws) (ds.drop i) acc S' G, ?_, ?_⟩
  · exact ⟨ds.length, by simp, Nat.zero_le _, S1, [], [], xD, nD, upd_same, .nil, Nat.zero_le _, ok1.zn hD, by simpa using q⟩
  · rintro i m H' ⟨rfl, hi, S', vs, acc, x2, n2, e2, r2, l2, ok2, q2⟩
    by_cases hlt : i < ds.length
    · rw [drop_at hlt] at q2
      refine .inr ⟨wk.go i H' S' x2 hlt, fun H3 => ∃ S3 vs3 acc3, Ext H1 S1 H3 S3 ∧ S3 D = none ∧ H3 D = some (.lst vs3) ∧ Reps K (D :: Z) H3 S3 vs3 acc3 ∧ acc3.length ≤ i + 1 ∧ StOk K T (D :: Z) H3 S3 ∧ compD tg C A (wipeD τ ws) (ds.drop (i + 1)) acc3 S3 G, fun H3 ⟨S3, vs3, acc3, a1, a2, a3, a4, a5, a6, a7⟩ => ⟨ds.length - (i + 1), by omega, rfl, hlt, S3, vs3, acc3, a1, a2, a3, a4, a5, a6, a7⟩, fun v H3 y => ?_⟩
      obtain ⟨x3, ok3, r3⟩ := wk.yld (D :: Z) i ds[i] H' S' v H3 zz x2 ok2 (by simp [hlt]) y
      unfold compD at q2
      cases et : tg.d (wipeD τ ws) ds[i] with
      | none => rw [et] at q2; exact q2.elim
      | some τ' =>
        rw [et] at q2
        have slw : Slots K (D :: Z) H3 S' (L2.wipe σ ws) (wipeD τ ws) := ((sl1.ext (x2.trans x3)).wipe ws)
        refine Tg.of r3 slw et fun σ3 sl3 hw => ⟨?_, ?_⟩
        · rw [hw ws hws]
          exact wipe_idem ws
        · refine ⟨D :: Z, τ', S', _, sl3, ok3, q2, fun b H4 S4 x4 ok4 q4 => ?_⟩
          have x34 := x3.trans x4
          have e4 : H4 D = some (.lst vs) := x34.eq D _ n2 e2 fun ps z => (by cases z)
          have n4 := x34.hid D _ n2 e2 fun ps z => (by cases z)
          cases b with
          | false => exact ⟨S4, vs, acc, x2.trans x34, n4, e4, r2.ext x34, by omega, ok4, q4⟩
          | true =>
            refine ⟨D :: Z, τ', S4, _, sl3.ext x4, ok4, q4, fun w H5 d5 S5 x5 r5 ok5 q5 => ?_⟩
            have x35 := x34.trans x5
            have e5 : H5 D = some (.lst vs) := x5.eq D _ n4 e4 fun ps z => (by cases z)
            have n5 := x5.hid D _ n4 e4 fun ps z => (by cases z)
            have inD : D ∈ D :: Z := List.mem_cons_self
            refine ⟨vs, e5, ?_, S5, vs ++ [w], acc ++ [d5], ?_, n5, upd_same, ?_, by simp; omega, ?_, q5⟩
            · rw [r2.length]; omega
            · exact (x2.trans x35).hset hD
            · exact ((r2.ext x35).append (.cons r5 .nil)).hset e5 inD
            · exact ok5.hset e5 inD
    · have e : i = ds.length := by omega
      subst e
      rw [List.drop_length] at q2
      exact .inl ⟨wk.stop _ H' S' x2 (Nat.le_refl _), k D H' vs acc S' (x1.trans x2) e2 n2 nZ hDH r2 ok2 q2⟩
def lfIN (K : PySem.W.Frag) (T : Tb) (tg : Tg) (A : DE) : TI := fun σ H R => ∃ (p : Addr) (kvs : List (List Int × D)) (xs : List (Kt × Addr × V)) (od : Obj) (Z : List Addr) (τ : DSt) (S : Store) (G : List D → Store → Prop), H p = some (.frz od (NmO p xs)) ∧ S p = none ∧ NmP K Z H S xs kvs ∧ Slots K Z H S σ τ ∧ StOk K T Z H S ∧ A τ S (fun d S1 => d = .ref p ∧ G (kvs.map fun kv => D.tup (kv.1.map D.int)) S1) ∧
  ∀ J H' ds S', Ext H S H' S' → StOk K T Z H' S' → Wk K T Z tg J H' S' ds → G ds S' → R J H'
section
variable {X : Cx} {T : Tb} {e tgt elt iter : Expr} {A E : DE} {C : DT} {i : Nat} {own : List (Str × Nat)} {ifs : List Expr} {scope : Scope} {pos : Pos}
theorem i_names (h : XE X T e A) : PI X tgt e (lfIN X.K T (.nm i) A) := by
  refine (pi_names h).imp fun σ H R ⟨p, kvs, xs, od, Z, τ, S, G, e0, n0, pr, sl, ok, hA, k⟩ => ?_
  refine ⟨Z, τ, S, _, sl, ok, hA, fun v H1 d S1 x1 r1 ok1 ⟨ed, g⟩ => ?_⟩
  subst ed
  cases r1
  have e1 := x1.eq p _ n0 e0 (fun ps z => by cases z)
  refine ⟨p, od, xs, rfl, e1, k _ H1 _ S1 x1 ok1 ?_ g⟩
  have pr1 : NmP X.K Z H1 S1 xs kvs := L2.Paired.mapP pr fun _ _ q => ⟨q.1, q.2.1.ext x1, q.2.2.ext x1⟩
  have n1 := x1.hid p _ n0 e0 (fun ps z => by cases z)
  have ll := nmp_len pr1
  refine ⟨fun i H2 S2 x h => ⟨x.eq p _ n1 e1 (fun ps z => by cases z), ?_⟩, fun Z2 i d H2 S2 v H3 hz x ok hd ⟨eh, y, hy, ev⟩ => ?_, fun i H2 S2 x h => ⟨x.eq p _ n1 e1 (fun ps z => by cases z), ?_⟩⟩
  · rw [List.length_map] at h; omega
  · subst eh; subst ev
    obtain ⟨kv, h1, e2, rk, _⟩ := pair_at pr1 hy
    rw [List.getElem?_map, h1] at hd
    cases hd
    exact ⟨.refl _ _, ok, Tg.rep_of ((rk.zw fun z hz' => hz z hz').ext x)⟩
  · rw [List.length_map] at h; omega
/-- [elt for x in d if c] -/
def dLcN (A : DE) (tg : Tg) (C : DT) (E : DE) (ws : List Nat) : DE := fun τ S Q => ∃ p kvs, S p = some (.dN kvs) ∧ dComp (fun τ S G => A τ S fun d S1 => d = .ref p ∧ G (kvs.map fun kv => D.tup (kv.1.map D.int)) S1) tg C E ws τ (hide S p) fun ds S1 => Q (.lst ds) (ups S1 p (.dN kvs))
theorem x_lcN (hc : X.calm = true) (hN : X.N.Nodup) (ha : XE X T iter A) (ok : BlkOk X.N X.env.scope scope own) (hg : Blk X scope fun Y => PG Y tgt ((Tg.nm i).g Y.K)) (ht : Blk X scope fun Y => XTs Y T ifs C) (he : Blk X scope fun Y => XE Y T elt E)
    (hws : ∀ j ∈ (Tg.nm i).sl, j ∈ own.map (·.2)) (hs : ∀ x, foldedSetIterable iter X.env x = pure x := by intro _; rfl) : XE X T (.ListComp elt [⟨tgt, iter, ifs, 0⟩] scope pos) (dLcN A (.nm i) C E (own.map (·.2))) := by
  refine (pe_lock (pe_lc (g := (Tg.nm i).g X.K) (tt := lfT X.K T C) (te := lf X.K T E) hc hN (i_names (i := i) ha) ok hg ht he hs)).imp fun σ H Q ⟨Z, τ, S, R, sl, ok, ⟨p, kvs, ep, h⟩, k⟩ => ?_
  obtain ⟨xs, hp, pr⟩ := ok.obj p _ ep
  refine ⟨p, NmO p xs, hp, trivial, fun od => ?_⟩
  obtain ⟨x0, ok0⟩ := lock_nm (od := od) ok ep hp
  have pr0 : NmP X.K Z (upd H p (.frz od (NmO p xs))) (hide S p) xs kvs := L2.Paired.mapP pr fun _ _ q => ⟨q.1, q.2.1.ext x0, q.2.2.ext x0⟩
  obtain ⟨G', h', k'⟩ := lf_compG (T := T) (tg := .nm i) (C := C) (A := E) (Q := fun v H' => H' p = some (.frz od (NmO p xs)) ∧ Q v (upd H' p (NmO p xs))) hws (sl.ext x0) ok0 h fun pL H1 vs ds S1 x1 e1 n1 nz _ r1 ok1 g => by
    have ep1 := x1.eq p _ hide_same upd_same (fun ps z => by cases z)
    have np1 := x1.hid p _ hide_same upd_same (fun ps z => by cases z)
    have ok1' := ok1.zs fun z h => List.mem_cons_of_mem _ h
    have pr1 : NmP X.K Z H1 S1 xs kvs := L2.Paired.mapP pr0 fun _ _ q => ⟨q.1, q.2.1.ext x1, q.2.2.ext x1⟩
    refine ⟨ep1, k (.ref pL) _ (.lst ds) (ups S1 p (.dN kvs)) ⟨fun a o n h nt => ?_⟩ ?_ (unlock_nm ok1' ep1 np1 pr1) g⟩
    · have ne : a ≠ p := fun z => by rw [z, ep] at n; cases n
      obtain ⟨q1, q2⟩ := x1.st a o (by rw [hide_ne ne]; exact n) (by rw [upd_ne ne]; exact h) nt
      exact ⟨by rw [ups_ne ne]; exact q1, by rw [upd_ne ne]; exact q2⟩
    · exact Rep.own ep1 (.lst e1 n1 nz (r1.zs fun z h => List.mem_cons_of_mem _ h))
  exact ⟨p, kvs, xs, od, Z, τ, hide S p, _, upd_same, hide_same, pr0, sl.ext x0, ok0, h', fun J H1 ds S1 x1 ok1 wk g => k' J H1 ds S1 x1 ok1 wk g⟩
end
end Dl

set_option Elab.async false
set_option linter.all false
set_option maxRecDepth 100000
set_option maxHeartbeats 2000000
namespace Dl
open PySem PySem.Spec PyProof.Rows L2 LamX
section
variable {X : Cx} {CX : CXT} {k : Nat} {f C : Addr} {fd : FuncData} {ps : List Str} {sp : Sp} {E : L2.St → XK} {x m : Str} {p pos apos : Pos} {e o : Expr} {es : List Expr} {ta : TE} {t : TA}
/-- o.m(e, ..), m may raise -/
def tMethE (C : Addr) (m : Str) (sp : Sp) (E : L2.St → XK) (ta : TE) (t : TA) : TE := fun σ H Q => ta σ H fun x H1 => ∃ a dx fs, x = .ref a ∧ H1 a = some (.ins C dx fs) ∧ fs.lookup m = none ∧ t σ H1 fun vs H2 => sp (x :: vs) H2 Q (E σ)
theorem pe_methE {pl : Sem Bool} (he : PE X o ta) (c : Cls X.K C) (hm : Meth X.K C m f) (F : FnOk X.prog X.w X.K X.mg X.base CX k f fd ps sp) (hr : Room k X.A) (hb : Binds X.K fd ps []) (hx : ∀ σ, PassesAt CX X σ (E σ)) (ha : PA X (e :: es) t)
    (hst : starEach (e :: es) X.env = (false, eval e X.env) :: starEach es X.env := by rfl) (hpl : (backTo pos (starEach es X.env)).any (·.1) = false := by rfl)
    (ht : eval (.Call (.Attribute o m apos) (e :: es) [] pos) X.env = (do
      let ov ← eval o X.env
      standAt apos.atName
      let (f, first) ← holding [ov] (getMethod ov m pl)
      callWith pos f first (backTo pos (starEach (e :: es) X.env)) (backToKw pos (keywordEach [] X.env))) := by rfl) :
    PE X (.Call (.Attribute o m apos) (e :: es) [] pos) (tMethE C m sp E ta t) := by
  refine ⟨fun pins s σ H Q I h => ?_⟩
  refine PySem.W.methodCall_KW (pl := pl) (thn (he.run pins s σ H _ I h) fun u s1 ⟨x, H1, I1, rx, a, dx, fs, ex, ea, l, q⟩ => ?_) ht
  subst ex
  obtain rfl : u = Value.ref a := rx
  refine getmeth_ok I1 ea c hm l ?_
  refine PySem.W.callWith_K (first := [.ref a]) (h₀ := X.base) I.ok.mod.kin hm.kp (thn (ha.run pos pins s1 σ H1 _ I1 q) fun us s2 ⟨vs, H2, I2, r, q2⟩ => ⟨I2.kIn, ?_⟩) hst hpl
  exact run_fnS (us := .ref a :: us) (vs := .ref a :: vs) F hr hb (hx σ) I2 (.cons rfl r) q2
end
/-- a method that may raise -/
structure DMy (P : Program) (w : World) (K : PySem.W.Frag) (mg : Str → Option Value) (base : Heap) (T : Tb) (k : Nat) (C : Addr) (m : Str) (dsp : DSy) : Prop where
  ex : ∃ (fa : Addr) (fd : FuncData) (ps : List Str), Meth K C m fa ∧ Binds K fd ps [] ∧ FnOk P w K mg base (L2N.CX P w) k fa fd ps (lspy K T mg dsp)
section
variable {X : Cx} {T : Tb} {W : WX} {e o : Expr} {es : List Expr} {pos apos p : Pos} {x m : Str} {k : Nat} {C : Addr} {dsp : DSy} {O : DE} {A : DA}
def dMethY (C : Addr) (m : Str) (dsp : DSy) (O : DE) (A : DA) : DEy := fun τ S Q RE => O τ S fun d S1 => insC S1 d C m ∧ A τ S1 fun ds S2 => dsp (d :: ds) S2 Q RE
theorem xy_meth {pl : Sem Bool} (tk : L2N.Takes X W) (F : DMy X.prog X.w X.K X.mg X.base T k C m dsp) (hr : Room k X.A) (ho : XE X T o O) (ha : XA X T (e :: es) A) (hc : Cls X.K C)
    (hst : starEach (e :: es) X.env = (false, eval e X.env) :: starEach es X.env := by rfl) (hpl : (backTo pos (starEach es X.env)).any (·.1) = false := by rfl)
    (ht : eval (.Call (.Attribute o m apos) (e :: es) [] pos) X.env = (do
      let ov ← eval o X.env
      standAt apos.atName
      let (f, first) ← holding [ov] (getMethod ov m pl)
      callWith pos f first (backTo pos (starEach (e :: es) X.env)) (backToKw pos (keywordEach [] X.env))) := by rfl) :
    XEy X T W (.Call (.Attribute o m apos) (e :: es) [] pos) (dMethY C m dsp O A) := by
  obtain ⟨fa, fd, ps, M, hb, F⟩ := F.ex
  refine (pe_methE ho hc M F hr hb (fun σ => L2N.passAt tk σ) ha hst hpl ht).imp fun σ H Q ⟨Z, τ, S, R, RE, sl, ok, h, kk, ky⟩ => ⟨Z, τ, S, _, sl, ok, h, fun vo H1 d S1 x1 r1 ok1 ⟨⟨a, fds, ed, e1, ln⟩, h1⟩ => ?_⟩
  subst ed
  cases r1
  obtain ⟨oc, _, dx, fvs, e3, r⟩ := ok1.obj a _ e1
  refine ⟨a, dx, fvs, rfl, e3, r.lookup_none m ln, Z, τ, S1, _, sl.ext x1, ok1, h1, fun vs H2 ds S2 x2 r2 ok2 h2 => ?_⟩
  exact ⟨Z, _, S2, _, _, .cons (.ref a) r2, ok2, h2, fun v H' d S' x r ok' q => kk v H' d S' (x1.trans (x2.trans x)) r ok' q, fun nm C ps d H' S' x ok' g p q => ky nm C ps d H' S' (x1.trans (x2.trans x)) ok' g p q⟩
/-- called where nothing is let out -/
def dMethN2 (C : Addr) (m : Str) (dsp : DSy) (O : DE) (A : DA) : DE := fun τ S Q => O τ S fun d S1 => insC S1 d C m ∧ A τ S1 fun ds S2 => dsp (d :: ds) S2 Q fun _ _ _ => False
theorem x_methN2 {pl : Sem Bool} (F : DMy X.prog X.w X.K X.mg X.base T k C m dsp) (hr : Room k X.A) (ho : XE X T o O) (ha : XA X T (e :: es) A) (hc : Cls X.K C)
    (hst : starEach (e :: es) X.env = (false, eval e X.env) :: starEach es X.env := by rfl) (hpl : (backTo pos (starEach es X.env)).any (·.1) = false := by rfl)
    (ht : eval (.Call (.Attribute o m apos) (e :: es) [] pos) X.env = (do
      let ov ← eval o X.env
      standAt apos.atName
      let (f, first) ← holding [ov] (getMethod ov m pl)
      callWith pos f first (backTo pos (starEach (e :: es) X.env)) (backToKw pos (keywordEach [] X.env))) := by rfl) :
    XE X T (.Call (.Attribute o m apos) (e :: es) [] pos) (dMethN2 C m dsp O A) := by
  obtain ⟨fa, fd, ps, M, hb, F⟩ := F.ex
  refine (pe_meth ho hc M F hr hb .nil passN ha hst hpl ht).imp fun σ H Q ⟨Z, τ, S, R, sl, ok, h, kk⟩ => ⟨Z, τ, S, _, sl, ok, h, fun vo H1 d S1 x1 r1 ok1 ⟨⟨a, fds, ed, e1, ln⟩, h1⟩ => ?_⟩
  subst ed
  cases r1
  obtain ⟨oc, _, dx, fvs, e3, r⟩ := ok1.obj a _ e1
  refine ⟨a, dx, fvs, rfl, e3, r.lookup_none m ln, Z, τ, S1, _, sl.ext x1, ok1, h1, fun vs H2 ds S2 x2 r2 ok2 h2 => ?_⟩
  show lspy X.K T X.mg dsp (.ref a :: (vs ++ [])) H2 Q E0
  rw [List.append_nil]
  exact ⟨Z, _, S2, R, _, .cons (.ref a) r2, ok2, h2, fun v H' d S' x => kk v H' d S' (x1.trans (x2.trans x)), fun _ _ _ _ _ _ _ _ _ _ z => z.elim⟩
/-- C(..), __init__ may raise, called where nothing is let out -/
structure DMkY (P : Program) (w : World) (K : PySem.W.Frag) (mg : Str → Option Value) (base : Heap) (T : Tb) (k : Nat) (x : Str) (C : Addr) (dsp : DSy) : Prop where
  ex : ∃ (fa : Addr) (fd : FuncData) (ps : List Str), mg x = some (.ref C) ∧ Mk K C fa ∧ Binds K fd ps [] ∧ FnOk P w K mg base (L2N.CX P w) k fa fd ps (lspy K T mg dsp)
  own : OwnC K C
def dMakeN2 (C : Addr) (dsp : DSy) (A : DA) : DE := fun τ S Q => A τ S fun ds S1 => ∀ a, S1 a = none → dsp (.ref a :: ds) (ups S1 a (.ins C [])) (fun v S2 => v = .non ∧ Q (.ref a) S2) fun _ _ _ => False
theorem x_makeN2 (F : DMkY X.prog X.w X.K X.mg X.base T k x C dsp) (hr : Room (k + 1) X.A) (hg : Gl X x) (ha : XA X T (e :: es) A)
    (hdb : (x == ("__debug__" : Str)) = false := by decide) (he : starEach (e :: es) X.env = (false, eval e X.env) :: starEach es X.env := by rfl) (hpl : (backTo pos (starEach es X.env)).any (·.1) = false := by rfl) :
    XE X T (.Call (.Name x p) (e :: es) [] pos) (dMakeN2 C dsp A) := by
  obtain ⟨⟨fa, fd, ps, hm, M, hb, F⟩, oc⟩ := F
  refine (pe_make M F hr hg hm hb .nil passN ha hdb he hpl).imp fun σ H Q ⟨Z, τ, S, R, sl, ok, h, kk⟩ => ⟨Z, τ, S, _, sl, ok, h, fun vs H1 ds S1 x1 r1 ok1 h1 => ?_⟩
  intro a dx ha hdx ne
  rw [List.append_nil]
  have y1 : Ext H1 S1 (upd H1 dx (.own a)) S1 := .new hdx
  have o1 := ok1.new (u := .own a) hdx
  have ha' : (upd H1 dx (.own a)) a = none := by rw [upd_ne (Ne.symm ne)]; exact ha
  have y2 : Ext (upd H1 dx (.own a)) S1 (upd (upd H1 dx (.own a)) a (.ins C dx [])) (ups S1 a (.ins C [])) := .newS ha'
  have o2 : StOk X.K T Z (upd (upd H1 dx (.own a)) a (.ins C dx [])) (ups S1 a (.ins C [])) := o1.newS ha' ⟨oc, Nat.zero_le _, dx, [], upd_same, .nil⟩
  have yy := y1.trans y2
  refine ⟨Z, _, _, _, _, .cons (.ref a) (r1.ext yy), o2, h1 a (ok1.fresh ha), fun v H' d S' xx rv ok' ⟨ev, q⟩ => ?_, fun _ _ _ _ _ _ _ _ _ _ z => z.elim⟩
  subst ev
  cases rv
  exact ⟨rfl, kk _ _ _ _ (x1.trans (yy.trans xx)) (.ref a) ok' q⟩
end
/-! ### the greatest of a list of data -/
def rMaxV (K : PySem.W.Frag) : List V → Hp → VK → Prop := fun vs H Q => ∃ (a : Addr) (xs : List V) (d : PyData) (ds : List PyData), vs = [.ref a] ∧ SqL K H a xs ∧ DpAll K H xs (d :: ds) ∧ PySem.W.AlikeAll (d :: ds) ∧ PyData.depthAll (d :: ds) ≤ 40 ∧
  ∀ (i : Nat) (v : V), xs[i]? = some v → (d :: ds)[i]? = some (PySem.W.maxD d ds) → Q v H
section
variable {X : Cx} {K : PySem.W.Frag} {T : Tb}
theorem vals_at : ∀ {vs : List V} {us : List Value} {i : Nat} {u : Value}, Vals vs us → us[i]? = some u → ∃ v, vs[i]? = some v ∧ RelV v u := fun h e => by
  obtain ⟨v, h1, h2⟩ := pair_at' h e
  exact ⟨v, h1, h2⟩
theorem dpAll_at : ∀ {vs : List V} {ds : List PyData} {H : Hp} {i : Nat} {v : V}, DpAll K H vs ds → vs[i]? = some v → ∃ d, ds[i]? = some d ∧ Dp K H v d
  | _, _, _, _, _, .nil, h => by simp at h
  | _, _, _, 0, _, .cons r _, h => by simp at h; subst h; exact ⟨_, rfl, r⟩
  | _, _, _, i + 1, _, .cons _ t, h => by
    obtain ⟨d, h1, h2⟩ := dpAll_at (i := i) t (by simpa using h)
    exact ⟨d, by simpa using h1, h2⟩
theorem cr_maxD (hc : X.calm = true) (hu : X.A.units + 80 < cLine) : CallR X (.builtin "max") (rMaxV X.K) := by
  intro pins s σ H vs us Q I r h
  obtain ⟨a, xs, d, ds, rfl, hs, hd, al, dp, q⟩ := h
  obtain ⟨its, rv, hl, _⟩ := I.list hs
  rw [Vals.ref1 r]
  obtain ⟨as, hr⟩ := Dp.readsAll I _ _ _ hd rv
  refine PySem.W.max_list_data (vs := its.toArray) (I.ok.hd hc) hl.isList (by simpa using hr) al (by omega) fun i v h' tk bs hv r1 hk => ?_
  have hv' : its[i]? = some v := by simpa using hv
  obtain ⟨w, e1, rw1⟩ := vals_at rv hv'
  obtain ⟨dd, e2, dp2⟩ := dpAll_at hd e1
  obtain ⟨cs, r2⟩ := Dp.reads I dd w v dp2 rw1
  have e3 := ((Reads.keeps hk r2).unique _ _ r1).1
  exact ⟨w, H, I.kept hk, rw1, q i w e1 (by rw [e2, e3])⟩
theorem max_most (d : PyData) : ∀ (ds : List PyData) (a : PyData) (seen : List PyData), (∀ x ∈ seen, PySem.W.dataLt a x = false) → ∀ x, x ∈ seen ∨ x ∈ ds → PySem.W.dataLt (ds.foldl (fun a y => if PySem.W.dataLt a y then y else a) a) x = false
  | [], a, seen, h, x, hx => h x (hx.elim id fun z => by cases z)
  | y :: ds, a, seen, h, x, hx => by
    rw [List.foldl_cons]
    have irr : PySem.W.dataLt y y = false := PyProof.Rows.lex_irrefl _
    refine max_most d ds _ (y :: seen) (fun z hz => ?_) x (hx.elim (fun q => .inl (List.mem_cons_of_mem _ q)) fun q => (List.mem_cons.mp q).elim (fun e => .inl (by rw [e]; exact List.mem_cons_self)) .inr)
    split
    · rename_i c
      rcases List.mem_cons.mp hz with rfl | hz
      · exact irr
      · cases e : PySem.W.dataLt y z with
        | false => rfl
        | true =>
          have := PyProof.Rows.lex_trans _ _ _ c e
          rw [show PyProof.Rows.lexLt PyProof.Rows.itemOrd (PySem.W.keyToks a) (PySem.W.keyToks z) = PySem.W.dataLt a z from rfl, h z hz] at this
          cases this
    · rename_i c
      rcases List.mem_cons.mp hz with rfl | hz
      · simpa using c
      · exact h z hz
theorem maxD_most (d : PyData) (ds : List PyData) : ∀ x ∈ d :: ds, PySem.W.dataLt (PySem.W.maxD d ds) x = false := fun x hx =>
  max_most d ds d [d] (fun x hx => by rw [List.mem_singleton.mp hx]; exact PyProof.Rows.lex_irrefl _) x ((List.mem_cons.mp hx).elim (fun e => .inl (by rw [e]; exact List.mem_cons_self)) .inr)
theorem pair_lt {g g' : Int} {r r' : List PyData} (h : g < g') : PySem.W.dataLt (.tuple (.int g :: r)) (.tuple (.int g' :: r')) = true := by
  unfold PySem.W.dataLt
  simp only [PySem.W.keyToks, PySem.W.keyToksAll]
  rw [PyProof.Rows.lex_self, List.singleton_append, List.singleton_append, PyProof.Rows.lex_diff (fun e => by have := Sum.inl.inj e; omega)]
  simp [PyProof.Rows.itemOrd, PyProof.Rows.itemLt, h]
def encGN (p : Int × List Int) : D := .tup [.int p.1, .tup (p.2.map D.int)]
theorem pys_ints : ∀ ns : List Int, pys (ns.map D.int) = ns.map PyData.int
  | [] => by simp [pys]
  | n :: r => by rw [List.map_cons, pys, pys_ints r]; simp [py]
theorem py_GN (p : Int × List Int) : py (encGN p) = .tuple [.int p.1, .tuple (p.2.map PyData.int)] := by
  unfold encGN
  simp only [py, pys, pys_ints]
theorem alikeI : ∀ a b : List Int, PySem.W.alikeAll (a.map PyData.int) (b.map PyData.int) = true
  | [], _ => by simp [PySem.W.alikeAll]
  | _ :: _, [] => by simp [PySem.W.alikeAll]
  | x :: a, y :: b => by simp only [List.map_cons, PySem.W.alikeAll, PySem.W.alike, Bool.true_and]; exact alikeI a b
theorem alike_GN (p q : Int × List Int) : PySem.W.alike (py (encGN p)) (py (encGN q)) = true := by
  rw [py_GN, py_GN]
  simp only [PySem.W.alike, PySem.W.alikeAll, Bool.true_and, Bool.and_true]
  exact alikeI _ _
theorem depI : ∀ a : List Int, PyData.depthAll (a.map PyData.int) ≤ 1
  | [] => by simp [PyData.depthAll]
  | x :: a => by simp only [List.map_cons, PyData.depthAll, PyData.depth]; have := depI a; omega
theorem depGN : ∀ l : List (Int × List Int), PyData.depthAll (pys (l.map encGN)) ≤ 5
  | [] => by simp [pys, PyData.depthAll]
  | p :: l => by
    simp only [List.map_cons, pys, py_GN, PyData.depthAll, PyData.depth]
    have := depGN l
    have := depI p.2
    omega
theorem pys_len : ∀ l : List D, (pys l).length = l.length
  | [] => by simp [pys]
  | d :: l => by rw [pys, List.length_cons, List.length_cons, pys_len l]
theorem pys_get : ∀ (l : List D) (i : Nat), (pys l)[i]? = (l[i]?).map py
  | [], i => by simp [pys]
  | d :: l, 0 => by simp [pys]
  | d :: l, i + 1 => by simp only [pys, List.getElem?_cons_succ]; exact pys_get l i
theorem okd_GN (n : Nat) (p : Int × List Int) : okd (n + 2) (encGN p) = true := by
  unfold encGN
  simp only [okd, okds, Bool.and_true, Bool.true_and]
  have : ∀ (m : Nat) (l : List Int), okds m (l.map D.int) = true := fun m l => by
    induction l with
    | nil => simp [okds]
    | cons a l ih => simp only [List.map_cons, okds, okd, ih, Bool.and_self]
  exact this _ _
theorem okds_GN (n : Nat) : ∀ l : List (Int × List Int), okds (n + 2) (l.map encGN) = true
  | [] => by simp [okds]
  | p :: l => by rw [List.map_cons, okds, okd_GN n p, okds_GN n l]; rfl
/-- max([(g, name), ..]) -/
def rMaxGD : DRL := fun ds S Q => match ds with
  | [d] => ∃ ns : List (Int × List Int), ns ≠ [] ∧ deref S d = .lst (ns.map encGN) ∧ ∀ p ∈ ns, (∀ q ∈ ns, q.1 ≤ p.1) → Q (encGN p) S
  | _ => False
theorem d_maxG : CallD K T (rMaxV K) rMaxGD := by
  intro Z H S vs ds Qd Q ok rs h k
  unfold rMaxGD at h
  split at h
  · obtain ⟨ns, ne, e, h⟩ := h
    cases rs with
    | cons r t =>
      cases t
      obtain ⟨a, xs, rfl, hs, rr⟩ := lst_at ok r e
      cases ns with
      | nil => exact absurd rfl ne
      | cons p0 l =>
        have dps : DpAll K H xs (pys ((p0 :: l).map encGN)) := rr.dp (okds_GN 10 (p0 :: l))
        rw [List.map_cons, pys] at dps
        refine ⟨a, xs, py (encGN p0), pys (l.map encGN), rfl, hs, dps, ?_, ?_, fun i v hv hm => ?_⟩
        · have all : ∀ x ∈ py (encGN p0) :: pys (l.map encGN), ∃ p, x = py (encGN p) := fun x hx => by
            have hx' : x ∈ pys ((p0 :: l).map encGN) := by rw [List.map_cons, pys]; exact hx
            obtain ⟨i, hi⟩ := List.mem_iff_getElem?.mp hx'
            rw [pys_get, List.getElem?_map] at hi
            obtain ⟨y, h1, h2⟩ := Option.map_eq_some_iff.mp hi
            obtain ⟨p, _, rfl⟩ := Option.map_eq_some_iff.mp h1
            exact ⟨p, h2.symm⟩
          refine ⟨fun x hx y hy => ?_, fun x hx => ?_⟩
          · obtain ⟨p, rfl⟩ := all x hx
            obtain ⟨q, rfl⟩ := all y hy
            exact alike_GN p q
          · obtain ⟨p, rfl⟩ := all x hx
            rw [py_GN]
            exact fun z => by cases z
        · have := depGN (p0 :: l)
          rw [List.map_cons, pys] at this
          omega
        · have e1 : (pys ((p0 :: l).map encGN))[i]? = some (PySem.W.maxD (py (encGN p0)) (pys (l.map encGN))) := by rw [List.map_cons, pys]; exact hm
          rw [pys_get, List.getElem?_map] at e1
          obtain ⟨y, h1, h2⟩ := Option.map_eq_some_iff.mp e1
          obtain ⟨p, h3, rfl⟩ := Option.map_eq_some_iff.mp h1
          obtain ⟨d, e2, rd⟩ := rr.get' hv
          rw [List.getElem?_map, h3] at e2
          cases e2
          refine k v H (encGN p) S (.refl _ _) rd ok (h p (List.mem_of_getElem? h3) fun q hq => ?_)
          have most := maxD_most (py (encGN p0)) (pys (l.map encGN)) (py (encGN q)) (by
            have : py (encGN q) ∈ pys ((p0 :: l).map encGN) := by
              obtain ⟨j, hj⟩ := List.mem_iff_getElem?.mp hq
              refine List.mem_iff_getElem?.mpr ⟨j, ?_⟩
              rw [pys_get, List.getElem?_map, hj]
              rfl
            rw [List.map_cons, pys] at this
            exact this)
          rw [← h2, py_GN, py_GN] at most
          by_cases c : q.1 ≤ p.1
          · exact c
          · rw [pair_lt (by omega)] at most
            cases most
  · exact h.elim
end
end Dl

set_option Elab.async false
set_option linter.all false
set_option maxRecDepth 100000
namespace Dl
open PySem PySem.Spec PyProof.Rows L2 LamX
theorem sq_get_put : (("get" : Str) == ("put" : Str)) = false := by decide +kernel
theorem sq_get_add : (("get" : Str) == ("add" : Str)) = false := by decide +kernel
theorem sq_get_swap : (("get" : Str) == ("swap" : Str)) = false := by decide +kernel
theorem sq_get_look : (("get" : Str) == ("look" : Str)) = false := by decide +kernel
theorem sq_get_split : (("get" : Str) == ("split" : Str)) = false := by decide +kernel
theorem sq_get_join : (("get" : Str) == ("join" : Str)) = false := by decide +kernel
theorem sq_put_get : (("put" : Str) == ("get" : Str)) = false := by decide +kernel
theorem sq_put_add : (("put" : Str) == ("add" : Str)) = false := by decide +kernel
theorem sq_put_swap : (("put" : Str) == ("swap" : Str)) = false := by decide +kernel
theorem sq_put_look : (("put" : Str) == ("look" : Str)) = false := by decide +kernel
theorem sq_put_split : (("put" : Str) == ("split" : Str)) = false := by decide +kernel
theorem sq_put_join : (("put" : Str) == ("join" : Str)) = false := by decide +kernel
theorem sq_add_get : (("add" : Str) == ("get" : Str)) = false := by decide +kernel
theorem sq_add_put : (("add" : Str) == ("put" : Str)) = false := by decide +kernel
theorem sq_add_swap : (("add" : Str) == ("swap" : Str)) = false := by decide +kernel
theorem sq_add_look : (("add" : Str) == ("look" : Str)) = false := by decide +kernel
theorem sq_add_split : (("add" : Str) == ("split" : Str)) = false := by decide +kernel
theorem sq_add_join : (("add" : Str) == ("join" : Str)) = false := by decide +kernel
theorem sq_swap_get : (("swap" : Str) == ("get" : Str)) = false := by decide +kernel
theorem sq_swap_put : (("swap" : Str) == ("put" : Str)) = false := by decide +kernel
theorem sq_swap_add : (("swap" : Str) == ("add" : Str)) = false := by decide +kernel
theorem sq_swap_look : (("swap" : Str) == ("look" : Str)) = false := by decide +kernel
theorem sq_swap_split : (("swap" : Str) == ("split" : Str)) = false := by decide +kernel
theorem sq_swap_join : (("swap" : Str) == ("join" : Str)) = false := by decide +kernel
theorem sq_look_get : (("look" : Str) == ("get" : Str)) = false := by decide +kernel
theorem sq_look_put : (("look" : Str) == ("put" : Str)) = false := by decide +kernel
theorem sq_look_add : (("look" : Str) == ("add" : Str)) = false := by decide +kernel
theorem sq_look_swap : (("look" : Str) == ("swap" : Str)) = false := by decide +kernel
theorem sq_look_split : (("look" : Str) == ("split" : Str)) = false := by decide +kernel
theorem sq_look_join : (("look" : Str) == ("join" : Str)) = false := by decide +kernel
theorem sq_split_get : (("split" : Str) == ("get" : Str)) = false := by decide +kernel
theorem sq_split_put : (("split" : Str) == ("put" : Str)) = false := by decide +kernel
theorem sq_split_add : (("split" : Str) == ("add" : Str)) = false := by decide +kernel
theorem sq_split_swap : (("split" : Str) == ("swap" : Str)) = false := by decide +kernel
theorem sq_split_look : (("split" : Str) == ("look" : Str)) = false := by decide +kernel
theorem sq_split_join : (("split" : Str) == ("join" : Str)) = false := by decide +kernel
theorem sq_join_get : (("join" : Str) == ("get" : Str)) = false := by decide +kernel
theorem sq_join_put : (("join" : Str) == ("put" : Str)) = false := by decide +kernel
theorem sq_join_add : (("join" : Str) == ("add" : Str)) = false := by decide +kernel
theorem sq_join_swap : (("join" : Str) == ("swap" : Str)) = false := by decide +kernel
theorem sq_join_look : (("join" : Str) == ("look" : Str)) = false := by decide +kernel
theorem sq_join_split : (("join" : Str) == ("split" : Str)) = false := by decide +kernel
theorem sk_get : PyData.strOk ("get" : Str) = true := by decide +kernel
theorem sk_put : PyData.strOk ("put" : Str) = true := by decide +kernel
theorem sk_add : PyData.strOk ("add" : Str) = true := by decide +kernel
theorem sk_swap : PyData.strOk ("swap" : Str) = true := by decide +kernel
theorem sk_look : PyData.strOk ("look" : Str) = true := by decide +kernel
theorem sk_split : PyData.strOk ("split" : Str) = true := by decide +kernel
theorem sk_join : PyData.strOk ("join" : Str) = true := by decide +kernel
theorem kb_NoneType_bool (G : Bool → Prop) : isiK (some "NoneType") "bool" G = G false := isiK_eq (by decide +kernel) G
theorem kb_NoneType_int (G : Bool → Prop) : isiK (some "NoneType") "int" G = G false := isiK_eq (by decide +kernel) G
theorem kb_NoneType_str (G : Bool → Prop) : isiK (some "NoneType") "str" G = G false := isiK_eq (by decide +kernel) G
theorem kb_NoneType_tuple (G : Bool → Prop) : isiK (some "NoneType") "tuple" G = G false := isiK_eq (by decide +kernel) G
theorem kb_NoneType_list (G : Bool → Prop) : isiK (some "NoneType") "list" G = G false := isiK_eq (by decide +kernel) G
theorem kb_bool_bool (G : Bool → Prop) : isiK (some "bool") "bool" G = G true := isiK_eq (by decide +kernel) G
theorem kb_bool_int (G : Bool → Prop) : isiK (some "bool") "int" G = G true := isiK_eq (by decide +kernel) G
theorem kb_bool_str (G : Bool → Prop) : isiK (some "bool") "str" G = G false := isiK_eq (by decide +kernel) G
theorem kb_bool_tuple (G : Bool → Prop) : isiK (some "bool") "tuple" G = G false := isiK_eq (by decide +kernel) G
theorem kb_bool_list (G : Bool → Prop) : isiK (some "bool") "list" G = G false := isiK_eq (by decide +kernel) G
theorem kb_int_bool (G : Bool → Prop) : isiK (some "int") "bool" G = G false := isiK_eq (by decide +kernel) G
theorem kb_int_int (G : Bool → Prop) : isiK (some "int") "int" G = G true := isiK_eq (by decide +kernel) G
theorem kb_int_str (G : Bool → Prop) : isiK (some "int") "str" G = G false := isiK_eq (by decide +kernel) G
theorem kb_int_tuple (G : Bool → Prop) : isiK (some "int") "tuple" G = G false := isiK_eq (by decide +kernel) G
theorem kb_int_list (G : Bool → Prop) : isiK (some "int") "list" G = G false := isiK_eq (by decide +kernel) G
theorem kb_str_bool (G : Bool → Prop) : isiK (some "str") "bool" G = G false := isiK_eq (by decide +kernel) G
theorem kb_str_int (G : Bool → Prop) : isiK (some "str") "int" G = G false := isiK_eq (by decide +kernel) G
theorem kb_str_str (G : Bool → Prop) : isiK (some "str") "str" G = G true := isiK_eq (by decide +kernel) G
theorem kb_str_tuple (G : Bool → Prop) : isiK (some "str") "tuple" G = G false := isiK_eq (by decide +kernel) G
theorem kb_str_list (G : Bool → Prop) : isiK (some "str") "list" G = G false := isiK_eq (by decide +kernel) G
theorem kb_tuple_bool (G : Bool → Prop) : isiK (some "tuple") "bool" G = G false := isiK_eq (by decide +kernel) G
theorem kb_tuple_int (G : Bool → Prop) : isiK (some "tuple") "int" G = G false := isiK_eq (by decide +kernel) G
theorem kb_tuple_str (G : Bool → Prop) : isiK (some "tuple") "str" G = G false := isiK_eq (by decide +kernel) G
theorem kb_tuple_tuple (G : Bool → Prop) : isiK (some "tuple") "tuple" G = G true := isiK_eq (by decide +kernel) G
theorem kb_tuple_list (G : Bool → Prop) : isiK (some "tuple") "list" G = G false := isiK_eq (by decide +kernel) G
theorem kb_list_bool (G : Bool → Prop) : isiK (some "list") "bool" G = G false := isiK_eq (by decide +kernel) G
theorem kb_list_int (G : Bool → Prop) : isiK (some "list") "int" G = G false := isiK_eq (by decide +kernel) G
theorem kb_list_str (G : Bool → Prop) : isiK (some "list") "str" G = G false := isiK_eq (by decide +kernel) G
theorem kb_list_tuple (G : Bool → Prop) : isiK (some "list") "tuple" G = G false := isiK_eq (by decide +kernel) G
theorem kb_list_list (G : Bool → Prop) : isiK (some "list") "list" G = G true := isiK_eq (by decide +kernel) G
theorem sq_k_e : (("k" : Str) == ("" : Str)) = false := by decide +kernel
theorem sk_k : PyData.strOk ("k" : Str) = true := by decide +kernel
theorem sl_k : Str.length ("k" : Str) = 1 := by decide +kernel
theorem sq_kw_e : (("kw" : Str) == ("" : Str)) = false := by decide +kernel
theorem sk_kw : PyData.strOk ("kw" : Str) = true := by decide +kernel
theorem sl_kw : Str.length ("kw" : Str) = 2 := by decide +kernel
theorem sq_kww_e : (("kww" : Str) == ("" : Str)) = false := by decide +kernel
theorem sk_kww : PyData.strOk ("kww" : Str) = true := by decide +kernel
theorem sl_kww : Str.length ("kww" : Str) = 3 := by decide +kernel
theorem ls0 : (0 ≤ sizeLine) = True := eq_true (len_ok (by decide))
theorem ls1 : (1 ≤ sizeLine) = True := eq_true (len_ok (by decide))
theorem ls2 : (2 ≤ sizeLine) = True := eq_true (len_ok (by decide))
theorem ls3 : (3 ≤ sizeLine) = True := eq_true (len_ok (by decide))
theorem ls4 : (4 ≤ sizeLine) = True := eq_true (len_ok (by decide))
theorem ls5 : (5 ≤ sizeLine) = True := eq_true (len_ok (by decide))
theorem ls6 : (6 ≤ sizeLine) = True := eq_true (len_ok (by decide))
theorem ls7 : (7 ≤ sizeLine) = True := eq_true (len_ok (by decide))
theorem ls8 : (8 ≤ sizeLine) = True := eq_true (len_ok (by decide))
theorem ls9 : (9 ≤ sizeLine) = True := eq_true (len_ok (by decide))
theorem ls10 : (10 ≤ sizeLine) = True := eq_true (len_ok (by decide))
theorem nc0 : ((0 : Nat) : Int) = 0 := rfl
theorem nc1 : ((1 : Nat) : Int) = 1 := rfl
theorem nc2 : ((2 : Nat) : Int) = 2 := rfl
theorem nc3 : ((3 : Nat) : Int) = 3 := rfl
theorem nc4 : ((4 : Nat) : Int) = 4 := rfl
theorem nc5 : ((5 : Nat) : Int) = 5 := rfl
theorem nc6 : ((6 : Nat) : Int) = 6 := rfl
theorem nc7 : ((7 : Nat) : Int) = 7 := rfl
theorem nc8 : ((8 : Nat) : Int) = 8 := rfl
theorem nc9 : ((9 : Nat) : Int) = 9 := rfl
theorem nc10 : ((10 : Nat) : Int) = 10 := rfl
theorem sk_e : PyData.strOk ("" : Str) = true := by decide +kernel
theorem cut_2_2_None (x0 x1 : D) : cutD [x0, x1] (some 2) none = [] := by rfl
theorem ncut_2_2_None : (HT.sIx 2 0 (some 2) = 0 ∧ HT.sIx 2 2 none = 2) = False := by decide
theorem cut_2_None_1 (x0 x1 : D) : cutD [x0, x1] none (some 1) = [x0] := by rfl
theorem ncut_2_None_1 : (HT.sIx 2 0 none = 0 ∧ HT.sIx 2 2 (some 1) = 2) = False := by decide
theorem cut_3_2_None (x0 x1 x2 : D) : cutD [x0, x1, x2] (some 2) none = [x2] := by rfl
theorem ncut_3_2_None : (HT.sIx 3 0 (some 2) = 0 ∧ HT.sIx 3 3 none = 3) = False := by decide
theorem cut_3_None_1 (x0 x1 x2 : D) : cutD [x0, x1, x2] none (some 1) = [x0] := by rfl
theorem ncut_3_None_1 : (HT.sIx 3 0 none = 0 ∧ HT.sIx 3 3 (some 1) = 3) = False := by decide
theorem cut_3_3_None (x0 x1 x2 : D) : cutD [x0, x1, x2] (some 3) none = [] := by rfl
theorem ncut_3_3_None : (HT.sIx 3 0 (some 3) = 0 ∧ HT.sIx 3 3 none = 3) = False := by decide
theorem cut_4_2_None (x0 x1 x2 x3 : D) : cutD [x0, x1, x2, x3] (some 2) none = [x2, x3] := by rfl
theorem ncut_4_2_None : (HT.sIx 4 0 (some 2) = 0 ∧ HT.sIx 4 4 none = 4) = False := by decide
theorem cut_4_None_1 (x0 x1 x2 x3 : D) : cutD [x0, x1, x2, x3] none (some 1) = [x0] := by rfl
theorem ncut_4_None_1 : (HT.sIx 4 0 none = 0 ∧ HT.sIx 4 4 (some 1) = 4) = False := by decide
theorem cut_4_None_3 (x0 x1 x2 x3 : D) : cutD [x0, x1, x2, x3] none (some 3) = [x0, x1, x2] := by rfl
theorem ncut_4_None_3 : (HT.sIx 4 0 none = 0 ∧ HT.sIx 4 4 (some 3) = 4) = False := by decide
theorem cut_4_3_None (x0 x1 x2 x3 : D) : cutD [x0, x1, x2, x3] (some 3) none = [x3] := by rfl
theorem ncut_4_3_None : (HT.sIx 4 0 (some 3) = 0 ∧ HT.sIx 4 4 none = 4) = False := by decide
theorem cut_5_2_None (x0 x1 x2 x3 x4 : D) : cutD [x0, x1, x2, x3, x4] (some 2) none = [x2, x3, x4] := by rfl
theorem ncut_5_2_None : (HT.sIx 5 0 (some 2) = 0 ∧ HT.sIx 5 5 none = 5) = False := by decide
theorem cut_5_None_1 (x0 x1 x2 x3 x4 : D) : cutD [x0, x1, x2, x3, x4] none (some 1) = [x0] := by rfl
theorem ncut_5_None_1 : (HT.sIx 5 0 none = 0 ∧ HT.sIx 5 5 (some 1) = 5) = False := by decide
theorem cut_5_None_3 (x0 x1 x2 x3 x4 : D) : cutD [x0, x1, x2, x3, x4] none (some 3) = [x0, x1, x2] := by rfl
theorem ncut_5_None_3 : (HT.sIx 5 0 none = 0 ∧ HT.sIx 5 5 (some 3) = 5) = False := by decide
theorem cut_5_3_None (x0 x1 x2 x3 x4 : D) : cutD [x0, x1, x2, x3, x4] (some 3) none = [x3, x4] := by rfl
theorem ncut_5_3_None : (HT.sIx 5 0 (some 3) = 0 ∧ HT.sIx 5 5 none = 5) = False := by decide
theorem cut_6_2_None (x0 x1 x2 x3 x4 x5 : D) : cutD [x0, x1, x2, x3, x4, x5] (some 2) none = [x2, x3, x4, x5] := by rfl
theorem ncut_6_2_None : (HT.sIx 6 0 (some 2) = 0 ∧ HT.sIx 6 6 none = 6) = False := by decide
theorem cut_6_None_1 (x0 x1 x2 x3 x4 x5 : D) : cutD [x0, x1, x2, x3, x4, x5] none (some 1) = [x0] := by rfl
theorem ncut_6_None_1 : (HT.sIx 6 0 none = 0 ∧ HT.sIx 6 6 (some 1) = 6) = False := by decide
theorem cut_6_None_3 (x0 x1 x2 x3 x4 x5 : D) : cutD [x0, x1, x2, x3, x4, x5] none (some 3) = [x0, x1, x2] := by rfl
theorem ncut_6_None_3 : (HT.sIx 6 0 none = 0 ∧ HT.sIx 6 6 (some 3) = 6) = False := by decide
theorem cut_6_None_5 (x0 x1 x2 x3 x4 x5 : D) : cutD [x0, x1, x2, x3, x4, x5] none (some 5) = [x0, x1, x2, x3, x4] := by rfl
theorem ncut_6_None_5 : (HT.sIx 6 0 none = 0 ∧ HT.sIx 6 6 (some 5) = 6) = False := by decide
theorem cut_6_3_None (x0 x1 x2 x3 x4 x5 : D) : cutD [x0, x1, x2, x3, x4, x5] (some 3) none = [x3, x4, x5] := by rfl
theorem ncut_6_3_None : (HT.sIx 6 0 (some 3) = 0 ∧ HT.sIx 6 6 none = 6) = False := by decide
local macro_rules | `(tactic| walk_at "dl") => `(tactic| simp (config := { maxSteps := 1000000 }) only [dSeq, dIfS, dRet, dRetN, dSet, dNext, dDrop, dVar, dC, d2, dTest, dAnd, dOr, dNot, dAndV, dOrV, dNotV, dIf, dChain, dChain3, dCall, dCons, dNil, dTup, dLst, dLstR, dAsg, Tg.d, sets, dFor, dYes, dNever, dBrk, dCnt,
  dSortKey, dLc, dLcR, dComp, wipeD, itemsI, rangeI1, enumI, dCB, rLenD, rIntD, rAbsD, rM2D, rTupD, rTupPD, rAllD, dIsi, tyD, rIxD, rItem, dSl, dPart, dNoPart, rSlD, rII, rAddD, rMulD, rMulDR, rEqG, rIsN, rInD, dNeg, dGet2, rAddXD, rListD, rListRD, dPar, dNewK, dNewT, dAsgNS, dMemo0, itR, dForR, dLcX, dLcXR, dCompR, dTupRg, dLstRg, dLstRgR, dInRg, dMemoSet, dDisp, dPairs, keyPairs, keyOf, dML, dSetIx,
  atI0, atI1, atI2, atI3, atI4, atI5, atIm2, atIm3, atIm4, deref_non, deref_bl, deref_int, deref_str, deref_tp, deref_ptp, deref_lst, items_tup, items_ptp, items_lst, dq_ii, dq_bb, dq_ss, dq_tt, dq_tp, dq_pt, dq_pp, dq_ll, dq_n0, dq_nc, dq_cn, dq_cc, ok_non, ok_bl, ok_int, ok_str, ok_tp, ok_pp, ok_ls, ok_n0, ok_cc, flat, List.all_cons, List.all_nil, List.any_cons, List.any_nil,
  startD, List.map_cons, List.map_nil, List.length_cons, List.length_nil, List.replicate_succ, List.replicate_zero, List.cons_append, List.nil_append, List.set_cons_zero, List.set_cons_succ, List.getElem?_cons_zero, List.getElem?_cons_succ, Nat.reduceAdd, Nat.reduceSub, Nat.reduceLeDiff, Nat.reduceMul,
  Bool.and_true, Bool.true_and, Bool.and_false, Bool.false_and, Bool.or_true, Bool.true_or, Bool.or_false, Bool.false_or, Bool.not_true, Bool.not_false, decide_eq_true_eq, ↓reduceIte, true_and, and_true, Bool.false_eq_true, Bool.not_eq_true', Bool.not_not, beq_self_eq_true, and_self, ne_eq, reduceCtorEq, not_false_eq_true, not_true_eq_false, Int.reduceBEq, beq_iff_eq, beq_eq_false_iff_ne, decide_eq_false_iff_not, Int.reduceLT, Int.reduceLE, Int.reduceNeg, Int.reduceAdd, Int.reduceEq, Int.reduceToNat,  kb_NoneType_bool, kb_NoneType_int, kb_NoneType_str, kb_NoneType_tuple, kb_NoneType_list, kb_bool_bool, kb_bool_int, kb_bool_str, kb_bool_tuple, kb_bool_list, kb_int_bool, kb_int_int, kb_int_str, kb_int_tuple, kb_int_list, kb_str_bool, kb_str_int, kb_str_str, kb_str_tuple, kb_str_list, kb_tuple_bool, kb_tuple_int, kb_tuple_str, kb_tuple_tuple, kb_tuple_list, kb_list_bool, kb_list_int, kb_list_str, kb_list_tuple, kb_list_list, sq_k_e, sq_kw_e, sq_kww_e, sk_k, sk_kw, sk_kww, sl_k, sl_kw, sl_kww, sk_e, cut_2_2_None, ncut_2_2_None, cut_2_None_1, ncut_2_None_1, cut_3_2_None, ncut_3_2_None, cut_3_None_1, ncut_3_None_1, cut_3_3_None, ncut_3_3_None, cut_4_2_None, ncut_4_2_None, cut_4_None_1, ncut_4_None_1, cut_4_None_3, ncut_4_None_3, cut_4_3_None, ncut_4_3_None, cut_5_2_None, ncut_5_2_None, cut_5_None_1, ncut_5_None_1, cut_5_None_3, ncut_5_None_3, cut_5_3_None, ncut_5_3_None, cut_6_2_None, ncut_6_2_None, cut_6_None_1, ncut_6_None_1, cut_6_None_3, ncut_6_None_3, cut_6_None_5, ncut_6_None_5, cut_6_3_None, ncut_6_3_None, sq_get_put, sq_get_add, sq_get_swap, sq_get_look, sq_get_split, sq_get_join, sq_put_get, sq_put_add, sq_put_swap, sq_put_look, sq_put_split, sq_put_join, sq_add_get, sq_add_put, sq_add_swap, sq_add_look, sq_add_split, sq_add_join, sq_swap_get, sq_swap_put, sq_swap_add, sq_swap_look, sq_swap_split, sq_swap_join, sq_look_get, sq_look_put, sq_look_add, sq_look_swap, sq_look_split, sq_look_join, sq_split_get, sq_split_put, sq_split_add, sq_split_swap, sq_split_look, sq_split_join, sq_join_get, sq_join_put, sq_join_add, sq_join_swap, sq_join_look, sq_join_split, ls0, ls1, ls2, ls3, ls4, ls5, ls6, ls7, ls8, ls9, ls10, nc0, nc1, nc2, nc3, nc4, nc5, nc6, nc7, nc8, nc9, nc10, sk_get, sk_put, sk_add, sk_swap, sk_look, sk_split, sk_join])


/-! ### deeds -/
inductive Dd where
  | get (k : Int) | put (k w : Int) | add (k w : Int) | swap (k a b : Int)
def Dd.enc : Dd → D
  | .get k => .tup [.str "get", .int k]
  | .put k w => .tup [.str "put", .int k, .int w]
  | .add k w => .tup [.str "add", .int k, .int w]
  | .swap k a b => .tup [.str "swap", .int k, .int a, .int b]
def Dd.key : Dd → Int
  | .get k => k
  | .put k _ => k
  | .add k _ => k
  | .swap k _ _ => k
def isW (n w : Int) : Prop := 0 ≤ w ∧ w < n
def Dd.ok : Dd → Prop
  | .get k => isW 100 k
  | .put k w => isW 100 k ∧ isW 1000 w
  | .add k w => isW 100 k ∧ isW 1000 w
  | .swap k a b => isW 100 k ∧ isW 1000 a ∧ isW 1000 b

def Dd.ans : Dd → Int → D
  | .get _, w => .int w
  | .put _ _, w => .int w
  | .add _ a, w => .int ((w + a) % 1000)
  | .swap _ a _, w => .bl (w == a)
def Dd.new : Dd → Int → Int
  | .get _, w => w
  | .put _ x, _ => x
  | .add _ a, w => (w + a) % 1000
  | .swap _ a b, w => if w = a then b else w
/-- a keeper's state -/
structure Kp where
  low : Int
  high : Int
  gen : Int
  ch : Int
  ws : List (Int × Int)
  as : List (Int × Int × D)
abbrev encA (a : Int × Int × D) : D := .tup [.int a.1, .int a.2.1, a.2.2]
def Kp.enc (k : Kp) : D := .tup [.int k.low, .int k.high, .int k.gen, .int k.ch, .ptp (k.ws.map encP), .tup (k.as.map encA)]
/-- results that are not a pair of what is same -/
theorem two_dec {p q : Prop} [Decidable p] [Decidable q] : decide (p ∧ q) = (decide p && decide q) := by by_cases h1 : p <;> by_cases h2 : q <;> simp [h1, h2]

/-- what is no number -/
def NoInt (a : D) : Prop := (∃ t, a = .bl t) ∨ a = .non ∨ (∃ x, a = .str x) ∨ (∃ xs, a = .tup xs) ∨ ∃ xs, a = .ptp xs
def sp_is_below : DSp := fun ds S R => (∃ i b, ds = [.int i, .int b] ∧ R (.bl (decide (0 ≤ i ∧ i < b))) S) ∨ ∃ a b, ds = [a, .int b] ∧ NoInt a ∧ R (.bl false) S
def rd_is_below : DS :=
 (dRet (dAndV (dIsi "int" (dVar 0)) (dAndV (dNotV (dIsi "bool" (dVar 0))) (dChain rLeD rLtD (dC (.int 0)) (dVar 0) (dVar 1)))))
theorem ok_is_below (ds : List D) (S : Store) (R : DK) (h : sp_is_below ds S R) : rd_is_below (ends R) (startD ["part", "bound"] ds) S := by
  unfold rd_is_below
  rcases h with ⟨i, b, rfl, h⟩ | ⟨a, b, rfl, n, h⟩
  · rw [two_dec] at h
    walk_at "dl"
    split
    · rename_i h0
      rw [decide_eq_true h0, Bool.true_and] at h
      exact fin_of h
    · rename_i h0
      rw [decide_eq_false h0, Bool.false_and] at h
      exact fin_of h
  · rcases n with ⟨t, rfl⟩ | rfl | ⟨x, rfl⟩ | ⟨xs, rfl⟩ | ⟨xs, rfl⟩ <;> (walk_at "dl"; exact fin_of h)
def tb_SHAPES : List (Str × Option D) := [("get", some (.str "k")), ("put", some (.str "kw")), ("add", some (.str "kw")), ("swap", some (.str "kww")), ("split", some (.str "k")), ("join", some (.str "k")), ("Get", none), ("", none)]
def sp_is_deed : DSp := fun ds S R => ∃ dd : Dd, ds = [dd.enc] ∧ dd.ok ∧ R (.bl true) S
def rd_is_deed_1 : DS :=
 (dSeq (dIfS (dAnd (dTest (d2 (rInD false) (d2 rIxD (dVar 0) (dC (.int 0))) (dTup (dCons (dC (.str "split")) (dCons (dC (.str "join")) dNil))))) (dTest (d2 (rEqG false) (d2 rIxD (dVar 0) (dC (.int 1))) (dC (.int 0)))))
 (dRet (dC (.bl false)))
 dNext)
 (dRet (d2 (rEqG false) (dLc (itemsI (dSl (dVar 0) (dPart (dC (.int 2))) dNoPart)) (.nm 3) (dNot (dTest (dCall sp_is_below (dCons (dVar 3) (dCons (dC (.int 1000)) dNil))))) (dVar 3) [3]) (dLst dNil))))
def rd_is_deed : DS :=
 (dSeq (dIfS (dOr (dNot (dTest (dIsi "tuple" (dVar 0)))) (dOr (dTest (d2 (rEqG false) (dVar 0) (dTup dNil))) (dNot (dTest (dIsi "str" (d2 rIxD (dVar 0) (dC (.int 0))))))))
 (dRet (dC (.bl false)))
 dNext)
 (dSeq (dIfS (dTest (d2 (rEqG false) (d2 rIxD (dVar 0) (dC (.int 0))) (dC (.str "look"))))
 dNever
 dNext)
 (dSeq (dSet 2 (dKGet tb_SHAPES (d2 rIxD (dVar 0) (dC (.int 0))) (dC (.str ""))))
 (dSeq (dIfS (dOr (dTest (d2 (rEqG false) (dVar 2) (dC (.str "")))) (dOr (dTest (d2 (rEqG true) (dCB rLenD (dCons (dVar 0) dNil)) (d2 rAddD (dCB rLenD (dCons (dVar 2) dNil)) (dC (.int 1))))) (dNot (dTest (dCall sp_is_below (dCons (d2 rIxD (dVar 0) (dC (.int 1))) (dCons (dC (.int 100)) dNil)))))))
 (dRet (dC (.bl false)))
 dNext)
 rd_is_deed_1))))
theorem below_of {i b : Int} {S : Store} {Q : DK} (h : isW b i) (q : Q (.bl true) S) : sp_is_below [.int i, .int b] S Q := .inl ⟨i, b, rfl, by rw [decide_eq_true (show 0 ≤ i ∧ i < b from h)]; exact q⟩
theorem ok_is_deed (ds : List D) (S : Store) (R : DK) (h : sp_is_deed ds S R) : rd_is_deed (ends R) (startD ["deed", "key", "shape", "part"] ds) S := by
  obtain ⟨dd, rfl, hok, h⟩ := h
  unfold rd_is_deed
  cases dd with
  | get k =>
    unfold Dd.enc
    walk_at "dl"
    simp only [dKGet, tb_SHAPES, List.lookup]
    walk_at "dl"
    refine below_of hok ?_
    unfold rd_is_deed_1
    walk_at "dl"
    simp only [compD]
    walk_at "dl"
    exact fin_of h
  | put k w =>
    unfold Dd.enc
    walk_at "dl"
    simp only [dKGet, tb_SHAPES, List.lookup]
    walk_at "dl"
    refine below_of hok.1 ?_
    unfold rd_is_deed_1
    walk_at "dl"
    simp only [compD]
    walk_at "dl"
    refine below_of hok.2 ?_
    walk_at "dl"
    exact fin_of h
  | add k w =>
    unfold Dd.enc
    walk_at "dl"
    simp only [dKGet, tb_SHAPES, List.lookup]
    walk_at "dl"
    refine below_of hok.1 ?_
    unfold rd_is_deed_1
    walk_at "dl"
    simp only [compD]
    walk_at "dl"
    refine below_of hok.2 ?_
    walk_at "dl"
    exact fin_of h
  | swap k a b =>
    unfold Dd.enc
    walk_at "dl"
    simp only [dKGet, tb_SHAPES, List.lookup]
    walk_at "dl"
    refine below_of hok.1 ?_
    unfold rd_is_deed_1
    walk_at "dl"
    simp only [compD]
    walk_at "dl"
    refine below_of hok.2.1 ?_
    walk_at "dl"
    refine below_of hok.2.2 ?_
    walk_at "dl"
    exact fin_of h
def sp_need_deed : DSp := fun ds S R => ∃ dd : Dd, ds = [dd.enc] ∧ dd.ok ∧ R .non S
def rd_need_deed : DS :=
 (dIfS (dNot (dTest (dCall sp_is_deed (dCons (dVar 0) dNil))))
 dNever
 dNext)
theorem ok_need_deed (ds : List D) (S : Store) (R : DK) (h : sp_need_deed ds S R) : rd_need_deed (ends R) (startD ["deed"] ds) S := by
  obtain ⟨dd, rfl, hok, h⟩ := h
  unfold rd_need_deed
  walk_at "dl"
  refine ⟨dd, rfl, hok, ?_⟩
  walk_at "dl"
  exact fin_of h
def sp_worth_behind : DSp := fun ds S R => ∃ (dd : Dd) (w : Int), ds = [dd.enc, .int w] ∧ R (.tup [dd.ans w, .int (dd.new w)]) S
def rd_worth_behind : DS :=
 (dSeq (dIfS (dTest (d2 (rEqG false) (d2 rIxD (dVar 0) (dC (.int 0))) (dC (.str "get"))))
 (dRet (dTup (dCons (dVar 1) (dCons (dVar 1) dNil))))
 dNext)
 (dSeq (dIfS (dTest (d2 (rEqG false) (d2 rIxD (dVar 0) (dC (.int 0))) (dC (.str "put"))))
 (dRet (dTup (dCons (dVar 1) (dCons (d2 rIxD (dVar 0) (dC (.int 2))) dNil))))
 dNext)
 (dSeq (dIfS (dTest (d2 (rEqG false) (d2 rIxD (dVar 0) (dC (.int 0))) (dC (.str "add"))))
 (dSeq (dSet 2 (d2 rModD (d2 rAddD (dVar 1) (d2 rIxD (dVar 0) (dC (.int 2)))) (dC (.int 1000))))
 (dRet (dTup (dCons (dVar 2) (dCons (dVar 2) dNil)))))
 dNext)
 (dRet (dIf (dTest (d2 (rEqG false) (dVar 1) (d2 rIxD (dVar 0) (dC (.int 2))))) (dTup (dCons (dC (.bl true)) (dCons (d2 rIxD (dVar 0) (dC (.int 3))) dNil))) (dTup (dCons (dC (.bl false)) (dCons (dVar 1) dNil))))))))
theorem ok_worth_behind (ds : List D) (S : Store) (R : DK) (h : sp_worth_behind ds S R) : rd_worth_behind (ends R) (startD ["deed", "worth", "more"] ds) S := by
  obtain ⟨dd, w, rfl, h⟩ := h
  unfold rd_worth_behind
  cases dd with
  | get k =>
    unfold Dd.enc
    walk_at "dl"
    exact fin_of h
  | put k x =>
    unfold Dd.enc
    walk_at "dl"
    exact fin_of h
  | add k a =>
    unfold Dd.enc
    walk_at "dl"
    exact fin_of h
  | swap k a b =>
    unfold Dd.enc
    walk_at "dl"
    simp only [Dd.ans, Dd.new] at h
    split
    · rename_i e
      rw [if_pos e, beq_iff_eq.mpr e] at h
      exact fin_of h
    · rename_i e
      rw [if_neg e, beq_eq_false_iff_ne.mpr e] at h
      exact fin_of h
def sp_need_range : DSp := fun ds S R => ∃ lo hi g, ds = [.int lo, .int hi, .int g] ∧ 0 ≤ lo ∧ lo < hi ∧ hi ≤ 100 ∧ 1 ≤ g ∧ R .non S
def rd_need_range : DS :=
 (dIfS (dOr (dNot (dTest (dChain3 rLeD rLtD rLeD (dC (.int 0)) (dVar 0) (dVar 1) (dC (.int 100))))) (dTest (d2 rLtD (dVar 2) (dC (.int 1)))))
 dNever
 dNext)
theorem ok_need_range (ds : List D) (S : Store) (R : DK) (h : sp_need_range ds S R) : rd_need_range (ends R) (startD ["low", "high", "gen"] ds) S := by
  obtain ⟨lo, hi, gn, rfl, h1, h2, h3, h4, h⟩ := h
  unfold rd_need_range
  walk_at "dl"
  rw [if_pos h1, if_pos h2, if_neg (by omega), if_neg (by omega)]
  exact fin_of h
def sp_fresh : DSp := fun ds S R => ∃ lo hi g, ds = [.int lo, .int hi, .int g] ∧ 0 ≤ lo ∧ lo < hi ∧ hi ≤ 100 ∧ 1 ≤ g ∧ R (Kp.enc ⟨lo, hi, g, 0, [], []⟩) S
def rd_fresh_1 : DS :=
 (dRet (dTup (dCons (dVar 0) (dCons (dVar 1) (dCons (dVar 2) (dCons (dC (.int 0)) (dCons (dC (.ptp [])) (dCons (dTup dNil) dNil))))))))
def rd_fresh : DS :=
 (dSeq (dDrop (dCall sp_need_range (dCons (dVar 0) (dCons (dVar 1) (dCons (dVar 2) dNil)))))
 rd_fresh_1)
theorem ok_fresh (ds : List D) (S : Store) (R : DK) (h : sp_fresh ds S R) : rd_fresh (ends R) (startD ["low", "high", "gen"] ds) S := by
  obtain ⟨lo, hi, gn, rfl, h1, h2, h3, h4, h⟩ := h
  unfold rd_fresh
  walk_at "dl"
  refine ⟨lo, hi, gn, rfl, h1, h2, h3, h4, ?_⟩
  unfold rd_fresh_1
  walk_at "dl"
  exact fin_of h
/-! ### what a keeper keeps -/
def ltW (p q : Int × Int) : Prop := p.1 < q.1
def ltA (p q : Int × Int × D) : Prop := p.1 < q.1
/-- an answer -/
def isAns : D → Prop
  | .non => True
  | .bl _ => True
  | .int _ => True
  | _ => False
structure KOk (k : Kp) (n : Nat) : Prop where
  ws : k.ws.Pairwise ltW
  as : k.as.Pairwise ltA
  wl : k.ws.length ≤ n
  al : k.as.length ≤ n
  wp : ∀ p ∈ k.ws, 0 < p.2
  an : ∀ a ∈ k.as, isAns a.2.2
def getW (ws : List (Int × Int)) (key : Int) : Int := ((ws.find? fun p => decide (p.1 = key)).map (·.2)).getD 0
abbrev kdW (p : Int × Int) : L2.Key × D := (.inl p.1, .int p.2)
theorem pairs_ws : ∀ ws : List (Int × Int), pairsD (ws.map encP) = some (ws.map kdW)
  | [] => rfl
  | p :: r => by simp only [List.map_cons, pairsD, keyOf, pairs_ws r]
theorem putD_new {κ : Type} [DecidableEq κ] {kvs : List (κ × D)} {k : κ} {v : D} (h : ∀ p ∈ kvs, p.1 ≠ k) : putD kvs k v = kvs ++ [(k, v)] := by
  unfold putD
  rw [if_neg (by simp only [List.any_eq_true, decide_eq_true_eq, not_exists, not_and]; exact h)]
theorem merge_ws : ∀ (ws : List (Int × Int)) (acc : List (L2.Key × D)), ws.Pairwise ltW → (∀ p ∈ acc, ∀ q ∈ ws, p.1 ≠ Sum.inl q.1) → mergeD acc (ws.map kdW) = acc ++ ws.map kdW
  | [], acc, _, _ => by simp [mergeD]
  | p :: r, acc, hs, ha => by
    rw [List.pairwise_cons] at hs
    have e : mergeD acc ((p :: r).map kdW) = mergeD (acc ++ [kdW p]) (r.map kdW) := by
      show mergeD (putD acc (.inl p.1) (.int p.2)) (r.map kdW) = _
      rw [putD_new fun q hq => ha q hq p List.mem_cons_self]
    rw [e, merge_ws r _ hs.2 ?_]
    · simp
    · intro q hq z hz
      rcases List.mem_append.mp hq with h | h
      · exact ha q h z (List.mem_cons_of_mem _ hz)
      · rw [List.mem_singleton.mp h]
        intro e
        have := hs.1 z hz
        unfold ltW at this
        injection e with e
        omega
theorem dict_ws {ws : List (Int × Int)} (h : ws.Pairwise ltW) : mergeD [] (ws.map kdW) = ws.map kdW := by
  rw [merge_ws ws [] h (by simp)]; rfl
theorem val_ws (ws : List (Int × Int)) (key : Int) : (valD (ws.map kdW) (.inl key)).getD (.int 0) = .int (getW ws key) := by
  unfold valD getW
  induction ws with
  | nil => rfl
  | cons p r ih =>
    rw [List.map_cons, List.find?_cons, List.find?_cons]
    by_cases e : p.1 = key
    · simp [e]
    · have e1 : decide ((kdW p).1 = Sum.inl key) = false := decide_eq_false fun z => e (by injection z)
      rw [e1, decide_eq_false e]
      exact ih
theorem getW_mem {ws : List (Int × Int)} (h : ws.Pairwise ltW) {p : Int × Int} (hp : p ∈ ws) : getW ws p.1 = p.2 := by
  unfold getW
  induction ws with
  | nil => simp at hp
  | cons q r ih =>
    rw [List.pairwise_cons] at h
    rw [List.find?_cons]
    by_cases e : q.1 = p.1
    · rw [decide_eq_true e]
      rcases List.mem_cons.mp hp with z | z
      · rw [z]; rfl
      · have := h.1 p z
        unfold ltW at this
        omega
    · rw [decide_eq_false e]
      rcases List.mem_cons.mp hp with z | z
      · exact absurd (by rw [z]) e
      · exact ih h.2 z
theorem getW_out {ws : List (Int × Int)} {key : Int} (h : ∀ p ∈ ws, p.1 ≠ key) : getW ws key = 0 := by
  unfold getW
  rw [List.find?_eq_none.mpr (by simpa using h)]
  rfl
theorem getW_cases (ws : List (Int × Int)) (key : Int) : (getW ws key = 0 ∧ ∀ p ∈ ws, p.1 ≠ key) ∨ (key, getW ws key) ∈ ws := by
  unfold getW
  cases e : ws.find? fun p => decide (p.1 = key) with
  | none =>
    refine .inl ⟨rfl, fun p hp q => ?_⟩
    have := List.find?_eq_none.mp e p hp
    simp [q] at this
  | some p =>
    have h1 := List.find?_some e
    have h2 := List.mem_of_find?_eq_some e
    simp only [decide_eq_true_eq] at h1
    exact .inr (by show (key, p.2) ∈ ws; rw [← h1]; exact h2)
def sp_worth_at : DSp := fun ds S R => ∃ (k : Kp) (key : Int), ds = [k.enc, .int key] ∧ k.ws.Pairwise ltW ∧ R (.int (getW k.ws key)) S
def rd_worth_at : DS :=
 (dRet (dGet2 (dCB rDictD (dCons (d2 rIxD (dVar 0) (dC (.int 4))) dNil)) (dVar 1) (dC (.int 0))))
theorem ok_worth_at (ds : List D) (S : Store) (R : DK) (h : sp_worth_at ds S R) : rd_worth_at (ends R) (startD ["state", "key"] ds) S := by
  obtain ⟨k, key, rfl, hs, h⟩ := h
  unfold rd_worth_at Kp.enc
  walk_at "dl"
  simp only [rDictD, pairs_ws, dict_ws hs]
  intro p hp
  simp only [ups_same, keyOf, val_ws]
  exact ⟨trivial, fin_sub h (sub_ups hp)⟩
def findA (as : List (Int × Int × D)) (asker : Int) : Int × D := ((as.find? fun a => decide (a.1 = asker)).map (·.2)).getD (0, .non)
def sp_seen_by : DSp := fun ds S R => ∃ (k : Kp) (asker : Int), ds = [k.enc, .int asker] ∧ R (.tup [.int (findA k.as asker).1, (findA k.as asker).2]) S
def rd_seen_by : DS :=
 (dSeq (dFor (itemsI (d2 rIxD (dVar 0) (dC (.int 5)))) (.tp [2, 3, 4])
 (dIfS (dTest (d2 (rEqG false) (dVar 2) (dVar 1)))
 (dRet (dTup (dCons (dVar 3) (dCons (dVar 4) dNil))))
 dNext))
 (dRet (dTup (dCons (dC (.int 0)) (dCons (dC .non) dNil)))))
theorem ok_seen_by (ds : List D) (S : Store) (R : DK) (h : sp_seen_by ds S R) : rd_seen_by (ends R) (startD ["state", "asker", "one", "number", "answer"] ds) S := by
  obtain ⟨k, asker, rfl, h⟩ := h
  unfold rd_seen_by Kp.enc
  walk_at "dl"
  refine loop_ind (fun rest τ S' => ∃ as' j1 j2 j3, rest = as'.map encA ∧ S' = S ∧ τ = [some k.enc, some (.int asker), j1, j2, j3] ∧ R (.tup [.int (findA as' asker).1, (findA as' asker).2]) S) ?_ ?_ _ _ _ ⟨k.as, none, none, none, rfl, rfl, rfl, h⟩
  · rintro τ S' ⟨as', j1, j2, j3, e, rfl, rfl, h⟩
    cases as' with
    | nil => walk_at "dl"; exact fin_of h
    | cons a r => cases e
  · rintro d r τ S' N ⟨as', j1, j2, j3, e, rfl, rfl, h⟩ hN
    cases as' with
    | nil => cases e
    | cons a r' =>
      cases e
      walk_at "dl"
      unfold findA at h
      rw [List.find?_cons] at h
      split
      · rename_i e
        rw [decide_eq_true e] at h
        exact fin_of h
      · rename_i e
        rw [decide_eq_false e] at h
        exact hN _ _ ⟨r', _, _, _, rfl, rfl, rfl, h⟩
theorem paired_map {α β : Type} (f : α → β) : ∀ l : List α, Paired (fun b a => b = f a) (l.map f) l
  | [] => .nil
  | a :: r => .cons rfl (paired_map f r)
theorem map_of_paired {α β : Type} {f : α → β} : ∀ {m : List β} {l : List α}, Paired (fun b a => b = f a) m l → m = l.map f
  | _, _, .nil => rfl
  | _, _, .cons e t => by rw [e, map_of_paired t]; rfl
theorem perm_map_inv {α β : Type} {f : α → β} {out : List β} {l : List α} (h : out.Perm (l.map f)) : ∃ m : List α, m.Perm l ∧ out = m.map f := by
  obtain ⟨m, h1, h2⟩ := perm_along h (paired_map f l)
  exact ⟨m, h1, map_of_paired h2⟩
/-- no two alike in the first -/
theorem strict_of {α : Type} {f : α → Int} : ∀ {l : List α}, l.Pairwise (fun a b => f a ≤ f b) → l.Pairwise (fun a b => f a ≠ f b) → l.Pairwise (fun a b => f a < f b)
  | [], _, _ => .nil
  | a :: r, h1, h2 => by
    rw [List.pairwise_cons] at h1 h2 ⊢
    exact ⟨fun b hb => by have := h1.1 b hb; have := h2.1 b hb; omega, strict_of h1.2 h2.2⟩
abbrev fA (a : Int × Int × D) : Int := a.1
abbrev fW (a : Int × Int) : Int := a.1
theorem ne_add {α : Type} {f : α → Int} {l : List α} {x : α} (h : l.Pairwise (fun a b => f a < f b)) (hx : ∀ a ∈ l, f a ≠ f x) : (l ++ [x]).Pairwise (fun a b => f a ≠ f b) := by
  rw [List.pairwise_append]
  refine ⟨h.imp fun h => by omega, by simp, fun a ha b hb => ?_⟩
  rw [List.mem_singleton.mp hb]
  exact hx a ha
theorem ne_perm {α : Type} {f : α → Int} {l m : List α} (p : m.Perm l) (h : l.Pairwise (fun a b => f a ≠ f b)) : m.Pairwise (fun a b => f a ≠ f b) := (p.pairwise_iff (fun h => h.symm)).mpr h
def sp_with_answer : DSp := fun ds S R => ∃ (k : Kp) (asker number : Int) (ans : D), ds = [k.enc, .int asker, .int number, ans] ∧ k.as.Pairwise ltA ∧ k.as.length ≤ 900 ∧
  ∀ as', as'.Pairwise ltA → (∀ a, a ∈ as' ↔ (a ∈ k.as ∧ a.1 ≠ asker) ∨ a = (asker, number, ans)) → as'.length ≤ k.as.length + 1 → R (Kp.enc { k with as := as' }) S
def rd_with_answer : DS :=
 (dSeq (dSet 4 (dLc (itemsI (d2 rIxD (dVar 0) (dC (.int 5)))) (.nm 5) (dTest (d2 (rEqG true) (d2 rIxD (dVar 5) (dC (.int 0))) (dVar 1))) (dVar 5) [5]))
 (dRet (d2 rAddD (dSl (dVar 0) dNoPart (dPart (dC (.int 5)))) (dTup (dCons (dCB rTupD (dCons (dSortKey (d2 rAddD (dVar 4) (dLst (dCons (dTup (dCons (dVar 1) (dCons (dVar 2) (dCons (dVar 3) dNil)))) dNil)))) dNil)) dNil)))))
theorem ok_with_answer (ds : List D) (S : Store) (R : DK) (h : sp_with_answer ds S R) : rd_with_answer (ends R) (startD ["state", "asker", "number", "answer", "rest", "row"] ds) S := by
  obtain ⟨k, asker, number, ans, rfl, hs, hl, h⟩ := h
  unfold rd_with_answer Kp.enc
  walk_at "dl"
  refine ⟨by rw [List.length_map]; exact len_ok (by omega), ?_⟩
  have fl : (k.as.filter fun a => !(a.1 == asker)).length ≤ k.as.length := List.length_filter_le _ _
  refine comp_pure encA (fun a => !(a.1 == asker)) encA k.as (fun a ha => ?_) ?_
  · walk_at "dl"
    exact fun G => ⟨fun g => g, fun G h g => g⟩
  · refine ⟨by rw [List.length_map]; exact len_ok (by omega), ?_⟩
    refine ⟨((k.as.filter fun a => !(a.1 == asker)) ++ [(asker, number, ans)]).map (fun a => (a.1, encA a)), by simp, fun p hp => ?_, fun out ho hp => ?_⟩
    · obtain ⟨a, _, rfl⟩ := List.mem_map.mp hp
      exact ⟨_, rfl⟩
    · obtain ⟨m, pm, rfl⟩ := perm_map_inv ho
      have ms : m.Pairwise ltA := strict_of (f := fA) (by rw [List.pairwise_map] at hp; exact hp) (ne_perm (f := fA) pm (ne_add (f := fA) (hs.filter _) fun a ha => by
        have := (List.mem_filter.mp ha).2
        simpa using this))
      have q := h m ms (fun a => by
        rw [pm.mem_iff, List.mem_append, List.mem_filter, List.mem_singleton]
        simp) (by rw [pm.length_eq]; simp; omega)
      rw [List.map_map]
      exact fin_of q
def sp_with_worth : DSp := fun ds S R => ∃ (k : Kp) (key w : Int), ds = [k.enc, .int key, .int w] ∧ k.ws.Pairwise ltW ∧ k.ws.length ≤ 900 ∧
  ∀ ws', ws'.Pairwise ltW → (∀ p, p ∈ ws' ↔ (p ∈ k.ws ∧ p.1 ≠ key) ∨ (0 < w ∧ p = (key, w))) → ws'.length ≤ k.ws.length + 1 → R (Kp.enc { k with ws := ws', ch := k.ch + 1 }) S
def rd_with_worth : DS :=
 (dSeq (dSet 3 (dLc (itemsI (d2 rIxD (dVar 0) (dC (.int 4)))) (.nm 4) (dTest (d2 (rEqG true) (d2 rIxD (dVar 4) (dC (.int 0))) (dVar 1))) (dVar 4) [4]))
 (dSeq (dSet 5 (dCB rTupPD (dCons (dCB rSortPD (dCons (d2 rAddD (dVar 3) (d2 rMulD (dLst (dCons (dTup (dCons (dVar 1) (dCons (dVar 2) dNil))) dNil)) (dCB rIntD (dCons (d2 rGtD (dVar 2) (dC (.int 0))) dNil)))) dNil)) dNil)))
 (dRet (d2 rAddD (dSl (dVar 0) dNoPart (dPart (dC (.int 3)))) (dTup (dCons (d2 rAddD (d2 rIxD (dVar 0) (dC (.int 3))) (dC (.int 1))) (dCons (dVar 5) (dCons (d2 rIxD (dVar 0) (dC (.int 5))) dNil))))))))
theorem lexB_le {p q : Int × Int} (h : SrtO.lexB q p = false) : p.1 ≤ q.1 := by
  by_cases e : SrtO.lexB q p = true
  · rw [h] at e; cases e
  · rw [SrtO.lexB_iff] at e; omega
theorem ok_with_worth (ds : List D) (S : Store) (R : DK) (h : sp_with_worth ds S R) : rd_with_worth (ends R) (startD ["state", "key", "worth", "rest", "pair", "worths"] ds) S := by
  obtain ⟨k, key, w, rfl, hs, hl, h⟩ := h
  unfold rd_with_worth Kp.enc
  walk_at "dl"
  refine ⟨by rw [List.length_map]; exact len_ok (by omega), ?_⟩
  have fl : (k.ws.filter fun a => !(a.1 == key)).length ≤ k.ws.length := List.length_filter_le _ _
  refine comp_pure encP (fun a => !(a.1 == key)) encP k.ws (fun a ha => ?_) ?_
  · walk_at "dl"
    exact fun G => ⟨fun g => g, fun G h g => g⟩
  · have add : ∃ more : List (Int × Int), more = (if 0 < w then [(key, w)] else []) := ⟨_, rfl⟩
    obtain ⟨more, hm⟩ := add
    have e1 : (List.replicate (if decide (0 < w) = true then (1 : Int) else 0).toNat [D.tup [D.int key, D.int w]]).flatten = more.map encP := by
      rw [hm]
      by_cases e : 0 < w <;> simp [e]
    have e2 : more.length ≤ 1 := by rw [hm]; split <;> simp
    simp only [decide_eq_true_eq] at e1
    rw [e1]
    refine ⟨by split <;> omega, by split <;> omega, len_ok (by split <;> simp), by rw [List.length_map, List.length_map]; exact len_ok (by omega), ?_⟩
    unfold rSortPD
    refine ⟨(k.ws.filter fun a => !(a.1 == key)) ++ more, by rw [List.map_append]; rfl, fun m pm hp => ?_⟩
    walk_at "dl"
    have dist : ((k.ws.filter fun a => !(a.1 == key)) ++ more).Pairwise (fun a b => a.1 ≠ b.1) := by
      by_cases e : 0 < w
      · rw [hm, if_pos e]
        refine ne_add (f := fW) (hs.filter _) fun a ha => ?_
        have := (List.mem_filter.mp ha).2
        simpa using this
      · rw [hm, if_neg e, List.append_nil]
        exact (hs.filter _).imp fun h => by unfold ltW at h; omega
    have ms : m.Pairwise ltW := strict_of (f := fW) (hp.imp fun h => lexB_le h) (ne_perm (f := fW) pm dist)
    have q := h m ms (fun a => by
      rw [pm.mem_iff, List.mem_append, List.mem_filter, hm]
      by_cases e : 0 < w <;> simp [e]) (by rw [pm.length_eq, List.length_append]; omega)
    exact fin_of q
def sp_need_inside : DSp := fun ds S R => ∃ (k : Kp) (key : Int), ds = [k.enc, .int key] ∧ k.low ≤ key ∧ key < k.high ∧ R .non S
def rd_need_inside : DS :=
 (dIfS (dNot (dTest (dChain rLeD rLtD (d2 rIxD (dVar 0) (dC (.int 0))) (dVar 1) (d2 rIxD (dVar 0) (dC (.int 1))))))
 dNever
 dNext)
theorem ok_need_inside (ds : List D) (S : Store) (R : DK) (h : sp_need_inside ds S R) : rd_need_inside (ends R) (startD ["state", "key"] ds) S := by
  obtain ⟨k, key, rfl, h1, h2, h⟩ := h
  unfold rd_need_inside Kp.enc
  walk_at "dl"
  rw [if_pos h1, if_neg (by omega)]
  exact fin_of h
def Dd.chg : Dd → Int → Bool
  | .get _, _ => false
  | .put _ _, _ => true
  | .add _ _, _ => true
  | .swap _ a _, w => w == a
/-- k', of k, after a new deed -/
structure Nxt (k : Kp) (asker number : Int) (dd : Dd) (k' : Kp) : Prop where
  low : k'.low = k.low
  high : k'.high = k.high
  gen : k'.gen = k.gen
  ch : k'.ch = k.ch + (if dd.chg (getW k.ws dd.key) = true then 1 else 0)
  ws : k'.ws.Pairwise ltW
  wm : ∀ p, p ∈ k'.ws ↔ (p ∈ k.ws ∧ p.1 ≠ dd.key) ∨ (0 < dd.new (getW k.ws dd.key) ∧ p = (dd.key, dd.new (getW k.ws dd.key)))
  wl : k'.ws.length ≤ k.ws.length + 1
  as : k'.as.Pairwise ltA
  am : ∀ a, a ∈ k'.as ↔ (a ∈ k.as ∧ a.1 ≠ asker) ∨ a = (asker, number, dd.ans (getW k.ws dd.key))
  al : k'.as.length ≤ k.as.length + 1
/-- what is kept stays so -/
theorem same_ws {k : Kp} {n : Nat} (hk : KOk k n) (key : Int) (p : Int × Int) : p ∈ k.ws ↔ (p ∈ k.ws ∧ p.1 ≠ key) ∨ (0 < getW k.ws key ∧ p = (key, getW k.ws key)) := by
  constructor
  · intro h
    by_cases e : p.1 = key
    · have q := getW_mem hk.ws h
      rw [e] at q
      exact .inr ⟨by rw [q]; exact hk.wp p h, by rw [q, ← e]⟩
    · exact .inl ⟨h, e⟩
  · rintro (h | ⟨h, rfl⟩)
    · exact h.1
    · rcases getW_cases k.ws key with ⟨z, _⟩ | z
      · omega
      · exact z
def sp_asked_of : DSp := fun ds S R => ∃ (k : Kp) (asker number : Int) (dd : Dd), ds = [k.enc, .int asker, .int number, dd.enc] ∧ KOk k 900 ∧
  (number ≤ (findA k.as asker).1 → R (.tup [if number = (findA k.as asker).1 then (findA k.as asker).2 else .non, k.enc]) S) ∧
  (¬ number ≤ (findA k.as asker).1 → ∀ k', Nxt k asker number dd k' → R (.tup [dd.ans (getW k.ws dd.key), k'.enc]) S)
def rd_asked_of_1 : DS :=
 (dRet (dTup (dCons (dVar 5) (dCons (dCall sp_with_answer (dCons (dVar 0) (dCons (dVar 1) (dCons (dVar 2) (dCons (dVar 5) dNil))))) dNil))))
def rd_asked_of_2 : DS :=
 (dSeq (dIfS (dAnd (dTest (d2 (rEqG true) (d2 rIxD (dVar 3) (dC (.int 0))) (dC (.str "get")))) (dOr (dTest (d2 (rEqG true) (d2 rIxD (dVar 3) (dC (.int 0))) (dC (.str "swap")))) (dTest (dVar 5))))
 (dSet 0 (dCall sp_with_worth (dCons (dVar 0) (dCons (d2 rIxD (dVar 3) (dC (.int 1))) (dCons (dVar 6) dNil)))))
 dNext)
 rd_asked_of_1)
def rd_asked_of_3 : DS :=
 (dSeq (dIfS (dTest (d2 rLeD (dVar 2) (dVar 4)))
 (dRet (dTup (dCons (dIf (dTest (d2 (rEqG false) (dVar 2) (dVar 4))) (dVar 5) (dC .non)) (dCons (dVar 0) dNil))))
 dNext)
 (dSeq (dAsg (dCall sp_worth_behind (dCons (dVar 3) (dCons (dCall sp_worth_at (dCons (dVar 0) (dCons (d2 rIxD (dVar 3) (dC (.int 1))) dNil))) dNil))) (.tp [5, 6]))
 rd_asked_of_2))
def rd_asked_of : DS :=
 (dSeq (dAsg (dCall sp_seen_by (dCons (dVar 0) (dCons (dVar 1) dNil))) (.tp [4, 5]))
 rd_asked_of_3)
theorem ok_asked_of (ds : List D) (S : Store) (R : DK) (h : sp_asked_of ds S R) : rd_asked_of (ends R) (startD ["state", "asker", "number", "deed", "last", "answer", "worth"] ds) S := by
  obtain ⟨k, asker, number, dd, rfl, hk, h1, h2⟩ := h
  unfold rd_asked_of
  walk_at "dl"
  refine ⟨k, asker, rfl, ?_⟩
  unfold rd_asked_of_3
  walk_at "dl"
  split
  · rename_i e
    have h1 := h1 e
    split
    · rename_i e
      rw [if_pos e] at h1
      exact fin_of h1
    · rename_i e
      rw [if_neg e] at h1
      exact fin_of h1
  · rename_i e
    have h2 := h2 e
    -- the state, then the answer
    have fin : ∀ (k1 : Kp), k1.low = k.low → k1.high = k.high → k1.gen = k.gen → k1.ch = k.ch + (if dd.chg (getW k.ws dd.key) = true then 1 else 0) → k1.ws.Pairwise ltW →
        (∀ p, p ∈ k1.ws ↔ (p ∈ k.ws ∧ p.1 ≠ dd.key) ∨ (0 < dd.new (getW k.ws dd.key) ∧ p = (dd.key, dd.new (getW k.ws dd.key)))) → k1.ws.length ≤ k.ws.length + 1 → k1.as = k.as →
        sp_with_answer [k1.enc, .int asker, .int number, dd.ans (getW k.ws dd.key)] S fun d S' => ∃ S'', Sub S'' S' ∧ R (.tup [dd.ans (getW k.ws dd.key), d]) S'' := by
      intro k1 e1 e2 e3 e4 e5 e6 e7 e8
      refine ⟨k1, asker, number, _, rfl, by rw [e8]; exact hk.as, by rw [e8]; exact hk.al, fun as' a1 a2 a3 => fin_of (h2 _ ⟨e1, e2, e3, e4, e5, e6, e7, a1, by rw [e8] at a2; exact a2, by rw [e8] at a3; exact a3⟩)⟩
    cases dd with
    | get key =>
      unfold Dd.enc
      walk_at "dl"
      refine ⟨k, key, rfl, hk.ws, .get key, getW k.ws key, rfl, ?_⟩
      unfold rd_asked_of_2
      walk_at "dl"
      unfold rd_asked_of_1
      walk_at "dl"
      exact fin k rfl rfl rfl (by simp [Dd.chg]) hk.ws (same_ws hk key) (by omega) rfl
    | put key x =>
      unfold Dd.enc
      walk_at "dl"
      refine ⟨k, key, rfl, hk.ws, .put key x, getW k.ws key, rfl, ?_⟩
      unfold rd_asked_of_2
      walk_at "dl"
      refine ⟨k, key, _, rfl, hk.ws, hk.wl, fun ws' w1 w2 w3 => ?_⟩
      unfold rd_asked_of_1
      walk_at "dl"
      exact fin { k with ws := ws', ch := k.ch + 1 } rfl rfl rfl (by simp [Dd.chg]) w1 w2 w3 rfl
    | add key x =>
      unfold Dd.enc
      walk_at "dl"
      refine ⟨k, key, rfl, hk.ws, .add key x, getW k.ws key, rfl, ?_⟩
      unfold rd_asked_of_2
      walk_at "dl"
      refine ⟨k, key, _, rfl, hk.ws, hk.wl, fun ws' w1 w2 w3 => ?_⟩
      unfold rd_asked_of_1
      walk_at "dl"
      exact fin { k with ws := ws', ch := k.ch + 1 } rfl rfl rfl (by simp [Dd.chg]) w1 w2 w3 rfl
    | swap key a b =>
      unfold Dd.enc
      walk_at "dl"
      refine ⟨k, key, rfl, hk.ws, .swap key a b, getW k.ws key, rfl, ?_⟩
      simp only [Dd.ans]
      unfold rd_asked_of_2
      walk_at "dl"
      split
      · rename_i e
        refine ⟨k, key, _, rfl, hk.ws, hk.wl, fun ws' w1 w2 w3 => ?_⟩
        unfold rd_asked_of_1
        walk_at "dl"
        exact fin { k with ws := ws', ch := k.ch + 1 } rfl rfl rfl (by simp [Dd.chg, Dd.key, e]) w1 w2 w3 rfl
      · rename_i e
        unfold rd_asked_of_1
        walk_at "dl"
        refine fin k rfl rfl rfl (by simp [Dd.chg, Dd.key, e]) hk.ws ?_ (by omega) rfl
        have q : (Dd.swap key a b).new (getW k.ws key) = getW k.ws key := if_neg e
        simp only [Dd.key]
        rw [q]
        exact same_ws hk key
def sp_asked : DSp := fun ds S R => ∃ (k : Kp) (asker number : Int) (dd : Dd), ds = [k.enc, .int asker, .int number, dd.enc] ∧ KOk k 900 ∧ dd.ok ∧ k.low ≤ dd.key ∧ dd.key < k.high ∧
  (number ≤ (findA k.as asker).1 → R (.tup [if number = (findA k.as asker).1 then (findA k.as asker).2 else .non, k.enc]) S) ∧
  (¬ number ≤ (findA k.as asker).1 → ∀ k', Nxt k asker number dd k' → R (.tup [dd.ans (getW k.ws dd.key), k'.enc]) S)
def rd_asked_1 : DS :=
 (dRet (dCall sp_asked_of (dCons (dVar 0) (dCons (dVar 1) (dCons (dVar 2) (dCons (dVar 3) dNil))))))
def rd_asked_2 : DS :=
 (dSeq (dIfS (dTest (d2 (rInD true) (d2 rIxD (dVar 3) (dC (.int 0))) (dC (.tup [(.str "get"), (.str "put"), (.str "add"), (.str "swap")]))))
 dNever
 dNext)
 (dSeq (dDrop (dCall sp_need_inside (dCons (dVar 0) (dCons (d2 rIxD (dVar 3) (dC (.int 1))) dNil))))
 rd_asked_1))
def rd_asked : DS :=
 (dSeq (dDrop (dCall sp_need_deed (dCons (dVar 3) dNil)))
 rd_asked_2)
theorem ok_asked (ds : List D) (S : Store) (R : DK) (h : sp_asked ds S R) : rd_asked (ends R) (startD ["state", "asker", "number", "deed"] ds) S := by
  obtain ⟨k, asker, number, dd, rfl, hk, hd, hl, hh, h1, h2⟩ := h
  unfold rd_asked
  walk_at "dl"
  refine ⟨dd, rfl, hd, ?_⟩
  unfold rd_asked_2
  have fin : sp_need_inside [k.enc, .int dd.key] S fun d S1 => sp_asked_of [k.enc, .int asker, .int number, dd.enc] S1 fun d S' => ∃ S'', Sub S'' S' ∧ R d S'' :=
    ⟨k, dd.key, rfl, hl, hh, k, asker, number, dd, rfl, hk, fun e => fin_of (h1 e), fun e k' n => fin_of (h2 e k' n)⟩
  cases dd with
  | get key => unfold Dd.enc at fin ⊢; walk_at "dl"; exact fin
  | put key x => unfold Dd.enc at fin ⊢; walk_at "dl"; exact fin
  | add key x => unfold Dd.enc at fin ⊢; walk_at "dl"; exact fin
  | swap key a b => unfold Dd.enc at fin ⊢; walk_at "dl"; exact fin
end Dl

set_option Elab.async false
set_option linter.all false
set_option maxRecDepth 100000
namespace Dl
open PySem PySem.Spec PyProof.Rows L2 LamX
local macro_rules | `(tactic| walk_at "dl") => `(tactic| simp (config := { maxSteps := 1000000 }) only [dSeq, dIfS, dRet, dRetN, dSet, dNext, dDrop, dVar, dC, d2, dTest, dAnd, dOr, dNot, dAndV, dOrV, dNotV, dIf, dChain, dChain3, dCall, dCons, dNil, dTup, dLst, dLstR, dAsg, Tg.d, sets, dFor, dYes, dNever, dBrk, dCnt,
  dSortKey, dLc, dLcR, dComp, wipeD, itemsI, rangeI1, enumI, dCB, rLenD, rIntD, rAbsD, rM2D, rTupD, rTupPD, rAllD, dIsi, tyD, rIxD, rItem, dSl, dPart, dNoPart, rSlD, rII, rAddD, rMulD, rMulDR, rEqG, rIsN, rInD, dNeg, dGet2, rAddXD, rListD, rListRD, dPar, dNewK, dNewT, dAsgNS, dMemo0, itR, dForR, dLcX, dLcXR, dCompR, dTupRg, dLstRg, dLstRgR, dInRg, dMemoSet, dDisp, dPairs, keyPairs, keyOf, dML, dSetIx,
  atI0, atI1, atI2, atI3, atI4, atI5, atIm2, atIm3, atIm4, deref_non, deref_bl, deref_int, deref_str, deref_tp, deref_ptp, deref_lst, items_tup, items_ptp, items_lst, dq_ii, dq_bb, dq_ss, dq_tt, dq_tp, dq_pt, dq_pp, dq_ll, dq_n0, dq_nc, dq_cn, dq_cc, ok_non, ok_bl, ok_int, ok_str, ok_tp, ok_pp, ok_ls, ok_n0, ok_cc, flat, List.all_cons, List.all_nil, List.any_cons, List.any_nil,
  startD, List.map_cons, List.map_nil, List.length_cons, List.length_nil, List.replicate_succ, List.replicate_zero, List.cons_append, List.nil_append, List.set_cons_zero, List.set_cons_succ, List.getElem?_cons_zero, List.getElem?_cons_succ, Nat.reduceAdd, Nat.reduceSub, Nat.reduceLeDiff, Nat.reduceMul,
  Bool.and_true, Bool.true_and, Bool.and_false, Bool.false_and, Bool.or_true, Bool.true_or, Bool.or_false, Bool.false_or, Bool.not_true, Bool.not_false, decide_eq_true_eq, ↓reduceIte, true_and, and_true, Bool.false_eq_true, Bool.not_eq_true', Bool.not_not, beq_self_eq_true, and_self, ne_eq, reduceCtorEq, not_false_eq_true, not_true_eq_false, Int.reduceBEq, beq_iff_eq, beq_eq_false_iff_ne, decide_eq_false_iff_not, Int.reduceLT, Int.reduceLE, Int.reduceNeg, Int.reduceAdd, Int.reduceEq, Int.reduceToNat,  kb_NoneType_bool, kb_NoneType_int, kb_NoneType_str, kb_NoneType_tuple, kb_NoneType_list, kb_bool_bool, kb_bool_int, kb_bool_str, kb_bool_tuple, kb_bool_list, kb_int_bool, kb_int_int, kb_int_str, kb_int_tuple, kb_int_list, kb_str_bool, kb_str_int, kb_str_str, kb_str_tuple, kb_str_list, kb_tuple_bool, kb_tuple_int, kb_tuple_str, kb_tuple_tuple, kb_tuple_list, kb_list_bool, kb_list_int, kb_list_str, kb_list_tuple, kb_list_list, sq_k_e, sq_kw_e, sq_kww_e, sk_k, sk_kw, sk_kww, sl_k, sl_kw, sl_kww, sk_e, cut_2_2_None, ncut_2_2_None, cut_2_None_1, ncut_2_None_1, cut_3_2_None, ncut_3_2_None, cut_3_None_1, ncut_3_None_1, cut_3_3_None, ncut_3_3_None, cut_4_2_None, ncut_4_2_None, cut_4_None_1, ncut_4_None_1, cut_4_None_3, ncut_4_None_3, cut_4_3_None, ncut_4_3_None, cut_5_2_None, ncut_5_2_None, cut_5_None_1, ncut_5_None_1, cut_5_None_3, ncut_5_None_3, cut_5_3_None, ncut_5_3_None, cut_6_2_None, ncut_6_2_None, cut_6_None_1, ncut_6_None_1, cut_6_None_3, ncut_6_None_3, cut_6_None_5, ncut_6_None_5, cut_6_3_None, ncut_6_3_None, sq_get_put, sq_get_add, sq_get_swap, sq_get_look, sq_get_split, sq_get_join, sq_put_get, sq_put_add, sq_put_swap, sq_put_look, sq_put_split, sq_put_join, sq_add_get, sq_add_put, sq_add_swap, sq_add_look, sq_add_split, sq_add_join, sq_swap_get, sq_swap_put, sq_swap_add, sq_swap_look, sq_swap_split, sq_swap_join, sq_look_get, sq_look_put, sq_look_add, sq_look_swap, sq_look_split, sq_look_join, sq_split_get, sq_split_put, sq_split_add, sq_split_swap, sq_split_look, sq_split_join, sq_join_get, sq_join_put, sq_join_add, sq_join_swap, sq_join_look, sq_join_split, ls0, ls1, ls2, ls3, ls4, ls5, ls6, ls7, ls8, ls9, ls10, nc0, nc1, nc2, nc3, nc4, nc5, nc6, nc7, nc8, nc9, nc10, sk_get, sk_put, sk_add, sk_swap, sk_look, sk_split, sk_join])


/-! ### the dice -/
def Dice (S : Store) (p q : Addr) : Prop := ∃ (a b : Int) (ns : List Int), S p = some (.lst [.int a, .int b, .ref q]) ∧ S q = some (.lst (ns.map D.int)) ∧ p ≠ q ∧ 0 ≤ a ∧ a < 2147483647 ∧ 0 ≤ b ∧ ∀ n ∈ ns, 0 ≤ n
def sp__law_dice : DSp := fun ds S R => ∃ (ns : List Int) (k : Int), ds = [.scr ns, .int k] ∧ ns.length ≤ 63 ∧ 0 ≤ k ∧ k < 2147483647 ∧ ∀ p q S', Dice S' p q → R (.ref p) S'
def rd__law_dice : DS :=
 (dSeq (dSet 2 (dVar 1))
 (dSeq (dFor (itemsI (dVar 0)) (.nm 3)
 (dSet 2 (d2 rModD (d2 rAddD (d2 rMulD (dVar 2) (dC (.int 31))) (dCB rAbsD (dCons (dVar 3) dNil))) (dC (.int 2147483647)))))
 (dRet (dLstR (dCons (dVar 2) (dCons (dC (.int 0)) (dCons (dLcR (itemsI (dVar 0)) (.nm 3) (dTest (d2 rGeD (dVar 3) (d2 rPowD (dC (.int 10)) (dC (.int 18))))) (dVar 3) [3]) dNil)))))))
theorem ok__law_dice (ds : List D) (S : Store) (R : DK) (h : sp__law_dice ds S R) : rd__law_dice (ends R) (startD ["_law_script", "_law_k", "_law_found", "_law_cell"] ds) S := by
  obtain ⟨ns, k, rfl, hl, h0, h1, h⟩ := h
  unfold rd__law_dice
  walk_at "dl"
  refine loop_ind (fun rest τ S' => ∃ (ms : List Int) (f : Int) (j : Option D), rest = ms.map D.int ∧ S' = S ∧ τ = [some (.scr ns), some (.int k), some (.int f), j] ∧ 0 ≤ f ∧ f < 2147483647) ?_ ?_ _ _ _ ⟨ns, k, none, rfl, rfl, rfl, h0, h1⟩
  · rintro τ S' ⟨ms, f, j, e, rfl, rfl, f0, f1⟩
    walk_at "dl"
    refine ⟨by rw [List.length_map]; exact len_ok (by omega), ?_⟩
    refine comp_pure D.int (fun n => decide ((10 : Int) ^ 18 ≤ n)) D.int ns (fun n hn => ?_) ?_
    · refine fun G => ⟨fun g => ⟨⟨by decide, by decide, by decide⟩, trivial, g⟩, fun G h g => g⟩
    · intro q hq
      try walk_at "dl"
      intro p hp
      have ne : p ≠ q := fun e => by rw [e, ups_same] at hp; cases hp
      exact fin_of (h p q _ ⟨f, 0, _, ups_same, by rw [ups_ne ne.symm, ups_same], ne, f0, f1, by omega, fun n hn => by
        have := (List.mem_filter.mp hn).2
        have e : (10 : Int) ^ 18 ≤ n := by simpa using this
        omega⟩)
  · rintro d r τ S' N ⟨ms, f, j, e, rfl, rfl, f0, f1⟩ hN
    cases ms with
    | nil => cases e
    | cons n r' =>
      cases e
      walk_at "dl"
      refine ⟨.inr ⟨by decide, by decide⟩, ?_⟩
      exact hN _ _ ⟨r', _, _, rfl, rfl, rfl, Int.emod_nonneg _ (by decide), Int.emod_lt_of_pos _ (by decide)⟩
def sp__law_off : DSp := fun ds S R => ∃ (p q : Addr) (m : Int), ds = [.ref p, .int m] ∧ Dice S p q ∧ 0 < m ∧ m < 1073741824 ∧ ∀ v S', 0 ≤ v → v < m → Dice S' p q → (∀ x, x ≠ p → x ≠ q → S' x = S x) → R (.int v) S'
def rd__law_off_1 : DS :=
 (dRet (dVar 2))
def rd__law_off_2 : DS :=
 (dSeq (dSetIx (d2 rDivD (d2 rIxD (dVar 0) (dC (.int 1))) (dVar 1)) (dVar 0) (dC (.int 1)))
 rd__law_off_1)
def rd__law_off_3 : DS :=
 (dRet (d2 rModD (d2 rDivD (d2 rIxD (dVar 0) (dC (.int 0))) (dC (.int 64))) (dVar 1)))
def rd__law_off_4 : DS :=
 (dSeq (dSetIx (d2 rModD (d2 rAddD (d2 rMulD (d2 rIxD (dVar 0) (dC (.int 0))) (dC (.int 48271))) (dC (.int 11))) (dC (.int 2147483647))) (dVar 0) (dC (.int 0)))
 rd__law_off_3)
def rd__law_off_5 : DS :=
 (dSeq (dIfS (dTest (d2 rGtD (d2 rIxD (dVar 0) (dC (.int 1))) (dC (.int 0))))
 (dSeq (dSet 2 (d2 rModD (d2 rIxD (dVar 0) (dC (.int 1))) (dVar 1)))
 rd__law_off_2)
 dNext)
 rd__law_off_4)
def rd__law_off : DS :=
 (dSeq (dIfS (dAnd (dTest (d2 (rEqG false) (d2 rIxD (dVar 0) (dC (.int 1))) (dC (.int 0)))) (dTest (d2 (rEqG true) (d2 rIxD (dVar 0) (dC (.int 2))) (dLst dNil))))
 (dSetIx (dML rPopAtD (d2 rIxD (dVar 0) (dC (.int 2))) (dCons (dC (.int 0)) dNil)) (dVar 0) (dC (.int 1)))
 dNext)
 rd__law_off_5)
theorem okds_int (n : Nat) : ∀ ns : List Int, okds n (ns.map D.int) = true
  | [] => ok_n0 n
  | i :: r => by rw [List.map_cons, ok_cc, ok_int, okds_int n r]; rfl
theorem off_5 {p q : Addr} {m a b : Int} {ns : List Int} {S : Store} {R : DK} {j : Option D} (hp : S p = some (.lst [.int a, .int b, .ref q])) (hq : S q = some (.lst (ns.map D.int))) (ne : p ≠ q) (a0 : 0 ≤ a) (a1 : a < 2147483647) (b0 : 0 ≤ b) (hn : ∀ n ∈ ns, 0 ≤ n)
    (m0 : 0 < m) (m1 : m < 1073741824) (h : ∀ v S', 0 ≤ v → v < m → Dice S' p q → (∀ x, x ≠ p → x ≠ q → S' x = S x) → R (.int v) S') : rd__law_off_5 (ends R) [some (.ref p), some (.int m), j] S := by
  unfold rd__law_off_5
  walk_at "dl"
  simp only [deref_rf hp]
  try walk_at "dl"
  split
  · simp only [deref_rf hp]
    walk_at "dl"
    refine ⟨m0, ?_⟩
    unfold rd__law_off_2
    walk_at "dl"
    simp only [deref_rf hp]
    walk_at "dl"
    refine ⟨⟨m0, m1⟩, ?_⟩
    simp only [hp, List.length_cons, List.length_nil, ixN3_1, List.set_cons_succ, List.set_cons_zero]
    unfold rd__law_off_1
    walk_at "dl"
    exact fin_of (h _ _ (Int.emod_nonneg _ (by omega)) (Int.emod_lt_of_pos _ m0) ⟨a, b / m, ns, ups_same, by rw [ups_ne ne.symm]; exact hq, ne, a0, a1, Int.ediv_nonneg b0 (by omega), hn⟩ fun x h1 h2 => ups_ne h1)
  · unfold rd__law_off_4
    walk_at "dl"
    simp only [deref_rf hp]
    walk_at "dl"
    refine ⟨.inr ⟨by decide, by decide⟩, ?_⟩
    simp only [hp, List.length_cons, List.length_nil, ixN3_0, List.set_cons_succ, List.set_cons_zero]
    unfold rd__law_off_3
    walk_at "dl"
    simp only [deref_rf ups_same]
    try walk_at "dl"
    refine ⟨⟨by decide, by decide⟩, m0, ?_⟩
    exact fin_of (h _ _ (Int.emod_nonneg _ (by omega)) (Int.emod_lt_of_pos _ m0) ⟨_, b, ns, ups_same, by rw [ups_ne ne.symm]; exact hq, ne, Int.emod_nonneg _ (by decide), Int.emod_lt_of_pos _ (by decide), b0, hn⟩ fun x h1 h2 => ups_ne h1)
theorem ok__law_off (ds : List D) (S : Store) (R : DK) (h : sp__law_off ds S R) : rd__law_off (ends R) (startD ["_law_d", "_law_most", "_law_found"] ds) S := by
  obtain ⟨p, q, m, rfl, ⟨a, b, ns, hp, hq, ne, a0, a1, b0, hn⟩, m0, m1, h⟩ := h
  unfold rd__law_off
  walk_at "dl"
  simp only [deref_rf hp, deref_rf hq]
  walk_at "dl"
  have h5 := off_5 (j := none) hp hq ne a0 a1 b0 hn m0 m1 h
  split
  · simp only [deref_rf hp, deref_rf hq]
    try walk_at "dl"
    try simp only [deref_rf hp, deref_rf hq]
    try walk_at "dl"
    refine ⟨okds_int _ _, ?_⟩
    cases ns with
    | nil =>
      simp only [List.map_nil, dq_n0, Bool.true_eq_false, if_false]
      exact h5
    | cons n r =>
      simp only [List.map_cons, dq_cn, if_true]
      refine ⟨by unfold isLst; rw [deref_rf hq]; trivial, ?_⟩
      unfold rPopAtD
      simp only [hq, List.map_cons, List.length_cons]
      have e : seqIndex? 0 ((r.map D.int).length + 1) = some 0 := by unfold seqIndex?; simp
      refine ⟨by decide, by decide, ?_⟩
      simp only [e, List.getElem?_cons_zero, List.eraseIdx_cons_zero, ups_ne ne, hp, List.length_cons, List.length_nil, ixN3_1, List.set_cons_succ, List.set_cons_zero]
      refine off_5 (a := a) (b := n) (ns := r) ups_same (by rw [ups_ne ne.symm, ups_same]) ne a0 a1 (hn n List.mem_cons_self) (fun x hx => hn x (List.mem_cons_of_mem _ hx)) m0 m1 fun v S' v0 v1 hd hf => h v S' v0 v1 hd fun x h1 h2 => ?_
      rw [hf x h1 h2, ups_ne h1, ups_ne h2]
  · exact h5
/-! ### alike -/
def Atom (x y : D) : Prop := x = y ∧ (isAns x ∨ ∃ s, x = .str s ∧ PyData.strOk s = true)
def Seqs (x y : D) (as bs : List D) : Prop := ((x = .tup as ∨ x = .ptp as) ∧ (y = .tup bs ∨ y = .ptp bs)) ∨ (x = .lst as ∧ y = .lst bs)
def Same : Nat → D → D → Prop
  | 0 => Atom
  | n + 1 => fun x y => Atom x y ∨ ∃ as bs, Seqs x y as bs ∧ as.length ≤ 1000 ∧ Paired (Same n) as bs
theorem Same.up : ∀ {n : Nat} {x y : D}, Same n x y → Same (n + 1) x y
  | 0, _, _, h => .inl h
  | n + 1, _, _, .inl h => .inl h
  | n + 1, _, _, .inr ⟨as, bs, h1, h2, h3⟩ => .inr ⟨as, bs, h1, h2, L2.Paired.mapP h3 fun _ _ q => q.up⟩
def sp_alike (n : Nat) : DSp := fun ds S R => ∃ x y, ds = [x, y] ∧ Same n x y ∧ R (.bl true) S
def rd__law_alike0_1 : DS :=
 dNever
def rd__law_alike0_2 : DS :=
 (dSeq (dIfS (dTest (d2 (rEqG true) (dCB rLenD (dCons (dVar 0) dNil)) (dCB rLenD (dCons (dVar 1) dNil))))
 (dRet (dC (.bl false)))
 dNext)
 rd__law_alike0_1)
def rd__law_alike0_3 : DS :=
 (dSeq (dIfS (dOr (dTest (d2 (rEqG true) (dIsi "tuple" (dVar 1)) (dIsi "tuple" (dVar 0)))) (dTest (d2 (rEqG true) (dIsi "list" (dVar 1)) (dIsi "list" (dVar 0)))))
 (dRet (dC (.bl false)))
 dNext)
 rd__law_alike0_2)
def rd__law_alike0_4 : DS :=
 (dSeq (dIfS (dTest (dIsi "str" (dVar 1)))
 (dRet (dAndV (dIsi "str" (dVar 0)) (d2 (rEqG false) (dVar 0) (dVar 1))))
 dNext)
 rd__law_alike0_3)
def rd__law_alike0_5 : DS :=
 (dSeq (dIfS (dTest (dIsi "int" (dVar 1)))
 (dRet (dAndV (dIsi "int" (dVar 0)) (dAndV (dNotV (dIsi "bool" (dVar 0))) (d2 (rEqG false) (dVar 0) (dVar 1)))))
 dNext)
 rd__law_alike0_4)
def rd__law_alike0_6 : DS :=
 (dSeq (dIfS (dTest (dIsi "bool" (dVar 1)))
 (dRet (dAndV (dIsi "bool" (dVar 0)) (d2 (rEqG false) (dVar 0) (dVar 1))))
 dNext)
 rd__law_alike0_5)
def rd__law_alike0 : DS :=
 (dSeq (dIfS (dTest (d2 (rIsN false) (dVar 1) (dC .non)))
 (dRet (d2 (rIsN false) (dVar 0) (dC .non)))
 dNext)
 rd__law_alike0_6)
def rd__law_alike_1 (n : Nat) : DS :=
 (dRet (dCB rAllD (dCons (dLc (rangeI1 (dCons (dCB rLenD (dCons (dVar 1) dNil)) dNil)) (.nm 2) dYes (dCall (sp_alike n) (dCons (d2 rIxD (dVar 0) (dVar 2)) (dCons (d2 rIxD (dVar 1) (dVar 2)) dNil))) [2]) dNil)))
def rd__law_alike_2 (n : Nat) : DS :=
 (dSeq (dIfS (dTest (d2 (rEqG true) (dCB rLenD (dCons (dVar 0) dNil)) (dCB rLenD (dCons (dVar 1) dNil))))
 (dRet (dC (.bl false)))
 dNext)
 (rd__law_alike_1 n))
def rd__law_alike_3 (n : Nat) : DS :=
 (dSeq (dIfS (dOr (dTest (d2 (rEqG true) (dIsi "tuple" (dVar 1)) (dIsi "tuple" (dVar 0)))) (dTest (d2 (rEqG true) (dIsi "list" (dVar 1)) (dIsi "list" (dVar 0)))))
 (dRet (dC (.bl false)))
 dNext)
 (rd__law_alike_2 n))
def rd__law_alike_4 (n : Nat) : DS :=
 (dSeq (dIfS (dTest (dIsi "str" (dVar 1)))
 (dRet (dAndV (dIsi "str" (dVar 0)) (d2 (rEqG false) (dVar 0) (dVar 1))))
 dNext)
 (rd__law_alike_3 n))
def rd__law_alike_5 (n : Nat) : DS :=
 (dSeq (dIfS (dTest (dIsi "int" (dVar 1)))
 (dRet (dAndV (dIsi "int" (dVar 0)) (dAndV (dNotV (dIsi "bool" (dVar 0))) (d2 (rEqG false) (dVar 0) (dVar 1)))))
 dNext)
 (rd__law_alike_4 n))
def rd__law_alike_6 (n : Nat) : DS :=
 (dSeq (dIfS (dTest (dIsi "bool" (dVar 1)))
 (dRet (dAndV (dIsi "bool" (dVar 0)) (d2 (rEqG false) (dVar 0) (dVar 1))))
 dNext)
 (rd__law_alike_5 n))
def rd__law_alike (n : Nat) : DS :=
 (dSeq (dIfS (dTest (d2 (rIsN false) (dVar 1) (dC .non)))
 (dRet (d2 (rIsN false) (dVar 0) (dC .non)))
 dNext)
 (rd__law_alike_6 n))
theorem ok__law_alike0 (ds : List D) (S : Store) (R : DK) (h : sp_alike 0 ds S R) : rd__law_alike0 (ends R) (startD ["_law_found", "_law_due", "_law_k"] ds) S := by
  obtain ⟨x, y, rfl, ⟨rfl, hx⟩, h⟩ := h
  cases x with
  | non => unfold rd__law_alike0; walk_at "dl"; exact fin_of h
  | bl b => unfold rd__law_alike0; walk_at "dl"; unfold rd__law_alike0_6; walk_at "dl"; exact fin_of h
  | int b => unfold rd__law_alike0; walk_at "dl"; unfold rd__law_alike0_6; walk_at "dl"; unfold rd__law_alike0_5; walk_at "dl"; exact fin_of h
  | str z =>
    have hz : PyData.strOk z = true := by
      rcases hx with hx | ⟨s, e, hs⟩
      · exact hx.elim
      · cases e; exact hs
    unfold rd__law_alike0; walk_at "dl"; unfold rd__law_alike0_6; walk_at "dl"; unfold rd__law_alike0_5; walk_at "dl"; unfold rd__law_alike0_4; walk_at "dl"; exact ⟨hz, hz, fin_of h⟩
  | _ =>
    exfalso
    rcases hx with hx | ⟨s, e, _⟩
    · exact hx
    · cases e
theorem intsFrom_eq : ∀ (n : Nat) (lo : Int), intsFrom lo n = (List.range n).map fun (i : Nat) => D.int (lo + (i : Int))
  | 0, _ => rfl
  | n + 1, lo => by
    rw [intsFrom, intsFrom_eq n, List.range_succ_eq_map, List.map_cons, List.map_map]
    refine congr (congrArg _ (by simp)) (List.map_congr_left fun i _ => ?_)
    simp only [Function.comp, Nat.succ_eq_add_one]
    congr 1
    omega
theorem bls_true {α : Type} : ∀ l : List α, blsOf (l.map fun _ => D.bl true) = some (l.map fun _ => true)
  | [] => rfl
  | a :: r => by rw [List.map_cons, blsOf, bls_true r]; rfl
theorem alike_seq {n : Nat} {S : Store} {R : DK} {x y : D} {as bs : List D} (hl : as.length ≤ 1000) (hp : Paired (Same n) as bs)
    (hx : ∀ (i : Nat) (d : D) (G : DK), as[i]? = some d → G d S → d2 rIxD (dVar 0) (dVar 2) [some x, some y, some (.int i)] S G) (hy : ∀ (i : Nat) (d : D) (G : DK), bs[i]? = some d → G d S → d2 rIxD (dVar 1) (dVar 2) [some x, some y, some (.int i)] S G)
    (h : R (.bl true) S) : ∀ (Q : List D → Store → Prop), (∀ l, blsOf l = some (as.map fun _ => true) → Q l S) → compD (.nm 2) dYes (dCall (sp_alike n) (dCons (d2 rIxD (dVar 0) (dVar 2)) (dCons (d2 rIxD (dVar 1) (dVar 2)) dNil))) [some x, some y, none] (intsFrom 0 bs.length) [] S Q := by
  intro Q hQ
  have hlen := hp.length
  rw [intsFrom_eq]
  refine comp_pure (fun i : Nat => D.int (0 + i)) (fun _ => true) (fun _ => D.bl true) (List.range bs.length) (fun i hi => ?_) ?_
  · have hi := List.mem_range.mp hi
    have ia : i < as.length := by omega
    have q := paired_get hp (i := i) (a := as[i]) (b := bs[i]) (by simp [ia]) (by simp [hi])
    rw [Int.zero_add]
    refine fun G => ⟨fun g => g, fun G _ g => ?_⟩
    show dCall (sp_alike n) _ [some x, some y, some (.int i)] S G
    refine hx i as[i] _ (by simp [ia]) ?_
    refine hy i bs[i] _ (by simp [hi]) ?_
    exact ⟨_, _, rfl, q, g⟩
  · rw [List.filter_eq_self.mpr (by simp)]
    refine hQ _ ?_
    rw [bls_true, hlen.symm]
    congr 1
    rw [List.map_const', List.map_const', List.length_range]
where
  paired_get {α β : Type} {P : α → β → Prop} : ∀ {l : List α} {m : List β} {i : Nat} {a : α} {b : β}, Paired P l m → l[i]? = some a → m[i]? = some b → P a b
    | _, _, _, _, _, .nil, h, _ => by simp at h
    | _, _, 0, _, _, .cons r _, h, h' => by simp at h h'; rw [← h, ← h']; exact r
    | _, _, i + 1, _, _, .cons _ t, h, h' => paired_get (i := i) t (by simpa using h) (by simpa using h')
theorem ok__law_alike (n : Nat) (ds : List D) (S : Store) (R : DK) (h : sp_alike (n + 1) ds S R) : rd__law_alike n (ends R) (startD ["_law_found", "_law_due", "_law_k"] ds) S := by
  obtain ⟨x, y, rfl, hs, h⟩ := h
  rcases hs with ⟨rfl, hx⟩ | ⟨as, bs, hq, hl, hp⟩
  · cases x with
    | non => unfold rd__law_alike; walk_at "dl"; exact fin_of h
    | bl b => unfold rd__law_alike; walk_at "dl"; unfold rd__law_alike_6; walk_at "dl"; exact fin_of h
    | int b => unfold rd__law_alike; walk_at "dl"; unfold rd__law_alike_6; walk_at "dl"; unfold rd__law_alike_5; walk_at "dl"; exact fin_of h
    | str z =>
      have hz : PyData.strOk z = true := by
        rcases hx with hx | ⟨s, e, hs⟩
        · exact hx.elim
        · cases e; exact hs
      unfold rd__law_alike; walk_at "dl"; unfold rd__law_alike_6; walk_at "dl"; unfold rd__law_alike_5; walk_at "dl"; unfold rd__law_alike_4; walk_at "dl"; exact ⟨hz, hz, fin_of h⟩
    | _ =>
      exfalso
      rcases hx with hx | ⟨s, e, _⟩
      · exact hx
      · cases e
  · have hlen := hp.length
    have la : as.length ≤ sizeLine := len_ok hl
    have lb : bs.length ≤ sizeLine := by rw [← hlen]; exact la
    have fin : ∀ l, blsOf l = some (as.map fun _ => true) → (match blsOf l with | some bs => ∃ S'', Sub S'' S ∧ R (.bl (bs.all id)) S'' | none => False) := fun l hb => by
      rw [hb]
      have e : (as.map fun _ => true).all id = true := by simp
      show ∃ S'', Sub S'' S ∧ R (.bl ((as.map fun _ => true).all id)) S''
      rw [e]
      exact fin_of h
    have hix : ∀ {cs : List D} {G : DK} (i : Nat) {d : D}, cs[i]? = some d → G d S → match atI cs (i : Int) with | some d => G d S | none => False := fun {cs G} i {d} e g => by
      have hi : i < cs.length := (List.getElem?_eq_some_iff.mp e).1
      rw [atI_n hi, e]
      exact g
    rcases hq with ⟨rfl | rfl, rfl | rfl⟩ | ⟨rfl, rfl⟩
    · unfold rd__law_alike; walk_at "dl"; unfold rd__law_alike_6; walk_at "dl"; unfold rd__law_alike_5; walk_at "dl"; unfold rd__law_alike_4; walk_at "dl"; unfold rd__law_alike_3; walk_at "dl"; unfold rd__law_alike_2; walk_at "dl"
      rw [if_neg (by omega)]
      unfold rd__law_alike_1
      walk_at "dl"
      rw [Int.toNat_natCast]
      exact ⟨by omega, by omega, by rw [intsFrom_length]; exact lb, alike_seq hl hp (fun i d G e g => by simp only [d2, dVar, rIxD, rItem, List.getElem?_cons_zero, List.getElem?_cons_succ, deref_tp, deref_ptp, deref_lst]; exact hix i e g) (fun i d G e g => by simp only [d2, dVar, rIxD, rItem, List.getElem?_cons_zero, List.getElem?_cons_succ, deref_tp, deref_ptp, deref_lst]; exact hix i e g) h _ fin⟩
    · unfold rd__law_alike; walk_at "dl"; unfold rd__law_alike_6; walk_at "dl"; unfold rd__law_alike_5; walk_at "dl"; unfold rd__law_alike_4; walk_at "dl"; unfold rd__law_alike_3; walk_at "dl"; unfold rd__law_alike_2; walk_at "dl"
      rw [if_neg (by omega)]
      unfold rd__law_alike_1
      walk_at "dl"
      rw [Int.toNat_natCast]
      exact ⟨by omega, by omega, by rw [intsFrom_length]; exact lb, alike_seq hl hp (fun i d G e g => by simp only [d2, dVar, rIxD, rItem, List.getElem?_cons_zero, List.getElem?_cons_succ, deref_tp, deref_ptp, deref_lst]; exact hix i e g) (fun i d G e g => by simp only [d2, dVar, rIxD, rItem, List.getElem?_cons_zero, List.getElem?_cons_succ, deref_tp, deref_ptp, deref_lst]; exact hix i e g) h _ fin⟩
    · unfold rd__law_alike; walk_at "dl"; unfold rd__law_alike_6; walk_at "dl"; unfold rd__law_alike_5; walk_at "dl"; unfold rd__law_alike_4; walk_at "dl"; unfold rd__law_alike_3; walk_at "dl"; unfold rd__law_alike_2; walk_at "dl"
      rw [if_neg (by omega)]
      unfold rd__law_alike_1
      walk_at "dl"
      rw [Int.toNat_natCast]
      exact ⟨by omega, by omega, by rw [intsFrom_length]; exact lb, alike_seq hl hp (fun i d G e g => by simp only [d2, dVar, rIxD, rItem, List.getElem?_cons_zero, List.getElem?_cons_succ, deref_tp, deref_ptp, deref_lst]; exact hix i e g) (fun i d G e g => by simp only [d2, dVar, rIxD, rItem, List.getElem?_cons_zero, List.getElem?_cons_succ, deref_tp, deref_ptp, deref_lst]; exact hix i e g) h _ fin⟩
    · unfold rd__law_alike; walk_at "dl"; unfold rd__law_alike_6; walk_at "dl"; unfold rd__law_alike_5; walk_at "dl"; unfold rd__law_alike_4; walk_at "dl"; unfold rd__law_alike_3; walk_at "dl"; unfold rd__law_alike_2; walk_at "dl"
      rw [if_neg (by omega)]
      unfold rd__law_alike_1
      walk_at "dl"
      rw [Int.toNat_natCast]
      exact ⟨by omega, by omega, by rw [intsFrom_length]; exact lb, alike_seq hl hp (fun i d G e g => by simp only [d2, dVar, rIxD, rItem, List.getElem?_cons_zero, List.getElem?_cons_succ, deref_tp, deref_ptp, deref_lst]; exact hix i e g) (fun i d G e g => by simp only [d2, dVar, rIxD, rItem, List.getElem?_cons_zero, List.getElem?_cons_succ, deref_tp, deref_ptp, deref_lst]; exact hix i e g) h _ fin⟩
    · unfold rd__law_alike; walk_at "dl"; unfold rd__law_alike_6; walk_at "dl"; unfold rd__law_alike_5; walk_at "dl"; unfold rd__law_alike_4; walk_at "dl"; unfold rd__law_alike_3; walk_at "dl"; unfold rd__law_alike_2; walk_at "dl"
      rw [if_neg (by omega)]
      unfold rd__law_alike_1
      walk_at "dl"
      rw [Int.toNat_natCast]
      exact ⟨by omega, by omega, by rw [intsFrom_length]; exact lb, alike_seq hl hp (fun i d G e g => by simp only [d2, dVar, rIxD, rItem, List.getElem?_cons_zero, List.getElem?_cons_succ, deref_tp, deref_ptp, deref_lst]; exact hix i e g) (fun i d G e g => by simp only [d2, dVar, rIxD, rItem, List.getElem?_cons_zero, List.getElem?_cons_succ, deref_tp, deref_ptp, deref_lst]; exact hix i e g) h _ fin⟩
end Dl

set_option Elab.async false
set_option linter.all false
set_option maxRecDepth 100000
namespace Dl
open PySem PySem.Spec PyProof.Rows L2 LamX
local macro_rules | `(tactic| walk_at "dl") => `(tactic| simp (config := { maxSteps := 1000000 }) only [dSeq, dIfS, dRet, dRetN, dSet, dNext, dDrop, dVar, dC, d2, dTest, dAnd, dOr, dNot, dAndV, dOrV, dNotV, dIf, dChain, dChain3, dCall, dCons, dNil, dTup, dLst, dLstR, dAsg, Tg.d, sets, dFor, dYes, dNever, dBrk, dCnt,
  dSortKey, dLc, dLcR, dComp, wipeD, itemsI, rangeI1, enumI, dCB, rLenD, rIntD, rAbsD, rM2D, rTupD, rTupPD, rAllD, dIsi, tyD, rIxD, rItem, dSl, dPart, dNoPart, rSlD, rII, rAddD, rMulD, rMulDR, rEqG, rIsN, rInD, dNeg, dGet2, rAddXD, rListD, rListRD, dPar, dNewK, dNewT, dAsgNS, dMemo0, itR, dForR, dLcX, dLcXR, dCompR, dTupRg, dLstRg, dLstRgR, dInRg, dMemoSet, dDisp, dPairs, keyPairs, keyOf, dML, dSetIx,
  atI0, atI1, atI2, atI3, atI4, atI5, atIm2, atIm3, atIm4, deref_non, deref_bl, deref_int, deref_str, deref_tp, deref_ptp, deref_lst, items_tup, items_ptp, items_lst, dq_ii, dq_bb, dq_ss, dq_tt, dq_tp, dq_pt, dq_pp, dq_ll, dq_n0, dq_nc, dq_cn, dq_cc, ok_non, ok_bl, ok_int, ok_str, ok_tp, ok_pp, ok_ls, ok_n0, ok_cc, flat, List.all_cons, List.all_nil, List.any_cons, List.any_nil,
  startD, List.map_cons, List.map_nil, List.length_cons, List.length_nil, List.replicate_succ, List.replicate_zero, List.cons_append, List.nil_append, List.set_cons_zero, List.set_cons_succ, List.getElem?_cons_zero, List.getElem?_cons_succ, Nat.reduceAdd, Nat.reduceSub, Nat.reduceLeDiff, Nat.reduceMul,
  Bool.and_true, Bool.true_and, Bool.and_false, Bool.false_and, Bool.or_true, Bool.true_or, Bool.or_false, Bool.false_or, Bool.not_true, Bool.not_false, decide_eq_true_eq, ↓reduceIte, true_and, and_true, Bool.false_eq_true, Bool.not_eq_true', Bool.not_not, beq_self_eq_true, and_self, ne_eq, reduceCtorEq, not_false_eq_true, not_true_eq_false, Int.reduceBEq, beq_iff_eq, beq_eq_false_iff_ne, decide_eq_false_iff_not, Int.reduceLT, Int.reduceLE, Int.reduceNeg, Int.reduceAdd, Int.reduceEq, Int.reduceToNat,  kb_NoneType_bool, kb_NoneType_int, kb_NoneType_str, kb_NoneType_tuple, kb_NoneType_list, kb_bool_bool, kb_bool_int, kb_bool_str, kb_bool_tuple, kb_bool_list, kb_int_bool, kb_int_int, kb_int_str, kb_int_tuple, kb_int_list, kb_str_bool, kb_str_int, kb_str_str, kb_str_tuple, kb_str_list, kb_tuple_bool, kb_tuple_int, kb_tuple_str, kb_tuple_tuple, kb_tuple_list, kb_list_bool, kb_list_int, kb_list_str, kb_list_tuple, kb_list_list, sq_k_e, sq_kw_e, sq_kww_e, sk_k, sk_kw, sk_kww, sl_k, sl_kw, sl_kww, sk_e, cut_2_2_None, ncut_2_2_None, cut_2_None_1, ncut_2_None_1, cut_3_2_None, ncut_3_2_None, cut_3_None_1, ncut_3_None_1, cut_3_3_None, ncut_3_3_None, cut_4_2_None, ncut_4_2_None, cut_4_None_1, ncut_4_None_1, cut_4_None_3, ncut_4_None_3, cut_4_3_None, ncut_4_3_None, cut_5_2_None, ncut_5_2_None, cut_5_None_1, ncut_5_None_1, cut_5_None_3, ncut_5_None_3, cut_5_3_None, ncut_5_3_None, cut_6_2_None, ncut_6_2_None, cut_6_None_1, ncut_6_None_1, cut_6_None_3, ncut_6_None_3, cut_6_None_5, ncut_6_None_5, cut_6_3_None, ncut_6_3_None, sq_get_put, sq_get_add, sq_get_swap, sq_get_look, sq_get_split, sq_get_join, sq_put_get, sq_put_add, sq_put_swap, sq_put_look, sq_put_split, sq_put_join, sq_add_get, sq_add_put, sq_add_swap, sq_add_look, sq_add_split, sq_add_join, sq_swap_get, sq_swap_put, sq_swap_add, sq_swap_look, sq_swap_split, sq_swap_join, sq_look_get, sq_look_put, sq_look_add, sq_look_swap, sq_look_split, sq_look_join, sq_split_get, sq_split_put, sq_split_add, sq_split_swap, sq_split_look, sq_split_join, sq_join_get, sq_join_put, sq_join_add, sq_join_swap, sq_join_look, sq_join_split, ls0, ls1, ls2, ls3, ls4, ls5, ls6, ls7, ls8, ls9, ls10, nc0, nc1, nc2, nc3, nc4, nc5, nc6, nc7, nc8, nc9, nc10, sk_get, sk_put, sk_add, sk_swap, sk_look, sk_split, sk_join])


/-! ### a deed that is drawn -/
def Frm (S S' : Store) (p q : Addr) : Prop := ∀ x, x ≠ p → x ≠ q → S' x = S x
theorem Frm.refl (S : Store) (p q : Addr) : Frm S S p q := fun _ _ _ => rfl
theorem Frm.trans {S S1 S2 : Store} {p q : Addr} (a : Frm S S1 p q) (b : Frm S1 S2 p q) : Frm S S2 p q := fun x h1 h2 => (b x h1 h2).trans (a x h1 h2)
theorem off_use {S : Store} {p q : Addr} {m : Int} {Q : DK} (hd : Dice S p q) (m0 : 0 < m) (m1 : m < 1073741824) (h : ∀ v S', 0 ≤ v → v < m → Dice S' p q → Frm S S' p q → Q (.int v) S') : sp__law_off [.ref p, .int m] S Q := ⟨p, q, m, rfl, hd, m0, m1, h⟩
theorem atI_in {α : Type} {l : List α} {v : Int} (h0 : 0 ≤ v) (h1 : v < l.length) : ∃ x, x ∈ l ∧ atI l v = some x := by
  obtain ⟨n, rfl⟩ : ∃ n : Nat, v = n := ⟨v.toNat, by omega⟩
  have hi : n < l.length := by omega
  exact ⟨l[n], List.getElem_mem hi, by rw [atI_n hi]; simp [hi]⟩
/-- one of two, by a test -/
theorem pick2 {a b : D} {c : Prop} [Decidable c] : atI [a, b] (if c then 1 else 0) = some (if c then b else a) := by split <;> rfl
def sp__law_plain : DSp := fun ds S R => ∃ (p q : Addr) (few : Int), ds = [.ref p, .int few] ∧ Dice S p q ∧ 0 < few ∧ few ≤ 4 ∧ ∀ (dd : Dd) S', dd.ok → Dice S' p q → Frm S S' p q → R dd.enc S'
def rd__law_plain_1 : DS :=
 (dRet (dTup (dCons (dC (.str "swap")) (dCons (dVar 2) (dCons (dCall sp__law_off (dCons (dVar 0) (dCons (dC (.int 4)) dNil))) (dCons (dVar 3) dNil))))))
def rd__law_plain_2 : DS :=
 (dSeq (dIfS (dTest (d2 rLtD (dVar 4) (dC (.int 2))))
 (dRet (dTup (dCons (dC (.str "get")) (dCons (dVar 2) dNil))))
 dNext)
 (dSeq (dIfS (dTest (d2 (rEqG false) (dVar 4) (dC (.int 2))))
 (dRet (dTup (dCons (dC (.str "put")) (dCons (dVar 2) (dCons (dVar 3) dNil)))))
 dNext)
 (dSeq (dIfS (dTest (d2 rLtD (dVar 4) (dC (.int 6))))
 (dRet (dTup (dCons (dC (.str "add")) (dCons (dVar 2) (dCons (d2 rIxD (dLst (dCons (d2 rAddD (dC (.int 1)) (dCall sp__law_off (dCons (dVar 0) (dCons (dC (.int 3)) dNil)))) (dCons (dVar 3) dNil))) (dCB rIntD (dCons (dOrV (d2 (rEqG false) (dVar 3) (dC (.int 0))) (d2 rGtD (dVar 3) (dC (.int 2)))) dNil))) dNil)))))
 dNext)
 rd__law_plain_1)))
def rd__law_plain_3 : DS :=
 (dSeq (dSet 4 (dCall sp__law_off (dCons (dVar 0) (dCons (dC (.int 7)) dNil))))
 rd__law_plain_2)
def rd__law_plain_4 : DS :=
 (dSeq (dSet 3 (d2 rIxD (dLst (dCons (dCall sp__law_off (dCons (dVar 0) (dCons (dC (.int 4)) dNil))) (dCons (dCall sp__law_off (dCons (dVar 0) (dCons (dC (.int 1000)) dNil))) dNil))) (dCB rIntD (dCons (d2 (rEqG false) (dCall sp__law_off (dCons (dVar 0) (dCons (dC (.int 5)) dNil))) (dC (.int 0))) dNil))))
 rd__law_plain_3)
def rd__law_plain_5 : DS :=
 (dSeq (dIfS (dAnd (dTest (d2 (rEqG false) (dVar 1) (dC (.int 4)))) (dTest (d2 (rEqG false) (dCall sp__law_off (dCons (dVar 0) (dCons (dC (.int 8)) dNil))) (dC (.int 0)))))
 (dSet 2 (d2 rIxD (dLst (dCons (dC (.int 0)) (dCons (dC (.int 99)) (dCons (dCall sp__law_off (dCons (dVar 0) (dCons (dC (.int 100)) dNil))) dNil)))) (dCall sp__law_off (dCons (dVar 0) (dCons (dC (.int 3)) dNil)))))
 dNext)
 rd__law_plain_4)
def rd__law_plain : DS :=
 (dSeq (dSet 2 (d2 rIxD (dLst (dCons (dC (.int 20)) (dCons (dC (.int 60)) (dCons (dC (.int 61)) (dCons (dC (.int 5)) dNil))))) (dCall sp__law_off (dCons (dVar 0) (dCons (dVar 1) dNil)))))
 rd__law_plain_5)
theorem plain_3 {S : Store} {p q : Addr} {few key w : Int} {j : Option D} {R : DK} (hd : Dice S p q) (hk : isW 100 key) (hw : isW 1000 w) (h : ∀ (dd : Dd) S', dd.ok → Dice S' p q → Frm S S' p q → R dd.enc S') : rd__law_plain_3 (ends R) [some (.ref p), some (.int few), some (.int key), some (.int w), j] S := by
  unfold rd__law_plain_3
  walk_at "dl"
  refine off_use hd (by decide) (by decide) fun v S1 v0 v1 hd1 f1 => ?_
  unfold rd__law_plain_2
  walk_at "dl"
  split
  · exact fin_of (h (.get key) S1 hk hd1 f1)
  split
  · exact fin_of (h (.put key w) S1 ⟨hk, hw⟩ hd1 f1)
  split
  · refine off_use hd1 (by decide) (by decide) fun u S2 u0 u1 hd2 f2 => ?_
    have f12 := f1.trans f2
    try walk_at "dl"
    split
    · try walk_at "dl"
      exact fin_of (h (.add key w) S2 ⟨hk, hw⟩ hd2 f12)
    · by_cases e : 2 < w
      · simp only [if_pos e, atI1]
        exact fin_of (h (.add key w) S2 ⟨hk, hw⟩ hd2 f12)
      · simp only [if_neg e, atI0]
        exact fin_of (h (.add key (1 + u)) S2 ⟨hk, by unfold isW; omega⟩ hd2 f12)
  · unfold rd__law_plain_1
    walk_at "dl"
    refine off_use hd1 (by decide) (by decide) fun u S2 u0 u1 hd2 f2 => ?_
    try walk_at "dl"
    exact fin_of (h (.swap key u w) S2 ⟨hk, by unfold isW; omega, hw⟩ hd2 (f1.trans f2))
theorem plain_4 {S : Store} {p q : Addr} {few key : Int} {j1 j2 : Option D} {R : DK} (hd : Dice S p q) (hk : isW 100 key) (h : ∀ (dd : Dd) S', dd.ok → Dice S' p q → Frm S S' p q → R dd.enc S') : rd__law_plain_4 (ends R) [some (.ref p), some (.int few), some (.int key), j1, j2] S := by
  unfold rd__law_plain_4
  walk_at "dl"
  refine off_use hd (by decide) (by decide) fun v S1 v0 v1 hd1 f1 => ?_
  try walk_at "dl"
  refine off_use hd1 (by decide) (by decide) fun u S2 u0 u1 hd2 f2 => ?_
  try walk_at "dl"
  refine off_use hd2 (by decide) (by decide) fun z S3 z0 z1 hd3 f3 => ?_
  try walk_at "dl"
  have f13 := (f1.trans f2).trans f3
  by_cases e : z = 0
  · simp only [e]
    walk_at "dl"
    exact plain_3 hd3 hk (by unfold isW; omega) fun dd S' a b c => h dd S' a b (f13.trans c)
  · simp only [beq_eq_false_iff_ne.mpr e, if_neg e]
    walk_at "dl"
    exact plain_3 hd3 hk (by unfold isW; omega) fun dd S' a b c => h dd S' a b (f13.trans c)
theorem ok__law_plain (ds : List D) (S : Store) (R : DK) (h : sp__law_plain ds S R) : rd__law_plain (ends R) (startD ["_law_d", "_law_few", "_law_key", "_law_worth", "_law_kind"] ds) S := by
  obtain ⟨p, q, few, rfl, hd, w0, w1, h⟩ := h
  unfold rd__law_plain
  walk_at "dl"
  refine off_use hd w0 (by omega) fun v S1 v0 v1 hd1 f1 => ?_
  try walk_at "dl"
  have key4 : ∃ k : Int, isW 100 k ∧ atI [D.int 20, D.int 60, D.int 61, D.int 5] v = some (.int k) := by
    obtain ⟨x, hx, e⟩ := atI_in (l := [D.int 20, D.int 60, D.int 61, D.int 5]) v0 (by simp; omega)
    simp only [List.mem_cons, List.not_mem_nil, or_false] at hx
    rcases hx with rfl | rfl | rfl | rfl <;> exact ⟨_, by unfold isW; omega, e⟩
  obtain ⟨k, hk, ek⟩ := key4
  simp only [ek]
  unfold rd__law_plain_5
  walk_at "dl"
  have fin : ∀ S', Dice S' p q → Frm S S' p q → ∀ k, isW 100 k → ∀ j1 j2, rd__law_plain_4 (ends R) [some (.ref p), some (.int few), some (.int k), j1, j2] S' := fun S' hd' f' k hk j1 j2 => plain_4 hd' hk fun dd S2 a b c => h dd S2 a b (f'.trans c)
  split
  · refine off_use hd1 (by decide) (by decide) fun u S2 u0 u1 hd2 f2 => ?_
    try walk_at "dl"
    split
    · refine off_use hd2 (by decide) (by decide) fun z S3 z0 z1 hd3 f3 => ?_
      try walk_at "dl"
      refine off_use hd3 (by decide) (by decide) fun y S4 y0 y1 hd4 f4 => ?_
      try walk_at "dl"
      have key3 : ∃ k : Int, isW 100 k ∧ atI [D.int 0, D.int 99, D.int z] y = some (.int k) := by
        obtain ⟨x, hx, e⟩ := atI_in (l := [D.int 0, D.int 99, D.int z]) y0 (by simp; omega)
        simp only [List.mem_cons, List.not_mem_nil, or_false] at hx
        rcases hx with rfl | rfl | rfl <;> exact ⟨_, by unfold isW; omega, e⟩
      obtain ⟨k, hk, ek⟩ := key3
      simp only [ek]
      exact fin S4 hd4 (((f1.trans f2).trans f3).trans f4) k hk _ _
    · exact fin S2 hd2 (f1.trans f2) k hk _ _
  · exact fin S1 hd1 f1 k hk _ _
/-! ### what is due -/
def sp__law_done : DSp := fun ds S R => ∃ (k : Kp) (dd : Dd), ds = [.ptp (k.ws.map encP), dd.enc] ∧ k.ws.Pairwise ltW ∧ k.ws.length ≤ 60 ∧ (∀ p ∈ k.ws, 0 < p.2) ∧
  ∀ ws' : List (Int × Int), ws'.Pairwise ltW → (∀ p, p ∈ ws' ↔ (p ∈ k.ws ∧ p.1 ≠ dd.key) ∨ (0 < dd.new (getW k.ws dd.key) ∧ p = (dd.key, dd.new (getW k.ws dd.key)))) → ws'.length ≤ k.ws.length + 1 →
    R (.tup [dd.ans (getW k.ws dd.key), .ptp (ws'.map encP)]) S
def rd__law_done_1 : DS :=
 (dRet (dTup (dCons (dVar 6) (dCons (dCB rTupPD (dCons (dLc (itemsI (dCB rSortKD (dCons (dVar 2) dNil))) (.nm 3) (dTest (d2 rGtD (d2 rIxD (dVar 2) (dVar 3)) (dC (.int 0)))) (dTup (dCons (dVar 3) (dCons (d2 rIxD (dVar 2) (dVar 3)) dNil))) [3]) dNil)) dNil))))
def rd__law_done_2 : DS :=
 (dSeq (dSet 6 (d2 rIxD (dDisp [((dC (.str "get")), (dVar 4)), ((dC (.str "put")), (dVar 4)), ((dC (.str "add")), (dVar 5)), ((dC (.str "swap")), (dAndV (d2 (rEqG false) (d2 rIxD (dVar 1) (dC (.int 0))) (dC (.str "swap"))) (d2 (rEqG false) (dVar 4) (d2 rIxD (dVar 1) (dC (.int 2))))))]) (d2 rIxD (dVar 1) (dC (.int 0)))))
 rd__law_done_1)
def rd__law_done_3 : DS :=
 (dSeq (dPut (dVar 5) (dVar 2) (d2 rIxD (dVar 1) (dC (.int 1))))
 rd__law_done_2)
def rd__law_done_4 : DS :=
 (dSeq (dIfS (dAnd (dTest (d2 (rEqG false) (d2 rIxD (dVar 1) (dC (.int 0))) (dC (.str "swap")))) (dTest (d2 (rEqG true) (dVar 4) (d2 rIxD (dVar 1) (dC (.int 2))))))
 (dSet 5 (dVar 4))
 dNext)
 rd__law_done_3)
def rd__law_done_5 : DS :=
 (dSeq (dSet 5 (d2 rIxD (dDisp [((dC (.str "get")), (dVar 4)), ((dC (.str "put")), (d2 rIxD (dVar 1) (dNeg (dC (.int 1))))), ((dC (.str "add")), (d2 rModD (d2 rAddD (dVar 4) (d2 rIxD (dVar 1) (dNeg (dC (.int 1))))) (dC (.int 1000)))), ((dC (.str "swap")), (d2 rIxD (dVar 1) (dNeg (dC (.int 1)))))]) (d2 rIxD (dVar 1) (dC (.int 0)))))
 rd__law_done_4)
def rd__law_done_6 : DS :=
 (dSeq (dSet 4 (dGet2 (dVar 2) (d2 rIxD (dVar 1) (dC (.int 1))) (dC (.int 0))))
 rd__law_done_5)
def rd__law_done_7 : DS :=
 (dSeq (dIfS (dTest (d2 (rEqG false) (d2 rIxD (dVar 1) (dC (.int 0))) (dC (.str "look"))))
 dNever
 dNext)
 rd__law_done_6)
def rd__law_done : DS :=
 (dSeq (dSet 2 (dCB rDictD (dCons (dVar 0) dNil)))
 rd__law_done_7)
theorem strK_ne {x y : Str} (h : (x == y) = false) : (Sum.inr x : L2.Key) ≠ Sum.inr y := fun e => by
  injection e with e
  rw [e, beq_self_eq_true] at h
  cases h
theorem merge4 {k1 k2 k3 k4 : L2.Key} {a b c d : D} (h12 : k1 ≠ k2) (h13 : k1 ≠ k3) (h14 : k1 ≠ k4) (h23 : k2 ≠ k3) (h24 : k2 ≠ k4) (h34 : k3 ≠ k4) : mergeD [] [(k1, a), (k2, b), (k3, c), (k4, d)] = [(k1, a), (k2, b), (k3, c), (k4, d)] := by
  simp [mergeD, putD, h12, h13, h14, h23, h24, h34]
theorem mergeS {a b c d : D} : mergeD [] [(.inr "get", a), (.inr "put", b), (.inr "add", c), (.inr "swap", d)] = [(.inr "get", a), (.inr "put", b), (.inr "add", c), (.inr "swap", d)] :=
  merge4 (strK_ne sq_get_put) (strK_ne sq_get_add) (strK_ne sq_get_swap) (strK_ne sq_put_add) (strK_ne sq_put_swap) (strK_ne sq_add_swap)
theorem valD_hit {κ : Type} [DecidableEq κ] {k : κ} {v : D} {r : List (κ × D)} : valD ((k, v) :: r) k = some v := by simp [valD]
theorem valD_miss {κ : Type} [DecidableEq κ] {k k' : κ} {v : D} {r : List (κ × D)} (h : k' ≠ k) : valD ((k', v) :: r) k = valD r k := by simp [valD, List.find?_cons, h]
theorem vs_get {a b c d : D} : valD [(.inr "get", a), (.inr "put", b), (.inr "add", c), (.inr "swap", d)] (Sum.inr "get" : L2.Key) = some a := valD_hit
theorem vs_put {a b c d : D} : valD [(.inr "get", a), (.inr "put", b), (.inr "add", c), (.inr "swap", d)] (Sum.inr "put" : L2.Key) = some b := by rw [valD_miss (strK_ne sq_get_put), valD_hit]
theorem vs_add {a b c d : D} : valD [(.inr "get", a), (.inr "put", b), (.inr "add", c), (.inr "swap", d)] (Sum.inr "add" : L2.Key) = some c := by rw [valD_miss (strK_ne sq_get_add), valD_miss (strK_ne sq_put_add), valD_hit]
theorem vs_swap {a b c d : D} : valD [(.inr "get", a), (.inr "put", b), (.inr "add", c), (.inr "swap", d)] (Sum.inr "swap" : L2.Key) = some d := by rw [valD_miss (strK_ne sq_get_swap), valD_miss (strK_ne sq_put_swap), valD_miss (strK_ne sq_add_swap), valD_hit]
/-- the item of a written dict -/
theorem ix_rfK {S : Store} {p : Addr} {kvs : List (L2.Key × D)} {y d : D} {k : L2.Key} {Q : DK} (h : S p = some (.dK kvs)) (hk : keyOf y = some k) (hv : valD kvs k = some d) (q : Q d S) : rIxD (.ref p) y S Q := by
  unfold rIxD
  simp only [deref_rfK h, h, hk, hv]
  exact q
/-- known, S' from S on -/
structure Kn (S S' : Store) (p : Addr) (ws : List (Int × Int)) : Prop where
  sub : Sub S S'
  new : S p = none
  kn : S' p = some (.dK (ws.map kdW))
theorem Kn.ups {S S' : Store} {p q : Addr} {ws : List (Int × Int)} {o : MO} (k : Kn S S' p ws) (h : S' q = none) : Kn S (ups S' q o) p ws := by
  have ne : p ≠ q := fun e => by rw [← e, k.kn] at h; cases h
  refine ⟨k.sub.trans (sub_ups h), k.new, by rw [ups_ne ne]; exact k.kn⟩
theorem getW_cons (p : Int × Int) (r : List (Int × Int)) (k : Int) : getW (p :: r) k = if p.1 = k then p.2 else getW r k := by
  unfold getW
  rw [List.find?_cons]
  by_cases e : p.1 = k
  · rw [decide_eq_true e, if_pos e]; rfl
  · rw [decide_eq_false e, if_neg e]
theorem getW_nil (k : Int) : getW [] k = 0 := rfl
abbrev repW (key new : Int) (p : Int × Int) : Int × Int := if p.1 = key then (p.1, new) else p
theorem repW_fst (key new : Int) (p : Int × Int) : (repW key new p).1 = p.1 := by unfold repW; split <;> rfl
theorem getW_rep (key new k : Int) : ∀ ws : List (Int × Int), getW (ws.map (repW key new)) k = if k = key ∧ key ∈ ws.map (·.1) then new else getW ws k
  | [] => by simp [getW_nil]
  | p :: r => by
    rw [List.map_cons, getW_cons, getW_cons, getW_rep key new k r, repW_fst]
    by_cases e : p.1 = k
    · rw [if_pos e, if_pos e]
      unfold repW
      by_cases e2 : p.1 = key
      · rw [if_pos e2, if_pos ⟨by omega, by rw [← e2]; simp⟩]
      · rw [if_neg e2, if_neg (fun h => e2 (by omega))]
    · rw [if_neg e, if_neg e]
      by_cases e2 : k = key ∧ key ∈ r.map (·.1)
      · rw [if_pos e2, if_pos ⟨e2.1, by rw [List.map_cons]; exact List.mem_cons_of_mem _ e2.2⟩]
      · rw [if_neg e2, if_neg]
        rintro ⟨h1, h2⟩
        refine e2 ⟨h1, ?_⟩
        rw [List.map_cons, List.mem_cons] at h2
        rcases h2 with h2 | h2
        · omega
        · exact h2
theorem getW_app (key new k : Int) : ∀ ws : List (Int × Int), key ∉ ws.map (·.1) → getW (ws ++ [(key, new)]) k = if k = key then new else getW ws k
  | [], _ => by
    rw [List.nil_append, getW_cons, getW_nil]
    by_cases e : k = key
    · rw [if_pos e, if_pos e.symm]
    · rw [if_neg e, if_neg (fun h => e h.symm)]
  | p :: r, h => by
    rw [List.map_cons, List.mem_cons, not_or] at h
    rw [List.cons_append, getW_cons, getW_cons, getW_app key new k r h.2]
    by_cases e : p.1 = k
    · rw [if_pos e, if_pos e, if_neg (fun e2 => h.1 (by omega))]
    · rw [if_neg e, if_neg e]
theorem putD_ws {ws : List (Int × Int)} (key new : Int) : ∃ ws2 : List (Int × Int), putD (ws.map kdW) (.inl key) (.int new) = ws2.map kdW ∧ ws2.length ≤ ws.length + 1 ∧ (∀ k, k ∈ ws2.map (·.1) ↔ k = key ∨ k ∈ ws.map (·.1)) ∧ ((ws.map (·.1)).Nodup → (ws2.map (·.1)).Nodup) ∧
    ∀ k, getW ws2 k = if k = key then new else getW ws k := by
  by_cases m : key ∈ ws.map (·.1)
  · refine ⟨ws.map (repW key new), ?_, by simp, ?_, ?_, ?_⟩
    · have a : ((ws.map kdW).any fun kv => decide (kv.1 = Sum.inl key)) = true := by
        obtain ⟨p, h1, h2⟩ := List.mem_map.mp m
        refine List.any_eq_true.mpr ⟨kdW p, List.mem_map.mpr ⟨p, h1, rfl⟩, ?_⟩
        have h2 : p.1 = key := h2
        simp [h2]
      unfold putD
      rw [if_pos a, List.map_map, List.map_map]
      refine List.map_congr_left fun p _ => ?_
      simp only [Function.comp, repW]
      by_cases e : p.1 = key
      · rw [if_pos (by rw [e]), if_pos e]
      · rw [if_neg (fun h => e (by injection h)), if_neg e]
    · intro k
      rw [List.map_map]
      have e : ((·.1) ∘ repW key new) = fun p : Int × Int => p.1 := funext fun p => repW_fst key new p
      rw [e]
      exact ⟨.inr, fun h => h.elim (fun h => by rw [h]; exact m) id⟩
    · rw [List.map_map]
      have e : ((·.1) ∘ repW key new) = fun p : Int × Int => p.1 := funext fun p => repW_fst key new p
      rw [e]
      exact id
    · intro k
      rw [getW_rep]
      by_cases e : k = key
      · rw [if_pos ⟨e, m⟩, if_pos e]
      · rw [if_neg (fun h => e h.1), if_neg e]
  · refine ⟨ws ++ [(key, new)], ?_, by simp, ?_, ?_, fun k => getW_app key new k ws m⟩
    · rw [putD_new, List.map_append]
      · rfl
      · intro q hq e
        obtain ⟨p, h1, rfl⟩ := List.mem_map.mp hq
        injection e with e
        exact m (List.mem_map.mpr ⟨p, h1, e⟩)
    · intro k
      simp only [List.map_append, List.mem_append, List.map_cons, List.map_nil, List.mem_singleton]
      exact or_comm
    · intro nd
      rw [List.map_append, List.nodup_append]
      refine ⟨nd, by simp, fun a ha b hb => ?_⟩
      have hb : b = key := by simpa using hb
      exact fun e => m (by rw [← hb, ← e]; exact ha)
theorem getW_val {ws : List (Int × Int)} {k : Int} (h : k ∈ ws.map (·.1)) : valD (ws.map kdW) (.inl k) = some (.int (getW ws k)) := by
  induction ws with
  | nil => simp at h
  | cons p r ih =>
    rw [getW_cons]
    by_cases e : p.1 = k
    · rw [if_pos e, List.map_cons, ← e]
      exact valD_hit
    · rw [if_neg e, List.map_cons]
      rw [List.map_cons, List.mem_cons] at h
      refine (valD_miss fun q => e (by injection q)).trans (ih (h.resolve_left fun q => e q.symm))
/-- the end: what is known, sorted, without the zeros -/
theorem done_1 {S S' : Store} {p : Addr} {ws : List (Int × Int)} {a b x w m : D} {j : Option D} {R : DK} (k : Kn S S' p ws) (nd : (ws.map (·.1)).Nodup) (hl : ws.length ≤ 61)
    (h : ∀ ws' : List (Int × Int), ws'.Pairwise ltW → (∀ p : Int × Int, p ∈ ws' ↔ (p.1 ∈ ws.map (·.1) ∧ p.2 = getW ws p.1 ∧ 0 < p.2)) → ws'.length ≤ ws.length → R (.tup [x, .ptp (ws'.map encP)]) S) :
    rd__law_done_1 (ends R) [some a, some b, some (.ref p), j, some w, some m, some x] S' := by
  unfold rd__law_done_1
  walk_at "dl"
  unfold rSortKD
  simp only [k.kn]
  refine ⟨ws.map (·.1), by simp [Function.comp], by rw [List.length_map]; omega, fun out pm so => ?_⟩
  have ol : out.length = ws.length := by rw [pm.length_eq, List.length_map]
  have strict : out.Pairwise (· < ·) := strict_of (f := fun i => i) so ((pm.pairwise_iff (fun h => h.symm)).mpr nd)
  refine ⟨by rw [List.length_map]; exact len_ok (by omega), ?_⟩
  refine comp_pure D.int (fun i => decide (0 < getW ws i)) (fun i => encP (i, getW ws i)) out (fun i hi => ?_) ?_
  · have hv : valD (ws.map kdW) (.inl i) = some (.int (getW ws i)) := getW_val (pm.mem_iff.mp hi)
    have ix : ∀ (G : DK), G (.int (getW ws i)) S' → rIxD (.ref p) (.int i) S' G := fun G g => ix_rfK k.kn rfl hv g
    refine fun G => ⟨fun g => ix _ ⟨trivial, g⟩, fun G _ g => ?_⟩
    refine ix (fun d S2 => _ ≤ sizeLine ∧ _) ⟨len_ok (by simp), g⟩
  · have e : ((out.filter fun i => decide (0 < getW ws i)).map fun i => encP (i, getW ws i)) = (((out.filter fun i => decide (0 < getW ws i)).map fun i => (i, getW ws i))).map encP := by rw [List.map_map]; rfl
    rw [e]
    refine fin_sub (h _ ?_ ?_ ?_) k.sub
    · exact List.pairwise_map.mpr ((strict.filter _).imp fun h => h)
    · intro q
      rw [List.mem_map]
      constructor
      · rintro ⟨i, hi, rfl⟩
        obtain ⟨h1, h2⟩ := List.mem_filter.mp hi
        exact ⟨pm.mem_iff.mp h1, rfl, by simpa using h2⟩
      · rintro ⟨h1, h2, h3⟩
        exact ⟨q.1, List.mem_filter.mpr ⟨pm.mem_iff.mpr h1, by simp only [decide_eq_true_eq]; omega⟩, by rw [← h2]⟩
    · rw [List.length_map]
      have := List.length_filter_le (fun i => decide (0 < getW ws i)) out
      omega
theorem done_3 {S S' : Store} {p : Addr} {ws : List (Int × Int)} {a z w : D} {r : List D} {key m : Int} {j1 j2 : Option D} {R : DK} (k : Kn S S' p ws) (hl : ws.length ≤ 60)
    (h : ∀ S2 ws2, Kn S S2 p ws2 → ws2.length ≤ ws.length + 1 → (∀ k, k ∈ ws2.map (·.1) ↔ k = key ∨ k ∈ ws.map (·.1)) → ((ws.map (·.1)).Nodup → (ws2.map (·.1)).Nodup) → (∀ k, getW ws2 k = if k = key then m else getW ws k) →
      rd__law_done_2 (ends R) [some a, some (.tup (z :: .int key :: r)), some (.ref p), j1, some w, some (.int m), j2] S2) :
    rd__law_done_3 (ends R) [some a, some (.tup (z :: .int key :: r)), some (.ref p), j1, some w, some (.int m), j2] S' := by
  unfold rd__law_done_3
  walk_at "dl"
  simp only [dPut]
  walk_at "dl"
  simp only [k.kn]
  obtain ⟨ws2, e1, e2, e3, e4, e5⟩ := putD_ws (ws := ws) key m
  rw [e1]
  refine ⟨by rw [List.length_map]; exact Nat.lt_of_lt_of_le (Nat.lt_succ_of_le hl) (len_ok (by omega)), ?_⟩
  refine h _ ws2 ⟨fun x o e => ?_, k.new, ups_same⟩ e2 e3 e4 e5
  have ne : x ≠ p := fun q => by rw [q, k.new] at e; cases e
  rw [ups_ne ne]
  exact k.sub x o e
theorem ok__law_done (ds : List D) (S : Store) (R : DK) (h : sp__law_done ds S R) : rd__law_done (ends R) (startD ["_law_worths", "_law_deed", "_law_known", "_law_key", "_law_worth", "_law_more", "_law_answer"] ds) S := by
  obtain ⟨k, dd, rfl, hs, hl, hp, h⟩ := h
  unfold rd__law_done
  walk_at "dl"
  simp only [rDictD, pairs_ws, dict_ws hs]
  intro p hq
  have kn : Kn S (ups S p (.dK (k.ws.map kdW))) p k.ws := ⟨sub_ups hq, hq, ups_same⟩
  generalize ups S p (.dK (k.ws.map kdW)) = S1 at kn ⊢
  have nd : (k.ws.map (·.1)).Nodup := by
    refine List.pairwise_map.mpr (hs.imp fun h => ?_)
    unfold ltW at h
    omega
  have fin : ∀ (S2 S3 : Store) (ws2 : List (Int × Int)) (x w' m : D), Kn S S2 p ws2 → ws2.length ≤ k.ws.length + 1 → (∀ i, i ∈ ws2.map (·.1) ↔ i = dd.key ∨ i ∈ k.ws.map (·.1)) → ((k.ws.map (·.1)).Nodup → (ws2.map (·.1)).Nodup) → (∀ i, getW ws2 i = if i = dd.key then dd.new (getW k.ws dd.key) else getW k.ws i) →
      x = dd.ans (getW k.ws dd.key) → rd__law_done_1 (ends R) [some (.ptp (k.ws.map encP)), some dd.enc, some (.ref p), none, some w', some m, some x] S2 := by
    rintro S2 S3 ws2 x w' m kn2 l2 m2 n2 g2 rfl
    refine done_1 kn2 (n2 nd) (by omega) fun ws' a1 a2 a3 => h ws' a1 (fun q => ?_) (by omega)
    rw [a2, m2, g2]
    by_cases e : q.1 = dd.key
    · rw [if_pos e]
      constructor
      · rintro ⟨_, h2, h3⟩
        exact .inr ⟨by omega, Prod.ext e h2⟩
      · rintro (⟨_, h2⟩ | ⟨h1, rfl⟩)
        · exact absurd e h2
        · exact ⟨.inl rfl, rfl, h1⟩
    · rw [if_neg e]
      constructor
      · rintro ⟨h1, h2, h3⟩
        obtain ⟨r, hr, er⟩ := List.mem_map.mp (h1.resolve_left e)
        have g := getW_mem hs hr
        have er : r.1 = q.1 := er
        rw [er] at g
        refine .inl ⟨?_, e⟩
        have : q = r := Prod.ext er.symm (by rw [h2, g])
        rw [this]; exact hr
      · rintro (⟨h1, _⟩ | ⟨_, rfl⟩)
        · exact ⟨.inr (List.mem_map.mpr ⟨q, h1, rfl⟩), (getW_mem hs h1).symm, hp q h1⟩
        · exact absurd rfl e
  cases dd with
  | get key =>
    unfold Dd.enc at fin ⊢
    unfold rd__law_done_7
    walk_at "dl"
    unfold rd__law_done_6
    walk_at "dl"
    simp only [kn.kn, val_ws]
    unfold rd__law_done_5
    walk_at "dl"
    simp only [mergeS]
    intro p2 hp2
    simp only [deref_rfK ups_same, ups_same, vs_get]
    have kn2 := fun o => kn.ups (o := o) hp2
    unfold rd__law_done_4
    walk_at "dl"
    refine done_3 (kn2 _) hl fun S2 ws2 kn3 l3 m3 n3 g3 => ?_
    unfold rd__law_done_2
    walk_at "dl"
    simp only [mergeS]
    intro p3 hp3
    simp only [deref_rfK ups_same, ups_same, vs_get]
    exact fin _ S2 ws2 _ _ _ (kn3.ups hp3) l3 m3 n3 g3 rfl
  | put key x =>
    unfold Dd.enc at fin ⊢
    unfold rd__law_done_7
    walk_at "dl"
    unfold rd__law_done_6
    walk_at "dl"
    simp only [kn.kn, val_ws]
    unfold rd__law_done_5
    walk_at "dl"
    simp only [mergeS]
    intro p2 hp2
    simp only [deref_rfK ups_same, ups_same, vs_put]
    have kn2 := fun o => kn.ups (o := o) hp2
    unfold rd__law_done_4
    walk_at "dl"
    refine done_3 (kn2 _) hl fun S2 ws2 kn3 l3 m3 n3 g3 => ?_
    unfold rd__law_done_2
    walk_at "dl"
    simp only [mergeS]
    intro p3 hp3
    simp only [deref_rfK ups_same, ups_same, vs_put]
    exact fin _ S2 ws2 _ _ _ (kn3.ups hp3) l3 m3 n3 g3 rfl
  | add key x =>
    unfold Dd.enc at fin ⊢
    unfold rd__law_done_7
    walk_at "dl"
    unfold rd__law_done_6
    walk_at "dl"
    simp only [kn.kn, val_ws]
    unfold rd__law_done_5
    walk_at "dl"
    simp only [mergeS]
    intro p2 hp2
    simp only [deref_rfK ups_same, ups_same, vs_add]
    have kn2 := fun o => kn.ups (o := o) hp2
    unfold rd__law_done_4
    walk_at "dl"
    refine done_3 (kn2 _) hl fun S2 ws2 kn3 l3 m3 n3 g3 => ?_
    unfold rd__law_done_2
    walk_at "dl"
    simp only [mergeS]
    intro p3 hp3
    simp only [deref_rfK ups_same, ups_same, vs_add]
    exact fin _ S2 ws2 _ _ _ (kn3.ups hp3) l3 m3 n3 g3 rfl
  | swap key a b =>
    unfold Dd.enc at fin ⊢
    unfold rd__law_done_7
    walk_at "dl"
    unfold rd__law_done_6
    walk_at "dl"
    simp only [kn.kn, val_ws]
    unfold rd__law_done_5
    walk_at "dl"
    simp only [mergeS]
    intro p2 hp2
    simp only [deref_rfK ups_same, ups_same, vs_swap]
    have kn2 := fun o => kn.ups (o := o) hp2
    unfold rd__law_done_4
    walk_at "dl"
    split
    · rename_i e
      have e' : ¬ getW k.ws key = a := by simpa using e
      refine done_3 (kn2 _) hl fun S2 ws2 kn3 l3 m3 n3 g3 => ?_
      unfold rd__law_done_2
      walk_at "dl"
      simp only [mergeS]
      intro p3 hp3
      simp only [deref_rfK ups_same, ups_same, vs_swap]
      refine fin _ S2 ws2 _ _ _ (kn3.ups hp3) l3 m3 n3 (fun i => (g3 i).trans ?_) rfl
      simp only [Dd.new, Dd.key, e', ↓reduceIte]
    · rename_i e
      have e' : getW k.ws key = a := by simpa using e
      refine done_3 (kn2 _) hl fun S2 ws2 kn3 l3 m3 n3 g3 => ?_
      unfold rd__law_done_2
      walk_at "dl"
      simp only [mergeS]
      intro p3 hp3
      simp only [deref_rfK ups_same, ups_same, vs_swap]
      refine fin _ S2 ws2 _ _ _ (kn3.ups hp3) l3 m3 n3 (fun i => (g3 i).trans ?_) rfl
      simp only [Dd.new, Dd.key, e', ↓reduceIte]
end Dl

set_option Elab.async false
set_option linter.all false
set_option maxRecDepth 100000
namespace Dl
open PySem PySem.Spec PyProof.Rows L2 LamX
local macro_rules | `(tactic| walk_at "dl") => `(tactic| simp (config := { maxSteps := 1000000 }) only [dSeq, dIfS, dRet, dRetN, dSet, dNext, dDrop, dVar, dC, d2, dTest, dAnd, dOr, dNot, dAndV, dOrV, dNotV, dIf, dChain, dChain3, dCall, dCons, dNil, dTup, dLst, dLstR, dAsg, Tg.d, sets, dFor, dYes, dNever, dBrk, dCnt,
  dSortKey, dLc, dLcR, dComp, wipeD, itemsI, rangeI1, enumI, dCB, rLenD, rIntD, rAbsD, rM2D, rTupD, rTupPD, rAllD, dIsi, tyD, rIxD, rItem, dSl, dPart, dNoPart, rSlD, rII, rAddD, rMulD, rMulDR, rEqG, rIsN, rInD, dNeg, dGet2, rAddXD, rListD, rListRD, dPar, dNewK, dNewT, dAsgNS, dMemo0, itR, dForR, dLcX, dLcXR, dCompR, dTupRg, dLstRg, dLstRgR, dInRg, dMemoSet, dDisp, dPairs, keyPairs, keyOf, dML, dSetIx,
  atI0, atI1, atI2, atI3, atI4, atI5, atIm2, atIm3, atIm4, deref_non, deref_bl, deref_int, deref_str, deref_tp, deref_ptp, deref_lst, items_tup, items_ptp, items_lst, dq_ii, dq_bb, dq_ss, dq_tt, dq_tp, dq_pt, dq_pp, dq_ll, dq_n0, dq_nc, dq_cn, dq_cc, ok_non, ok_bl, ok_int, ok_str, ok_tp, ok_pp, ok_ls, ok_n0, ok_cc, flat, List.all_cons, List.all_nil, List.any_cons, List.any_nil,
  startD, List.map_cons, List.map_nil, List.length_cons, List.length_nil, List.replicate_succ, List.replicate_zero, List.cons_append, List.nil_append, List.set_cons_zero, List.set_cons_succ, List.getElem?_cons_zero, List.getElem?_cons_succ, Nat.reduceAdd, Nat.reduceSub, Nat.reduceLeDiff, Nat.reduceMul,
  Bool.and_true, Bool.true_and, Bool.and_false, Bool.false_and, Bool.or_true, Bool.true_or, Bool.or_false, Bool.false_or, Bool.not_true, Bool.not_false, decide_eq_true_eq, ↓reduceIte, true_and, and_true, Bool.false_eq_true, Bool.not_eq_true', Bool.not_not, beq_self_eq_true, and_self, ne_eq, reduceCtorEq, not_false_eq_true, not_true_eq_false, Int.reduceBEq, beq_iff_eq, beq_eq_false_iff_ne, decide_eq_false_iff_not, Int.reduceLT, Int.reduceLE, Int.reduceNeg, Int.reduceAdd, Int.reduceEq, Int.reduceToNat,  kb_NoneType_bool, kb_NoneType_int, kb_NoneType_str, kb_NoneType_tuple, kb_NoneType_list, kb_bool_bool, kb_bool_int, kb_bool_str, kb_bool_tuple, kb_bool_list, kb_int_bool, kb_int_int, kb_int_str, kb_int_tuple, kb_int_list, kb_str_bool, kb_str_int, kb_str_str, kb_str_tuple, kb_str_list, kb_tuple_bool, kb_tuple_int, kb_tuple_str, kb_tuple_tuple, kb_tuple_list, kb_list_bool, kb_list_int, kb_list_str, kb_list_tuple, kb_list_list, sq_k_e, sq_kw_e, sq_kww_e, sk_k, sk_kw, sk_kww, sl_k, sl_kw, sl_kww, sk_e, cut_2_2_None, ncut_2_2_None, cut_2_None_1, ncut_2_None_1, cut_3_2_None, ncut_3_2_None, cut_3_None_1, ncut_3_None_1, cut_3_3_None, ncut_3_3_None, cut_4_2_None, ncut_4_2_None, cut_4_None_1, ncut_4_None_1, cut_4_None_3, ncut_4_None_3, cut_4_3_None, ncut_4_3_None, cut_5_2_None, ncut_5_2_None, cut_5_None_1, ncut_5_None_1, cut_5_None_3, ncut_5_None_3, cut_5_3_None, ncut_5_3_None, cut_6_2_None, ncut_6_2_None, cut_6_None_1, ncut_6_None_1, cut_6_None_3, ncut_6_None_3, cut_6_None_5, ncut_6_None_5, cut_6_3_None, ncut_6_3_None, sq_get_put, sq_get_add, sq_get_swap, sq_get_look, sq_get_split, sq_get_join, sq_put_get, sq_put_add, sq_put_swap, sq_put_look, sq_put_split, sq_put_join, sq_add_get, sq_add_put, sq_add_swap, sq_add_look, sq_add_split, sq_add_join, sq_swap_get, sq_swap_put, sq_swap_add, sq_swap_look, sq_swap_split, sq_swap_join, sq_look_get, sq_look_put, sq_look_add, sq_look_swap, sq_look_split, sq_look_join, sq_split_get, sq_split_put, sq_split_add, sq_split_swap, sq_split_look, sq_split_join, sq_join_get, sq_join_put, sq_join_add, sq_join_swap, sq_join_look, sq_join_split, ls0, ls1, ls2, ls3, ls4, ls5, ls6, ls7, ls8, ls9, ls10, nc0, nc1, nc2, nc3, nc4, nc5, nc6, nc7, nc8, nc9, nc10, sk_get, sk_put, sk_add, sk_swap, sk_look, sk_split, sk_join])


/-! ### what is alike, general -/
theorem KOk.mono {k : Kp} {n m : Nat} (h : KOk k n) (l : n ≤ m) : KOk k m := ⟨h.ws, h.as, Nat.le_trans h.wl l, Nat.le_trans h.al l, h.wp, h.an⟩
theorem ans_is (dd : Dd) (w : Int) : isAns (dd.ans w) := by cases dd <;> trivial
theorem Nxt.ok {k k' : Kp} {n : Nat} {asker number : Int} {dd : Dd} (h : Nxt k asker number dd k') (hk : KOk k n) : KOk k' (n + 1) := by
  have w1 := hk.wl
  have a1 := hk.al
  have w2 := h.wl
  have a2 := h.al
  refine ⟨h.ws, h.as, by omega, by omega, fun p hp => ?_, fun a ha => ?_⟩
  · rcases (h.wm p).mp hp with ⟨q, _⟩ | ⟨q, rfl⟩
    · exact hk.wp p q
    · exact q
  · rcases (h.am a).mp ha with ⟨q, _⟩ | rfl
    · exact hk.an a q
    · exact ans_is _ _
theorem Nxt.uniq {k k1 k2 : Kp} {asker number : Int} {dd : Dd} (h1 : Nxt k asker number dd k1) (h2 : Nxt k asker number dd k2) : k1 = k2 := by
  have ew : k1.ws = k2.ws := sorted_ext ltW (fun a h => by unfold ltW at h; omega) (fun a b c h h' => by unfold ltW at *; omega) h1.ws h2.ws fun p => (h1.wm p).trans (h2.wm p).symm
  have ea : k1.as = k2.as := sorted_ext ltA (fun a h => by unfold ltA at h; omega) (fun a b c h h' => by unfold ltA at *; omega) h1.as h2.as fun p => (h1.am p).trans (h2.am p).symm
  have e1 := h1.low.trans h2.low.symm
  have e2 := h1.high.trans h2.high.symm
  have e3 := h1.gen.trans h2.gen.symm
  have e4 := h1.ch.trans h2.ch.symm
  cases k1
  cases k2
  simp only at e1 e2 e3 e4 ew ea
  subst e1 e2 e3 e4 ew ea
  rfl
abbrev sp__law_alike : DSp := sp_alike 4
theorem atom_int (i : Int) : Atom (.int i) (.int i) := ⟨rfl, .inl trivial⟩
theorem atom_ans {d : D} (h : isAns d) : Atom d d := ⟨rfl, .inl h⟩
theorem same_atom : ∀ {n : Nat} {x y : D}, Atom x y → Same n x y
  | 0, _, _, h => h
  | _ + 1, _, _, h => .inl h
theorem paired_refl {α : Type} {P : α → α → Prop} : ∀ {l : List α}, (∀ x ∈ l, P x x) → Paired P l l
  | [], _ => .nil
  | a :: r, h => .cons (h a List.mem_cons_self) (paired_refl fun x hx => h x (List.mem_cons_of_mem _ hx))
theorem same_tup {n : Nat} {as : List D} (hl : as.length ≤ 1000) (h : ∀ x ∈ as, Same n x x) : Same (n + 1) (.tup as) (.tup as) := .inr ⟨as, as, .inl ⟨.inl rfl, .inl rfl⟩, hl, paired_refl h⟩
theorem same_ptp {n : Nat} {as : List D} (hl : as.length ≤ 1000) (h : ∀ x ∈ as, Same n x x) : Same (n + 1) (.ptp as) (.ptp as) := .inr ⟨as, as, .inl ⟨.inr rfl, .inr rfl⟩, hl, paired_refl h⟩
theorem same_kept {k : Kp} {n : Nat} (hk : KOk k n) (hn : n ≤ 900) : Same 3 k.enc k.enc := by
  have w1 := hk.wl
  have a1 := hk.al
  refine same_tup (by simp) fun x hx => ?_
  simp only [List.mem_cons, List.not_mem_nil, or_false] at hx
  rcases hx with rfl | rfl | rfl | rfl | rfl | rfl
  · exact same_atom (atom_int _)
  · exact same_atom (atom_int _)
  · exact same_atom (atom_int _)
  · exact same_atom (atom_int _)
  · refine same_ptp (by rw [List.length_map]; omega) fun x hx => ?_
    obtain ⟨p, _, rfl⟩ := List.mem_map.mp hx
    refine same_tup (by simp) fun x hx => ?_
    simp only [List.mem_cons, List.not_mem_nil, or_false] at hx
    rcases hx with rfl | rfl <;> exact same_atom (atom_int _)
  · refine same_tup (by rw [List.length_map]; omega) fun x hx => ?_
    obtain ⟨p, hp, rfl⟩ := List.mem_map.mp hx
    refine same_tup (by simp) fun x hx => ?_
    simp only [List.mem_cons, List.not_mem_nil, or_false] at hx
    rcases hx with rfl | rfl | rfl
    · exact same_atom (atom_int _)
    · exact same_atom (atom_int _)
    · exact same_atom (atom_ans (hk.an p hp))
theorem same_due {k : Kp} {n : Nat} {d : D} (hk : KOk k n) (hn : n ≤ 900) (hd : isAns d) : Same 4 (.tup [d, k.enc]) (.tup [d, k.enc]) := by
  refine same_tup (by simp) fun x hx => ?_
  simp only [List.mem_cons, List.not_mem_nil, or_false] at hx
  rcases hx with rfl | rfl
  · exact same_atom (atom_ans hd)
  · exact same_kept hk hn
end Dl

set_option Elab.async false
set_option linter.all false
set_option maxRecDepth 100000
set_option maxHeartbeats 2000000
namespace Dl.D4
open PySem PySem.Spec PyProof.Rows L2 LamX Dl
local macro_rules | `(tactic| walk_at "dl") => `(tactic| simp (config := { maxSteps := 1000000 }) only [dSeq, dIfS, dRet, dRetN, dSet, dNext, dDrop, dVar, dC, d2, dTest, dAnd, dOr, dNot, dAndV, dOrV, dNotV, dIf, dChain, dChain3, dCall, dCons, dNil, dTup, dLst, dLstR, dAsg, Tg.d, sets, dFor, dYes, dNever, dBrk, dCnt,
  dSortKey, dLc, dLcR, dComp, wipeD, itemsI, rangeI1, enumI, dCB, rLenD, rIntD, rAbsD, rM2D, rTupD, rTupPD, rAllD, dIsi, tyD, rIxD, rItem, dSl, dPart, dNoPart, rSlD, rII, rAddD, rMulD, rMulDR, rEqG, rIsN, rInD, dNeg, dGet2, rAddXD, rListD, rListRD, dPar, dNewK, dNewT, dAsgNS, dMemo0, itR, dForR, dLcX, dLcXR, dCompR, dTupRg, dLstRg, dLstRgR, dInRg, dMemoSet, dDisp, dPairs, keyPairs, keyOf, dML, dSetIx,
  atI0, atI1, atI2, atI3, atI4, atI5, atIm2, atIm3, atIm4, deref_non, deref_bl, deref_int, deref_str, deref_tp, deref_ptp, deref_lst, items_tup, items_ptp, items_lst, dq_ii, dq_bb, dq_ss, dq_tt, dq_tp, dq_pt, dq_pp, dq_ll, dq_n0, dq_nc, dq_cn, dq_cc, ok_non, ok_bl, ok_int, ok_str, ok_tp, ok_pp, ok_ls, ok_n0, ok_cc, flat, List.all_cons, List.all_nil, List.any_cons, List.any_nil,
  startD, List.map_cons, List.map_nil, List.length_cons, List.length_nil, List.replicate_succ, List.replicate_zero, List.cons_append, List.nil_append, List.set_cons_zero, List.set_cons_succ, List.getElem?_cons_zero, List.getElem?_cons_succ, Nat.reduceAdd, Nat.reduceSub, Nat.reduceLeDiff, Nat.reduceMul,
  Bool.and_true, Bool.true_and, Bool.and_false, Bool.false_and, Bool.or_true, Bool.true_or, Bool.or_false, Bool.false_or, Bool.not_true, Bool.not_false, decide_eq_true_eq, ↓reduceIte, true_and, and_true, Bool.false_eq_true, Bool.not_eq_true', Bool.not_not, beq_self_eq_true, and_self, ne_eq, reduceCtorEq, not_false_eq_true, not_true_eq_false, Int.reduceBEq, beq_iff_eq, beq_eq_false_iff_ne, decide_eq_false_iff_not, Int.reduceLT, Int.reduceLE, Int.reduceNeg, Int.reduceAdd, Int.reduceEq, Int.reduceToNat,  kb_NoneType_bool, kb_NoneType_int, kb_NoneType_str, kb_NoneType_tuple, kb_NoneType_list, kb_bool_bool, kb_bool_int, kb_bool_str, kb_bool_tuple, kb_bool_list, kb_int_bool, kb_int_int, kb_int_str, kb_int_tuple, kb_int_list, kb_str_bool, kb_str_int, kb_str_str, kb_str_tuple, kb_str_list, kb_tuple_bool, kb_tuple_int, kb_tuple_str, kb_tuple_tuple, kb_tuple_list, kb_list_bool, kb_list_int, kb_list_str, kb_list_tuple, kb_list_list, sq_k_e, sq_kw_e, sq_kww_e, sk_k, sk_kw, sk_kww, sl_k, sl_kw, sl_kww, sk_e, cut_2_2_None, ncut_2_2_None, cut_2_None_1, ncut_2_None_1, cut_3_2_None, ncut_3_2_None, cut_3_None_1, ncut_3_None_1, cut_3_3_None, ncut_3_3_None, cut_4_2_None, ncut_4_2_None, cut_4_None_1, ncut_4_None_1, cut_4_None_3, ncut_4_None_3, cut_4_3_None, ncut_4_3_None, cut_5_2_None, ncut_5_2_None, cut_5_None_1, ncut_5_None_1, cut_5_None_3, ncut_5_None_3, cut_5_3_None, ncut_5_3_None, cut_6_2_None, ncut_6_2_None, cut_6_None_1, ncut_6_None_1, cut_6_None_3, ncut_6_None_3, cut_6_None_5, ncut_6_None_5, cut_6_3_None, ncut_6_3_None, sq_get_put, sq_get_add, sq_get_swap, sq_get_look, sq_get_split, sq_get_join, sq_put_get, sq_put_add, sq_put_swap, sq_put_look, sq_put_split, sq_put_join, sq_add_get, sq_add_put, sq_add_swap, sq_add_look, sq_add_split, sq_add_join, sq_swap_get, sq_swap_put, sq_swap_add, sq_swap_look, sq_swap_split, sq_swap_join, sq_look_get, sq_look_put, sq_look_add, sq_look_swap, sq_look_split, sq_look_join, sq_split_get, sq_split_put, sq_split_add, sq_split_swap, sq_split_look, sq_split_join, sq_join_get, sq_join_put, sq_join_add, sq_join_swap, sq_join_look, sq_join_split, ls0, ls1, ls2, ls3, ls4, ls5, ls6, ls7, ls8, ls9, ls10, nc0, nc1, nc2, nc3, nc4, nc5, nc6, nc7, nc8, nc9, nc10, sk_get, sk_put, sk_add, sk_swap, sk_look, sk_split, sk_join])


/-! ### deeds, good and none -/
def bads (f : Int) : List D := [.ptp [], .tup [.str "get"], .tup [.str "get", .int (100 + f)], .tup [.str "get", .int (-1 - f)], .tup [.str "get", .int 5, .int 5], .tup [.str "Get", .int 5], .tup [.str "get", .bl true],
  .tup [.str "get", .non], .tup [.str "put", .int 5], .tup [.str "put", .int 5, .int (1000 + f)], .tup [.str "put", .int 5, .int (-1)], .tup [.str "put", .int 5, .bl true],
  .tup [.str "add", .int 5, .int 1000], .tup [.str "add", .str "5", .int 1], .tup [.str "swap", .int 5, .int 1], .tup [.str "swap", .int 5, .int 1, .int 1000], .tup [.str "swap", .int 5, .int (-1), .int 1],
  .tup [.str "look", .ptp []], .tup [.str "look", .int 5],
  .tup [.str "look", .tup [.int 5, .int 5]], .tup [.str "look", .tup [.int 6, .int 5]], .tup [.str "look", .tup [.int 1, .int 2, .int 3, .int 4, .int 5, .int 6, .int 7]], .tup [.str "look", .tup [.int 1, .int 100]],
  .tup [.str "look", .tup [.int 1, .bl true]], .tup [.str "look"],
  .tup [.str "split", .int 0], .tup [.str "split", .int 100], .tup [.str "join", .int 0], .tup [.str "join", .int (-1)], .tup [.str "join", .int 5, .int 5], .tup [.int 5, .int 5], .tup [.str "", .int 5], .tup [.str "split"]]
inductive Gd where
  | get (k : Int) | look (k : Int) | cut (s : Bool) (k : Int)
def Gd.enc : Gd → D
  | .get k => .tup [.str "get", .int k]
  | .look k => .tup [.str "look", .tup [.int k]]
  | .cut true k => .tup [.str "split", .int k]
  | .cut false k => .tup [.str "join", .int k]
def Gd.ok : Gd → Prop
  | .get k => 0 ≤ k ∧ k < 100
  | .look k => 0 ≤ k ∧ k < 100
  | .cut _ k => 0 < k ∧ k < 100
def sp_is_deed : DSp := fun ds S R => (∃ f d, 0 ≤ f ∧ ds = [d] ∧ d ∈ bads f ∧ R (.bl false) S) ∨ ∃ g : Gd, ds = [g.enc] ∧ g.ok ∧ R (.bl true) S
def rd_is_deed_1 : DS :=
 (dRet (d2 (rEqG false) (dCB rListD (dCons (d2 rIxD (dVar 0) (dC (.int 1))) dNil)) (dSortSet (d2 rIxD (dVar 0) (dC (.int 1))))))
def rd_is_deed_2 : DS :=
 (dSeq (dIfS (dTest (d2 (rEqG true) (dLc (itemsI (d2 rIxD (dVar 0) (dC (.int 1)))) (.nm 1) (dNot (dTest (dCall sp_is_below (dCons (dVar 1) (dCons (dC (.int 100)) dNil))))) (dVar 1) [1]) (dLst dNil)))
 (dRet (dC (.bl false)))
 dNext)
 rd_is_deed_1)
def rd_is_deed_3 : DS :=
 (dRet (d2 (rEqG false) (dLc (itemsI (dSl (dVar 0) (dPart (dC (.int 2))) dNoPart)) (.nm 3) (dNot (dTest (dCall sp_is_below (dCons (dVar 3) (dCons (dC (.int 1000)) dNil))))) (dVar 3) [3]) (dLst dNil)))
def rd_is_deed_4 : DS :=
 (dSeq (dIfS (dAnd (dTest (d2 (rInD false) (d2 rIxD (dVar 0) (dC (.int 0))) (dTup (dCons (dC (.str "split")) (dCons (dC (.str "join")) dNil))))) (dTest (d2 (rEqG false) (d2 rIxD (dVar 0) (dC (.int 1))) (dC (.int 0)))))
 (dRet (dC (.bl false)))
 dNext)
 rd_is_deed_3)
def rd_is_deed_5 : DS :=
 (dSeq (dIfS (dOr (dTest (d2 (rEqG false) (dVar 2) (dC (.str "")))) (dOr (dTest (d2 (rEqG true) (dCB rLenD (dCons (dVar 0) dNil)) (d2 rAddD (dCB rLenD (dCons (dVar 2) dNil)) (dC (.int 1))))) (dNot (dTest (dCall sp_is_below (dCons (d2 rIxD (dVar 0) (dC (.int 1))) (dCons (dC (.int 100)) dNil)))))))
 (dRet (dC (.bl false)))
 dNext)
 rd_is_deed_4)
def rd_is_deed_6 : DS :=
 (dSeq (dSet 2 (dKGet tb_SHAPES (d2 rIxD (dVar 0) (dC (.int 0))) (dC (.str ""))))
 rd_is_deed_5)
def rd_is_deed_7 : DS :=
 (dSeq (dIfS (dTest (d2 (rEqG false) (d2 rIxD (dVar 0) (dC (.int 0))) (dC (.str "look"))))
 (dSeq (dIfS (dOr (dTest (d2 (rEqG true) (dCB rLenD (dCons (dVar 0) dNil)) (dC (.int 2)))) (dOr (dNot (dTest (dIsi "tuple" (d2 rIxD (dVar 0) (dC (.int 1)))))) (dNot (dTest (dChain rLeD rLeD (dC (.int 1)) (dCB rLenD (dCons (d2 rIxD (dVar 0) (dC (.int 1))) dNil)) (dC (.int 6)))))))
 (dRet (dC (.bl false)))
 dNext)
 rd_is_deed_2)
 dNext)
 rd_is_deed_6)
def rd_is_deed : DS :=
 (dSeq (dIfS (dOr (dNot (dTest (dIsi "tuple" (dVar 0)))) (dOr (dTest (d2 (rEqG false) (dVar 0) (dTup dNil))) (dNot (dTest (dIsi "str" (d2 rIxD (dVar 0) (dC (.int 0))))))))
 (dRet (dC (.bl false)))
 dNext)
 rd_is_deed_7)
theorem rk_Get : PyData.strOk ("Get" : Str) = true := by decide +kernel
theorem rq_Get (w : Str) (h : ("Get" : Str) ≠ w) : (("Get" : Str) == w) = false := beq_eq_false_iff_ne.mpr h
theorem g_look : (("Get" : Str) == ("look" : Str)) = false := by decide +kernel
theorem g_get : (("Get" : Str) == ("get" : Str)) = false := by decide +kernel
theorem g_put : (("Get" : Str) == ("put" : Str)) = false := by decide +kernel
theorem g_add : (("Get" : Str) == ("add" : Str)) = false := by decide +kernel
theorem g_swap : (("Get" : Str) == ("swap" : Str)) = false := by decide +kernel
theorem g_split : (("Get" : Str) == ("split" : Str)) = false := by decide +kernel
theorem g_join : (("Get" : Str) == ("join" : Str)) = false := by decide +kernel
theorem e_look : (("" : Str) == ("look" : Str)) = false := by decide +kernel
theorem e_get : (("" : Str) == ("get" : Str)) = false := by decide +kernel
theorem e_put : (("" : Str) == ("put" : Str)) = false := by decide +kernel
theorem e_add : (("" : Str) == ("add" : Str)) = false := by decide +kernel
theorem e_swap : (("" : Str) == ("swap" : Str)) = false := by decide +kernel
theorem e_split : (("" : Str) == ("split" : Str)) = false := by decide +kernel
theorem e_join : (("" : Str) == ("join" : Str)) = false := by decide +kernel
theorem e_Get : (("" : Str) == ("Get" : Str)) = false := by decide +kernel
local macro_rules | `(tactic| walk_at "gg") => `(tactic| simp only [rk_Get, g_look, g_get, g_put, g_add, g_swap, g_split, g_join, e_look, e_get, e_put, e_add, e_swap, e_split, e_join, e_Get])
theorem no_non : NoInt .non := .inr (.inl rfl)
theorem no_bl (b : Bool) : NoInt (.bl b) := .inl ⟨_, rfl⟩
theorem no_str (x : Str) : NoInt (.str x) := .inr (.inr (.inl ⟨_, rfl⟩))
theorem okds_int (n : Nat) : ∀ l : List Int, okds n (l.map D.int) = true
  | [] => by simp [okds]
  | a :: l => by simp only [List.map_cons, okds, okd, okds_int n l, Bool.and_self]
theorem deqs_intsG : ∀ l m : List Int, deqs (l.map D.int) (m.map D.int) = decide (l = m)
  | [], [] => by simp [dq_n0]
  | [], y :: m => by simp [dq_nc]
  | x :: l, [] => by simp [dq_cn]
  | x :: l, y :: m => by
    rw [List.map_cons, List.map_cons, dq_cc, dq_ii, deqs_intsG l m]
    by_cases h : x = y <;> by_cases h2 : l = m <;> simp [h, h2]
theorem ok_is_deed (ds : List D) (S : Store) (R : DK) (h : sp_is_deed ds S R) : rd_is_deed (ends R) (startD ["deed", "key", "shape", "part"] ds) S := by
  rcases h with ⟨f, d, f0, rfl, hd, h⟩ | ⟨g, rfl, hok, h⟩
  · simp only [bads, List.mem_cons, List.not_mem_nil, or_false] at hd
    rcases hd with rfl | rfl | rfl | rfl | rfl | rfl | rfl | rfl | rfl | rfl | rfl | rfl | rfl | rfl | rfl | rfl | rfl | rfl | rfl | rfl | rfl | rfl | rfl | rfl | rfl | rfl | rfl | rfl | rfl | rfl | rfl | rfl | rfl
    all_goals
      unfold rd_is_deed
      walk_at "dl"
      repeat' (first
        | exact fin_of h
        | refine And.intro (by first | rfl | decide +kernel) ?_
        | (refine .inl ⟨_, _, rfl, ?_⟩; rw [decide_eq_false (by omega)]; try walk_at "dl")
        | (refine .inl ⟨_, _, rfl, ?_⟩; rw [decide_eq_true (by omega)]; try walk_at "dl")
        | refine .inr ⟨_, _, rfl, no_non, ?_⟩
        | refine .inr ⟨_, _, rfl, no_bl _, ?_⟩
        | refine .inr ⟨_, _, rfl, no_str _, ?_⟩
        | (unfold rd_is_deed_7; walk_at "dl")
        | (unfold rd_is_deed_6; walk_at "dl")
        | (unfold rd_is_deed_5; walk_at "dl")
        | (unfold rd_is_deed_4; walk_at "dl")
        | (unfold rd_is_deed_3; walk_at "dl")
        | (unfold rd_is_deed_2; walk_at "dl")
        | (unfold rd_is_deed_1; walk_at "dl")
        | (simp only [dKGet, tb_SHAPES, List.lookup]; walk_at "dl")
        | (simp only [compD]; walk_at "dl")
        | walk_at "gg"
        | walk_at "dl")
    · simp only [dSortSet]
      walk_at "dl"
      refine ⟨[5, 5], rfl, by decide, fun out so _ => ⟨okds_int 59 _, ?_⟩⟩
      rw [show [D.int 5, D.int 5] = [5, 5].map D.int from rfl, deqs_intsG, decide_eq_false (fun e => by subst e; simp at so)]
      exact fin_of h
    · simp only [dSortSet]
      walk_at "dl"
      refine ⟨[6, 5], rfl, by decide, fun out so _ => ⟨okds_int 59 _, ?_⟩⟩
      rw [show [D.int 6, D.int 5] = [6, 5].map D.int from rfl, deqs_intsG, decide_eq_false (fun e => by subst e; simp at so)]
      exact fin_of h
  · cases g with
    | get k =>
      have hok : 0 ≤ k ∧ k < 100 := hok
      unfold Gd.enc rd_is_deed
      walk_at "dl"
      unfold rd_is_deed_7
      walk_at "dl"
      unfold rd_is_deed_6
      walk_at "dl"
      simp only [dKGet, tb_SHAPES, List.lookup]
      walk_at "dl"
      unfold rd_is_deed_5
      walk_at "dl"
      refine .inl ⟨k, 100, rfl, ?_⟩
      rw [decide_eq_true hok]
      try walk_at "dl"
      unfold rd_is_deed_4
      walk_at "dl"
      unfold rd_is_deed_3
      walk_at "dl"
      simp only [compD]
      walk_at "dl"
      exact fin_of h
    | cut s k =>
      cases s <;>
      · have hok : 0 < k ∧ k < 100 := hok
        unfold Gd.enc rd_is_deed
        walk_at "dl"
        unfold rd_is_deed_7
        walk_at "dl"
        unfold rd_is_deed_6
        walk_at "dl"
        simp only [dKGet, tb_SHAPES, List.lookup]
        walk_at "dl"
        unfold rd_is_deed_5
        walk_at "dl"
        refine .inl ⟨k, 100, rfl, ?_⟩
        rw [decide_eq_true (by omega)]
        try walk_at "dl"
        unfold rd_is_deed_4
        walk_at "dl"
        have c0 : ¬ k = 0 := by omega
        simp only [c0]
        try walk_at "dl"
        unfold rd_is_deed_3
        walk_at "dl"
        simp only [compD]
        walk_at "dl"
        exact fin_of h
    | look k =>
      have hok : 0 ≤ k ∧ k < 100 := hok
      unfold Gd.enc rd_is_deed
      walk_at "dl"
      refine ⟨by rfl, ?_⟩
      unfold rd_is_deed_7
      walk_at "dl"
      unfold rd_is_deed_2
      walk_at "dl"
      simp only [compD]
      walk_at "dl"
      refine .inl ⟨k, 100, rfl, ?_⟩
      rw [decide_eq_true hok]
      try walk_at "dl"
      unfold rd_is_deed_1
      walk_at "dl"
      simp only [dSortSet]
      walk_at "dl"
      refine ⟨[k], rfl, by simp, fun out so mem => ⟨okds_int 59 _, ?_⟩⟩
      have e : out = [k] := sorted_ext (· < ·) (fun a h => by omega) (fun a b c h h' => by omega) so (by simp) fun x => by rw [mem x]
      rw [e]
      simp only [List.map_cons, List.map_nil, dq_cc, dq_ii, dq_n0, beq_self_eq_true, Bool.and_self]
      exact fin_of h
end Dl.D4

set_option Elab.async false
set_option linter.all false
set_option maxRecDepth 100000
namespace Dl.D4
open PySem PySem.Spec PyProof.Rows L2 LamX Dl
local macro_rules | `(tactic| walk_at "dl") => `(tactic| simp (config := { maxSteps := 1000000 }) only [dSeq, dIfS, dRet, dRetN, dSet, dNext, dDrop, dVar, dC, d2, dTest, dAnd, dOr, dNot, dAndV, dOrV, dNotV, dIf, dChain, dChain3, dCall, dCons, dNil, dTup, dLst, dLstR, dAsg, Tg.d, sets, dFor, dYes, dNever, dBrk, dCnt,
  dSortKey, dLc, dLcR, dComp, wipeD, itemsI, rangeI1, enumI, dCB, rLenD, rIntD, rAbsD, rM2D, rTupD, rTupPD, rAllD, dIsi, tyD, rIxD, rItem, dSl, dPart, dNoPart, rSlD, rII, rAddD, rMulD, rMulDR, rEqG, rIsN, rInD, dNeg, dGet2, rAddXD, rListD, rListRD, dPar, dNewK, dNewT, dAsgNS, dMemo0, itR, dForR, dLcX, dLcXR, dCompR, dTupRg, dLstRg, dLstRgR, dInRg, dMemoSet, dDisp, dPairs, keyPairs, keyOf, dML, dSetIx,
  atI0, atI1, atI2, atI3, atI4, atI5, atIm2, atIm3, atIm4, deref_non, deref_bl, deref_int, deref_str, deref_tp, deref_ptp, deref_lst, items_tup, items_ptp, items_lst, dq_ii, dq_bb, dq_ss, dq_tt, dq_tp, dq_pt, dq_pp, dq_ll, dq_n0, dq_nc, dq_cn, dq_cc, ok_non, ok_bl, ok_int, ok_str, ok_tp, ok_pp, ok_ls, ok_n0, ok_cc, flat, List.all_cons, List.all_nil, List.any_cons, List.any_nil,
  startD, List.map_cons, List.map_nil, List.length_cons, List.length_nil, List.replicate_succ, List.replicate_zero, List.cons_append, List.nil_append, List.set_cons_zero, List.set_cons_succ, List.getElem?_cons_zero, List.getElem?_cons_succ, Nat.reduceAdd, Nat.reduceSub, Nat.reduceLeDiff, Nat.reduceMul,
  Bool.and_true, Bool.true_and, Bool.and_false, Bool.false_and, Bool.or_true, Bool.true_or, Bool.or_false, Bool.false_or, Bool.not_true, Bool.not_false, decide_eq_true_eq, ↓reduceIte, true_and, and_true, Bool.false_eq_true, Bool.not_eq_true', Bool.not_not, beq_self_eq_true, and_self, ne_eq, reduceCtorEq, not_false_eq_true, not_true_eq_false, Int.reduceBEq, beq_iff_eq, beq_eq_false_iff_ne, decide_eq_false_iff_not, Int.reduceLT, Int.reduceLE, Int.reduceNeg, Int.reduceAdd, Int.reduceEq, Int.reduceToNat,  kb_NoneType_bool, kb_NoneType_int, kb_NoneType_str, kb_NoneType_tuple, kb_NoneType_list, kb_bool_bool, kb_bool_int, kb_bool_str, kb_bool_tuple, kb_bool_list, kb_int_bool, kb_int_int, kb_int_str, kb_int_tuple, kb_int_list, kb_str_bool, kb_str_int, kb_str_str, kb_str_tuple, kb_str_list, kb_tuple_bool, kb_tuple_int, kb_tuple_str, kb_tuple_tuple, kb_tuple_list, kb_list_bool, kb_list_int, kb_list_str, kb_list_tuple, kb_list_list, sq_k_e, sq_kw_e, sq_kww_e, sk_k, sk_kw, sk_kww, sl_k, sl_kw, sl_kww, sk_e, cut_2_2_None, ncut_2_2_None, cut_2_None_1, ncut_2_None_1, cut_3_2_None, ncut_3_2_None, cut_3_None_1, ncut_3_None_1, cut_3_3_None, ncut_3_3_None, cut_4_2_None, ncut_4_2_None, cut_4_None_1, ncut_4_None_1, cut_4_None_3, ncut_4_None_3, cut_4_3_None, ncut_4_3_None, cut_5_2_None, ncut_5_2_None, cut_5_None_1, ncut_5_None_1, cut_5_None_3, ncut_5_None_3, cut_5_3_None, ncut_5_3_None, cut_6_2_None, ncut_6_2_None, cut_6_None_1, ncut_6_None_1, cut_6_None_3, ncut_6_None_3, cut_6_None_5, ncut_6_None_5, cut_6_3_None, ncut_6_3_None, sq_get_put, sq_get_add, sq_get_swap, sq_get_look, sq_get_split, sq_get_join, sq_put_get, sq_put_add, sq_put_swap, sq_put_look, sq_put_split, sq_put_join, sq_add_get, sq_add_put, sq_add_swap, sq_add_look, sq_add_split, sq_add_join, sq_swap_get, sq_swap_put, sq_swap_add, sq_swap_look, sq_swap_split, sq_swap_join, sq_look_get, sq_look_put, sq_look_add, sq_look_swap, sq_look_split, sq_look_join, sq_split_get, sq_split_put, sq_split_add, sq_split_swap, sq_split_look, sq_split_join, sq_join_get, sq_join_put, sq_join_add, sq_join_swap, sq_join_look, sq_join_split, ls0, ls1, ls2, ls3, ls4, ls5, ls6, ls7, ls8, ls9, ls10, nc0, nc1, nc2, nc3, nc4, nc5, nc6, nc7, nc8, nc9, nc10, sk_get, sk_put, sk_add, sk_swap, sk_look, sk_split, sk_join])


theorem rk_deed : PyData.strOk ("deed" : Str) = true := by decide +kernel
theorem rk_range : PyData.strOk ("range" : Str) = true := by decide +kernel
theorem rk_house : PyData.strOk ("house" : Str) = true := by decide +kernel
theorem rk_asker : PyData.strOk ("asker" : Str) = true := by decide +kernel
theorem rk_busy : PyData.strOk ("busy" : Str) = true := by decide +kernel
theorem rk_letter : PyData.strOk ("letter" : Str) = true := by decide +kernel
theorem rk_history : PyData.strOk ("history" : Str) = true := by decide +kernel
theorem rk_text : PyData.strOk ("text" : Str) = true := by decide +kernel
theorem rq_deed_range : (("deed" : Str) == ("range" : Str)) = false := by decide +kernel
theorem rq_deed_house : (("deed" : Str) == ("house" : Str)) = false := by decide +kernel
theorem rq_deed_asker : (("deed" : Str) == ("asker" : Str)) = false := by decide +kernel
theorem rq_deed_busy : (("deed" : Str) == ("busy" : Str)) = false := by decide +kernel
theorem rq_deed_letter : (("deed" : Str) == ("letter" : Str)) = false := by decide +kernel
theorem rq_deed_history : (("deed" : Str) == ("history" : Str)) = false := by decide +kernel
theorem rq_deed_text : (("deed" : Str) == ("text" : Str)) = false := by decide +kernel
theorem rq_range_deed : (("range" : Str) == ("deed" : Str)) = false := by decide +kernel
theorem rq_range_house : (("range" : Str) == ("house" : Str)) = false := by decide +kernel
theorem rq_range_asker : (("range" : Str) == ("asker" : Str)) = false := by decide +kernel
theorem rq_range_busy : (("range" : Str) == ("busy" : Str)) = false := by decide +kernel
theorem rq_range_letter : (("range" : Str) == ("letter" : Str)) = false := by decide +kernel
theorem rq_range_history : (("range" : Str) == ("history" : Str)) = false := by decide +kernel
theorem rq_range_text : (("range" : Str) == ("text" : Str)) = false := by decide +kernel
theorem re_BadDeed_BadDeed : subE "BadDeed" "BadDeed" = true := by decide +kernel
theorem re_BadDeed_BadRange : subE "BadDeed" "BadRange" = false := by decide +kernel
theorem re_BadDeed_BadHouse : subE "BadDeed" "BadHouse" = false := by decide +kernel
theorem re_BadDeed_BadAsker : subE "BadDeed" "BadAsker" = false := by decide +kernel
theorem re_BadDeed_Busy : subE "BadDeed" "Busy" = false := by decide +kernel
theorem re_BadDeed_BadLetter : subE "BadDeed" "BadLetter" = false := by decide +kernel
theorem re_BadDeed_BadHistory : subE "BadDeed" "BadHistory" = false := by decide +kernel
theorem re_BadDeed_BadText : subE "BadDeed" "BadText" = false := by decide +kernel
theorem re_BadDeed_SplitError : subE "BadDeed" "SplitError" = true := by decide +kernel
theorem re_BadDeed_ValueError : subE "BadDeed" "ValueError" = true := by decide +kernel
theorem re_BadRange_BadDeed : subE "BadRange" "BadDeed" = false := by decide +kernel
theorem re_BadRange_BadRange : subE "BadRange" "BadRange" = true := by decide +kernel
theorem re_BadRange_BadHouse : subE "BadRange" "BadHouse" = false := by decide +kernel
theorem re_BadRange_BadAsker : subE "BadRange" "BadAsker" = false := by decide +kernel
theorem re_BadRange_Busy : subE "BadRange" "Busy" = false := by decide +kernel
theorem re_BadRange_BadLetter : subE "BadRange" "BadLetter" = false := by decide +kernel
theorem re_BadRange_BadHistory : subE "BadRange" "BadHistory" = false := by decide +kernel
theorem re_BadRange_BadText : subE "BadRange" "BadText" = false := by decide +kernel
theorem re_BadRange_SplitError : subE "BadRange" "SplitError" = true := by decide +kernel
theorem re_BadRange_ValueError : subE "BadRange" "ValueError" = true := by decide +kernel
local macro_rules | `(tactic| walk_at "rs") => `(tactic| simp only [rk_deed, rk_range, rk_house, rk_asker, rk_busy, rk_letter, rk_history, rk_text, rq_deed_range, rq_deed_house, rq_deed_asker, rq_deed_busy, rq_deed_letter, rq_deed_history, rq_deed_text, rq_range_deed, rq_range_house, rq_range_asker, rq_range_busy, rq_range_letter, rq_range_history, rq_range_text, re_BadDeed_BadDeed, re_BadDeed_BadRange, re_BadDeed_BadHouse, re_BadDeed_BadAsker, re_BadDeed_Busy, re_BadDeed_BadLetter, re_BadDeed_BadHistory, re_BadDeed_BadText, re_BadDeed_SplitError, re_BadDeed_ValueError, re_BadRange_BadDeed, re_BadRange_BadRange, re_BadRange_BadHouse, re_BadRange_BadAsker, re_BadRange_Busy, re_BadRange_BadLetter, re_BadRange_BadHistory, re_BadRange_BadText, re_BadRange_SplitError, re_BadRange_ValueError])
/-! ### what is refused -/
def sp_alike_i : DSp := fun ds S R => ∃ i j : Int, ds = [.int i, .int j] ∧ R (.bl (decide (i = j))) S
def rd__law_alike_h : DS :=
 (dSeq (dIfS (dTest (d2 (rIsN false) (dVar 1) (dC .non)))
 (dRet (d2 (rIsN false) (dVar 0) (dC .non)))
 dNext)
 (dSeq (dIfS (dTest (dIsi "bool" (dVar 1)))
 (dRet (dAndV (dIsi "bool" (dVar 0)) (d2 (rEqG false) (dVar 0) (dVar 1))))
 dNext)
 (dSeq (dIfS (dTest (dIsi "int" (dVar 1)))
 (dRet (dAndV (dIsi "int" (dVar 0)) (dAndV (dNotV (dIsi "bool" (dVar 0))) (d2 (rEqG false) (dVar 0) (dVar 1)))))
 dNext)
 dNever)))
theorem ok__law_alike_h (ds : List D) (S : Store) (R : DK) (h : sp_alike_i ds S R) : rd__law_alike_h (ends R) (startD ["_law_found", "_law_due", "_law_k"] ds) S := by
  obtain ⟨i, j, rfl, h⟩ := h
  unfold rd__law_alike_h
  walk_at "dl"
  refine fin_of ?_
  have e : (i == j) = decide (i = j) := by
    by_cases c : i = j
    · rw [decide_eq_true c]; exact beq_iff_eq.mpr c
    · rw [decide_eq_false c]; exact beq_eq_false_iff_ne.mpr c
  rw [e]
  exact h
abbrev RN : List Str := ["BadDeed", "BadRange"]
def spg__law_refused : DBe → DSp := fun be rest S R => ∃ (Pd : Store → Prop), ((rest = [.str "deed", .int 0] ∧ ∀ (R' : DK) (RE' : Str → List D → Store → Prop), (∀ S', Pd S' → RE' "BadDeed" [] S') → be S R' RE') ∨ (rest = [.str "range", .int 0] ∧ ∀ (R' : DK) (RE' : Str → List D → Store → Prop), (∀ S', Pd S' → RE' "BadRange" [] S') → be S R' RE')) ∧ ∀ S', Pd S' → R (.bl true) S'
def rd__law_refused_1 (F : LF) (ws : List V) (dws : List D) (b : DSy) : DS :=
 (dRet (dC (.bl false)))
def rd__law_refused (F : LF) (ws : List V) (dws : List D) (b : DSy) : DS :=
 (dSeq (dTryA0 RN "SplitError" 3 (dExpY (dAct 0 F ws dws b))
 (fun a d nm => (dSeq (dSet 4 (dLst (dCons (dIsiE a d nm 3 "BadDeed") (dCons (dIsiE a d nm 3 "BadRange") (dCons (dIsiE a d nm 3 "BadHouse") (dCons (dIsiE a d nm 3 "BadAsker") dNil))))))
 (dSeq (dSet 4 (d2 rAddD (dVar 4) (dLst (dCons (dIsiE a d nm 3 "Busy") (dCons (dIsiE a d nm 3 "BadLetter") (dCons (dIsiE a d nm 3 "BadHistory") dNil))))))
 (dSeq (dSet 5 (dLst (dCons (dC (.str "deed")) (dCons (dC (.str "range")) (dCons (dC (.str "house")) (dCons (dC (.str "asker")) (dCons (dC (.str "busy")) (dCons (dC (.str "letter")) (dCons (dC (.str "history")) (dCons (dC (.str "text")) dNil))))))))))
 (dSeq (dIfS (dOr (dNot (dTest (dIsiE a d nm 3 "ValueError"))) (dTest (d2 (rEqG true) (d2 rAddD (dVar 4) (dLst (dCons (dIsiE a d nm 3 "BadText") dNil))) (dLc (itemsLI (dVar 5)) (.nm 6) dYes (d2 (rEqG false) (dVar 1) (dVar 6)) [6]))))
 (dRet (dC (.bl false)))
 dNext)
 (dSeq (dIfS (dTest (d2 (rEqG false) (dVar 1) (dC (.str "history"))))
 (dRet (dCall sp_alike_i (dCons (fun τ S Q => nm ∈ (["BadHistory", "BadText"] : List Str) ∧ dExF a d nm 3 "number" τ S Q) (dCons (dVar 2) dNil))))
 dNext)
 (dRet (dOrV (d2 (rEqG true) (dVar 1) (dC (.str "text"))) (dCall sp_alike_i (dCons (fun τ S Q => nm ∈ (["BadHistory", "BadText"] : List Str) ∧ dExF a d nm 3 "row" τ S Q) (dCons (dVar 2) dNil))))))))))))
 (rd__law_refused_1 F ws dws b))
theorem okg__law_refused (F : LF) (ws : List V) (dws : List D) (b : DSy) (rest : List D) (S : Store) (R : DK) (h : spg__law_refused (b dws) rest S R) : rd__law_refused F ws dws b (ends R) (startD ["_law_work", "_law_word", "_law_value", "_law_e", "_law_kinds", "_law_words", "_law_one"] (.fn F ws dws :: rest)) S := by
  obtain ⟨Pd, h0, h⟩ := h
  unfold rd__law_refused
  rcases h0 with ⟨rfl, hb⟩ | ⟨rfl, hb⟩
  · walk_at "dl"
    simp only [dTryA0, dTryAs, dExpY, dAct]
    walk_at "dl"
    refine hb _ _ fun S' pd => ?_
    refine ⟨by simp, ?_⟩
    walk_at "rs"
    try walk_at "dl"
    intro a d
    simp only [dIsiE]
    walk_at "rs"
    try walk_at "dl"
    refine ⟨⟨_, rfl⟩, ⟨_, rfl⟩, ⟨_, rfl⟩, ⟨_, rfl⟩, ⟨_, rfl⟩, ⟨_, rfl⟩, ⟨_, rfl⟩, ⟨_, rfl⟩, ⟨_, rfl⟩, ?_⟩
    simp only [itemsLI]
    try walk_at "dl"
    simp only [compD]
    walk_at "dl"
    walk_at "rs"
    try walk_at "dl"
    try walk_at "rs"
    rw [if_neg (by decide +kernel), if_pos (by decide +kernel)]
    exact fin_of (h S' pd)
  · walk_at "dl"
    simp only [dTryA0, dTryAs, dExpY, dAct]
    walk_at "dl"
    refine hb _ _ fun S' pd => ?_
    refine ⟨by simp, ?_⟩
    walk_at "rs"
    try walk_at "dl"
    intro a d
    simp only [dIsiE]
    walk_at "rs"
    try walk_at "dl"
    refine ⟨⟨_, rfl⟩, ⟨_, rfl⟩, ⟨_, rfl⟩, ⟨_, rfl⟩, ⟨_, rfl⟩, ⟨_, rfl⟩, ⟨_, rfl⟩, ⟨_, rfl⟩, ⟨_, rfl⟩, ?_⟩
    simp only [itemsLI]
    try walk_at "dl"
    simp only [compD]
    walk_at "dl"
    walk_at "rs"
    try walk_at "dl"
    try walk_at "rs"
    rw [if_neg (by decide +kernel), if_pos (by decide +kernel)]
    exact fin_of (h S' pd)
end Dl.D4

set_option Elab.async false
set_option linter.all false
set_option maxRecDepth 100000
set_option maxHeartbeats 2000000
namespace Dl.D4
open PySem PySem.Spec PyProof.Rows L2 LamX Dl
local macro_rules | `(tactic| walk_at "dl") => `(tactic| simp (config := { maxSteps := 1000000 }) only [dSeq, dIfS, dRet, dRetN, dSet, dNext, dDrop, dVar, dC, d2, dTest, dAnd, dOr, dNot, dAndV, dOrV, dNotV, dIf, dChain, dChain3, dCall, dCons, dNil, dTup, dLst, dLstR, dAsg, Tg.d, sets, dFor, dYes, dNever, dBrk, dCnt,
  dSortKey, dLc, dLcR, dComp, wipeD, itemsI, rangeI1, enumI, dCB, rLenD, rIntD, rAbsD, rM2D, rTupD, rTupPD, rAllD, dIsi, tyD, rIxD, rItem, dSl, dPart, dNoPart, rSlD, rII, rAddD, rMulD, rMulDR, rEqG, rIsN, rInD, dNeg, dGet2, rAddXD, rListD, rListRD, dPar, dNewK, dNewT, dAsgNS, dMemo0, itR, dForR, dLcX, dLcXR, dCompR, dTupRg, dLstRg, dLstRgR, dInRg, dMemoSet, dDisp, dPairs, keyPairs, keyOf, dML, dSetIx,
  atI0, atI1, atI2, atI3, atI4, atI5, atIm2, atIm3, atIm4, deref_non, deref_bl, deref_int, deref_str, deref_tp, deref_ptp, deref_lst, items_tup, items_ptp, items_lst, dq_ii, dq_bb, dq_ss, dq_tt, dq_tp, dq_pt, dq_pp, dq_ll, dq_n0, dq_nc, dq_cn, dq_cc, ok_non, ok_bl, ok_int, ok_str, ok_tp, ok_pp, ok_ls, ok_n0, ok_cc, flat, List.all_cons, List.all_nil, List.any_cons, List.any_nil,
  startD, List.map_cons, List.map_nil, List.length_cons, List.length_nil, List.replicate_succ, List.replicate_zero, List.cons_append, List.nil_append, List.set_cons_zero, List.set_cons_succ, List.getElem?_cons_zero, List.getElem?_cons_succ, Nat.reduceAdd, Nat.reduceSub, Nat.reduceLeDiff, Nat.reduceMul,
  Bool.and_true, Bool.true_and, Bool.and_false, Bool.false_and, Bool.or_true, Bool.true_or, Bool.or_false, Bool.false_or, Bool.not_true, Bool.not_false, decide_eq_true_eq, ↓reduceIte, true_and, and_true, Bool.false_eq_true, Bool.not_eq_true', Bool.not_not, beq_self_eq_true, and_self, ne_eq, reduceCtorEq, not_false_eq_true, not_true_eq_false, Int.reduceBEq, beq_iff_eq, beq_eq_false_iff_ne, decide_eq_false_iff_not, Int.reduceLT, Int.reduceLE, Int.reduceNeg, Int.reduceAdd, Int.reduceEq, Int.reduceToNat,  kb_NoneType_bool, kb_NoneType_int, kb_NoneType_str, kb_NoneType_tuple, kb_NoneType_list, kb_bool_bool, kb_bool_int, kb_bool_str, kb_bool_tuple, kb_bool_list, kb_int_bool, kb_int_int, kb_int_str, kb_int_tuple, kb_int_list, kb_str_bool, kb_str_int, kb_str_str, kb_str_tuple, kb_str_list, kb_tuple_bool, kb_tuple_int, kb_tuple_str, kb_tuple_tuple, kb_tuple_list, kb_list_bool, kb_list_int, kb_list_str, kb_list_tuple, kb_list_list, sq_k_e, sq_kw_e, sq_kww_e, sk_k, sk_kw, sk_kww, sl_k, sl_kw, sl_kww, sk_e, cut_2_2_None, ncut_2_2_None, cut_2_None_1, ncut_2_None_1, cut_3_2_None, ncut_3_2_None, cut_3_None_1, ncut_3_None_1, cut_3_3_None, ncut_3_3_None, cut_4_2_None, ncut_4_2_None, cut_4_None_1, ncut_4_None_1, cut_4_None_3, ncut_4_None_3, cut_4_3_None, ncut_4_3_None, cut_5_2_None, ncut_5_2_None, cut_5_None_1, ncut_5_None_1, cut_5_None_3, ncut_5_None_3, cut_5_3_None, ncut_5_3_None, cut_6_2_None, ncut_6_2_None, cut_6_None_1, ncut_6_None_1, cut_6_None_3, ncut_6_None_3, cut_6_None_5, ncut_6_None_5, cut_6_3_None, ncut_6_3_None, sq_get_put, sq_get_add, sq_get_swap, sq_get_look, sq_get_split, sq_get_join, sq_put_get, sq_put_add, sq_put_swap, sq_put_look, sq_put_split, sq_put_join, sq_add_get, sq_add_put, sq_add_swap, sq_add_look, sq_add_split, sq_add_join, sq_swap_get, sq_swap_put, sq_swap_add, sq_swap_look, sq_swap_split, sq_swap_join, sq_look_get, sq_look_put, sq_look_add, sq_look_swap, sq_look_split, sq_look_join, sq_split_get, sq_split_put, sq_split_add, sq_split_swap, sq_split_look, sq_split_join, sq_join_get, sq_join_put, sq_join_add, sq_join_swap, sq_join_look, sq_join_split, ls0, ls1, ls2, ls3, ls4, ls5, ls6, ls7, ls8, ls9, ls10, nc0, nc1, nc2, nc3, nc4, nc5, nc6, nc7, nc8, nc9, nc10, sk_get, sk_put, sk_add, sk_swap, sk_look, sk_split, sk_join])


local macro_rules | `(tactic| walk_at "dm") => `(tactic| simp (config := { maxSteps := 1000000 }) only [dSeq, dIfS, dRet, dRetN, dSet, dNext, dDrop, dVar, dC, d2, dTest, dAnd, dOr, dNot, dAndV, dOrV, dNotV, dIf, dChain, dChain3, dCall, dCons, dNil, dTup, dLst, dLstR, dAsg, Tg.d, sets, dFor, dYes, dNever, dBrk, dCnt,
  dSortKey, dLc, dLcR, dComp, wipeD, itemsI, rangeI1, enumI, dCB, rLenD, rIntD, rAbsD, rM2D, rTupD, rTupPD, rAllD, dIsi, tyD, rItem, dSl, dPart, dNoPart, rSlD, rII, rAddD, rMulD, rMulDR, rEqG, rInD, dNeg, dGet2, rAddXD, rListD, rListRD, dPar, dNewK, dNewT, dAsgNS, dMemo0, itR, dForR, dLcX, dLcXR, dCompR, dTupRg, dLstRg, dLstRgR, dInRg, dMemoSet, dDisp, dPairs, keyPairs, keyOf, dML, dSetIx,
  atI0, atI1, atI2, atI3, atI4, atI5, atIm2, atIm3, atIm4, deref_non, deref_bl, deref_int, deref_str, deref_tp, deref_ptp, deref_lst, items_tup, items_ptp, items_lst, dq_ii, dq_bb, dq_ss, dq_tt, dq_tp, dq_pt, dq_pp, dq_ll, dq_n0, dq_nc, dq_cn, dq_cc, ok_non, ok_bl, ok_int, ok_str, ok_tp, ok_pp, ok_ls, ok_n0, ok_cc, flat, List.all_cons, List.all_nil, List.any_cons, List.any_nil,
  startD, List.map_cons, List.map_nil, List.length_cons, List.length_nil, List.replicate_succ, List.replicate_zero, List.cons_append, List.nil_append, List.set_cons_zero, List.set_cons_succ, List.getElem?_cons_zero, List.getElem?_cons_succ, Nat.reduceAdd, Nat.reduceSub, Nat.reduceLeDiff, Nat.reduceMul,
  Bool.and_true, Bool.true_and, Bool.and_false, Bool.false_and, Bool.or_true, Bool.true_or, Bool.or_false, Bool.false_or, Bool.not_true, Bool.not_false, decide_eq_true_eq, ↓reduceIte, true_and, and_true, Bool.false_eq_true, Bool.not_eq_true', Bool.not_not, beq_self_eq_true, and_self, ne_eq, reduceCtorEq, not_false_eq_true, not_true_eq_false, Int.reduceBEq, beq_iff_eq, beq_eq_false_iff_ne, decide_eq_false_iff_not, Int.reduceLT, Int.reduceLE, Int.reduceNeg, Int.reduceAdd, Int.reduceEq, Int.reduceToNat,  kb_NoneType_bool, kb_NoneType_int, kb_NoneType_str, kb_NoneType_tuple, kb_NoneType_list, kb_bool_bool, kb_bool_int, kb_bool_str, kb_bool_tuple, kb_bool_list, kb_int_bool, kb_int_int, kb_int_str, kb_int_tuple, kb_int_list, kb_str_bool, kb_str_int, kb_str_str, kb_str_tuple, kb_str_list, kb_tuple_bool, kb_tuple_int, kb_tuple_str, kb_tuple_tuple, kb_tuple_list, kb_list_bool, kb_list_int, kb_list_str, kb_list_tuple, kb_list_list, sq_k_e, sq_kw_e, sq_kww_e, sk_k, sk_kw, sk_kww, sl_k, sl_kw, sl_kww, sk_e, cut_2_2_None, ncut_2_2_None, cut_2_None_1, ncut_2_None_1, cut_3_2_None, ncut_3_2_None, cut_3_None_1, ncut_3_None_1, cut_3_3_None, ncut_3_3_None, cut_4_2_None, ncut_4_2_None, cut_4_None_1, ncut_4_None_1, cut_4_None_3, ncut_4_None_3, cut_4_3_None, ncut_4_3_None, cut_5_2_None, ncut_5_2_None, cut_5_None_1, ncut_5_None_1, cut_5_None_3, ncut_5_None_3, cut_5_3_None, ncut_5_3_None, cut_6_2_None, ncut_6_2_None, cut_6_None_1, ncut_6_None_1, cut_6_None_3, ncut_6_None_3, cut_6_None_5, ncut_6_None_5, cut_6_3_None, ncut_6_3_None, sq_get_put, sq_get_add, sq_get_swap, sq_get_look, sq_get_split, sq_get_join, sq_put_get, sq_put_add, sq_put_swap, sq_put_look, sq_put_split, sq_put_join, sq_add_get, sq_add_put, sq_add_swap, sq_add_look, sq_add_split, sq_add_join, sq_swap_get, sq_swap_put, sq_swap_add, sq_swap_look, sq_swap_split, sq_swap_join, sq_look_get, sq_look_put, sq_look_add, sq_look_swap, sq_look_split, sq_look_join, sq_split_get, sq_split_put, sq_split_add, sq_split_swap, sq_split_look, sq_split_join, sq_join_get, sq_join_put, sq_join_add, sq_join_swap, sq_join_look, sq_join_split, ls0, ls1, ls2, ls3, ls4, ls5, ls6, ls7, ls8, ls9, ls10, nc0, nc1, nc2, nc3, nc4, nc5, nc6, nc7, nc8, nc9, nc10, sk_get, sk_put, sk_add, sk_swap, sk_look, sk_split, sk_join])


/-! ### what may be refused -/
def badD (d : D) : Prop := ∃ f, 0 ≤ f ∧ d ∈ bads f
def spy_need_deed : DSy := fun ds S R RE => ∃ d, ds = [d] ∧ ((badD d ∧ RE "BadDeed" [] S) ∨ ∃ g : Gd, d = g.enc ∧ g.ok ∧ R .non S)
def rd_need_deed : DS :=
 (dIfS (dNot (dTest (dCall sp_is_deed (dCons (dVar 0) dNil))))
 (dRaiseY "BadDeed")
 dNext)
theorem oky_need_deed (ds : List D) (S : Store) (R : DK) (RE : Str → List D → Store → Prop) (h : spy_need_deed ds S R RE) : rd_need_deed (endsy R RE) (startD ["deed"] ds) S := by
  obtain ⟨d, rfl, h⟩ := h
  unfold rd_need_deed
  walk_at "dm"
  rcases h with ⟨⟨f, f0, hd⟩, h⟩ | ⟨g, rfl, hok, h⟩
  · refine .inl ⟨f, d, f0, rfl, hd, ?_⟩
    try walk_at "dm"
    simp only [dRaiseY]
    exact ⟨S, .refl S, h⟩
  · refine .inr ⟨g, rfl, hok, ?_⟩
    try walk_at "dm"
    exact ⟨S, .refl S, h⟩
def rangeB (lo hi g : Int) : Bool := decide (0 ≤ lo ∧ lo < hi ∧ hi ≤ 100 ∧ 1 ≤ g)
def spy_need_range : DSy := fun ds S R RE => ∃ lo hi g : Int, ds = [.int lo, .int hi, .int g] ∧ if rangeB lo hi g = true then R .non S else RE "BadRange" [] S
def rd_need_range : DS :=
 (dIfS (dOr (dNot (dTest (dChain3 rLeD rLtD rLeD (dC (.int 0)) (dVar 0) (dVar 1) (dC (.int 100))))) (dTest (d2 rLtD (dVar 2) (dC (.int 1)))))
 (dRaiseY "BadRange")
 dNext)
theorem oky_need_range (ds : List D) (S : Store) (R : DK) (RE : Str → List D → Store → Prop) (h : spy_need_range ds S R RE) : rd_need_range (endsy R RE) (startD ["low", "high", "gen"] ds) S := by
  obtain ⟨lo, hi, g, rfl, h⟩ := h
  unfold rd_need_range
  walk_at "dm"
  simp only [dRaiseY]
  try walk_at "dm"
  have bad : ¬ (0 ≤ lo ∧ lo < hi ∧ hi ≤ 100 ∧ 1 ≤ g) → ∃ S'', Sub S'' S ∧ RE "BadRange" [] S'' := fun c => by
    unfold rangeB at h
    rw [decide_eq_false c] at h
    exact ⟨S, .refl S, h⟩
  by_cases c1 : 0 ≤ lo
  · rw [if_pos c1]
    by_cases c2 : lo < hi
    · rw [if_pos c2]
      by_cases c3 : hi ≤ 100
      · rw [if_neg (by omega)]
        by_cases c4 : g < 1
        · rw [if_pos c4]; exact bad (by omega)
        · rw [if_neg c4]
          unfold rangeB at h
          rw [decide_eq_true (show 0 ≤ lo ∧ lo < hi ∧ hi ≤ 100 ∧ 1 ≤ g by omega), if_pos rfl] at h
          exact ⟨S, .refl S, h⟩
      · rw [if_pos (by omega)]; exact bad (by omega)
    · rw [if_neg c2]; exact bad (by omega)
  · rw [if_neg c1]; exact bad (by omega)
def spy_fresh : DSy := fun ds S R RE => ∃ lo hi g : Int, ds = [.int lo, .int hi, .int g] ∧ if rangeB lo hi g = true then R (Kp.enc ⟨lo, hi, g, 0, [], []⟩) S else RE "BadRange" [] S
def rd_fresh_1 : DS :=
 (dRet (dTup (dCons (dVar 0) (dCons (dVar 1) (dCons (dVar 2) (dCons (dC (.int 0)) (dCons (dC (.ptp [])) (dCons (dTup dNil) dNil))))))))
def rd_fresh : DS :=
 (dSeq (dExpY (dCallY spy_need_range (dCons (dVar 0) (dCons (dVar 1) (dCons (dVar 2) dNil)))))
 rd_fresh_1)
theorem oky_fresh (ds : List D) (S : Store) (R : DK) (RE : Str → List D → Store → Prop) (h : spy_fresh ds S R RE) : rd_fresh (endsy R RE) (startD ["low", "high", "gen"] ds) S := by
  obtain ⟨lo, hi, g, rfl, h⟩ := h
  unfold rd_fresh
  walk_at "dm"
  simp only [dExpY, dCallY]
  walk_at "dm"
  refine ⟨lo, hi, g, rfl, ?_⟩
  split
  · rename_i c
    rw [if_pos c] at h
    unfold rd_fresh_1
    walk_at "dm"
    exact ⟨S, .refl S, h⟩
  · rename_i c
    rw [if_neg c] at h
    exact ⟨S, .refl S, h⟩
def spy_need_inside : DSy := fun ds S R RE => ∃ (k : Kp) (key : Int), ds = [k.enc, .int key] ∧ if k.low ≤ key ∧ key < k.high then R .non S else RE "BadRange" [] S
def rd_need_inside : DS :=
 (dIfS (dNot (dTest (dChain rLeD rLtD (d2 rIxD (dVar 0) (dC (.int 0))) (dVar 1) (d2 rIxD (dVar 0) (dC (.int 1))))))
 (dRaiseY "BadRange")
 dNext)
theorem oky_need_inside (ds : List D) (S : Store) (R : DK) (RE : Str → List D → Store → Prop) (h : spy_need_inside ds S R RE) : rd_need_inside (endsy R RE) (startD ["state", "key"] ds) S := by
  obtain ⟨k, key, rfl, h⟩ := h
  unfold rd_need_inside Kp.enc
  walk_at "dl"
  simp only [dRaiseY]
  try walk_at "dl"
  have bad : ¬ (k.low ≤ key ∧ key < k.high) → ∃ S'', Sub S'' S ∧ RE "BadRange" [] S'' := fun c => by
    rw [if_neg c] at h
    exact ⟨S, .refl S, h⟩
  by_cases c1 : k.low ≤ key
  · rw [if_pos c1]
    by_cases c2 : key < k.high
    · rw [if_neg (by omega)]
      rw [if_pos ⟨c1, c2⟩] at h
      exact ⟨S, .refl S, h⟩
    · rw [if_pos (by omega)]; exact bad (by omega)
  · rw [if_neg c1]; exact bad (by omega)
/-! asked, in a new range -/
def newK (lo hi g : Int) : Kp := ⟨lo, hi, g, 0, [], []⟩
theorem newK_ok (lo hi g : Int) : KOk (newK lo hi g) 900 := ⟨.nil, .nil, Nat.zero_le _, Nat.zero_le _, fun p hp => (by cases hp), fun p hp => (by cases hp)⟩
def spy_asked : DSy := fun ds S R RE => ∃ (lo hi g : Int) (d : D), ds = [(newK lo hi g).enc, .int 0, .int 1, d] ∧ ((badD d ∧ RE "BadDeed" [] S) ∨ (∃ gd : Gd, d = gd.enc ∧ gd.ok ∧ (∀ k, gd = .get k → ¬ (lo ≤ k ∧ k < hi)) ∧ RE "BadRange" [] S) ∨ ∃ k : Int, d = (Gd.get k).enc ∧ (Gd.get k).ok ∧ lo ≤ k ∧ k < hi ∧ ∀ x, R (.tup [.int 0, x]) S)
def rd_asked_1 : DS :=
 (dRet (dCall sp_asked_of (dCons (dVar 0) (dCons (dVar 1) (dCons (dVar 2) (dCons (dVar 3) dNil))))))
def rd_asked_2 : DS :=
 (dSeq (dExpY (dCallY spy_need_inside (dCons (dVar 0) (dCons (d2 rIxD (dVar 3) (dC (.int 1))) dNil))))
 rd_asked_1)
def rd_asked_3 : DS :=
 (dSeq (dIfS (dTest (d2 (rInD true) (d2 rIxD (dVar 3) (dC (.int 0))) (dC (.tup [(.str "get"), (.str "put"), (.str "add"), (.str "swap")]))))
 (dRaiseY "BadRange")
 dNext)
 rd_asked_2)
def rd_asked : DS :=
 (dSeq (dExpY (dCallY spy_need_deed (dCons (dVar 3) dNil)))
 rd_asked_3)
theorem oky_asked (ds : List D) (S : Store) (R : DK) (RE : Str → List D → Store → Prop) (h : spy_asked ds S R RE) : rd_asked (endsy R RE) (startD ["state", "asker", "number", "deed"] ds) S := by
  obtain ⟨lo, hi, g, d, rfl, h⟩ := h
  unfold rd_asked
  walk_at "dm"
  simp only [dExpY, dCallY]
  walk_at "dm"
  rcases h with ⟨bd, h⟩ | ⟨gd, rfl, gok, out, h⟩ | ⟨k, rfl, gok, k0, k1, h⟩
  · exact ⟨d, rfl, .inl ⟨bd, S, .refl S, h⟩⟩
  · refine ⟨_, rfl, .inr ⟨gd, rfl, gok, ?_⟩⟩
    unfold rd_asked_3
    cases gd with
    | get k =>
      unfold Gd.enc
      walk_at "dl"
      unfold rd_asked_2
      walk_at "dl"
      simp only [dExpY, dCallY]
      walk_at "dl"
      refine ⟨newK lo hi g, k, rfl, ?_⟩
      rw [if_neg (show ¬ ((newK lo hi g).low ≤ k ∧ k < (newK lo hi g).high) from out k rfl)]
      exact ⟨S, .refl S, h⟩
    | look k =>
      unfold Gd.enc
      walk_at "dl"
      simp only [dRaiseY]
      exact ⟨S, .refl S, h⟩
    | cut s k =>
      cases s <;>
      · unfold Gd.enc
        walk_at "dl"
        simp only [dRaiseY]
        exact ⟨S, .refl S, h⟩
  · refine ⟨_, rfl, .inr ⟨.get k, rfl, gok, ?_⟩⟩
    unfold rd_asked_3 Gd.enc
    walk_at "dl"
    unfold rd_asked_2
    walk_at "dl"
    simp only [dExpY, dCallY]
    walk_at "dl"
    refine ⟨newK lo hi g, k, rfl, ?_⟩
    rw [if_pos (show (newK lo hi g).low ≤ k ∧ k < (newK lo hi g).high from ⟨k0, k1⟩)]
    unfold rd_asked_1
    walk_at "dl"
    refine ⟨newK lo hi g, 0, 1, .get k, rfl, newK_ok lo hi g, fun z => ?_, fun _ k' _ => ⟨S, .refl S, h _⟩⟩
    exact absurd z (by show ¬ (1 : Int) ≤ 0; decide)
def spy_halves : DSy := fun ds S R RE => ∃ (k : Kp) (key : Int), ds = [k.enc, .int key] ∧ ¬ (k.low < key ∧ key < k.high) ∧ RE "BadRange" [] S
def rd_halves : DS :=
 (dSeq (dIfS (dNot (dTest (dChain rLtD rLtD (d2 rIxD (dVar 0) (dC (.int 0))) (dVar 1) (d2 rIxD (dVar 0) (dC (.int 1))))))
 (dRaiseY "BadRange")
 dNext)
 dNever)
theorem oky_halves (ds : List D) (S : Store) (R : DK) (RE : Str → List D → Store → Prop) (h : spy_halves ds S R RE) : rd_halves (endsy R RE) (startD ["state", "key"] ds) S := by
  obtain ⟨k, key, rfl, out, h⟩ := h
  unfold rd_halves Kp.enc
  walk_at "dl"
  simp only [dRaiseY]
  try walk_at "dl"
  by_cases c1 : k.low < key
  · rw [if_pos c1]
    rw [if_pos (by omega)]
    exact ⟨S, .refl S, h⟩
  · rw [if_neg c1]; exact ⟨S, .refl S, h⟩
def spy_joined : DSy := fun ds S R RE => ∃ k l : Kp, ds = [k.enc, l.enc] ∧ k.high ≠ l.low ∧ RE "BadRange" [] S
def rd_joined : DS :=
 (dSeq (dIfS (dTest (d2 (rEqG true) (d2 rIxD (dVar 0) (dC (.int 1))) (d2 rIxD (dVar 1) (dC (.int 0)))))
 (dRaiseY "BadRange")
 dNext)
 dNever)
theorem oky_joined (ds : List D) (S : Store) (R : DK) (RE : Str → List D → Store → Prop) (h : spy_joined ds S R RE) : rd_joined (endsy R RE) (startD ["left", "right"] ds) S := by
  obtain ⟨k, l, rfl, out, h⟩ := h
  unfold rd_joined Kp.enc
  walk_at "dl"
  rw [if_pos out]
  simp only [dRaiseY]
  exact ⟨S, .refl S, h⟩
def spy_need_house : DSy := fun ds S R RE => ∃ n : Int, ds = [.int 0, .int n] ∧ (n = 1 ∨ n = 3 ∨ n = 5) ∧ R .non S
def rd_need_house : DS :=
 (dIfS (dOr (dTest (d2 (rInD true) (dVar 1) (dC (.tup [(.int 1), (.int 3), (.int 5)])))) (dNot (dTest (dChain rLeD rLtD (dC (.int 0)) (dVar 0) (dVar 1)))))
 (dRaiseY "BadHouse")
 dNext)
theorem oky_need_house (ds : List D) (S : Store) (R : DK) (RE : Str → List D → Store → Prop) (h : spy_need_house ds S R RE) : rd_need_house (endsy R RE) (startD ["number", "many"] ds) S := by
  obtain ⟨n, rfl, hn, h⟩ := h
  unfold rd_need_house
  rcases hn with rfl | rfl | rfl <;>
  · walk_at "dl"
    exact ⟨S, .refl S, h⟩
end Dl.D4

set_option Elab.async false
set_option linter.all false
set_option maxRecDepth 100000
set_option maxHeartbeats 2000000
namespace Dl.D4
open PySem PySem.Spec PyProof.Rows L2 LamX Dl
local macro_rules | `(tactic| walk_at "dl") => `(tactic| simp (config := { maxSteps := 1000000 }) only [dSeq, dIfS, dRet, dRetN, dSet, dNext, dDrop, dVar, dC, d2, dTest, dAnd, dOr, dNot, dAndV, dOrV, dNotV, dIf, dChain, dChain3, dCall, dCons, dNil, dTup, dLst, dLstR, dAsg, Tg.d, sets, dFor, dYes, dNever, dBrk, dCnt,
  dSortKey, dLc, dLcR, dComp, wipeD, itemsI, rangeI1, enumI, dCB, rLenD, rIntD, rAbsD, rM2D, rTupD, rTupPD, rAllD, dIsi, tyD, rIxD, rItem, dSl, dPart, dNoPart, rSlD, rII, rAddD, rMulD, rMulDR, rEqG, rIsN, rInD, dNeg, dGet2, rAddXD, rListD, rListRD, dPar, dNewK, dNewT, dAsgNS, dMemo0, itR, dForR, dLcX, dLcXR, dCompR, dTupRg, dLstRg, dLstRgR, dInRg, dMemoSet, dDisp, dPairs, keyPairs, keyOf, dML, dSetIx,
  atI0, atI1, atI2, atI3, atI4, atI5, atIm2, atIm3, atIm4, deref_non, deref_bl, deref_int, deref_str, deref_tp, deref_ptp, deref_lst, items_tup, items_ptp, items_lst, dq_ii, dq_bb, dq_ss, dq_tt, dq_tp, dq_pt, dq_pp, dq_ll, dq_n0, dq_nc, dq_cn, dq_cc, ok_non, ok_bl, ok_int, ok_str, ok_tp, ok_pp, ok_ls, ok_n0, ok_cc, flat, List.all_cons, List.all_nil, List.any_cons, List.any_nil,
  startD, List.map_cons, List.map_nil, List.length_cons, List.length_nil, List.replicate_succ, List.replicate_zero, List.cons_append, List.nil_append, List.set_cons_zero, List.set_cons_succ, List.getElem?_cons_zero, List.getElem?_cons_succ, Nat.reduceAdd, Nat.reduceSub, Nat.reduceLeDiff, Nat.reduceMul,
  Bool.and_true, Bool.true_and, Bool.and_false, Bool.false_and, Bool.or_true, Bool.true_or, Bool.or_false, Bool.false_or, Bool.not_true, Bool.not_false, decide_eq_true_eq, ↓reduceIte, true_and, and_true, Bool.false_eq_true, Bool.not_eq_true', Bool.not_not, beq_self_eq_true, and_self, ne_eq, reduceCtorEq, not_false_eq_true, not_true_eq_false, Int.reduceBEq, beq_iff_eq, beq_eq_false_iff_ne, decide_eq_false_iff_not, Int.reduceLT, Int.reduceLE, Int.reduceNeg, Int.reduceAdd, Int.reduceEq, Int.reduceToNat,  kb_NoneType_bool, kb_NoneType_int, kb_NoneType_str, kb_NoneType_tuple, kb_NoneType_list, kb_bool_bool, kb_bool_int, kb_bool_str, kb_bool_tuple, kb_bool_list, kb_int_bool, kb_int_int, kb_int_str, kb_int_tuple, kb_int_list, kb_str_bool, kb_str_int, kb_str_str, kb_str_tuple, kb_str_list, kb_tuple_bool, kb_tuple_int, kb_tuple_str, kb_tuple_tuple, kb_tuple_list, kb_list_bool, kb_list_int, kb_list_str, kb_list_tuple, kb_list_list, sq_k_e, sq_kw_e, sq_kww_e, sk_k, sk_kw, sk_kww, sl_k, sl_kw, sl_kww, sk_e, cut_2_2_None, ncut_2_2_None, cut_2_None_1, ncut_2_None_1, cut_3_2_None, ncut_3_2_None, cut_3_None_1, ncut_3_None_1, cut_3_3_None, ncut_3_3_None, cut_4_2_None, ncut_4_2_None, cut_4_None_1, ncut_4_None_1, cut_4_None_3, ncut_4_None_3, cut_4_3_None, ncut_4_3_None, cut_5_2_None, ncut_5_2_None, cut_5_None_1, ncut_5_None_1, cut_5_None_3, ncut_5_None_3, cut_5_3_None, ncut_5_3_None, cut_6_2_None, ncut_6_2_None, cut_6_None_1, ncut_6_None_1, cut_6_None_3, ncut_6_None_3, cut_6_None_5, ncut_6_None_5, cut_6_3_None, ncut_6_3_None, sq_get_put, sq_get_add, sq_get_swap, sq_get_look, sq_get_split, sq_get_join, sq_put_get, sq_put_add, sq_put_swap, sq_put_look, sq_put_split, sq_put_join, sq_add_get, sq_add_put, sq_add_swap, sq_add_look, sq_add_split, sq_add_join, sq_swap_get, sq_swap_put, sq_swap_add, sq_swap_look, sq_swap_split, sq_swap_join, sq_look_get, sq_look_put, sq_look_add, sq_look_swap, sq_look_split, sq_look_join, sq_split_get, sq_split_put, sq_split_add, sq_split_swap, sq_split_look, sq_split_join, sq_join_get, sq_join_put, sq_join_add, sq_join_swap, sq_join_look, sq_join_split, ls0, ls1, ls2, ls3, ls4, ls5, ls6, ls7, ls8, ls9, ls10, nc0, nc1, nc2, nc3, nc4, nc5, nc6, nc7, nc8, nc9, nc10, sk_get, sk_put, sk_add, sk_swap, sk_look, sk_split, sk_join])


local macro_rules | `(tactic| walk_at "dm") => `(tactic| simp (config := { maxSteps := 1000000 }) only [dSeq, dIfS, dRet, dRetN, dSet, dNext, dDrop, dVar, dC, d2, dTest, dAnd, dOr, dNot, dAndV, dOrV, dNotV, dIf, dChain, dChain3, dCall, dCons, dNil, dTup, dLst, dLstR, dAsg, Tg.d, sets, dFor, dYes, dNever, dBrk, dCnt,
  dSortKey, dLc, dLcR, dComp, wipeD, itemsI, rangeI1, enumI, dCB, rLenD, rIntD, rAbsD, rM2D, rTupD, rTupPD, rAllD, dIsi, tyD, rItem, dSl, dPart, dNoPart, rSlD, rII, rAddD, rMulD, rMulDR, rEqG, rInD, dNeg, dGet2, rAddXD, rListD, rListRD, dPar, dNewK, dNewT, dAsgNS, dMemo0, itR, dForR, dLcX, dLcXR, dCompR, dTupRg, dLstRg, dLstRgR, dInRg, dMemoSet, dDisp, dPairs, keyPairs, keyOf, dML, dSetIx,
  atI0, atI1, atI2, atI3, atI4, atI5, atIm2, atIm3, atIm4, deref_non, deref_bl, deref_int, deref_str, deref_tp, deref_ptp, deref_lst, items_tup, items_ptp, items_lst, dq_ii, dq_bb, dq_ss, dq_tt, dq_tp, dq_pt, dq_pp, dq_ll, dq_n0, dq_nc, dq_cn, dq_cc, ok_non, ok_bl, ok_int, ok_str, ok_tp, ok_pp, ok_ls, ok_n0, ok_cc, flat, List.all_cons, List.all_nil, List.any_cons, List.any_nil,
  startD, List.map_cons, List.map_nil, List.length_cons, List.length_nil, List.replicate_succ, List.replicate_zero, List.cons_append, List.nil_append, List.set_cons_zero, List.set_cons_succ, List.getElem?_cons_zero, List.getElem?_cons_succ, Nat.reduceAdd, Nat.reduceSub, Nat.reduceLeDiff, Nat.reduceMul,
  Bool.and_true, Bool.true_and, Bool.and_false, Bool.false_and, Bool.or_true, Bool.true_or, Bool.or_false, Bool.false_or, Bool.not_true, Bool.not_false, decide_eq_true_eq, ↓reduceIte, true_and, and_true, Bool.false_eq_true, Bool.not_eq_true', Bool.not_not, beq_self_eq_true, and_self, ne_eq, reduceCtorEq, not_false_eq_true, not_true_eq_false, Int.reduceBEq, beq_iff_eq, beq_eq_false_iff_ne, decide_eq_false_iff_not, Int.reduceLT, Int.reduceLE, Int.reduceNeg, Int.reduceAdd, Int.reduceEq, Int.reduceToNat,  kb_NoneType_bool, kb_NoneType_int, kb_NoneType_str, kb_NoneType_tuple, kb_NoneType_list, kb_bool_bool, kb_bool_int, kb_bool_str, kb_bool_tuple, kb_bool_list, kb_int_bool, kb_int_int, kb_int_str, kb_int_tuple, kb_int_list, kb_str_bool, kb_str_int, kb_str_str, kb_str_tuple, kb_str_list, kb_tuple_bool, kb_tuple_int, kb_tuple_str, kb_tuple_tuple, kb_tuple_list, kb_list_bool, kb_list_int, kb_list_str, kb_list_tuple, kb_list_list, sq_k_e, sq_kw_e, sq_kww_e, sk_k, sk_kw, sk_kww, sl_k, sl_kw, sl_kww, sk_e, cut_2_2_None, ncut_2_2_None, cut_2_None_1, ncut_2_None_1, cut_3_2_None, ncut_3_2_None, cut_3_None_1, ncut_3_None_1, cut_3_3_None, ncut_3_3_None, cut_4_2_None, ncut_4_2_None, cut_4_None_1, ncut_4_None_1, cut_4_None_3, ncut_4_None_3, cut_4_3_None, ncut_4_3_None, cut_5_2_None, ncut_5_2_None, cut_5_None_1, ncut_5_None_1, cut_5_None_3, ncut_5_None_3, cut_5_3_None, ncut_5_3_None, cut_6_2_None, ncut_6_2_None, cut_6_None_1, ncut_6_None_1, cut_6_None_3, ncut_6_None_3, cut_6_None_5, ncut_6_None_5, cut_6_3_None, ncut_6_3_None, sq_get_put, sq_get_add, sq_get_swap, sq_get_look, sq_get_split, sq_get_join, sq_put_get, sq_put_add, sq_put_swap, sq_put_look, sq_put_split, sq_put_join, sq_add_get, sq_add_put, sq_add_swap, sq_add_look, sq_add_split, sq_add_join, sq_swap_get, sq_swap_put, sq_swap_add, sq_swap_look, sq_swap_split, sq_swap_join, sq_look_get, sq_look_put, sq_look_add, sq_look_swap, sq_look_split, sq_look_join, sq_split_get, sq_split_put, sq_split_add, sq_split_swap, sq_split_look, sq_split_join, sq_join_get, sq_join_put, sq_join_add, sq_join_swap, sq_join_look, sq_join_split, ls0, ls1, ls2, ls3, ls4, ls5, ls6, ls7, ls8, ls9, ls10, nc0, nc1, nc2, nc3, nc4, nc5, nc6, nc7, nc8, nc9, nc10, sk_get, sk_put, sk_add, sk_swap, sk_look, sk_split, sk_join])


/-! ### an asker -/
structure Cl where
  house : Addr
  seat : Addr
  asker : Addr
def askF (me many : Int) (b g h i : Addr) (asks : Int) (deed : D) (turns : Int) : List (Str × D) := [("me", .int me), ("many", .int many), ("book", .ref b), ("asks", .int asks), ("deed", deed), ("turns", .int turns), ("got", .ref g), ("ahead", .ref h), ("hinted", .ref i)]
/-- an asker who asks nothing -/
def AskAt (C : Addr) (S : Store) (a : Addr) : Prop := ∃ (me many : Int) (b g h i : Addr) (asks turns : Int), S a = some (.ins C (askF me many b g h i asks .non turns)) ∧ S b = some (.dN [([0, 100, 0], .int 0)])
theorem AskAt.sub {C : Addr} {S S' : Store} {a : Addr} (h : AskAt C S a) (s : Sub S S') : AskAt C S' a := by
  obtain ⟨me, many, b, g, h', i, asks, turns, e1, e2⟩ := h
  exact ⟨me, many, b, g, h', i, asks, turns, s _ _ e1, s _ _ e2⟩
section
variable (me many : Int) (b g h i : Addr) (asks turns : Int) (deed v : D)
theorem gA_me : (askF me many b g h i asks deed turns).lookup ("me" : Str) = some (D.int me) := by kernel_rfl
theorem gA_book : (askF me many b g h i asks deed turns).lookup ("book" : Str) = some (D.ref b) := by kernel_rfl
theorem gA_asks : (askF me many b g h i asks deed turns).lookup ("asks" : Str) = some (D.int asks) := by kernel_rfl
theorem gA_deed : (askF me many b g h i asks deed turns).lookup ("deed" : Str) = some deed := by kernel_rfl
theorem gA_turns : (askF me many b g h i asks deed turns).lookup ("turns" : Str) = some (D.int turns) := by kernel_rfl
theorem gA_got : (askF me many b g h i asks deed turns).lookup ("got" : Str) = some (D.ref g) := by kernel_rfl
theorem nA_ask : (askF me many b g h i asks deed turns).lookup ("ask" : Str) = none := by kernel_rfl
theorem nA_asked : (askF me many b g h i asks deed turns).lookup ("asked" : Str) = none := by kernel_rfl
theorem nA_send : (askF me many b g h i asks deed turns).lookup ("send" : Str) = none := by kernel_rfl
theorem nA_wanted : (askF me many b g h i asks deed turns).lookup ("wanted" : Str) = none := by kernel_rfl
theorem nA_name_at : (askF me many b g h i asks deed turns).lookup ("name_at" : Str) = none := by kernel_rfl
theorem pA_asks (x : Int) : putFD "asks" (.int x) (askF me many b g h i asks deed turns) = askF me many b g h i x deed turns := by kernel_rfl
theorem pA_deed : putFD "deed" v (askF me many b g h i asks deed turns) = askF me many b g h i asks v turns := by kernel_rfl
theorem pA_turns (x : Int) : putFD "turns" (.int x) (askF me many b g h i asks deed turns) = askF me many b g h i asks deed x := by kernel_rfl
theorem pA_got (x : Addr) : putFD "got" (.ref x) (askF me many b g h i asks deed turns) = askF me many b x h i asks deed turns := by kernel_rfl
theorem pA_ahead (x : Addr) : putFD "ahead" (.ref x) (askF me many b g h i asks deed turns) = askF me many b g x i asks deed turns := by kernel_rfl
theorem pA_hinted (x : Addr) : putFD "hinted" (.ref x) (askF me many b g h i asks deed turns) = askF me many b g h x asks deed turns := by kernel_rfl
theorem pA_all : putFD "hinted" (.ref i) (putFD "ahead" (.ref h) (putFD "got" (.ref g) (putFD "turns" (.int turns) (putFD "deed" deed (putFD "asks" (.int asks) (putFD "book" (.ref b) (putFD "many" (.int many) (putFD "me" (.int me) [])))))))) = askF me many b g h i asks deed turns := by kernel_rfl
end
/-! made -/
def spy_Asker___init__ (c : Cl) : DSy := fun ds S R RE => ∃ (a : Addr) (me many : Int), ds = [.ref a, .int me, .int many] ∧ 0 ≤ me ∧ me < 10 ∧ (many = 1 ∨ many = 3 ∨ many = 5) ∧ S a = some (.ins c.asker []) ∧
  ∀ S', AskAt c.asker S' a → (∀ x o, x ≠ a → S x = some o → S' x = some o) → R .non S'
def rd_Asker___init___1 (c : Cl) : DS :=
 (dSetF "hinted" (dVar 0) dNewK)
def rd_Asker___init___2 (c : Cl) : DS :=
 (dSeq (dSetF "ahead" (dVar 0) dNewK)
 (rd_Asker___init___1 c))
def rd_Asker___init___3 (c : Cl) : DS :=
 (dSeq (dSetF "got" (dVar 0) dNewK)
 (rd_Asker___init___2 c))
def rd_Asker___init___4 (c : Cl) : DS :=
 (dSeq (dSetF "turns" (dVar 0) (dC (.int 0)))
 (rd_Asker___init___3 c))
def rd_Asker___init___5 (c : Cl) : DS :=
 (dSeq (dSetF "deed" (dVar 0) (dC .non))
 (rd_Asker___init___4 c))
def rd_Asker___init___6 (c : Cl) : DS :=
 (dSeq (dSetF "asks" (dVar 0) (dC (.int 0)))
 (rd_Asker___init___5 c))
def rd_Asker___init___7 (c : Cl) : DS :=
 (dSeq (dSetF "book" (dVar 0) (dNewN1 (dC (.tup [(.int 0), (.int 100), (.int 0)])) (dC (.int 0))))
 (rd_Asker___init___6 c))
def rd_Asker___init___8 (c : Cl) : DS :=
 (dSeq (dSetF "many" (dVar 0) (dVar 2))
 (rd_Asker___init___7 c))
def rd_Asker___init___9 (c : Cl) : DS :=
 (dSeq (dSetF "me" (dVar 0) (dVar 1))
 (rd_Asker___init___8 c))
def rd_Asker___init___10 (c : Cl) : DS :=
 (dSeq (dExpY (dCallY spy_need_house (dCons (dC (.int 0)) (dCons (dVar 2) dNil))))
 (rd_Asker___init___9 c))
def rd_Asker___init__ (c : Cl) : DS :=
 (dSeq (dIfS (dNot (dTest (dChain rLeD rLtD (dC (.int 0)) (dVar 1) (dC (.int 10)))))
 (dRaiseY "BadAsker")
 dNext)
 (rd_Asker___init___10 c))
theorem setF_at {f : Str} {A V : DE} {E : DEnds} {τ : DSt} {S : Store} {a C : Addr} {fds : List (Str × D)} {v : D} (h : S a = some (.ins C fds)) (l : fds.length < 100) (k : E.nx τ (ups S a (.ins C (putFD f v fds)))) :
    (match (D.ref a) with | .ref a => (match S a with | some (.ins C fds) => fds.length < 100 ∧ E.nx τ (ups S a (.ins C (putFD f v fds))) | _ => False) | _ => False) := by
  simp only [h]
  exact ⟨l, k⟩
theorem oky_Asker___init__ (c : Cl) (ds : List D) (S : Store) (R : DK) (RE : Str → List D → Store → Prop) (h : spy_Asker___init__ c ds S R RE) : rd_Asker___init__ c (endsy R RE) (startD ["self", "number", "many"] ds) S := by
  obtain ⟨a, me, many, rfl, m0, m1, hm, ha, h⟩ := h
  unfold rd_Asker___init__
  walk_at "dm"
  rw [if_pos m0, if_neg (by omega)]
  unfold rd_Asker___init___10
  try walk_at "dm"
  simp only [dExpY, dCallY]
  walk_at "dm"
  refine ⟨many, rfl, hm, ?_⟩
  have kp : ∀ x o, x ≠ a → S x = some o → S x = some o := fun _ _ _ e => e
  obtain ⟨F0, hF0, l0⟩ : ∃ F : List (Str × D), F = [] ∧ F.length ≤ 0 := ⟨_, rfl, Nat.le_refl _⟩
  rw [← hF0] at ha
  obtain ⟨S0, eS0⟩ : ∃ S0, S0 = S := ⟨_, rfl⟩
  rw [← eS0] at kp
  rw [show (∀ x o, x ≠ a → S0 x = some o → S0 x = some o) = (∀ x o, x ≠ a → S0 x = some o → S x = some o) by rw [eS0]] at kp
  rw [← eS0] at h
  unfold rd_Asker___init___9
  try walk_at "dm"
  simp only [dSetF]
  try walk_at "dm"
  simp only [ha]
  refine ⟨by omega, ?_⟩
  obtain ⟨F1, hF1, l1⟩ : ∃ F : List (Str × D), F = putFD "me" (.int me) F0 ∧ F.length ≤ 1 := ⟨_, rfl, Nat.le_trans (putFD_len _ _ _) (by omega)⟩
  rw [← hF1]
  have hs0 : ups S a (.ins c.asker F1) a = some (.ins c.asker F1) := ups_same
  have ks0 : ∀ x o, x ≠ a → S0 x = some o → ups S a (.ins c.asker F1) x = some o := fun x o nx e => by rw [ups_ne nx]; exact kp x o nx e
  generalize ups S a (.ins c.asker F1) = U0 at hs0 ks0 ⊢
  unfold rd_Asker___init___8
  try walk_at "dm"
  simp only [dSetF]
  try walk_at "dm"
  simp only [hs0]
  refine ⟨by omega, ?_⟩
  obtain ⟨F2, hF2, l2⟩ : ∃ F : List (Str × D), F = putFD "many" (.int many) F1 ∧ F.length ≤ 2 := ⟨_, rfl, Nat.le_trans (putFD_len _ _ _) (by omega)⟩
  rw [← hF2]
  have hs1 : ups U0 a (.ins c.asker F2) a = some (.ins c.asker F2) := ups_same
  have ks1 : ∀ x o, x ≠ a → S0 x = some o → ups U0 a (.ins c.asker F2) x = some o := fun x o nx e => by rw [ups_ne nx]; exact ks0 x o nx e
  generalize ups U0 a (.ins c.asker F2) = U1 at hs1 ks1 ⊢
  unfold rd_Asker___init___7
  try walk_at "dm"
  simp only [dSetF, dNewN1]
  try walk_at "dm"
  intro pb hp2
  have ne2 : a ≠ pb := fun z => by rw [← z, hs1] at hp2; cases hp2
  try walk_at "dm"
  refine ⟨ups_same, [0, 100, 0], rfl, ?_⟩
  have hu2 : ∀ x, x ≠ pb → ups (ups U1 pb (.dN [])) pb (.dN [([0, 100, 0], .int 0)]) x = U1 x := fun x nx => by rw [ups_ne nx, ups_ne nx]
  have hb2 : ups (ups U1 pb (.dN [])) pb (.dN [([0, 100, 0], .int 0)]) pb = some (.dN [([0, 100, 0], .int 0)]) := ups_same
  generalize ups (ups U1 pb (.dN [])) pb (.dN [([0, 100, 0], .int 0)]) = T2 at hu2 hb2 ⊢
  have ht2 := (hu2 a ne2).trans hs1
  have kt2 : ∀ x o, x ≠ a → S0 x = some o → T2 x = some o := fun x o nx e => by
    have q := ks1 x o nx e
    rw [hu2 x fun z => by rw [z] at q; rw [q] at hp2; cases hp2]
    exact q
  simp only [ht2]
  refine ⟨by omega, ?_⟩
  obtain ⟨F3, hF3, l3⟩ : ∃ F : List (Str × D), F = putFD "book" (.ref pb) F2 ∧ F.length ≤ 3 := ⟨_, rfl, Nat.le_trans (putFD_len _ _ _) (by omega)⟩
  rw [← hF3]
  have hs2 : ups T2 a (.ins c.asker F3) a = some (.ins c.asker F3) := ups_same
  have ks2 : ∀ x o, x ≠ a → S0 x = some o → ups T2 a (.ins c.asker F3) x = some o := fun x o nx e => by rw [ups_ne nx]; exact kt2 x o nx e
  have bs2 : ups T2 a (.ins c.asker F3) pb = some (.dN [([0, 100, 0], .int 0)]) := by rw [ups_ne (Ne.symm ne2)]; exact hb2
  generalize ups T2 a (.ins c.asker F3) = U2 at hs2 ks2 bs2 ⊢
  unfold rd_Asker___init___6
  try walk_at "dm"
  simp only [dSetF]
  try walk_at "dm"
  simp only [hs2]
  refine ⟨by omega, ?_⟩
  obtain ⟨F4, hF4, l4⟩ : ∃ F : List (Str × D), F = putFD "asks" (.int 0) F3 ∧ F.length ≤ 4 := ⟨_, rfl, Nat.le_trans (putFD_len _ _ _) (by omega)⟩
  rw [← hF4]
  have hs3 : ups U2 a (.ins c.asker F4) a = some (.ins c.asker F4) := ups_same
  have ks3 : ∀ x o, x ≠ a → S0 x = some o → ups U2 a (.ins c.asker F4) x = some o := fun x o nx e => by rw [ups_ne nx]; exact ks2 x o nx e
  have bs3 : ups U2 a (.ins c.asker F4) pb = some (.dN [([0, 100, 0], .int 0)]) := by rw [ups_ne (Ne.symm ne2)]; exact bs2
  generalize ups U2 a (.ins c.asker F4) = U3 at hs3 ks3 bs3 ⊢
  unfold rd_Asker___init___5
  try walk_at "dm"
  simp only [dSetF]
  try walk_at "dm"
  simp only [hs3]
  refine ⟨by omega, ?_⟩
  obtain ⟨F5, hF5, l5⟩ : ∃ F : List (Str × D), F = putFD "deed" (.non) F4 ∧ F.length ≤ 5 := ⟨_, rfl, Nat.le_trans (putFD_len _ _ _) (by omega)⟩
  rw [← hF5]
  have hs4 : ups U3 a (.ins c.asker F5) a = some (.ins c.asker F5) := ups_same
  have ks4 : ∀ x o, x ≠ a → S0 x = some o → ups U3 a (.ins c.asker F5) x = some o := fun x o nx e => by rw [ups_ne nx]; exact ks3 x o nx e
  have bs4 : ups U3 a (.ins c.asker F5) pb = some (.dN [([0, 100, 0], .int 0)]) := by rw [ups_ne (Ne.symm ne2)]; exact bs3
  generalize ups U3 a (.ins c.asker F5) = U4 at hs4 ks4 bs4 ⊢
  unfold rd_Asker___init___4
  try walk_at "dm"
  simp only [dSetF]
  try walk_at "dm"
  simp only [hs4]
  refine ⟨by omega, ?_⟩
  obtain ⟨F6, hF6, l6⟩ : ∃ F : List (Str × D), F = putFD "turns" (.int 0) F5 ∧ F.length ≤ 6 := ⟨_, rfl, Nat.le_trans (putFD_len _ _ _) (by omega)⟩
  rw [← hF6]
  have hs5 : ups U4 a (.ins c.asker F6) a = some (.ins c.asker F6) := ups_same
  have ks5 : ∀ x o, x ≠ a → S0 x = some o → ups U4 a (.ins c.asker F6) x = some o := fun x o nx e => by rw [ups_ne nx]; exact ks4 x o nx e
  have bs5 : ups U4 a (.ins c.asker F6) pb = some (.dN [([0, 100, 0], .int 0)]) := by rw [ups_ne (Ne.symm ne2)]; exact bs4
  generalize ups U4 a (.ins c.asker F6) = U5 at hs5 ks5 bs5 ⊢
  unfold rd_Asker___init___3
  try walk_at "dm"
  simp only [dSetF]
  try walk_at "dm"
  intro pg hp6
  have ne6 : a ≠ pg := fun z => by rw [← z, hs5] at hp6; cases hp6
  have hu6 : ∀ x, x ≠ pg → ups U5 pg (.dK []) x = U5 x := fun x nx => ups_ne nx
  have nb6 : pb ≠ pg := fun z => by rw [← z, bs5] at hp6; cases hp6
  generalize ups U5 pg (.dK []) = T6 at hu6 ⊢
  have hb6 := (hu6 pb nb6).trans bs5
  have ht6 := (hu6 a ne6).trans hs5
  have kt6 : ∀ x o, x ≠ a → S0 x = some o → T6 x = some o := fun x o nx e => by
    have q := ks5 x o nx e
    rw [hu6 x fun z => by rw [z] at q; rw [q] at hp6; cases hp6]
    exact q
  simp only [ht6]
  refine ⟨by omega, ?_⟩
  obtain ⟨F7, hF7, l7⟩ : ∃ F : List (Str × D), F = putFD "got" (.ref pg) F6 ∧ F.length ≤ 7 := ⟨_, rfl, Nat.le_trans (putFD_len _ _ _) (by omega)⟩
  rw [← hF7]
  have hs6 : ups T6 a (.ins c.asker F7) a = some (.ins c.asker F7) := ups_same
  have ks6 : ∀ x o, x ≠ a → S0 x = some o → ups T6 a (.ins c.asker F7) x = some o := fun x o nx e => by rw [ups_ne nx]; exact kt6 x o nx e
  have bs6 : ups T6 a (.ins c.asker F7) pb = some (.dN [([0, 100, 0], .int 0)]) := by rw [ups_ne (Ne.symm ne2)]; exact hb6
  generalize ups T6 a (.ins c.asker F7) = U6 at hs6 ks6 bs6 ⊢
  unfold rd_Asker___init___2
  try walk_at "dm"
  simp only [dSetF]
  try walk_at "dm"
  intro ph hp7
  have ne7 : a ≠ ph := fun z => by rw [← z, hs6] at hp7; cases hp7
  have hu7 : ∀ x, x ≠ ph → ups U6 ph (.dK []) x = U6 x := fun x nx => ups_ne nx
  have nb7 : pb ≠ ph := fun z => by rw [← z, bs6] at hp7; cases hp7
  generalize ups U6 ph (.dK []) = T7 at hu7 ⊢
  have hb7 := (hu7 pb nb7).trans bs6
  have ht7 := (hu7 a ne7).trans hs6
  have kt7 : ∀ x o, x ≠ a → S0 x = some o → T7 x = some o := fun x o nx e => by
    have q := ks6 x o nx e
    rw [hu7 x fun z => by rw [z] at q; rw [q] at hp7; cases hp7]
    exact q
  simp only [ht7]
  refine ⟨by omega, ?_⟩
  obtain ⟨F8, hF8, l8⟩ : ∃ F : List (Str × D), F = putFD "ahead" (.ref ph) F7 ∧ F.length ≤ 8 := ⟨_, rfl, Nat.le_trans (putFD_len _ _ _) (by omega)⟩
  rw [← hF8]
  have hs7 : ups T7 a (.ins c.asker F8) a = some (.ins c.asker F8) := ups_same
  have ks7 : ∀ x o, x ≠ a → S0 x = some o → ups T7 a (.ins c.asker F8) x = some o := fun x o nx e => by rw [ups_ne nx]; exact kt7 x o nx e
  have bs7 : ups T7 a (.ins c.asker F8) pb = some (.dN [([0, 100, 0], .int 0)]) := by rw [ups_ne (Ne.symm ne2)]; exact hb7
  generalize ups T7 a (.ins c.asker F8) = U7 at hs7 ks7 bs7 ⊢
  unfold rd_Asker___init___1
  try walk_at "dm"
  simp only [dSetF]
  try walk_at "dm"
  intro pi hp8
  have ne8 : a ≠ pi := fun z => by rw [← z, hs7] at hp8; cases hp8
  have hu8 : ∀ x, x ≠ pi → ups U7 pi (.dK []) x = U7 x := fun x nx => ups_ne nx
  have nb8 : pb ≠ pi := fun z => by rw [← z, bs7] at hp8; cases hp8
  generalize ups U7 pi (.dK []) = T8 at hu8 ⊢
  have hb8 := (hu8 pb nb8).trans bs7
  have ht8 := (hu8 a ne8).trans hs7
  have kt8 : ∀ x o, x ≠ a → S0 x = some o → T8 x = some o := fun x o nx e => by
    have q := ks7 x o nx e
    rw [hu8 x fun z => by rw [z] at q; rw [q] at hp8; cases hp8]
    exact q
  simp only [ht8]
  refine ⟨by omega, ?_⟩
  obtain ⟨F9, hF9, l9⟩ : ∃ F : List (Str × D), F = putFD "hinted" (.ref pi) F8 ∧ F.length ≤ 9 := ⟨_, rfl, Nat.le_trans (putFD_len _ _ _) (by omega)⟩
  rw [← hF9]
  have hs8 : ups T8 a (.ins c.asker F9) a = some (.ins c.asker F9) := ups_same
  have ks8 : ∀ x o, x ≠ a → S0 x = some o → ups T8 a (.ins c.asker F9) x = some o := fun x o nx e => by rw [ups_ne nx]; exact kt8 x o nx e
  have bs8 : ups T8 a (.ins c.asker F9) pb = some (.dN [([0, 100, 0], .int 0)]) := by rw [ups_ne (Ne.symm ne2)]; exact hb8
  generalize ups T8 a (.ins c.asker F9) = U8 at hs8 ks8 bs8 ⊢
  refine ⟨U8, .refl _, h U8 ⟨me, many, pb, pg, ph, pi, 0, 0, ?_, bs8⟩ ks8⟩
  rw [hs8, hF9, hF8, hF7, hF6, hF5, hF4, hF3, hF2, hF1, hF0, pA_all]
end Dl.D4

set_option Elab.async false
set_option linter.all false
set_option maxRecDepth 100000
set_option maxHeartbeats 2000000
namespace Dl.D4
open PySem PySem.Spec PyProof.Rows L2 LamX Dl
local macro_rules | `(tactic| walk_at "dl") => `(tactic| simp (config := { maxSteps := 1000000 }) only [dSeq, dIfS, dRet, dRetN, dSet, dNext, dDrop, dVar, dC, d2, dTest, dAnd, dOr, dNot, dAndV, dOrV, dNotV, dIf, dChain, dChain3, dCall, dCons, dNil, dTup, dLst, dLstR, dAsg, Tg.d, sets, dFor, dYes, dNever, dBrk, dCnt,
  dSortKey, dLc, dLcR, dComp, wipeD, itemsI, rangeI1, enumI, dCB, rLenD, rIntD, rAbsD, rM2D, rTupD, rTupPD, rAllD, dIsi, tyD, rIxD, rItem, dSl, dPart, dNoPart, rSlD, rII, rAddD, rMulD, rMulDR, rEqG, rIsN, rInD, dNeg, dGet2, rAddXD, rListD, rListRD, dPar, dNewK, dNewT, dAsgNS, dMemo0, itR, dForR, dLcX, dLcXR, dCompR, dTupRg, dLstRg, dLstRgR, dInRg, dMemoSet, dDisp, dPairs, keyPairs, keyOf, dML, dSetIx,
  atI0, atI1, atI2, atI3, atI4, atI5, atIm2, atIm3, atIm4, deref_non, deref_bl, deref_int, deref_str, deref_tp, deref_ptp, deref_lst, items_tup, items_ptp, items_lst, dq_ii, dq_bb, dq_ss, dq_tt, dq_tp, dq_pt, dq_pp, dq_ll, dq_n0, dq_nc, dq_cn, dq_cc, ok_non, ok_bl, ok_int, ok_str, ok_tp, ok_pp, ok_ls, ok_n0, ok_cc, flat, List.all_cons, List.all_nil, List.any_cons, List.any_nil,
  startD, List.map_cons, List.map_nil, List.length_cons, List.length_nil, List.replicate_succ, List.replicate_zero, List.cons_append, List.nil_append, List.set_cons_zero, List.set_cons_succ, List.getElem?_cons_zero, List.getElem?_cons_succ, Nat.reduceAdd, Nat.reduceSub, Nat.reduceLeDiff, Nat.reduceMul,
  Bool.and_true, Bool.true_and, Bool.and_false, Bool.false_and, Bool.or_true, Bool.true_or, Bool.or_false, Bool.false_or, Bool.not_true, Bool.not_false, decide_eq_true_eq, ↓reduceIte, true_and, and_true, Bool.false_eq_true, Bool.not_eq_true', Bool.not_not, beq_self_eq_true, and_self, ne_eq, reduceCtorEq, not_false_eq_true, not_true_eq_false, Int.reduceBEq, beq_iff_eq, beq_eq_false_iff_ne, decide_eq_false_iff_not, Int.reduceLT, Int.reduceLE, Int.reduceNeg, Int.reduceAdd, Int.reduceEq, Int.reduceToNat,  kb_NoneType_bool, kb_NoneType_int, kb_NoneType_str, kb_NoneType_tuple, kb_NoneType_list, kb_bool_bool, kb_bool_int, kb_bool_str, kb_bool_tuple, kb_bool_list, kb_int_bool, kb_int_int, kb_int_str, kb_int_tuple, kb_int_list, kb_str_bool, kb_str_int, kb_str_str, kb_str_tuple, kb_str_list, kb_tuple_bool, kb_tuple_int, kb_tuple_str, kb_tuple_tuple, kb_tuple_list, kb_list_bool, kb_list_int, kb_list_str, kb_list_tuple, kb_list_list, sq_k_e, sq_kw_e, sq_kww_e, sk_k, sk_kw, sk_kww, sl_k, sl_kw, sl_kww, sk_e, cut_2_2_None, ncut_2_2_None, cut_2_None_1, ncut_2_None_1, cut_3_2_None, ncut_3_2_None, cut_3_None_1, ncut_3_None_1, cut_3_3_None, ncut_3_3_None, cut_4_2_None, ncut_4_2_None, cut_4_None_1, ncut_4_None_1, cut_4_None_3, ncut_4_None_3, cut_4_3_None, ncut_4_3_None, cut_5_2_None, ncut_5_2_None, cut_5_None_1, ncut_5_None_1, cut_5_None_3, ncut_5_None_3, cut_5_3_None, ncut_5_3_None, cut_6_2_None, ncut_6_2_None, cut_6_None_1, ncut_6_None_1, cut_6_None_3, ncut_6_None_3, cut_6_None_5, ncut_6_None_5, cut_6_3_None, ncut_6_3_None, sq_get_put, sq_get_add, sq_get_swap, sq_get_look, sq_get_split, sq_get_join, sq_put_get, sq_put_add, sq_put_swap, sq_put_look, sq_put_split, sq_put_join, sq_add_get, sq_add_put, sq_add_swap, sq_add_look, sq_add_split, sq_add_join, sq_swap_get, sq_swap_put, sq_swap_add, sq_swap_look, sq_swap_split, sq_swap_join, sq_look_get, sq_look_put, sq_look_add, sq_look_swap, sq_look_split, sq_look_join, sq_split_get, sq_split_put, sq_split_add, sq_split_swap, sq_split_look, sq_split_join, sq_join_get, sq_join_put, sq_join_add, sq_join_swap, sq_join_look, sq_join_split, ls0, ls1, ls2, ls3, ls4, ls5, ls6, ls7, ls8, ls9, ls10, nc0, nc1, nc2, nc3, nc4, nc5, nc6, nc7, nc8, nc9, nc10, sk_get, sk_put, sk_add, sk_swap, sk_look, sk_split, sk_join])


local macro_rules | `(tactic| walk_at "dm") => `(tactic| simp (config := { maxSteps := 1000000 }) only [dSeq, dIfS, dRet, dRetN, dSet, dNext, dDrop, dVar, dC, d2, dTest, dAnd, dOr, dNot, dAndV, dOrV, dNotV, dIf, dChain, dChain3, dCall, dCons, dNil, dTup, dLst, dLstR, dAsg, Tg.d, sets, dFor, dYes, dNever, dBrk, dCnt,
  dSortKey, dLc, dLcR, dComp, wipeD, itemsI, rangeI1, enumI, dCB, rLenD, rIntD, rAbsD, rM2D, rTupD, rTupPD, rAllD, dIsi, tyD, rItem, dSl, dPart, dNoPart, rSlD, rII, rAddD, rMulD, rMulDR, rEqG, rInD, dNeg, dGet2, rAddXD, rListD, rListRD, dPar, dNewK, dNewT, dAsgNS, dMemo0, itR, dForR, dLcX, dLcXR, dCompR, dTupRg, dLstRg, dLstRgR, dInRg, dMemoSet, dDisp, dPairs, keyPairs, keyOf, dML, dSetIx,
  atI0, atI1, atI2, atI3, atI4, atI5, atIm2, atIm3, atIm4, deref_non, deref_bl, deref_int, deref_str, deref_tp, deref_ptp, deref_lst, items_tup, items_ptp, items_lst, dq_ii, dq_bb, dq_ss, dq_tt, dq_tp, dq_pt, dq_pp, dq_ll, dq_n0, dq_nc, dq_cn, dq_cc, ok_non, ok_bl, ok_int, ok_str, ok_tp, ok_pp, ok_ls, ok_n0, ok_cc, flat, List.all_cons, List.all_nil, List.any_cons, List.any_nil,
  startD, List.map_cons, List.map_nil, List.length_cons, List.length_nil, List.replicate_succ, List.replicate_zero, List.cons_append, List.nil_append, List.set_cons_zero, List.set_cons_succ, List.getElem?_cons_zero, List.getElem?_cons_succ, Nat.reduceAdd, Nat.reduceSub, Nat.reduceLeDiff, Nat.reduceMul,
  Bool.and_true, Bool.true_and, Bool.and_false, Bool.false_and, Bool.or_true, Bool.true_or, Bool.or_false, Bool.false_or, Bool.not_true, Bool.not_false, decide_eq_true_eq, ↓reduceIte, true_and, and_true, Bool.false_eq_true, Bool.not_eq_true', Bool.not_not, beq_self_eq_true, and_self, ne_eq, reduceCtorEq, not_false_eq_true, not_true_eq_false, Int.reduceBEq, beq_iff_eq, beq_eq_false_iff_ne, decide_eq_false_iff_not, Int.reduceLT, Int.reduceLE, Int.reduceNeg, Int.reduceAdd, Int.reduceEq, Int.reduceToNat,  kb_NoneType_bool, kb_NoneType_int, kb_NoneType_str, kb_NoneType_tuple, kb_NoneType_list, kb_bool_bool, kb_bool_int, kb_bool_str, kb_bool_tuple, kb_bool_list, kb_int_bool, kb_int_int, kb_int_str, kb_int_tuple, kb_int_list, kb_str_bool, kb_str_int, kb_str_str, kb_str_tuple, kb_str_list, kb_tuple_bool, kb_tuple_int, kb_tuple_str, kb_tuple_tuple, kb_tuple_list, kb_list_bool, kb_list_int, kb_list_str, kb_list_tuple, kb_list_list, sq_k_e, sq_kw_e, sq_kww_e, sk_k, sk_kw, sk_kww, sl_k, sl_kw, sl_kww, sk_e, cut_2_2_None, ncut_2_2_None, cut_2_None_1, ncut_2_None_1, cut_3_2_None, ncut_3_2_None, cut_3_None_1, ncut_3_None_1, cut_3_3_None, ncut_3_3_None, cut_4_2_None, ncut_4_2_None, cut_4_None_1, ncut_4_None_1, cut_4_None_3, ncut_4_None_3, cut_4_3_None, ncut_4_3_None, cut_5_2_None, ncut_5_2_None, cut_5_None_1, ncut_5_None_1, cut_5_None_3, ncut_5_None_3, cut_5_3_None, ncut_5_3_None, cut_6_2_None, ncut_6_2_None, cut_6_None_1, ncut_6_None_1, cut_6_None_3, ncut_6_None_3, cut_6_None_5, ncut_6_None_5, cut_6_3_None, ncut_6_3_None, sq_get_put, sq_get_add, sq_get_swap, sq_get_look, sq_get_split, sq_get_join, sq_put_get, sq_put_add, sq_put_swap, sq_put_look, sq_put_split, sq_put_join, sq_add_get, sq_add_put, sq_add_swap, sq_add_look, sq_add_split, sq_add_join, sq_swap_get, sq_swap_put, sq_swap_add, sq_swap_look, sq_swap_split, sq_swap_join, sq_look_get, sq_look_put, sq_look_add, sq_look_swap, sq_look_split, sq_look_join, sq_split_get, sq_split_put, sq_split_add, sq_split_swap, sq_split_look, sq_split_join, sq_join_get, sq_join_put, sq_join_add, sq_join_swap, sq_join_look, sq_join_split, ls0, ls1, ls2, ls3, ls4, ls5, ls6, ls7, ls8, ls9, ls10, nc0, nc1, nc2, nc3, nc4, nc5, nc6, nc7, nc8, nc9, nc10, sk_get, sk_put, sk_add, sk_swap, sk_look, sk_split, sk_join])


structure AskD (C : Addr) (S : Store) (a : Addr) (me asks : Int) (deed : D) : Prop where
  ex : ∃ (many : Int) (b g h i : Addr) (turns : Int), S a = some (.ins C (askF me many b g h i asks deed turns)) ∧ S b = some (.dN [([0, 100, 0], .int 0)])
theorem ups_hide {S : Store} {p : Addr} {o : MO} (h : S p = some o) : ups (hide S p) p o = S := by
  funext a
  unfold ups hide
  by_cases e : a = p
  · rw [if_pos e, e, h]
  · rw [if_neg e, if_neg e]
theorem fld_at {S : Store} {a C : Addr} {fs : List (Str × D)} {f : Str} {v : D} (h : S a = some (.ins C fs)) (l : fs.lookup f = some v) : fldD S (.ref a) f = some v := by
  unfold fldD
  simp only [h]
  exact l
def sp_Asker_name_at (c : Cl) : DSp := fun ds S R => ∃ (a : Addr) (key me asks : Int) (deed : D), ds = [.ref a, .int key] ∧ 0 ≤ key ∧ key < 100 ∧ AskD c.asker S a me asks deed ∧ R (.tup [.int 0, .int 100, .int 0]) S
def rd_Asker_name_at (c : Cl) : DS :=
 (dRet (d2 rIxD (dCB rMaxGD (dCons (dLcN (dFld "book" (dVar 0)) (.nm 2) (dTest (dChain rLeD rLtD (d2 rIxD (dVar 2) (dC (.int 0))) (dVar 1) (d2 rIxD (dVar 2) (dC (.int 1))))) (dTup (dCons (d2 rIxD (dVar 2) (dC (.int 2))) (dCons (dVar 2) dNil))) [2]) dNil)) (dC (.int 1))))
theorem ok_Asker_name_at (c : Cl) (ds : List D) (S : Store) (R : DK) (h : sp_Asker_name_at c ds S R) : rd_Asker_name_at c (ends R) (startD ["self", "key", "name"] ds) S := by
  obtain ⟨a, key, me, asks, deed, rfl, k0, k1, ⟨many, b, g, h', i, turns, ha, hb⟩, h⟩ := h
  have ne : a ≠ b := fun z => by rw [z, hb] at ha; cases ha
  unfold rd_Asker_name_at
  walk_at "dm"
  simp only [dLcN]
  refine ⟨b, _, hb, ?_⟩
  simp only [dComp, dFld]
  walk_at "dm"
  rw [fld_at ((hide_ne ne).trans ha) (gA_book ..)]
  refine ⟨rfl, ?_⟩
  try walk_at "dl"
  simp only [compD, wipeD]
  try walk_at "dl"
  rw [if_pos k0, if_pos k1, ups_hide hb]
  refine ⟨[(0, [0, 100, 0])], by simp, rfl, fun p hp _ => ?_⟩
  rw [List.mem_singleton.mp hp]
  show ∃ S'', Sub S'' S ∧ R (.tup [.int 0, .int 100, .int 0]) S''
  exact fin_of h
def sp_Asker_asked (c : Cl) : DSp := fun ds S R => ∃ a, ds = [.ref a] ∧ AskAt c.asker S a ∧ R .non S
def rd_Asker_asked (c : Cl) : DS :=
 (dRet (dFld "deed" (dVar 0)))
theorem ok_Asker_asked (c : Cl) (ds : List D) (S : Store) (R : DK) (h : sp_Asker_asked c ds S R) : rd_Asker_asked c (ends R) (startD ["self"] ds) S := by
  obtain ⟨a, rfl, ⟨me, many, b, g, h', i, asks, turns, ha, hb⟩, h⟩ := h
  unfold rd_Asker_asked
  walk_at "dm"
  simp only [dFld]
  walk_at "dm"
  rw [fld_at ha (gA_deed ..)]
  exact fin_of h
def sp_Asker_wanted (c : Cl) : DSp := fun ds S R => ∃ (a : Addr) (me asks : Int), ds = [.ref a] ∧ AskD c.asker S a me asks (Gd.cut true 99).enc ∧ R (.lst [.int 99]) S
def rd_Asker_wanted_1 (c : Cl) : DS :=
 (dRet (dLst (dCons (d2 rSubD (d2 rIxD (dFld "deed" (dVar 0)) (dC (.int 1))) (dCB rIntD (dCons (d2 (rEqG false) (d2 rIxD (dFld "deed" (dVar 0)) (dC (.int 0))) (dC (.str "join"))) dNil))) dNil)))
def rd_Asker_wanted (c : Cl) : DS :=
 (dSeq (dIfS (dTest (d2 (rEqG false) (d2 rIxD (dFld "deed" (dVar 0)) (dC (.int 0))) (dC (.str "look"))))
 (dRet (dLc (itemsI (d2 rIxD (dFld "deed" (dVar 0)) (dC (.int 1)))) (.nm 1) (dTest (d2 (rInD true) (dVar 1) (dFld "got" (dVar 0)))) (dVar 1) [1]))
 dNext)
 (rd_Asker_wanted_1 c))
theorem ok_Asker_wanted (c : Cl) (ds : List D) (S : Store) (R : DK) (h : sp_Asker_wanted c ds S R) : rd_Asker_wanted c (ends R) (startD ["self", "key"] ds) S := by
  obtain ⟨a, me, asks, rfl, ⟨many, b, g, h', i, turns, ha, hb⟩, h⟩ := h
  have fd := fld_at ha (gA_deed ..)
  unfold rd_Asker_wanted
  walk_at "dm"
  simp only [dFld]
  walk_at "dm"
  simp only [fd, Gd.enc]
  walk_at "dl"
  unfold rd_Asker_wanted_1
  walk_at "dl"
  simp only [dFld]
  walk_at "dm"
  simp only [fd, Gd.enc]
  walk_at "dl"
  exact fin_of h
def Lt (me asks : Int) : D := .tup [.tup [.str "house", .int 0], .tup [.str "ask", .int me, .int asks, (Gd.cut true 99).enc]]
def sp_Asker_send (c : Cl) : DSp := fun ds S R => ∃ (a : Addr) (me asks : Int), ds = [.ref a] ∧ AskD c.asker S a me asks (Gd.cut true 99).enc ∧ ∀ q S', S' q = some (.lst [Lt me asks]) → R (.ref q) S'
def rd_Asker_send_1 (c : Cl) : DS :=
 (dDrop (dML rAppendD (dVar 1) (dCons (dTup (dCons (dTup (dCons (dC (.str "house")) (dCons (dIxN (dFld "book" (dVar 0)) (dMeth c.asker "name_at" (sp_Asker_name_at c) (dVar 0) (dCons (dVar 2) dNil))) dNil))) (dCons (dVar 3) dNil))) dNil)))
def rd_Asker_send_2 (c : Cl) : DS :=
 (dSeq (dIfS (dTest (d2 (rEqG false) (d2 rIxD (dFld "deed" (dVar 0)) (dC (.int 0))) (dC (.str "look"))))
 (dSet 3 (dTup (dCons (dC (.str "peek")) (dCons (dFld "me" (dVar 0)) (dCons (dFld "asks" (dVar 0)) (dCons (dFld "turns" (dVar 0)) (dCons (dVar 2) dNil)))))))
 dNext)
 (rd_Asker_send_1 c))
def rd_Asker_send_3 (c : Cl) : DS :=
 (dRet (dVar 1))
def rd_Asker_send_4 (c : Cl) : DS :=
 (dSeq (dFor (itemsI (dMeth c.asker "wanted" (sp_Asker_wanted c) (dVar 0) dNil)) (.nm 2)
 (dSeq (dSet 3 (dTup (dCons (dC (.str "ask")) (dCons (dFld "me" (dVar 0)) (dCons (dFld "asks" (dVar 0)) (dCons (dFld "deed" (dVar 0)) dNil))))))
 (rd_Asker_send_2 c)))
 (rd_Asker_send_3 c))
def rd_Asker_send (c : Cl) : DS :=
 (dSeq (dSet 1 (dLstR dNil))
 (rd_Asker_send_4 c))
theorem ok_Asker_send (c : Cl) (ds : List D) (S : Store) (R : DK) (h : sp_Asker_send c ds S R) : rd_Asker_send c (ends R) (startD ["self", "letters", "key", "body"] ds) S := by
  obtain ⟨a, me, asks, rfl, ad, h⟩ := h
  unfold rd_Asker_send
  walk_at "dm"
  intro q hq
  have ad1 : AskD c.asker (ups S q (.lst [])) a me asks (Gd.cut true 99).enc := by
    obtain ⟨many, b, g, h', i, turns, ha, hb⟩ := ad
    exact ⟨many, b, g, h', i, turns, (sub_ups hq) _ _ ha, (sub_ups hq) _ _ hb⟩
  have q1 : ups S q (.lst []) q = some (.lst []) := ups_same
  generalize ups S q (.lst []) = S1 at ad1 q1 ⊢
  unfold rd_Asker_send_4
  walk_at "dm"
  simp only [dMeth]
  walk_at "dm"
  obtain ⟨many, b, g, h', i, turns, ha, hb⟩ := id ad1
  have fd := fld_at ha (gA_deed ..)
  refine ⟨⟨a, _, rfl, ha, nA_wanted ..⟩, a, me, asks, rfl, ad1, ?_⟩
  try walk_at "dm"
  simp only [loopD]
  walk_at "dm"
  have fm := fld_at ha (gA_me ..)
  have fa := fld_at ha (gA_asks ..)
  have fb := fld_at ha (gA_book ..)
  simp only [dFld]
  try walk_at "dm"
  simp only [fm, fa, fd]
  try walk_at "dm"
  unfold rd_Asker_send_2
  walk_at "dm"
  simp only [dFld]
  try walk_at "dm"
  simp only [fd, Gd.enc]
  walk_at "dl"
  unfold rd_Asker_send_1
  walk_at "dl"
  simp only [dIxN, dMeth, dFld]
  walk_at "dl"
  simp only [fb]
  refine ⟨by unfold isLst; simp only [deref_rf q1], ⟨a, _, rfl, ha, nA_name_at ..⟩, a, 99, me, asks, _, rfl, by decide, by decide, ad1, ?_⟩
  have n1 : namesAt S1 (.ref b) = some [([0, 100, 0], .int 0)] := by unfold namesAt; simp only [hb]
  have n2 : nameD (.tup [.int 0, .int 100, .int 0]) = some [0, 100, 0] := rfl
  have n3 : atN [([0, 100, 0], D.int 0)] [0, 100, 0] = some (.int 0) := rfl
  simp only [n1, n2, n3]
  simp only [rAppendD, q1]
  refine ⟨by decide, ?_⟩
  unfold rd_Asker_send_3
  walk_at "dl"
  exact fin_of (h q _ ups_same)
/-! an ask -/
def spy_Asker_ask (c : Cl) : DSy := fun ds S R RE => ∃ (a : Addr) (d : D), ds = [.ref a, d] ∧ AskAt c.asker S a ∧ ((badD d ∧ RE "BadDeed" [] S) ∨ (d = (Gd.cut true 99).enc ∧ ∀ me asks q S', S' q = some (.lst [Lt me asks]) → R (.ref q) S'))
def rd_Asker_ask_1 (c : Cl) : DS :=
 (dRet (dMeth c.asker "send" (sp_Asker_send c) (dVar 0) dNil))
def rd_Asker_ask_2 (c : Cl) : DS :=
 (dSeq (dSetF "hinted" (dVar 0) dNewK)
 (rd_Asker_ask_1 c))
def rd_Asker_ask_3 (c : Cl) : DS :=
 (dSeq (dSetF "ahead" (dVar 0) dNewK)
 (rd_Asker_ask_2 c))
def rd_Asker_ask_4 (c : Cl) : DS :=
 (dSeq (dSetF "got" (dVar 0) dNewK)
 (rd_Asker_ask_3 c))
def rd_Asker_ask_5 (c : Cl) : DS :=
 (dSeq (dSetF "turns" (dVar 0) (dC (.int 1)))
 (rd_Asker_ask_4 c))
def rd_Asker_ask_6 (c : Cl) : DS :=
 (dSeq (dSetF "deed" (dVar 0) (dVar 1))
 (rd_Asker_ask_5 c))
def rd_Asker_ask_7 (c : Cl) : DS :=
 (dSeq (dSetF "asks" (dVar 0) (d2 rAddD (dFld "asks" (dVar 0)) (dC (.int 1))))
 (rd_Asker_ask_6 c))
def rd_Asker_ask_8 (c : Cl) : DS :=
 (dSeq (dIfS (dTest (d2 (rIsN true) (dFld "deed" (dVar 0)) (dC .non)))
 (dRaiseY "Busy")
 dNext)
 (rd_Asker_ask_7 c))
def rd_Asker_ask (c : Cl) : DS :=
 (dSeq (dExpY (dCallY spy_need_deed (dCons (dVar 1) dNil)))
 (rd_Asker_ask_8 c))
theorem oky_Asker_ask (c : Cl) (ds : List D) (S : Store) (R : DK) (RE : Str → List D → Store → Prop) (h : spy_Asker_ask c ds S R RE) : rd_Asker_ask c (endsy R RE) (startD ["self", "deed"] ds) S := by
  obtain ⟨a, d, rfl, ⟨me, many, b, g, h', i, asks, turns, ha, hb⟩, h⟩ := h
  have ne : b ≠ a := fun z => by rw [z, ha] at hb; cases hb
  unfold rd_Asker_ask
  walk_at "dm"
  simp only [dExpY, dCallY]
  walk_at "dm"
  rcases h with ⟨bd, h⟩ | ⟨rfl, h⟩
  · exact ⟨d, rfl, .inl ⟨bd, S, .refl S, h⟩⟩
  refine ⟨_, rfl, .inr ⟨.cut true 99, rfl, ⟨by decide, by decide⟩, ?_⟩⟩
  have fd := fld_at ha (gA_deed ..)
  have fa := fld_at ha (gA_asks ..)
  unfold rd_Asker_ask_8
  walk_at "dm"
  simp only [dFld]
  walk_at "dm"
  simp only [fd]
  walk_at "dl"
  unfold rd_Asker_ask_7
  walk_at "dm"
  simp only [dSetF]
  walk_at "dm"
  simp only [dFld]
  walk_at "dm"
  simp only [fa, ha]
  refine ⟨by simp [askF], ?_⟩
  rw [pA_asks]
  have h1 : ups S a (.ins c.asker (askF me many b g h' i (asks + 1) .non turns)) a = some (.ins c.asker (askF me many b g h' i (asks + 1) .non turns)) := ups_same
  have b1 : ups S a (.ins c.asker (askF me many b g h' i (asks + 1) .non turns)) b = some (.dN [([0, 100, 0], .int 0)]) := by rw [ups_ne ne]; exact hb
  generalize ups S a (.ins c.asker (askF me many b g h' i (asks + 1) .non turns)) = S1 at h1 b1 ⊢
  unfold rd_Asker_ask_6
  walk_at "dm"
  simp only [dSetF]
  walk_at "dm"
  simp only [h1]
  refine ⟨by simp [askF], ?_⟩
  rw [pA_deed]
  have h2 : ups S1 a (.ins c.asker (askF me many b g h' i (asks + 1) (Gd.cut true 99).enc turns)) a = some (.ins c.asker (askF me many b g h' i (asks + 1) (Gd.cut true 99).enc turns)) := ups_same
  have b2 : ups S1 a (.ins c.asker (askF me many b g h' i (asks + 1) (Gd.cut true 99).enc turns)) b = some (.dN [([0, 100, 0], .int 0)]) := by rw [ups_ne ne]; exact b1
  generalize ups S1 a (.ins c.asker (askF me many b g h' i (asks + 1) (Gd.cut true 99).enc turns)) = S2 at h2 b2 ⊢
  unfold rd_Asker_ask_5
  walk_at "dm"
  simp only [dSetF]
  walk_at "dm"
  simp only [h2]
  refine ⟨by simp [askF], ?_⟩
  rw [pA_turns]
  have h3 : ups S2 a (.ins c.asker (askF me many b g h' i (asks + 1) (Gd.cut true 99).enc 1)) a = some (.ins c.asker (askF me many b g h' i (asks + 1) (Gd.cut true 99).enc 1)) := ups_same
  have b3 : ups S2 a (.ins c.asker (askF me many b g h' i (asks + 1) (Gd.cut true 99).enc 1)) b = some (.dN [([0, 100, 0], .int 0)]) := by rw [ups_ne ne]; exact b2
  generalize ups S2 a (.ins c.asker (askF me many b g h' i (asks + 1) (Gd.cut true 99).enc 1)) = S3 at h3 b3 ⊢
  have newd : ∀ {S : Store} {x : Addr} {F : List (Str × D)} {v : MO} {p : Addr}, S p = none → S a = some (.ins c.asker F) → S b = some (.dN [([0, 100, 0], .int 0)]) → ups S p v a = some (.ins c.asker F) ∧ ups S p v b = some (.dN [([0, 100, 0], .int 0)]) := fun hp h1 h2 => ⟨by rw [ups_ne fun z => by rw [← z, h1] at hp; cases hp]; exact h1, by rw [ups_ne fun z => by rw [← z, h2] at hp; cases hp]; exact h2⟩
  unfold rd_Asker_ask_4
  walk_at "dm"
  simp only [dSetF]
  walk_at "dm"
  intro pg hpg
  obtain ⟨h4, b4⟩ := newd (x := pg) (v := .dK []) hpg h3 b3
  generalize ups S3 pg (.dK []) = S4 at h4 b4 ⊢
  simp only [h4]
  refine ⟨by simp [askF], ?_⟩
  rw [pA_got]
  have h5 : ups S4 a (.ins c.asker (askF me many b pg h' i (asks + 1) (Gd.cut true 99).enc 1)) a = some (.ins c.asker (askF me many b pg h' i (asks + 1) (Gd.cut true 99).enc 1)) := ups_same
  have b5 : ups S4 a (.ins c.asker (askF me many b pg h' i (asks + 1) (Gd.cut true 99).enc 1)) b = some (.dN [([0, 100, 0], .int 0)]) := by rw [ups_ne ne]; exact b4
  generalize ups S4 a (.ins c.asker (askF me many b pg h' i (asks + 1) (Gd.cut true 99).enc 1)) = S5 at h5 b5 ⊢
  unfold rd_Asker_ask_3
  walk_at "dm"
  simp only [dSetF]
  walk_at "dm"
  intro ph hph
  obtain ⟨h6, b6⟩ := newd (x := ph) (v := .dK []) hph h5 b5
  generalize ups S5 ph (.dK []) = S6 at h6 b6 ⊢
  simp only [h6]
  refine ⟨by simp [askF], ?_⟩
  rw [pA_ahead]
  have h7 : ups S6 a (.ins c.asker (askF me many b pg ph i (asks + 1) (Gd.cut true 99).enc 1)) a = some (.ins c.asker (askF me many b pg ph i (asks + 1) (Gd.cut true 99).enc 1)) := ups_same
  have b7 : ups S6 a (.ins c.asker (askF me many b pg ph i (asks + 1) (Gd.cut true 99).enc 1)) b = some (.dN [([0, 100, 0], .int 0)]) := by rw [ups_ne ne]; exact b6
  generalize ups S6 a (.ins c.asker (askF me many b pg ph i (asks + 1) (Gd.cut true 99).enc 1)) = S7 at h7 b7 ⊢
  unfold rd_Asker_ask_2
  walk_at "dm"
  simp only [dSetF]
  walk_at "dm"
  intro pi hpi
  obtain ⟨h8, b8⟩ := newd (x := pi) (v := .dK []) hpi h7 b7
  generalize ups S7 pi (.dK []) = S8 at h8 b8 ⊢
  simp only [h8]
  refine ⟨by simp [askF], ?_⟩
  rw [pA_hinted]
  have h9 : ups S8 a (.ins c.asker (askF me many b pg ph pi (asks + 1) (Gd.cut true 99).enc 1)) a = some (.ins c.asker (askF me many b pg ph pi (asks + 1) (Gd.cut true 99).enc 1)) := ups_same
  have b9 : ups S8 a (.ins c.asker (askF me many b pg ph pi (asks + 1) (Gd.cut true 99).enc 1)) b = some (.dN [([0, 100, 0], .int 0)]) := by rw [ups_ne ne]; exact b8
  generalize ups S8 a (.ins c.asker (askF me many b pg ph pi (asks + 1) (Gd.cut true 99).enc 1)) = S9 at h9 b9 ⊢
  unfold rd_Asker_ask_1
  walk_at "dm"
  simp only [dMeth]
  walk_at "dm"
  exact ⟨⟨a, _, rfl, h9, nA_send ..⟩, a, me, asks + 1, rfl, ⟨many, b, pg, ph, pi, 1, h9, b9⟩, fun q S' hq => ⟨S', .refl S', h _ _ q S' hq⟩⟩
/-! what is no deed, drawn -/
def sp__law_none : DSp := fun ds S R => ∃ p q : Addr, ds = [.ref p] ∧ Dice S p q ∧ ∀ d S', badD d → Dice S' p q → R d S'
def rd__law_none_1 : DS :=
 (dRet (d2 rIxD (dVar 2) (dCall sp__law_off (dCons (dVar 0) (dCons (dCB rLenD (dCons (dVar 2) dNil)) dNil)))))
def rd__law_none_2 : DS :=
 (dSeq (dSet 2 (d2 rAddD (dVar 2) (dLst (dCons (dTup (dCons (dC (.str "split")) (dCons (dC (.int 0)) dNil))) (dCons (dTup (dCons (dC (.str "split")) (dCons (dC (.int 100)) dNil))) (dCons (dTup (dCons (dC (.str "join")) (dCons (dC (.int 0)) dNil))) (dCons (dTup (dCons (dC (.str "join")) (dCons (dNeg (dC (.int 1))) dNil))) (dCons (dTup (dCons (dC (.str "join")) (dCons (dC (.int 5)) (dCons (dC (.int 5)) dNil)))) (dCons (dTup (dCons (dC (.int 5)) (dCons (dC (.int 5)) dNil))) (dCons (dTup (dCons (dC (.str "")) (dCons (dC (.int 5)) dNil))) (dCons (dTup (dCons (dC (.str "split")) dNil)) dNil)))))))))))
 rd__law_none_1)
def rd__law_none_3 : DS :=
 (dSeq (dSet 2 (d2 rAddD (dVar 2) (dLst (dCons (dTup (dCons (dC (.str "look")) (dCons (dTup (dCons (dC (.int 1)) (dCons (dC (.bl true)) dNil))) dNil))) (dCons (dTup (dCons (dC (.str "look")) dNil)) dNil)))))
 rd__law_none_2)
def rd__law_none_4 : DS :=
 (dSeq (dSet 2 (d2 rAddD (dVar 2) (dLst (dCons (dTup (dCons (dC (.str "look")) (dCons (dTup (dCons (dC (.int 5)) (dCons (dC (.int 5)) dNil))) dNil))) (dCons (dTup (dCons (dC (.str "look")) (dCons (dTup (dCons (dC (.int 6)) (dCons (dC (.int 5)) dNil))) dNil))) (dCons (dTup (dCons (dC (.str "look")) (dCons (dTup (dCons (dC (.int 1)) (dCons (dC (.int 2)) (dCons (dC (.int 3)) (dCons (dC (.int 4)) (dCons (dC (.int 5)) (dCons (dC (.int 6)) (dCons (dC (.int 7)) dNil)))))))) dNil))) (dCons (dTup (dCons (dC (.str "look")) (dCons (dTup (dCons (dC (.int 1)) (dCons (dC (.int 100)) dNil))) dNil))) dNil)))))))
 rd__law_none_3)
def rd__law_none_5 : DS :=
 (dSeq (dSet 2 (d2 rAddD (dVar 2) (dLst (dCons (dTup (dCons (dC (.str "look")) (dCons (dC (.ptp [])) dNil))) (dCons (dTup (dCons (dC (.str "look")) (dCons (dC (.int 5)) dNil))) dNil)))))
 rd__law_none_4)
def rd__law_none_6 : DS :=
 (dSeq (dSet 2 (d2 rAddD (dVar 2) (dLst (dCons (dTup (dCons (dC (.str "add")) (dCons (dC (.int 5)) (dCons (dC (.int 1000)) dNil)))) (dCons (dTup (dCons (dC (.str "add")) (dCons (dC (.str "5")) (dCons (dC (.int 1)) dNil)))) (dCons (dTup (dCons (dC (.str "swap")) (dCons (dC (.int 5)) (dCons (dC (.int 1)) dNil)))) (dCons (dTup (dCons (dC (.str "swap")) (dCons (dC (.int 5)) (dCons (dC (.int 1)) (dCons (dC (.int 1000)) dNil))))) (dCons (dTup (dCons (dC (.str "swap")) (dCons (dC (.int 5)) (dCons (dNeg (dC (.int 1))) (dCons (dC (.int 1)) dNil))))) dNil))))))))
 rd__law_none_5)
def rd__law_none_7 : DS :=
 (dSeq (dSet 2 (d2 rAddD (dVar 2) (dLst (dCons (dTup (dCons (dC (.str "get")) (dCons (dC .non) dNil))) (dCons (dTup (dCons (dC (.str "put")) (dCons (dC (.int 5)) dNil))) (dCons (dTup (dCons (dC (.str "put")) (dCons (dC (.int 5)) (dCons (d2 rAddD (dC (.int 1000)) (dVar 1)) dNil)))) (dCons (dTup (dCons (dC (.str "put")) (dCons (dC (.int 5)) (dCons (dNeg (dC (.int 1))) dNil)))) (dCons (dTup (dCons (dC (.str "put")) (dCons (dC (.int 5)) (dCons (dC (.bl true)) dNil)))) dNil))))))))
 rd__law_none_6)
def rd__law_none_8 : DS :=
 (dSeq (dSet 2 (dLst (dCons (dC (.ptp [])) (dCons (dTup (dCons (dC (.str "get")) dNil)) (dCons (dTup (dCons (dC (.str "get")) (dCons (d2 rAddD (dC (.int 100)) (dVar 1)) dNil))) (dCons (dTup (dCons (dC (.str "get")) (dCons (d2 rSubD (dNeg (dC (.int 1))) (dVar 1)) dNil))) (dCons (dTup (dCons (dC (.str "get")) (dCons (dC (.int 5)) (dCons (dC (.int 5)) dNil)))) (dCons (dTup (dCons (dC (.str "Get")) (dCons (dC (.int 5)) dNil))) (dCons (dTup (dCons (dC (.str "get")) (dCons (dC (.bl true)) dNil))) dNil)))))))))
 rd__law_none_7)
def rd__law_none : DS :=
 (dSeq (dSet 1 (dCB rMaxD (dCons (dC (.int 0)) (dCons (d2 rSubD (dCall sp__law_off (dCons (dVar 0) (dCons (d2 rPowD (dC (.int 10)) (dC (.int 6))) dNil))) (dC (.int 500000))) dNil))))
 rd__law_none_8)
theorem ok__law_none (ds : List D) (S : Store) (R : DK) (h : sp__law_none ds S R) : rd__law_none (ends R) (startD ["_law_d", "_law_far", "_law_some"] ds) S := by
  obtain ⟨p, q, rfl, hd, h⟩ := h
  unfold rd__law_none
  walk_at "dm"
  refine ⟨⟨by decide, by decide, by decide⟩, ?_⟩
  refine off_use hd (by decide) (by decide) fun v S1 v0 v1 d1 f1 => ?_
  try walk_at "dm"
  obtain ⟨far, hf⟩ : ∃ far : Int, far = (if v - 500000 > 0 then v - 500000 else 0) := ⟨_, rfl⟩
  rw [← hf]
  have f0 : 0 ≤ far := by rw [hf]; split <;> omega
  have big : ∀ m : Nat, m ≤ 1000 → m ≤ sizeLine := fun m hm => len_ok hm
  have lb : (bads far).length = 33 := rfl
  unfold rd__law_none_8
  walk_at "dm"
  unfold rd__law_none_7
  walk_at "dm"
  unfold rd__law_none_6
  walk_at "dm"
  unfold rd__law_none_5
  walk_at "dm"
  unfold rd__law_none_4
  walk_at "dm"
  unfold rd__law_none_3
  walk_at "dm"
  unfold rd__law_none_2
  walk_at "dm"
  unfold rd__law_none_1
  walk_at "dm"
  refine ⟨big _ (by decide), big _ (by decide), big _ (by decide), big _ (by decide), big _ (by decide), big _ (by decide), off_use d1 (by decide) (by decide) fun u S2 u0 u1 d2 f2 => ?_⟩
  obtain ⟨x, hx, ex⟩ := atI_in (l := bads far) u0 (by rw [lb]; exact u1)
  show rIxD (.lst (bads far)) (.int u) S2 _
  unfold rIxD
  simp only [deref_lst, rItem, ex]
  exact fin_of (h x S2 ⟨far, f0, hx⟩ d2)
end Dl.D4

set_option Elab.async false
set_option linter.all false
set_option maxRecDepth 100000
set_option maxHeartbeats 2000000
namespace Dl.D4
open PySem PySem.Spec PyProof.Rows L2 LamX Dl
local macro_rules | `(tactic| walk_at "dl") => `(tactic| simp (config := { maxSteps := 1000000 }) only [dSeq, dIfS, dRet, dRetN, dSet, dNext, dDrop, dVar, dC, d2, dTest, dAnd, dOr, dNot, dAndV, dOrV, dNotV, dIf, dChain, dChain3, dCall, dCons, dNil, dTup, dLst, dLstR, dAsg, Tg.d, sets, dFor, dYes, dNever, dBrk, dCnt,
  dSortKey, dLc, dLcR, dComp, wipeD, itemsI, rangeI1, enumI, dCB, rLenD, rIntD, rAbsD, rM2D, rTupD, rTupPD, rAllD, dIsi, tyD, rIxD, rItem, dSl, dPart, dNoPart, rSlD, rII, rAddD, rMulD, rMulDR, rEqG, rIsN, rInD, dNeg, dGet2, rAddXD, rListD, rListRD, dPar, dNewK, dNewT, dAsgNS, dMemo0, itR, dForR, dLcX, dLcXR, dCompR, dTupRg, dLstRg, dLstRgR, dInRg, dMemoSet, dDisp, dPairs, keyPairs, keyOf, dML, dSetIx,
  atI0, atI1, atI2, atI3, atI4, atI5, atIm2, atIm3, atIm4, deref_non, deref_bl, deref_int, deref_str, deref_tp, deref_ptp, deref_lst, items_tup, items_ptp, items_lst, dq_ii, dq_bb, dq_ss, dq_tt, dq_tp, dq_pt, dq_pp, dq_ll, dq_n0, dq_nc, dq_cn, dq_cc, ok_non, ok_bl, ok_int, ok_str, ok_tp, ok_pp, ok_ls, ok_n0, ok_cc, flat, List.all_cons, List.all_nil, List.any_cons, List.any_nil,
  startD, List.map_cons, List.map_nil, List.length_cons, List.length_nil, List.replicate_succ, List.replicate_zero, List.cons_append, List.nil_append, List.set_cons_zero, List.set_cons_succ, List.getElem?_cons_zero, List.getElem?_cons_succ, Nat.reduceAdd, Nat.reduceSub, Nat.reduceLeDiff, Nat.reduceMul,
  Bool.and_true, Bool.true_and, Bool.and_false, Bool.false_and, Bool.or_true, Bool.true_or, Bool.or_false, Bool.false_or, Bool.not_true, Bool.not_false, decide_eq_true_eq, ↓reduceIte, true_and, and_true, Bool.false_eq_true, Bool.not_eq_true', Bool.not_not, beq_self_eq_true, and_self, ne_eq, reduceCtorEq, not_false_eq_true, not_true_eq_false, Int.reduceBEq, beq_iff_eq, beq_eq_false_iff_ne, decide_eq_false_iff_not, Int.reduceLT, Int.reduceLE, Int.reduceNeg, Int.reduceAdd, Int.reduceEq, Int.reduceToNat,  kb_NoneType_bool, kb_NoneType_int, kb_NoneType_str, kb_NoneType_tuple, kb_NoneType_list, kb_bool_bool, kb_bool_int, kb_bool_str, kb_bool_tuple, kb_bool_list, kb_int_bool, kb_int_int, kb_int_str, kb_int_tuple, kb_int_list, kb_str_bool, kb_str_int, kb_str_str, kb_str_tuple, kb_str_list, kb_tuple_bool, kb_tuple_int, kb_tuple_str, kb_tuple_tuple, kb_tuple_list, kb_list_bool, kb_list_int, kb_list_str, kb_list_tuple, kb_list_list, sq_k_e, sq_kw_e, sq_kww_e, sk_k, sk_kw, sk_kww, sl_k, sl_kw, sl_kww, sk_e, cut_2_2_None, ncut_2_2_None, cut_2_None_1, ncut_2_None_1, cut_3_2_None, ncut_3_2_None, cut_3_None_1, ncut_3_None_1, cut_3_3_None, ncut_3_3_None, cut_4_2_None, ncut_4_2_None, cut_4_None_1, ncut_4_None_1, cut_4_None_3, ncut_4_None_3, cut_4_3_None, ncut_4_3_None, cut_5_2_None, ncut_5_2_None, cut_5_None_1, ncut_5_None_1, cut_5_None_3, ncut_5_None_3, cut_5_3_None, ncut_5_3_None, cut_6_2_None, ncut_6_2_None, cut_6_None_1, ncut_6_None_1, cut_6_None_3, ncut_6_None_3, cut_6_None_5, ncut_6_None_5, cut_6_3_None, ncut_6_3_None, sq_get_put, sq_get_add, sq_get_swap, sq_get_look, sq_get_split, sq_get_join, sq_put_get, sq_put_add, sq_put_swap, sq_put_look, sq_put_split, sq_put_join, sq_add_get, sq_add_put, sq_add_swap, sq_add_look, sq_add_split, sq_add_join, sq_swap_get, sq_swap_put, sq_swap_add, sq_swap_look, sq_swap_split, sq_swap_join, sq_look_get, sq_look_put, sq_look_add, sq_look_swap, sq_look_split, sq_look_join, sq_split_get, sq_split_put, sq_split_add, sq_split_swap, sq_split_look, sq_split_join, sq_join_get, sq_join_put, sq_join_add, sq_join_swap, sq_join_look, sq_join_split, ls0, ls1, ls2, ls3, ls4, ls5, ls6, ls7, ls8, ls9, ls10, nc0, nc1, nc2, nc3, nc4, nc5, nc6, nc7, nc8, nc9, nc10, sk_get, sk_put, sk_add, sk_swap, sk_look, sk_split, sk_join])


local macro_rules | `(tactic| walk_at "dm") => `(tactic| simp (config := { maxSteps := 1000000 }) only [dSeq, dIfS, dRet, dRetN, dSet, dNext, dDrop, dVar, dC, d2, dTest, dAnd, dOr, dNot, dAndV, dOrV, dNotV, dIf, dChain, dChain3, dCall, dCons, dNil, dTup, dLst, dLstR, dAsg, Tg.d, sets, dFor, dYes, dNever, dBrk, dCnt,
  dSortKey, dLc, dLcR, dComp, wipeD, itemsI, rangeI1, enumI, dCB, rLenD, rIntD, rAbsD, rM2D, rTupD, rTupPD, rAllD, dIsi, tyD, rItem, dSl, dPart, dNoPart, rSlD, rII, rAddD, rMulD, rMulDR, rEqG, rInD, dNeg, dGet2, rAddXD, rListD, rListRD, dPar, dNewK, dNewT, dAsgNS, dMemo0, itR, dForR, dLcX, dLcXR, dCompR, dTupRg, dLstRg, dLstRgR, dInRg, dMemoSet, dDisp, dPairs, keyPairs, keyOf, dML, dSetIx,
  atI0, atI1, atI2, atI3, atI4, atI5, atIm2, atIm3, atIm4, deref_non, deref_bl, deref_int, deref_str, deref_tp, deref_ptp, deref_lst, items_tup, items_ptp, items_lst, dq_ii, dq_bb, dq_ss, dq_tt, dq_tp, dq_pt, dq_pp, dq_ll, dq_n0, dq_nc, dq_cn, dq_cc, ok_non, ok_bl, ok_int, ok_str, ok_tp, ok_pp, ok_ls, ok_n0, ok_cc, flat, List.all_cons, List.all_nil, List.any_cons, List.any_nil,
  startD, List.map_cons, List.map_nil, List.length_cons, List.length_nil, List.replicate_succ, List.replicate_zero, List.cons_append, List.nil_append, List.set_cons_zero, List.set_cons_succ, List.getElem?_cons_zero, List.getElem?_cons_succ, Nat.reduceAdd, Nat.reduceSub, Nat.reduceLeDiff, Nat.reduceMul,
  Bool.and_true, Bool.true_and, Bool.and_false, Bool.false_and, Bool.or_true, Bool.true_or, Bool.or_false, Bool.false_or, Bool.not_true, Bool.not_false, decide_eq_true_eq, ↓reduceIte, true_and, and_true, Bool.false_eq_true, Bool.not_eq_true', Bool.not_not, beq_self_eq_true, and_self, ne_eq, reduceCtorEq, not_false_eq_true, not_true_eq_false, Int.reduceBEq, beq_iff_eq, beq_eq_false_iff_ne, decide_eq_false_iff_not, Int.reduceLT, Int.reduceLE, Int.reduceNeg, Int.reduceAdd, Int.reduceEq, Int.reduceToNat,  kb_NoneType_bool, kb_NoneType_int, kb_NoneType_str, kb_NoneType_tuple, kb_NoneType_list, kb_bool_bool, kb_bool_int, kb_bool_str, kb_bool_tuple, kb_bool_list, kb_int_bool, kb_int_int, kb_int_str, kb_int_tuple, kb_int_list, kb_str_bool, kb_str_int, kb_str_str, kb_str_tuple, kb_str_list, kb_tuple_bool, kb_tuple_int, kb_tuple_str, kb_tuple_tuple, kb_tuple_list, kb_list_bool, kb_list_int, kb_list_str, kb_list_tuple, kb_list_list, sq_k_e, sq_kw_e, sq_kww_e, sk_k, sk_kw, sk_kww, sl_k, sl_kw, sl_kww, sk_e, cut_2_2_None, ncut_2_2_None, cut_2_None_1, ncut_2_None_1, cut_3_2_None, ncut_3_2_None, cut_3_None_1, ncut_3_None_1, cut_3_3_None, ncut_3_3_None, cut_4_2_None, ncut_4_2_None, cut_4_None_1, ncut_4_None_1, cut_4_None_3, ncut_4_None_3, cut_4_3_None, ncut_4_3_None, cut_5_2_None, ncut_5_2_None, cut_5_None_1, ncut_5_None_1, cut_5_None_3, ncut_5_None_3, cut_5_3_None, ncut_5_3_None, cut_6_2_None, ncut_6_2_None, cut_6_None_1, ncut_6_None_1, cut_6_None_3, ncut_6_None_3, cut_6_None_5, ncut_6_None_5, cut_6_3_None, ncut_6_3_None, sq_get_put, sq_get_add, sq_get_swap, sq_get_look, sq_get_split, sq_get_join, sq_put_get, sq_put_add, sq_put_swap, sq_put_look, sq_put_split, sq_put_join, sq_add_get, sq_add_put, sq_add_swap, sq_add_look, sq_add_split, sq_add_join, sq_swap_get, sq_swap_put, sq_swap_add, sq_swap_look, sq_swap_split, sq_swap_join, sq_look_get, sq_look_put, sq_look_add, sq_look_swap, sq_look_split, sq_look_join, sq_split_get, sq_split_put, sq_split_add, sq_split_swap, sq_split_look, sq_split_join, sq_join_get, sq_join_put, sq_join_add, sq_join_swap, sq_join_look, sq_join_split, ls0, ls1, ls2, ls3, ls4, ls5, ls6, ls7, ls8, ls9, ls10, nc0, nc1, nc2, nc3, nc4, nc5, nc6, nc7, nc8, nc9, nc10, sk_get, sk_put, sk_add, sk_swap, sk_look, sk_split, sk_join])


/-! ### the law -/
def be0 (c : Cl) : DSy := fun dws S R RE => (dMethY c.asker "ask" (spy_Asker_ask c) (dVar 1) (dCons (dVar 2) dNil)) (some (.int 0) :: dws.map some) S R RE
def be1 (c : Cl) : DSy := fun dws S R RE => (dCallY spy_asked (dCons (dVar 0) (dCons (dC (.int 0)) (dCons (dC (.int 1)) (dCons (dVar 1) dNil))))) (dws.map some) S R RE
def be2 (c : Cl) : DSy := fun dws S R RE => (dCallY spy_halves (dCons (dVar 3) (dCons (d2 rIxD (dLst (dCons (dVar 4) (dCons (dVar 2) (dCons (dNeg (dC (.int 1))) (dCons (d2 rAddD (dC (.int 100)) (dVar 1)) dNil))))) (d2 rModD (dVar 1) (dC (.int 4)))) dNil))) (some (.int 0) :: dws.map some) S R RE
def be3 (c : Cl) : DSy := fun dws S R RE => (dCallY spy_fresh (dCons (d2 rIxD (dVar 0) (dC (.int 0))) (dCons (d2 rIxD (dVar 0) (dC (.int 1))) (dCons (d2 rIxD (dVar 0) (dC (.int 2))) dNil)))) (dws.map some) S R RE
def be4 (c : Cl) : DSy := fun dws S R RE => (dCallY spy_asked (dCons (dVar 1) (dCons (dC (.int 0)) (dCons (dC (.int 1)) (dCons (dTup (dCons (dC (.str "look")) (dCons (dTup (dCons (dVar 2) dNil)) dNil))) dNil))))) (some (.int 0) :: dws.map some) S R RE
def be5 (c : Cl) : DSy := fun dws S R RE => (dCallY spy_asked (dCons (dVar 2) (dCons (dC (.int 0)) (dCons (dC (.int 1)) (dCons (dTup (dCons (d2 rIxD (dLst (dCons (dC (.str "split")) (dCons (dC (.str "join")) dNil))) (d2 rModD (dVar 1) (dC (.int 2)))) (dCons (dCB rMaxD (dCons (dC (.int 1)) (dCons (dVar 3) dNil))) dNil))) dNil))))) (some (.int 0) :: dws.map some) S R RE
def be6 (c : Cl) : DSy := fun dws S R RE => (dCallY spy_asked (dCons (dVar 1) (dCons (dC (.int 0)) (dCons (dC (.int 1)) (dCons (dTup (dCons (dC (.str "get")) (dCons (dVar 2) dNil))) dNil))))) (some (.int 0) :: dws.map some) S R RE
def be7 (c : Cl) : DSy := fun dws S R RE => (dCallY spy_joined (dCons (dVar 2) (dCons (dCallN2 spy_fresh (dCons (dVar 3) (dCons (dVar 1) (dCons (dC (.int 2)) dNil)))) dNil))) (some (.int 0) :: dws.map some) S R RE
def be8 (c : Cl) : DSy := fun dws S R RE => (dIfy (dTest (d2 rLtD (dVar 1) (dC (.int 99)))) (dCallY spy_joined (dCons (dVar 2) (dCons (dCallN2 spy_fresh (dCons (d2 rAddD (dVar 1) (dCB rIntD (dCons (d2 rLtD (dVar 1) (dC (.int 99))) dNil))) (dCons (dC (.int 100)) (dCons (dC (.int 2)) dNil)))) dNil))) (dCallY spy_fresh (dCons (dC (.int 5)) (dCons (dC (.int 5)) (dCons (dC (.int 5)) dNil))))) (some (.int 0) :: dws.map some) S R RE
def Kn_law (c : Cl) (L : Nat → Addr → Option Addr → LF) (F : LF) (js : List Nat) (b : DSy) : Prop := ((∃ c0 t, F = L 0 c0 (some t)) ∧ js = [7, 6] ∧ b = be0 c) ∨ ((∃ c0, F = L 1 c0 none) ∧ js = [5, 6] ∧ b = be1 c) ∨ ((∃ c0 t, F = L 2 c0 (some t)) ∧ js = [2, 4, 5, 3] ∧ b = be2 c) ∨ ((∃ c0, F = L 3 c0 none) ∧ js = [11] ∧ b = be3 c) ∨ ((∃ c0 t, F = L 4 c0 (some t)) ∧ js = [5, 3] ∧ b = be4 c) ∨ ((∃ c0 t, F = L 5 c0 (some t)) ∧ js = [2, 5, 3] ∧ b = be5 c) ∨ ((∃ c0 t, F = L 6 c0 (some t)) ∧ js = [5, 13] ∧ b = be6 c) ∨ ((∃ c0 t, F = L 7 c0 (some t)) ∧ js = [4, 5, 3] ∧ b = be7 c) ∨ ((∃ c0 t, F = L 8 c0 (some t)) ∧ js = [4, 5] ∧ b = be8 c)
def rd_law_1 (c : Cl) (L : Nat → Addr → Option Addr → LF) : DS :=
 (dDrop (dML rAppendD (dVar 8) (dCons (dLamD (L 8)) dNil)))
def rd_law_2 (c : Cl) (L : Nat → Addr → Option Addr → LF) : DS :=
 (dRet (dAndV (dCall sp__law_alike (dCons (d2 rIxD (dCallN2 spy_asked (dCons (dVar 5) (dCons (dC (.int 0)) (dCons (dC (.int 1)) (dCons (dTup (dCons (dC (.str "get")) (dCons (dVar 3) dNil))) dNil))))) (dC (.int 0))) (dCons (dC (.int 0)) dNil))) (d2 (rEqG true) (dMethN2 c.asker "ask" (spy_Asker_ask c) (dVar 7) (dCons (dTup (dCons (dC (.str "split")) (dCons (dC (.int 99)) dNil))) dNil)) (dLst dNil))))
def rd_law_3 (c : Cl) (L : Nat → Addr → Option Addr → LF) : DS :=
 (dSeq (dIfS (dTest (d2 (rEqG true) (dLc (itemsI (dFrz (dVar 8))) (.nm 9) (dNot (dTest (dCallG (Kn_law c L) spg__law_refused (dCons (dVar 9) (dCons (dC (.str "range")) (dCons (dC (.int 0)) dNil)))))) (dVar 9) [9]) (dLst dNil)))
 (dRet (dC (.bl false)))
 dNext)
 (rd_law_2 c L))
def rd_law_4 (c : Cl) (L : Nat → Addr → Option Addr → LF) : DS :=
 (dSeq (dIfS (dTest (d2 rLtD (dVar 4) (dC (.int 100))))
 (dSeq (dDrop (dML rAppendD (dVar 8) (dCons (dLamD (L 7)) dNil)))
 (rd_law_1 c L))
 dNext)
 (rd_law_3 c L))
def rd_law_5 (c : Cl) (L : Nat → Addr → Option Addr → LF) : DS :=
 (dSeq (dIfS (dNot (dTest (dChain rLeD rLtD (dVar 3) (dVar 13) (dVar 4))))
 (dDrop (dML rAppendD (dVar 8) (dCons (dLamD (L 6)) dNil)))
 dNext)
 (rd_law_4 c L))
def rd_law_6 (c : Cl) (L : Nat → Addr → Option Addr → LF) : DS :=
 (dSeq (dDrop (dML rAppendD (dVar 8) (dCons (dLamD (L 5)) dNil)))
 (rd_law_5 c L))
def rd_law_7 (c : Cl) (L : Nat → Addr → Option Addr → LF) : DS :=
 (dSeq (dDrop (dML rAppendD (dVar 8) (dCons (dLamD (L 4)) dNil)))
 (rd_law_6 c L))
def rd_law_8 (c : Cl) (L : Nat → Addr → Option Addr → LF) : DS :=
 (dSeq (dSet 8 (dLstR (dCons (dLam (L 3)) (dCons (dLamD (L 2)) dNil))))
 (rd_law_7 c L))
def rd_law_9 (c : Cl) (L : Nat → Addr → Option Addr → LF) : DS :=
 (dSeq (dSet 13 (d2 rIxD (d2 rAddD (dLst (dCons (dC (.int 0)) dNil)) (dSl (dVar 12) (dPart (dC (.int 2))) dNoPart)) (dCall sp__law_off (dCons (dVar 1) (dCons (d2 rSubD (dCB rLenD (dCons (dVar 12) dNil)) (dC (.int 1))) dNil)))))
 (rd_law_8 c L))
def rd_law_10 (c : Cl) (L : Nat → Addr → Option Addr → LF) : DS :=
 (dSeq (dFor (itemsI (dLst (dCons (d2 rSubD (dVar 3) (dC (.int 1))) (dCons (dVar 4) (dCons (dC (.int 99)) (dCons (dC (.int 0)) dNil)))))) (.nm 13)
 (dIfS (dAnd (dNot (dTest (dChain rLeD rLtD (dVar 3) (dVar 13) (dVar 4)))) (dTest (dChain rLeD rLtD (dC (.int 0)) (dVar 13) (dC (.int 100)))))
 (dDrop (dML rAppendD (dVar 12) (dCons (dVar 13) dNil)))
 dNext))
 (rd_law_9 c L))
def rd_law_11 (c : Cl) (L : Nat → Addr → Option Addr → LF) : DS :=
 (dSeq (dSet 12 (dLstR (dCons (dNeg (dC (.int 1))) (dCons (dC (.int 100)) dNil))))
 (rd_law_10 c L))
def rd_law_12 (c : Cl) (L : Nat → Addr → Option Addr → LF) : DS :=
 (dSeq (dSet 11 (d2 rIxD (dVar 10) (dCall sp__law_off (dCons (dVar 1) (dCons (dC (.int 6)) dNil)))))
 (rd_law_11 c L))
def rd_law_13 (c : Cl) (L : Nat → Addr → Option Addr → LF) : DS :=
 (dSeq (dSet 10 (dLst (dCons (dTup (dCons (dVar 3) (dCons (dVar 3) (dCons (dC (.int 1)) dNil)))) (dCons (dTup (dCons (d2 rSubD (dNeg (dC (.int 1))) (dVar 2)) (dCons (dC (.int 5)) (dCons (dC (.int 1)) dNil)))) (dCons (dTup (dCons (dVar 3) (dCons (d2 rAddD (dC (.int 101)) (dVar 2)) (dCons (dC (.int 1)) dNil)))) (dCons (dTup (dCons (dVar 3) (dCons (dVar 4) (dCons (d2 rSubD (dC (.int 0)) (dVar 2)) dNil)))) (dCons (dTup (dCons (dVar 4) (dCons (dVar 3) (dCons (dC (.int 1)) dNil)))) (dCons (dTup (dCons (dC (.int 100)) (dCons (dC (.int 101)) (dCons (dC (.int 1)) dNil)))) dNil))))))))
 (rd_law_12 c L))
def rd_law_14 (c : Cl) (L : Nat → Addr → Option Addr → LF) : DS :=
 (dSeq (dIfS (dOr (dTest (d2 (rEqG true) (dLc (itemsI (dVar 8)) (.nm 9) (dNot (dTest (dCallG (Kn_law c L) spg__law_refused (dCons (dVar 9) (dCons (dC (.str "deed")) (dCons (dC (.int 0)) dNil)))))) (dVar 9) [9]) (dLst dNil))) (dTest (d2 (rIsN true) (dMeth c.asker "asked" (sp_Asker_asked c) (dVar 7) dNil) (dC .non))))
 (dRet (dC (.bl false)))
 dNext)
 (rd_law_13 c L))
def rd_law_15 (c : Cl) (L : Nat → Addr → Option Addr → LF) : DS :=
 (dSeq (dSet 8 (dLst (dCons (dLam (L 1)) (dCons (dLamD (L 0)) dNil))))
 (rd_law_14 c L))
def rd_law_16 (c : Cl) (L : Nat → Addr → Option Addr → LF) : DS :=
 (dSeq (dSet 7 (dMakeN2 c.asker (spy_Asker___init__ c) (dCons (dCall sp__law_off (dCons (dVar 1) (dCons (dC (.int 10)) dNil))) (dCons (d2 rIxD (dLst (dCons (dC (.int 1)) (dCons (dC (.int 3)) (dCons (dC (.int 5)) dNil)))) (dCall sp__law_off (dCons (dVar 1) (dCons (dC (.int 3)) dNil)))) dNil))))
 (rd_law_15 c L))
def rd_law_17 (c : Cl) (L : Nat → Addr → Option Addr → LF) : DS :=
 (dSeq (dSet 6 (dCall sp__law_none (dCons (dVar 1) dNil)))
 (rd_law_16 c L))
def rd_law_18 (c : Cl) (L : Nat → Addr → Option Addr → LF) : DS :=
 (dSeq (dSet 5 (dCallN2 spy_fresh (dCons (dVar 3) (dCons (dVar 4) (dCons (d2 rAddD (dC (.int 1)) (dVar 2)) dNil)))))
 (rd_law_17 c L))
def rd_law_19 (c : Cl) (L : Nat → Addr → Option Addr → LF) : DS :=
 (dSeq (dSet 4 (d2 rAddD (d2 rAddD (dVar 3) (dC (.int 1))) (dCall sp__law_off (dCons (dVar 1) (dCons (d2 rSubD (dC (.int 100)) (dVar 3)) dNil)))))
 (rd_law_18 c L))
def rd_law_20 (c : Cl) (L : Nat → Addr → Option Addr → LF) : DS :=
 (dSeq (dSet 3 (dCall sp__law_off (dCons (dVar 1) (dCons (dC (.int 99)) dNil))))
 (rd_law_19 c L))
def rd_law_21 (c : Cl) (L : Nat → Addr → Option Addr → LF) : DS :=
 (dSeq (dSet 2 (dCB rMaxD (dCons (dC (.int 0)) (dCons (d2 rSubD (dCall sp__law_off (dCons (dVar 1) (dCons (d2 rPowD (dC (.int 10)) (dC (.int 6))) dNil))) (dC (.int 500000))) dNil))))
 (rd_law_20 c L))
def rd_law (c : Cl) (L : Nat → Addr → Option Addr → LF) : DS :=
 (dSeq (dSet 1 (dCall sp__law_dice (dCons (dVar 0) (dCons (dC (.int 0)) dNil))))
 (rd_law_21 c L))
theorem ref_deed {b : DSy} {dws : List D} {S : Store} {Q : DK} (h : ∀ (R' : DK) (RE' : Str → List D → Store → Prop), RE' "BadDeed" [] S → b dws S R' RE') (q : Q (.bl true) S) : spg__law_refused (b dws) [.str "deed", .int 0] S Q :=
  ⟨(· = S), .inl ⟨rfl, fun R' RE' he => h R' RE' (he S rfl)⟩, fun S' e => by rw [e]; exact q⟩
theorem ref_range {b : DSy} {dws : List D} {S : Store} {Q : DK} (h : ∀ (R' : DK) (RE' : Str → List D → Store → Prop), RE' "BadRange" [] S → b dws S R' RE') (q : Q (.bl true) S) : spg__law_refused (b dws) [.str "range", .int 0] S Q :=
  ⟨(· = S), .inr ⟨rfl, fun R' RE' he => h R' RE' (he S rfl)⟩, fun S' e => by rw [e]; exact q⟩
theorem r0 {c : Cl} {a : Addr} {d : D} {S : Store} (ha : AskAt c.asker S a) (hd : badD d) (R' : DK) (RE' : Str → List D → Store → Prop) (h : RE' "BadDeed" [] S) : be0 c [.ref a, d] S R' RE' := by
  unfold be0
  simp only [dMethY]
  walk_at "dm"
  obtain ⟨me, many, b, g, h', i, asks, turns, e1, e2⟩ := id ha
  exact ⟨⟨a, _, rfl, e1, nA_ask ..⟩, a, d, rfl, ha, .inl ⟨hd, h⟩⟩
theorem r1 {c : Cl} {lo hi g : Int} {d : D} {S : Store} (hd : badD d) (R' : DK) (RE' : Str → List D → Store → Prop) (h : RE' "BadDeed" [] S) : be1 c [(newK lo hi g).enc, d] S R' RE' := by
  unfold be1
  simp only [dCallY]
  walk_at "dm"
  exact ⟨lo, hi, g, d, rfl, .inl ⟨hd, h⟩⟩
theorem r2 {c : Cl} {lo hi g far : Int} {S : Store} (f0 : 0 ≤ far) (l0 : 0 ≤ lo) (h1 : hi ≤ 100) (R' : DK) (RE' : Str → List D → Store → Prop) (h : RE' "BadRange" [] S) : be2 c [.int far, .int hi, (newK lo hi g).enc, .int lo] S R' RE' := by
  unfold be2
  simp only [dCallY]
  walk_at "dm"
  have hm : far % 4 = 0 ∨ far % 4 = 1 ∨ far % 4 = 2 ∨ far % 4 = 3 := by omega
  rcases hm with e | e | e | e <;>
  · rw [e]
    walk_at "dl"
    exact ⟨newK lo hi g, _, rfl, fun z => by have z1 : lo < _ := z.1; have z2 : _ < hi := z.2; omega, h⟩
theorem r3 {c : Cl} {x y z : Int} {S : Store} (hr : rangeB x y z = false) (R' : DK) (RE' : Str → List D → Store → Prop) (h : RE' "BadRange" [] S) : be3 c [.tup [.int x, .int y, .int z]] S R' RE' := by
  unfold be3
  simp only [dCallY]
  walk_at "dl"
  refine ⟨x, y, z, rfl, ?_⟩
  rw [hr]
  exact h
theorem r4 {c : Cl} {lo hi g : Int} {S : Store} (l0 : 0 ≤ lo) (l1 : lo < 100) (R' : DK) (RE' : Str → List D → Store → Prop) (h : RE' "BadRange" [] S) : be4 c [(newK lo hi g).enc, .int lo] S R' RE' := by
  unfold be4
  simp only [dCallY]
  walk_at "dm"
  exact ⟨lo, hi, g, _, rfl, .inr (.inl ⟨.look lo, rfl, ⟨l0, l1⟩, (fun k e => by cases e), h⟩)⟩
theorem r5 {c : Cl} {lo hi g far : Int} {S : Store} (f0 : 0 ≤ far) (l0 : 0 ≤ lo) (l1 : lo < 99) (R' : DK) (RE' : Str → List D → Store → Prop) (h : RE' "BadRange" [] S) : be5 c [.int far, (newK lo hi g).enc, .int lo] S R' RE' := by
  unfold be5
  simp only [dCallY]
  walk_at "dm"
  have hm : far % 2 = 0 ∨ far % 2 = 1 := by omega
  have mx : 0 < (if lo > 1 then lo else 1) ∧ (if lo > 1 then lo else 1) < 100 := by split <;> omega
  generalize (if lo > 1 then lo else 1) = mxv at mx ⊢
  rcases hm with e | e <;> rw [e]
  · walk_at "dl"
    exact ⟨lo, hi, g, _, rfl, .inr (.inl ⟨.cut true mxv, rfl, mx, (fun k e => by cases e), h⟩)⟩
  · walk_at "dl"
    exact ⟨lo, hi, g, _, rfl, .inr (.inl ⟨.cut false mxv, rfl, mx, (fun k e => by cases e), h⟩)⟩
theorem r6 {c : Cl} {lo hi g key : Int} {S : Store} (k0 : 0 ≤ key) (k1 : key < 100) (out : ¬ (lo ≤ key ∧ key < hi)) (R' : DK) (RE' : Str → List D → Store → Prop) (h : RE' "BadRange" [] S) : be6 c [(newK lo hi g).enc, .int key] S R' RE' := by
  unfold be6
  simp only [dCallY]
  walk_at "dm"
  exact ⟨lo, hi, g, _, rfl, .inr (.inl ⟨.get key, rfl, ⟨k0, k1⟩, (fun k e => by cases e; exact out), h⟩)⟩
theorem r7 {c : Cl} {lo hi g : Int} {S : Store} (l0 : 0 ≤ lo) (lt : lo < hi) (h1 : hi ≤ 100) (R' : DK) (RE' : Str → List D → Store → Prop) (h : RE' "BadRange" [] S) : be7 c [.int hi, (newK lo hi g).enc, .int lo] S R' RE' := by
  unfold be7
  simp only [dCallY]
  walk_at "dm"
  simp only [dCallN2]
  walk_at "dm"
  refine ⟨lo, hi, 2, rfl, ?_⟩
  rw [if_pos (by unfold rangeB; exact decide_eq_true (by omega))]
  exact ⟨newK lo hi g, _, rfl, show hi ≠ lo by omega, h⟩
theorem r8 {c : Cl} {lo hi g : Int} {S : Store} (l0 : 0 ≤ lo) (lt : lo < hi) (h1 : hi < 100) (R' : DK) (RE' : Str → List D → Store → Prop) (h : RE' "BadRange" [] S) : be8 c [.int hi, (newK lo hi g).enc] S R' RE' := by
  unfold be8
  simp only [dIfy, dCallY]
  walk_at "dm"
  by_cases c9 : hi < 99
  · rw [if_pos c9]
    simp only [dCallN2]
    walk_at "dm"
    rw [if_pos c9]
    refine ⟨hi + 1, 100, 2, rfl, ?_⟩
    rw [if_pos (by unfold rangeB; exact decide_eq_true (by omega))]
    exact ⟨newK lo hi g, _, rfl, show hi ≠ hi + 1 by omega, h⟩
  · rw [if_neg c9]
    refine ⟨5, 5, 5, rfl, ?_⟩
    rw [if_neg (by decide)]
    exact h
theorem nn_non {τ : DSt} {S : Store} {Q : DK} (q : Q (.bl false) S) : (dC .non τ S fun y S2 => rIsN true .non y S2 Q) := q
theorem if_fls {A B : Prop} (h : B) : if false = true then A else B := h
theorem nx_of {E : DEnds} {τ : DSt} {S : Store} (h : E.nx τ S) : dNext E τ S := h
theorem comp_fn {c : Cl} {L : Nat → Addr → Option Addr → LF} {w : Str} {τ : DSt} {S : Store} {Q : List D → Store → Prop} (h9 : τ.length = 14) : ∀ (fs acc : List D), (∀ f ∈ fs, ∃ F js b dws, f = .fn F [] [] ∧ Kn_law c L F js b ∧ js.map (fun j => (τ.set 9 (some f))[j]?) = dws.map (fun d => some (some d)) ∧ ∀ Q' : DK, Q' (.bl true) S → spg__law_refused (b dws) [.str w, .int 0] S Q') → Q acc S →
    compD (.nm 9) (dNot (dTest (dCallG (Kn_law c L) spg__law_refused (dCons (dVar 9) (dCons (dC (.str w)) (dCons (dC (.int 0)) dNil)))))) (dVar 9) τ fs acc S Q
  | [], acc, _, q => by simp only [compD]; exact q
  | f :: fs, acc, h, q => by
    obtain ⟨F, js, b, dws, rfl, kn, e, r⟩ := h f List.mem_cons_self
    have i9 : (τ.set 9 (some (.fn F [] [])))[9]? = some (some (.fn F [] [])) := List.getElem?_set_self (by omega)
    simp only [compD, Tg.d, dNot, dTest, dCallG, dCons, dVar, dC, dNil, i9]
    refine ⟨js, b, dws, kn, e, r _ ?_⟩
    simp only [Bool.not_true, Bool.false_eq_true, ↓reduceIte]
    exact comp_fn h9 fs acc (fun f hf => h f (List.mem_cons_of_mem _ hf)) q
theorem ups_twice {S : Store} {b : Addr} {x y : MO} : ups (ups S b x) b y = ups S b y := by
  funext z
  by_cases h : z = b
  · rw [h, ups_same, ups_same]
  · rw [ups_ne h, ups_ne h, ups_ne h]
/-- the keys' loop -/
theorem keys_loop {lo hi : Int} {b : Addr} {S0 : Store} {E : DEnds} {j0 j1 j2 j5 j6 j7 j8 j9 j10 j11 : Option D} : ∀ (ks es : List Int) (j : Option D), es.length + ks.length ≤ 50 → (∀ k ∈ es, 0 ≤ k ∧ k < 100) →
    (∀ (es' : List Int) (j' : Option D), es'.length ≤ 50 → (∀ k ∈ es', 0 ≤ k ∧ k < 100) → E.nx [j0, j1, j2, some (.int lo), some (.int hi), j5, j6, j7, j8, j9, j10, j11, some (.ref b), j'] (ups S0 b (.lst (.int (-1) :: .int 100 :: es'.map D.int)))) →
    loopD (.nm 13) (dIfS (dAnd (dNot (dTest (dChain rLeD rLtD (dVar 3) (dVar 13) (dVar 4)))) (dTest (dChain rLeD rLtD (dC (.int 0)) (dVar 13) (dC (.int 100)))))
      (dDrop (dML rAppendD (dVar 12) (dCons (dVar 13) dNil))) dNext) E (ks.map D.int) [j0, j1, j2, some (.int lo), some (.int hi), j5, j6, j7, j8, j9, j10, j11, some (.ref b), j] (ups S0 b (.lst (.int (-1) :: .int 100 :: es.map D.int)))
  | [], es, j, hl, he, q => q es j (by simpa using hl) he
  | k :: ks, es, j, hl, he, q => by
    have hl' : es.length + (ks.length + 1) ≤ 50 := hl
    simp only [List.map_cons, loopD, Tg.d, List.set_cons_succ, List.set_cons_zero]
    have skip : loopD (.nm 13) (dIfS (dAnd (dNot (dTest (dChain rLeD rLtD (dVar 3) (dVar 13) (dVar 4)))) (dTest (dChain rLeD rLtD (dC (.int 0)) (dVar 13) (dC (.int 100)))))
      (dDrop (dML rAppendD (dVar 12) (dCons (dVar 13) dNil))) dNext) E (ks.map D.int) [j0, j1, j2, some (.int lo), some (.int hi), j5, j6, j7, j8, j9, j10, j11, some (.ref b), some (.int k)] (ups S0 b (.lst (.int (-1) :: .int 100 :: es.map D.int))) := keys_loop ks es _ (by omega) he q
    by_cases c1 : lo ≤ k ∧ k < hi
    · simp only [dIfS, dAnd, dNot, dTest, dChain, dVar, dC, rLeD, rLtD, rII, true_and, List.getElem?_cons_succ, List.getElem?_cons_zero, c1.1, c1.2, decide_true, ↓reduceIte, Bool.not_true, Bool.false_eq_true, dNext]
      exact skip
    by_cases c2 : 0 ≤ k ∧ k < 100
    · have app : loopD (.nm 13) (dIfS (dAnd (dNot (dTest (dChain rLeD rLtD (dVar 3) (dVar 13) (dVar 4)))) (dTest (dChain rLeD rLtD (dC (.int 0)) (dVar 13) (dC (.int 100)))))
        (dDrop (dML rAppendD (dVar 12) (dCons (dVar 13) dNil))) dNext) E (ks.map D.int) [j0, j1, j2, some (.int lo), some (.int hi), j5, j6, j7, j8, j9, j10, j11, some (.ref b), some (.int k)] (ups S0 b (.lst (.int (-1) :: .int 100 :: (es ++ [k]).map D.int))) :=
        keys_loop ks (es ++ [k]) _ (by simp only [List.length_append, List.length_cons, List.length_nil]; omega) (fun x hx => by
          simp only [List.mem_append, List.mem_cons, List.not_mem_nil, or_false] at hx
          rcases hx with hx | rfl
          · exact he x hx
          · exact c2) q
      have e0 : (.int (-1) :: .int 100 :: (es ++ [k]).map D.int) = (.int (-1) :: .int 100 :: es.map D.int) ++ [D.int k] := by simp
      rw [e0] at app
      by_cases c3 : lo ≤ k
      · have c4 : ¬ k < hi := fun z => c1 ⟨c3, z⟩
        simp only [dIfS, dAnd, dNot, dTest, dChain, dVar, dC, rLeD, rLtD, rII, true_and, List.getElem?_cons_succ, List.getElem?_cons_zero, c3, c4, c2.1, c2.2, decide_true, decide_false, ↓reduceIte, Bool.not_true, Bool.not_false, Bool.false_eq_true, dNext, dDrop, dML, dCons, dNil, rAppendD, ups_same]
        exact ⟨by unfold isLst; simp only [deref_rf ups_same], len_ok (show (D.int (-1) :: D.int 100 :: es.map D.int).length + 1 ≤ 1000 by simp only [List.length_cons, List.length_map]; omega), by first | exact app | (rw [ups_twice]; exact app)⟩
      · simp only [dIfS, dAnd, dNot, dTest, dChain, dVar, dC, rLeD, rLtD, rII, true_and, List.getElem?_cons_succ, List.getElem?_cons_zero, c3, c2.1, c2.2, decide_true, decide_false, ↓reduceIte, Bool.not_true, Bool.not_false, Bool.false_eq_true, dNext, dDrop, dML, dCons, dNil, rAppendD, ups_same]
        exact ⟨by unfold isLst; simp only [deref_rf ups_same], len_ok (show (D.int (-1) :: D.int 100 :: es.map D.int).length + 1 ≤ 1000 by simp only [List.length_cons, List.length_map]; omega), by first | exact app | (rw [ups_twice]; exact app)⟩
    · have c5 : (decide (0 ≤ k) = true ∧ ¬ k < 100) ∨ decide (0 ≤ k) = false := by
        by_cases z : 0 ≤ k
        · exact .inl ⟨decide_eq_true z, fun y => c2 ⟨z, y⟩⟩
        · exact .inr (decide_eq_false z)
      by_cases c3 : lo ≤ k
      · have c4 : ¬ k < hi := fun z => c1 ⟨c3, z⟩
        rcases c5 with ⟨c5, c6⟩ | c5
        · simp only [dIfS, dAnd, dNot, dTest, dChain, dVar, dC, rLeD, rLtD, rII, true_and, List.getElem?_cons_succ, List.getElem?_cons_zero, c3, c4, c5, c6, decide_true, decide_false, ↓reduceIte, Bool.not_true, Bool.not_false, Bool.false_eq_true, dNext]
          exact skip
        · simp only [dIfS, dAnd, dNot, dTest, dChain, dVar, dC, rLeD, rLtD, rII, true_and, List.getElem?_cons_succ, List.getElem?_cons_zero, c3, c4, c5, decide_true, decide_false, ↓reduceIte, Bool.not_true, Bool.not_false, Bool.false_eq_true, dNext]
          exact skip
      · rcases c5 with ⟨c5, c6⟩ | c5
        · simp only [dIfS, dAnd, dNot, dTest, dChain, dVar, dC, rLeD, rLtD, rII, true_and, List.getElem?_cons_succ, List.getElem?_cons_zero, c3, c5, c6, decide_true, decide_false, ↓reduceIte, Bool.not_true, Bool.not_false, Bool.false_eq_true, dNext]
          exact skip
        · simp only [dIfS, dAnd, dNot, dTest, dChain, dVar, dC, rLeD, rLtD, rII, true_and, List.getElem?_cons_succ, List.getElem?_cons_zero, c3, c5, decide_true, decide_false, ↓reduceIte, Bool.not_true, Bool.not_false, Bool.false_eq_true, dNext]
          exact skip
/-- a work that is refused with "range" -/
inductive Gw (L : Nat → Addr → Option Addr → LF) (lo hi key : Int) : D → Prop
  | l3 (c0) : Gw L lo hi key (.fn (L 3 c0 none) [] [])
  | l2 (c0 t) : Gw L lo hi key (.fn (L 2 c0 (some t)) [] [])
  | l4 (c0 t) : Gw L lo hi key (.fn (L 4 c0 (some t)) [] [])
  | l5 (c0 t) : Gw L lo hi key (.fn (L 5 c0 (some t)) [] [])
  | l6 (c0 t) (h : ¬ (lo ≤ key ∧ key < hi)) : Gw L lo hi key (.fn (L 6 c0 (some t)) [] [])
  | l7 (c0 t) : Gw L lo hi key (.fn (L 7 c0 (some t)) [] [])
  | l8 (c0 t) (h : hi < 100) : Gw L lo hi key (.fn (L 8 c0 (some t)) [] [])
theorem law_2 {c : Cl} {L : Nat → Addr → Option Addr → LF} {S : Store} {R : DK} {a : Addr} {lo hi g : Int} {j0 j1 j2 j4 j6 j8 j9 j10 j11 j12 j13 : Option D} (l0 : 0 ≤ lo) (lt : lo < hi) (h1 : hi ≤ 100) (ask : AskAt c.asker S a) (h : ∀ S', R (.bl true) S') :
    rd_law_2 c L (ends R) [j0, j1, j2, some (.int lo), j4, some (newK lo hi g).enc, j6, some (.ref a), j8, j9, j10, j11, j12, j13] S := by
  unfold rd_law_2
  simp only [dRet, dAndV, dCall, dCons, Dl.d2, dCallN2, dVar, dC, dNil, dTup, List.getElem?_cons_succ, List.getElem?_cons_zero]
  refine ⟨len_ok (show 2 ≤ 1000 by decide), lo, hi, g, _, rfl, .inr (.inr ⟨lo, rfl, ⟨l0, by omega⟩, Int.le_refl _, lt, fun x => ?_⟩)⟩
  have e0 : atI [D.int 0, x] 0 = some (.int 0) := rfl
  simp only [rIxD, deref_tup, rItem, e0]
  refine ⟨_, _, rfl, .inl (atom_int 0), ?_⟩
  simp only [↓reduceIte, dMethN2, dVar, dC, dCons, dTup, dNil, List.getElem?_cons_succ, List.getElem?_cons_zero]
  have insA : insC S (.ref a) c.asker "ask" := by
    obtain ⟨me, many, b, g, h', i, asks, turns, e1, e2⟩ := id ask
    exact ⟨a, _, rfl, e1, nA_ask ..⟩
  refine ⟨insA, len_ok (show 2 ≤ 1000 by decide), a, _, rfl, ask, .inr ⟨rfl, fun me asks q S' hq => ?_⟩⟩
  simp only [dLst, dNil, rEqG, deref_rf hq, deref_lst, dq_ll, dq_n0, dq_cn, if_true, Bool.not_false]
  refine ⟨Nat.zero_le _, (by simp only [okd, okds, Lt, Gd.enc]; kernel_rfl), by simp only [okd, okds], S', Sub.refl _, ?_⟩
  exact h S'
theorem law_3 {c : Cl} {L : Nat → Addr → Option Addr → LF} {S : Store} {R : DK} {a w : Addr} {lo hi g far x y z key : Int} {es : List D} {j0 j1 j6 j9 j10 j12 : Option D} (f0 : 0 ≤ far) (l0 : 0 ≤ lo) (l1 : lo < 99) (lt : lo < hi) (h1 : hi ≤ 100) (hr : rangeB x y z = false) (k0 : 0 ≤ key) (k1 : key < 100)
    (ask : AskAt c.asker (hide S w) a) (hw : S w = some (.lst es)) (hl : es.length ≤ 1000) (hg : ∀ f ∈ es, Gw L lo hi key f) (h : ∀ S', R (.bl true) S') :
    rd_law_3 c L (ends R) [j0, j1, some (.int far), some (.int lo), some (.int hi), some (newK lo hi g).enc, j6, some (.ref a), some (.ref w), j9, j10, some (.tup [.int x, .int y, .int z]), j12, some (.int key)] S := by
  unfold rd_law_3
  simp only [dSeq, dIfS, dTest, Dl.d2, dLc, dComp, itemsI, dFrz, dVar, List.getElem?_cons_succ, List.getElem?_cons_zero, hw]
  refine ⟨len_ok hl, comp_fn rfl _ _ (fun f hf => ?_) ?_⟩
  · cases hg f hf with
    | l3 c0 => exact ⟨_, [11], be3 c, [.tup [.int x, .int y, .int z]], rfl, .inr (.inr (.inr (.inl ⟨⟨c0, rfl⟩, rfl, rfl⟩))), rfl, fun Q' q' => ref_range (fun R' RE' h' => r3 hr R' RE' h') q'⟩
    | l2 c0 t => exact ⟨_, [2, 4, 5, 3], be2 c, [.int far, .int hi, (newK lo hi g).enc, .int lo], rfl, .inr (.inr (.inl ⟨⟨c0, t, rfl⟩, rfl, rfl⟩)), rfl, fun Q' q' => ref_range (fun R' RE' h' => r2 f0 l0 h1 R' RE' h') q'⟩
    | l4 c0 t => exact ⟨_, [5, 3], be4 c, [(newK lo hi g).enc, .int lo], rfl, .inr (.inr (.inr (.inr (.inl ⟨⟨c0, t, rfl⟩, rfl, rfl⟩)))), rfl, fun Q' q' => ref_range (fun R' RE' h' => r4 l0 (by omega) R' RE' h') q'⟩
    | l5 c0 t => exact ⟨_, [2, 5, 3], be5 c, [.int far, (newK lo hi g).enc, .int lo], rfl, .inr (.inr (.inr (.inr (.inr (.inl ⟨⟨c0, t, rfl⟩, rfl, rfl⟩))))), rfl, fun Q' q' => ref_range (fun R' RE' h' => r5 f0 l0 l1 R' RE' h') q'⟩
    | l6 c0 t o => exact ⟨_, [5, 13], be6 c, [(newK lo hi g).enc, .int key], rfl, .inr (.inr (.inr (.inr (.inr (.inr (.inl ⟨⟨c0, t, rfl⟩, rfl, rfl⟩)))))), rfl, fun Q' q' => ref_range (fun R' RE' h' => r6 k0 k1 o R' RE' h') q'⟩
    | l7 c0 t => exact ⟨_, [4, 5, 3], be7 c, [.int hi, (newK lo hi g).enc, .int lo], rfl, .inr (.inr (.inr (.inr (.inr (.inr (.inr (.inl ⟨⟨c0, t, rfl⟩, rfl, rfl⟩))))))), rfl, fun Q' q' => ref_range (fun R' RE' h' => r7 l0 lt h1 R' RE' h') q'⟩
    | l8 c0 t o => exact ⟨_, [4, 5], be8 c, [.int hi, (newK lo hi g).enc], rfl, .inr (.inr (.inr (.inr (.inr (.inr (.inr (.inr ⟨⟨c0, t, rfl⟩, rfl, rfl⟩))))))), rfl, fun Q' q' => ref_range (fun R' RE' h' => r8 l0 lt o R' RE' h') q'⟩
  simp only [dLst, dNil, rEqG, deref_lst, dq_ll, dq_n0, ok_n0, Bool.not_true, Bool.false_eq_true, ↓reduceIte]
  refine ⟨Nat.zero_le _, by simp only [okd, okds], by simp only [okd, okds], ?_⟩
  exact nx_of (law_2 (L := L) l0 lt h1 ask h)
theorem ask_keep {C : Addr} {S S' : Store} {a b : Addr} (h : AskAt C S a) (k : ∀ x, x ≠ b → S' x = S x) (nb : S b = none ∨ ∃ l, S b = some (.lst l)) : AskAt C S' a := by
  obtain ⟨me, many, b', g, h', i, asks, turns, e1, e2⟩ := h
  have n1 : a ≠ b := fun z => by rcases nb with e | ⟨l, e⟩ <;> (rw [← z, e1] at e; cases e)
  have n2 : b' ≠ b := fun z => by rcases nb with e | ⟨l, e⟩ <;> (rw [← z, e2] at e; cases e)
  exact ⟨me, many, b', g, h', i, asks, turns, by rw [k a n1]; exact e1, by rw [k b' n2]; exact e2⟩
theorem ask_frm {C : Addr} {S S' : Store} {a p q : Addr} (h : AskAt C S a) (d : Dice S p q) (f : Frm S S' p q) : AskAt C S' a := by
  obtain ⟨me, many, b, g, h', i, asks, turns, e1, e2⟩ := h
  obtain ⟨v1, v2, v3, k1, k2, _⟩ := d
  exact ⟨me, many, b, g, h', i, asks, turns, by rw [f a (fun w => by rw [w, k1] at e1; cases e1) (fun w => by rw [w, k2] at e1; cases e1)]; exact e1, by rw [f b (fun w => by rw [w, k1] at e2; cases e2) (fun w => by rw [w, k2] at e2; cases e2)]; exact e2⟩
theorem dice_new {S : Store} {p q b : Addr} {o : MO} (h : Dice S p q) (hb : S b = none) : Dice (ups S b o) p q ∧ b ≠ p ∧ b ≠ q := by
  obtain ⟨x, y, l, e1, e2, r⟩ := h
  have n1 : p ≠ b := fun z => by rw [z, hb] at e1; cases e1
  have n2 : q ≠ b := fun z => by rw [z, hb] at e2; cases e2
  exact ⟨⟨x, y, l, by rw [ups_ne n1]; exact e1, by rw [ups_ne n2]; exact e2, r⟩, n1.symm, n2.symm⟩
theorem dice_ups' {S : Store} {p q b : Addr} {o : MO} (h : Dice S p q) (n1 : b ≠ p) (n2 : b ≠ q) : Dice (ups S b o) p q := by
  obtain ⟨x, y, l, e1, e2, r⟩ := h
  exact ⟨x, y, l, by rw [ups_ne n1.symm]; exact e1, by rw [ups_ne n2.symm]; exact e2, r⟩
theorem cutD_from (X : List D) (n : Nat) : cutD X (some (n : Int)) none = X.drop n := by
  unfold cutD
  rw [HT.sIx_none, HT.sIx_nat, List.take_of_length_le (by rw [List.length_drop]; omega)]
  by_cases h : n ≤ X.length
  · rw [Nat.min_eq_left h]
  · rw [Nat.min_eq_right (by omega), List.drop_of_length_le (Nat.le_refl _), List.drop_of_length_le (by omega)]
theorem app_lam {L : Nat → Addr → Option Addr → LF} {i : Nat} {E : DEnds} {τ : DSt} {S : Store} {pw : Addr} {es : List D} (i8 : τ[8]? = some (some (.ref pw))) (hS : S pw = some (.lst es)) (hl : es.length + 1 ≤ 1000)
    (h : ∀ c0 t, E.nx τ (ups S pw (.lst (es ++ [.fn (L i c0 (some t)) [] []])))) : dDrop (dML rAppendD (dVar 8) (dCons (dLamD (L i)) dNil)) E τ S := by
  simp only [dDrop, dML, dVar, i8, dCons, dNil, dLamD, rAppendD, hS]
  exact ⟨by unfold isLst; simp only [deref_rf hS], fun c0 t => ⟨len_ok hl, h c0 t⟩⟩
theorem hide_ups {S : Store} {w : Addr} {o : MO} : hide (ups S w o) w = hide S w := by
  funext z
  by_cases h : z = w
  · subst h; simp only [hide, ↓reduceIte]
  · simp only [hide, if_neg h]
    exact ups_ne h
theorem law_4 {c : Cl} {L : Nat → Addr → Option Addr → LF} {S : Store} {R : DK} {a w : Addr} {lo hi g far x y z key : Int} {es : List D} {j0 j1 j6 j9 j10 j12 : Option D} (f0 : 0 ≤ far) (l0 : 0 ≤ lo) (l1 : lo < 99) (lt : lo < hi) (h1 : hi ≤ 100) (hr : rangeB x y z = false) (k0 : 0 ≤ key) (k1 : key < 100)
    (ask : AskAt c.asker (hide S w) a) (hw : S w = some (.lst es)) (hl : es.length ≤ 900) (hg : ∀ f ∈ es, Gw L lo hi key f) (h : ∀ S', R (.bl true) S') :
    rd_law_4 c L (ends R) [j0, j1, some (.int far), some (.int lo), some (.int hi), some (newK lo hi g).enc, j6, some (.ref a), some (.ref w), j9, j10, some (.tup [.int x, .int y, .int z]), j12, some (.int key)] S := by
  unfold rd_law_4
  by_cases c0 : hi < 100
  · simp only [dSeq, dIfS, dTest, Dl.d2, dVar, dC, rLtD, rII, true_and, List.getElem?_cons_succ, List.getElem?_cons_zero, c0, decide_true, ↓reduceIte]
    refine app_lam rfl hw (by omega) fun c1 t1 => ?_
    dsimp only
    unfold rd_law_1
    refine app_lam rfl ups_same (by rw [List.length_append]; simp only [List.length_cons, List.length_nil]; omega) fun c2 t2 => ?_
    rw [ups_twice]
    dsimp only
    refine law_3 f0 l0 l1 lt h1 hr k0 k1 (by rw [hide_ups]; exact ask) ups_same (by simp only [List.length_append, List.length_cons, List.length_nil]; omega) (fun f hf => ?_) h
    simp only [List.mem_append, List.mem_cons, List.not_mem_nil, or_false] at hf
    rcases hf with (hf | rfl) | rfl
    · exact hg f hf
    · exact .l7 _ _
    · exact .l8 _ _ c0
  · simp only [dSeq, dIfS, dTest, Dl.d2, dVar, dC, rLtD, rII, true_and, List.getElem?_cons_succ, List.getElem?_cons_zero, c0, decide_false, Bool.false_eq_true, ↓reduceIte, dNext]
    exact law_3 f0 l0 l1 lt h1 hr k0 k1 ask hw (by omega) hg h
theorem law_5 {c : Cl} {L : Nat → Addr → Option Addr → LF} {S : Store} {R : DK} {a w : Addr} {lo hi g far x y z key : Int} {es : List D} {j0 j1 j6 j9 j10 j12 : Option D} (f0 : 0 ≤ far) (l0 : 0 ≤ lo) (l1 : lo < 99) (lt : lo < hi) (h1 : hi ≤ 100) (hr : rangeB x y z = false) (k0 : 0 ≤ key) (k1 : key < 100)
    (ask : AskAt c.asker (hide S w) a) (hw : S w = some (.lst es)) (hl : es.length ≤ 800) (hg : ∀ f ∈ es, Gw L lo hi key f) (h : ∀ S', R (.bl true) S') :
    rd_law_5 c L (ends R) [j0, j1, some (.int far), some (.int lo), some (.int hi), some (newK lo hi g).enc, j6, some (.ref a), some (.ref w), j9, j10, some (.tup [.int x, .int y, .int z]), j12, some (.int key)] S := by
  unfold rd_law_5
  have skip : rd_law_4 c L (ends R) [j0, j1, some (.int far), some (.int lo), some (.int hi), some (newK lo hi g).enc, j6, some (.ref a), some (.ref w), j9, j10, some (.tup [.int x, .int y, .int z]), j12, some (.int key)] S := law_4 f0 l0 l1 lt h1 hr k0 k1 ask hw (by omega) hg h
  have app : ¬ (lo ≤ key ∧ key < hi) → dDrop (dML rAppendD (dVar 8) (dCons (dLamD (L 6)) dNil)) { ends R with nx := rd_law_4 c L (ends R) } [j0, j1, some (.int far), some (.int lo), some (.int hi), some (newK lo hi g).enc, j6, some (.ref a), some (.ref w), j9, j10, some (.tup [.int x, .int y, .int z]), j12, some (.int key)] S := fun o => by
    refine app_lam rfl hw (by omega) fun c1 t1 => ?_
    dsimp only
    refine law_4 f0 l0 l1 lt h1 hr k0 k1 (by rw [hide_ups]; exact ask) ups_same (by simp only [List.length_append, List.length_cons, List.length_nil]; omega) (fun f hf => ?_) h
    simp only [List.mem_append, List.mem_cons, List.not_mem_nil, or_false] at hf
    rcases hf with hf | rfl
    · exact hg f hf
    · exact .l6 _ _ o
  by_cases c1 : lo ≤ key
  · by_cases c2 : key < hi
    · simp only [dSeq, dIfS, dNot, dTest, dChain, dVar, rLeD, rLtD, rII, true_and, List.getElem?_cons_succ, List.getElem?_cons_zero, c1, c2, decide_true, ↓reduceIte, Bool.not_true, Bool.false_eq_true, dNext]
      exact skip
    · simp only [dSeq, dIfS, dNot, dTest, dChain, dVar, rLeD, rLtD, rII, true_and, List.getElem?_cons_succ, List.getElem?_cons_zero, c1, c2, decide_true, decide_false, ↓reduceIte, Bool.not_false, Bool.false_eq_true]
      exact app fun w => c2 w.2
  · simp only [dSeq, dIfS, dNot, dTest, dChain, dVar, rLeD, rLtD, rII, true_and, List.getElem?_cons_succ, List.getElem?_cons_zero, c1, decide_false, ↓reduceIte, Bool.not_false, Bool.false_eq_true]
    exact app fun w => c1 w.1
theorem law_7 {c : Cl} {L : Nat → Addr → Option Addr → LF} {S : Store} {R : DK} {a w : Addr} {lo hi g far x y z key : Int} {es : List D} {j0 j1 j6 j9 j10 j12 : Option D} (f0 : 0 ≤ far) (l0 : 0 ≤ lo) (l1 : lo < 99) (lt : lo < hi) (h1 : hi ≤ 100) (hr : rangeB x y z = false) (k0 : 0 ≤ key) (k1 : key < 100)
    (ask : AskAt c.asker (hide S w) a) (hw : S w = some (.lst es)) (hl : es.length ≤ 700) (hg : ∀ f ∈ es, Gw L lo hi key f) (h : ∀ S', R (.bl true) S') :
    rd_law_7 c L (ends R) [j0, j1, some (.int far), some (.int lo), some (.int hi), some (newK lo hi g).enc, j6, some (.ref a), some (.ref w), j9, j10, some (.tup [.int x, .int y, .int z]), j12, some (.int key)] S := by
  unfold rd_law_7
  refine app_lam rfl hw (by omega) fun c1 t1 => ?_
  dsimp only
  unfold rd_law_6
  refine app_lam rfl ups_same (by rw [List.length_append]; simp only [List.length_cons, List.length_nil]; omega) fun c2 t2 => ?_
  rw [ups_twice]
  dsimp only
  refine law_5 f0 l0 l1 lt h1 hr k0 k1 (by rw [hide_ups]; exact ask) ups_same (by simp only [List.length_append, List.length_cons, List.length_nil]; omega) (fun f hf => ?_) h
  simp only [List.mem_append, List.mem_cons, List.not_mem_nil, or_false] at hf
  rcases hf with (hf | rfl) | rfl
  · exact hg f hf
  · exact .l4 _ _
  · exact .l5 _ _
theorem ok_law (c : Cl) (L : Nat → Addr → Option Addr → LF) (ds : List D) (S : Store) (R : DK) (h : spLaw ds S R) : rd_law c L (ends R) (startD ["_law_script", "_law_d", "_law_far", "_law_low", "_law_high", "_law_kept", "_law_none_here", "_law_asker", "_law_works", "_law_work", "_law_some", "_law_odd", "_law_keys", "_law_key"] ds) S := by
  obtain ⟨ns, rfl, hl, _, h⟩ := h
  unfold rd_law
  walk_at "dm"
  refine ⟨ns, 0, rfl, hl, by decide, by decide, fun p q S1 d1 => ?_⟩
  try walk_at "dm"
  unfold rd_law_21
  walk_at "dm"
  refine ⟨⟨by decide, by decide, by decide⟩, ?_⟩
  refine off_use d1 (by decide) (by decide) fun v S2 v0 v1 d2 f2 => ?_
  try walk_at "dm"
  obtain ⟨far, hf⟩ : ∃ far : Int, far = (if v - 500000 > 0 then v - 500000 else 0) := ⟨_, rfl⟩
  rw [← hf]
  have f0 : 0 ≤ far := by rw [hf]; split <;> omega
  unfold rd_law_20
  walk_at "dm"
  refine off_use d2 (by decide) (by decide) fun lo S3 lo0 lo1 d3 f3 => ?_
  unfold rd_law_19
  walk_at "dm"
  refine off_use d3 (by omega) (by omega) fun w S4 w0 w1 d4 f4 => ?_
  try walk_at "dm"
  obtain ⟨hi, eh⟩ : ∃ hi, hi = lo + 1 + w := ⟨_, rfl⟩
  rw [← eh]
  have h1 : lo < hi := by omega
  have h2 : hi ≤ 100 := by omega
  unfold rd_law_18
  walk_at "dm"
  simp only [dCallN2]
  walk_at "dm"
  refine ⟨lo, hi, 1 + far, rfl, ?_⟩
  rw [if_pos (by unfold rangeB; exact decide_eq_true (by omega))]
  unfold rd_law_17
  walk_at "dm"
  refine ⟨p, q, rfl, d4, fun d S5 hd d5 => ?_⟩
  unfold rd_law_16
  walk_at "dm"
  simp only [dMakeN2]
  walk_at "dm"
  refine off_use d5 (by decide) (by decide) fun me S6 me0 me1 d6 f6 => ?_
  try walk_at "dm"
  refine off_use d6 (by decide) (by decide) fun u S7 u0 u1 d7 f7 => ?_
  have lat : ∃ m : Int, (m = 1 ∨ m = 3 ∨ m = 5) ∧ atI [D.int 1, D.int 3, D.int 5] u = some (.int m) := by
    obtain ⟨x, hx, e⟩ := atI_in (l := [D.int 1, D.int 3, D.int 5]) u0 (by simp; omega)
    simp only [List.mem_cons, List.not_mem_nil, or_false] at hx
    rcases hx with rfl | rfl | rfl <;> exact ⟨_, by decide, e⟩
  obtain ⟨m, hm, em⟩ := lat
  simp only [rIxD, deref_lst, rItem, em]
  intro a ha
  refine ⟨a, me, m, rfl, me0, me1, hm, ups_same, fun S8 ask kp => ⟨rfl, ?_⟩⟩
  have d8 : Dice S8 p q := by
    obtain ⟨x, y, l, e1, e2, r⟩ := d7
    have n1 : p ≠ a := fun z => by rw [← z, e1] at ha; cases ha
    have n2 : q ≠ a := fun z => by rw [← z, e2] at ha; cases ha
    exact ⟨x, y, l, kp p _ n1 (by rw [ups_ne n1]; exact e1), kp q _ n2 (by rw [ups_ne n2]; exact e2), r⟩
  have ek : (⟨lo, hi, 1 + far, 0, [], []⟩ : Kp).enc = (newK lo hi (1 + far)).enc := rfl
  rw [ek]
  unfold rd_law_15
  walk_at "dm"
  simp only [dLam, dLamD]
  intro c1
  try walk_at "dm"
  intro c0 t0
  try walk_at "dm"
  unfold rd_law_14
  simp only [dSeq, dIfS, dOr, dTest, Dl.d2, dLc, dComp, itemsI, dVar, List.getElem?_cons_succ, List.getElem?_cons_zero]
  refine ⟨len_ok (show 2 ≤ 1000 by decide), comp_fn rfl _ _ (fun f hf => ?_) ?_⟩
  · simp only [List.mem_cons, List.not_mem_nil, or_false] at hf
    rcases hf with rfl | rfl
    · exact ⟨_, [5, 6], be1 c, [(newK lo hi (1 + far)).enc, d], rfl, .inr (.inl ⟨⟨c1, rfl⟩, rfl, rfl⟩), rfl, fun Q' q' => ref_deed (fun R' RE' h' => r1 hd R' RE' h') q'⟩
    · exact ⟨_, [7, 6], be0 c, [.ref a, d], rfl, .inl ⟨⟨c0, t0, rfl⟩, rfl, rfl⟩, rfl, fun Q' q' => ref_deed (fun R' RE' h' => r0 ask hd R' RE' h') q'⟩
  simp only [dLst, dNil, rEqG, deref_lst, dq_ll, dq_n0, ok_n0, Bool.not_true, Bool.false_eq_true, ↓reduceIte]
  refine ⟨Nat.zero_le _, by simp only [okd, okds], by simp only [okd, okds], ?_⟩
  simp only [dMeth, dVar, List.getElem?_cons_succ, List.getElem?_cons_zero]
  have insA : ∀ m : Str, (∀ me many b g h i asks turns, (askF me many b g h i asks .non turns).lookup m = none) → insC S8 (.ref a) c.asker m := fun m hm => by
    obtain ⟨me, many, b, g, h', i, asks, turns, e1, e2⟩ := id ask
    exact ⟨a, _, rfl, e1, hm ..⟩
  refine ⟨insA _ fun _ _ _ _ _ _ _ _ => nA_asked .., ?_⟩
  simp only [dNil]
  refine ⟨a, rfl, ask, ?_⟩
  refine nn_non (if_fls (nx_of ?_))
  unfold rd_law_13
  dsimp only
  walk_at "dm"
  unfold rd_law_12
  walk_at "dm"
  refine off_use d8 (by decide) (by decide) fun u2 S9 z0 z1 d9 f9 => ?_
  have lodd : ∃ x y z : Int, rangeB x y z = false ∧ atI [D.tup [.int lo, .int lo, .int 1], .tup [.int (-1 - far), .int 5, .int 1], .tup [.int lo, .int (101 + far), .int 1], .tup [.int lo, .int hi, .int (0 - far)], .tup [.int hi, .int lo, .int 1], .tup [.int 100, .int 101, .int 1]] u2 = some (.tup [.int x, .int y, .int z]) := by
    obtain ⟨o, ho, e⟩ := atI_in (l := [D.tup [.int lo, .int lo, .int 1], .tup [.int (-1 - far), .int 5, .int 1], .tup [.int lo, .int (101 + far), .int 1], .tup [.int lo, .int hi, .int (0 - far)], .tup [.int hi, .int lo, .int 1], .tup [.int 100, .int 101, .int 1]]) z0 (by simp; omega)
    simp only [List.mem_cons, List.not_mem_nil, or_false] at ho
    rcases ho with rfl | rfl | rfl | rfl | rfl | rfl <;> exact ⟨_, _, _, by unfold rangeB; exact decide_eq_false (by omega), e⟩
  obtain ⟨x, y, z, hr, ex⟩ := lodd
  simp only [rIxD, deref_lst, rItem, ex]
  have ask9 : AskAt c.asker S9 a := ask_frm ask d8 f9
  unfold rd_law_11
  try walk_at "dm"
  intro pk hk
  have d10 := (dice_new (o := .lst [.int (-1), .int 100]) d9 hk).2
  unfold rd_law_10
  simp only [dSeq, dFor, itemsI, dLst, dCons, Dl.d2, dVar, dC, dNil, rSubD, rII, true_and, List.getElem?_cons_succ, List.getElem?_cons_zero]
  refine ⟨len_ok (show 4 ≤ 1000 by decide), keys_loop [lo - 1, hi, 99, 0] [] _ (show 4 ≤ 50 by decide) (fun k hk => by cases hk) fun es j' hle hes => ?_⟩
  have ask10 : AskAt c.asker (ups S9 pk (.lst (.int (-1) :: .int 100 :: es.map D.int))) a := ask_keep ask9 (fun x nx => ups_ne nx) (.inl hk)
  have d11 : Dice (ups S9 pk (.lst (.int (-1) :: .int 100 :: es.map D.int))) p q := (dice_new d9 hk).1
  have hk2 : ups S9 pk (.lst (.int (-1) :: .int 100 :: es.map D.int)) pk = some (.lst (.int (-1) :: .int 100 :: es.map D.int)) := ups_same
  generalize ups S9 pk (.lst (.int (-1) :: .int 100 :: es.map D.int)) = S10 at ask10 d11 hk2 ⊢
  show rd_law_9 c L (ends R) _ _
  unfold rd_law_9
  try walk_at "dm"
  simp only [deref_rf hk2, items]
  have ec : cutD (.int (-1) :: .int 100 :: es.map D.int) (some 2) none = es.map D.int := cutD_from _ 2
  rw [ec]
  have el : (((D.int (-1) :: .int 100 :: es.map D.int).length : Nat) : Int) - 1 = (es.length : Int) + 1 := by simp only [List.length_cons, List.length_map]; omega
  refine ⟨len_ok (by rw [List.length_map]; omega), ?_⟩
  rw [el]
  refine off_use d11 (by omega) (by omega) fun u3 S11 y0 y1 d12 f12 => ?_
  obtain ⟨key, hkey, k0, k1⟩ : ∃ key : Int, atI (.int 0 :: es.map D.int) u3 = some (.int key) ∧ 0 ≤ key ∧ key < 100 := by
    obtain ⟨o, ho, e⟩ := atI_in (l := .int 0 :: es.map D.int) y0 (by simp only [List.length_cons, List.length_map]; omega)
    rcases List.mem_cons.mp ho with rfl | ho
    · exact ⟨0, e, by decide, by decide⟩
    · obtain ⟨k, hk, rfl⟩ := List.mem_map.mp ho
      exact ⟨k, e, hes k hk⟩
  simp only [rIxD, deref_lst, rItem, hkey]
  have ask11 := ask_frm ask10 d11 f12
  unfold rd_law_8
  try walk_at "dm"
  simp only [dLam, dLamD]
  intro c3 c2 t2 pw hw
  refine law_7 f0 lo0 lo1 h1 h2 hr k0 k1 (ask_keep ask11 (fun x nx => by simp only [hide, if_neg nx]; exact ups_ne nx) (.inl hw)) ups_same (show 2 ≤ 700 by decide) (fun f hf => ?_) h
  simp only [List.mem_cons, List.not_mem_nil, or_false] at hf
  rcases hf with rfl | rfl
  · exact .l3 _
  · exact .l2 _ _
end Dl.D4

set_option Elab.async false
set_option linter.all false
set_option maxRecDepth 100000
namespace K01
open PySem PySem.Spec PyProof.Rows L2 LamX Dl
abbrev sT (i : Nat) : Stmt := PySem.Challenge.pw_splitranges_k01_deeds_and_ranges_refused.main.body.getD i (.Pass ⟨0, 0, 0, 0⟩)
theorem dp1 {A : Around} {k : Nat} (hr : Room k A) : A.depth + 1 < recursionLimit := by have := hr.dp; omega
structure Bm (mg : Str → Option Value) : Prop where
  ValueError : mg "ValueError" = none
  abs : mg "abs" = none
  all : mg "all" = none
  bool : mg "bool" = none
  dict : mg "dict" = none
  int : mg "int" = none
  isinstance : mg "isinstance" = none
  len : mg "len" = none
  list : mg "list" = none
  max : mg "max" = none
  range : mg "range" = none
  set : mg "set" = none
  sorted : mg "sorted" = none
  str : mg "str" = none
  tuple : mg "tuple" = none
structure Cm (K : PySem.W.Frag) (w : World) (mg : Str → Option Value) : Prop where
  KEYS : ∃ v u, mg "KEYS" = some u ∧ RelV v u ∧ ∀ Z H S, Rep K Z H S v (.int 100)
  MOST_WORTH : ∃ v u, mg "MOST_WORTH" = some u ∧ RelV v u ∧ ∀ Z H S, Rep K Z H S v (.int 1000)
  PLAIN : ∃ v u, mg "PLAIN" = some u ∧ RelV v u ∧ ∀ Z H S, Rep K Z H S v (.tup [.str "get", .str "put", .str "add", .str "swap"])
  MOST_LOOK : ∃ v u, mg "MOST_LOOK" = some u ∧ RelV v u ∧ ∀ Z H S, Rep K Z H S v (.int 6)
  MOST_ASKERS : ∃ v u, mg "MOST_ASKERS" = some u ∧ RelV v u ∧ ∀ Z H S, Rep K Z H S v (.int 10)
  NOBODY : ∃ v u, mg "NOBODY" = some u ∧ RelV v u ∧ ∀ Z H S, Rep K Z H S v (.tup [.int 0, .int 100, .int 0])
  COUNTS : ∃ v u, mg "COUNTS" = some u ∧ RelV v u ∧ ∀ Z H S, Rep K Z H S v (.tup [.int 1, .int 3, .int 5])
  SHAPES : ∃ (d : Addr) (ee : Array DictEntry) (n : Nat), mg "SHAPES" = some (.ref d) ∧ KDict K w d ee n ∧ ∀ p ∈ tb_SHAPES, KAns K d p.1 p.2
theorem room_hot {k : Nat} {A : Around} (r : Room k A) (h : Option Value) : L2H.RoomH k (A.mark h) := by
  have a := r.dp
  have b := r.un
  exact ⟨a, b⟩
theorem hot_units {k : Nat} {A : Around} (r : L2H.RoomH k A) : A.units + 64 < cLine := by
  have a := r.un
  omega
abbrev CSk : List Str := ["BadDeed", "BadRange", "BadHouse", "BadAsker", "Busy", "BadLetter", "BadHistory", "BadText"]
theorem hu80 {k : Nat} {A : Around} (hr : Room k A) : A.units + 80 < cLine := by have := hr.un; omega

abbrev N_is_below : List Str := ["part", "bound"]
theorem sc_is_below : FnScope N_is_below ["part", "bound"] (defScope (sT 17)) := ⟨rfl, rfl, rfl, by decide +kernel, rfl, by decide +kernel, by decide +kernel⟩
theorem w_is_below {P : Program} {w : World} {K : PySem.W.Frag} {mg : Str → Option Value} {base : Heap} {T : Tb} {f : Addr} {cl : D4.Cl} {fd : FuncData} (F : Fun K "is_below" "is_below" (sT 17) f fd) (B : Bm mg) (C : Cm K w mg) : FnOk P w K mg base CX0 1 f fd ["part", "bound"] (lsp K T sp_is_below) := by
  refine fn_d F sc_is_below (fun ds S Q h => ?_) fun cdv A outer s H E hr => ⟨rd_is_below, ?_, fun ds S R h => ok_is_below ds S R h⟩
  · rcases h with ⟨_, _, rfl, _⟩ | ⟨_, _, rfl, _⟩ <;> rfl
  · exact (s_one (s_ret (x_and (x_isi (C := "int") (xv 0) (by rfl) B.isinstance (by rfl) B.int (by decide +kernel)) (x_and (x_not (x_isi (C := "bool") (xv 0) (by rfl) B.isinstance (by rfl) B.bool (by decide +kernel))) (x_one (x_chain op_le d_le op_lt d_lt x_int (xv 0) (xv 1)))))))
abbrev N_is_deed : List Str := ["deed", "key", "shape", "part"]
theorem sc_is_deed : FnScope N_is_deed ["deed"] (defScope (sT 18)) := ⟨rfl, rfl, rfl, by decide +kernel, rfl, by decide +kernel, by decide +kernel⟩
theorem w_is_deed {P : Program} {w : World} {K : PySem.W.Frag} {mg : Str → Option Value} {base : Heap} {T : Tb} {f : Addr} {cl : D4.Cl} {fd : FuncData} (F : Fun K "is_deed" "is_deed" (sT 18) f fd) (B : Bm mg) (C : Cm K w mg) (F_is_below : DFn P w K mg base T 1 "is_below" sp_is_below) : FnOk P w K mg base CX0 2 f fd ["deed"] (lsp K T D4.sp_is_deed) := by
  obtain ⟨SHAPES_a, _, _, SHAPES_m, SHAPES_d, SHAPES_t⟩ := C.SHAPES
  refine fn_d F sc_is_deed (fun ds S Q h => ?_) fun cdv A outer s H E hr => ⟨D4.rd_is_deed, ?_, fun ds S R h => D4.ok_is_deed ds S R h⟩
  · rcases h with ⟨_, _, _, rfl, _⟩ | ⟨_, rfl, _⟩ <;> rfl
  · exact (s_cons (s_if (w_or (t_not (t_val (x_isi (C := "tuple") (xv 0) (by rfl) B.isinstance (by rfl) B.tuple (by decide +kernel)))) (w_or (t_cmp (op_eqD hr.units) d_eq (xv 0) (x_tup a_nil) (nomark _)) (w_or1 (t_not (t_val (x_isi (C := "str") (x_ix (hu_of hr) (xv 0) x_int (fun _ _ => rfl)) (by rfl) B.isinstance (by rfl) B.str (by decide +kernel))))))).pt
       (s_one (s_ret x_bl))
       s_nil)
       (s_cons (s_if (t_cmp (op_eqD hr.units) d_eq (x_ix (hu_of hr) (xv 0) x_int (fun _ _ => rfl)) x_str (nomark _))
       (s_cons (s_if (w_or (t_cmp (op_neD hr.units) d_ne (x_callB call_len d_len (by rfl) B.len (by decide +kernel) (a_cons (xv 0) a_nil)) x_int (nomark _)) (w_or (t_not (t_val (x_isi (C := "tuple") (x_ix (hu_of hr) (xv 0) x_int (fun _ _ => rfl)) (by rfl) B.isinstance (by rfl) B.tuple (by decide +kernel)))) (w_or1 (t_not (t_chain op_le d_le op_le d_le x_int (x_callB call_len d_len (by rfl) B.len (by decide +kernel) (a_cons (x_ix (hu_of hr) (xv 0) x_int (fun _ _ => rfl)) a_nil)) (x_glob (by rfl) (by exact C.MOST_LOOK))))))).pt
       (s_one (s_ret x_bl))
       s_nil)
       (s_cons (s_if (t_cmp (op_neD hr.units) d_ne (x_lc (tg := (.nm 1)) (own := [("key", 1)]) rfl sc_is_deed.nd (i_seq (x_ix (hu_of hr) (xv 0) x_int (fun _ _ => rfl))) (blkOk_by (own := [("key", 1)]) (N := N_is_deed) (sc := defScope (sT 18)) (by decide +kernel)) (fun _ _ _ _ _ => (pg_name (i := 1) sc_is_deed.nd rfl (by first | exact Or.inl rfl | exact Or.inr rfl)))
       (fun _ _ _ _ _ => (ts_one (t_not (t_val (x_call F_is_below (hr.mono (by decide)) (by rfl) (a_cons (xv 1) (a_cons (x_glob (by rfl) (by exact C.KEYS)) a_nil)))))))
       (fun _ _ _ _ _ => (xv 1)) (by decide)) (x_lst a_nil) (nomark _))
       (s_one (s_ret x_bl))
       s_nil)
       (s_one (s_ret (x_cmp (op_eqD hr.units) d_eq (x_callTy call_list_of d_list (by rfl) B.list (by decide +kernel) (a_cons (x_ix (hu_of hr) (xv 0) x_int (fun _ _ => rfl)) a_nil)) (x_sortSet rfl (by rfl) B.sorted (by rfl) B.set (x_ix (hu_of hr) (xv 0) x_int (fun _ _ => rfl))) (nomark _))))))
       s_nil)
       (s_cons (s_set (i := 2) sc_is_deed.nd rfl (by first | exact Or.inl rfl | exact Or.inr rfl) (x_kget (by rfl) SHAPES_m SHAPES_d SHAPES_t (x_ix (hu_of hr) (xv 0) x_int (fun _ _ => rfl)) x_str ⟨rfl, rfl, rfl, rfl⟩))
       (s_cons (s_if (w_or (t_cmp (op_eqD hr.units) d_eq (xv 2) x_str (nomark _)) (w_or (t_cmp (op_neD hr.units) d_ne (x_callB call_len d_len (by rfl) B.len (by decide +kernel) (a_cons (xv 0) a_nil)) (x_op op_addV d_add (x_callB call_len d_len (by rfl) B.len (by decide +kernel) (a_cons (xv 2) a_nil)) x_int) (nomark _)) (w_or1 (t_not (t_val (x_call F_is_below (hr.mono (by decide)) (by rfl) (a_cons (x_ix (hu_of hr) (xv 0) x_int (fun _ _ => rfl)) (a_cons (x_glob (by rfl) (by exact C.KEYS)) a_nil)))))))).pt
       (s_one (s_ret x_bl))
       s_nil)
       (s_cons (s_if (w_and (t_cmp op_in_seq (d_in false) (x_ix (hu_of hr) (xv 0) x_int (fun _ _ => rfl)) (x_tup (a_cons x_str (a_cons x_str a_nil))) (by rfl)) (w_and1 (t_cmp (op_eqD hr.units) d_eq (x_ix (hu_of hr) (xv 0) x_int (fun _ _ => rfl)) x_int (nomark _)))).pt
       (s_one (s_ret x_bl))
       s_nil)
       (s_one (s_ret (x_cmp (op_eqD hr.units) d_eq (x_lc (tg := (.nm 3)) (own := [("part", 3)]) rfl sc_is_deed.nd (i_seq (x_slice (xv 0) (o_some x_int) o_none)) (blkOk_by (own := [("part", 3)]) (N := N_is_deed) (sc := defScope (sT 18)) (by decide +kernel)) (fun _ _ _ _ _ => (pg_name (i := 3) sc_is_deed.nd rfl (by first | exact Or.inl rfl | exact Or.inr rfl)))
       (fun _ _ _ _ _ => (ts_one (t_not (t_val (x_call F_is_below (hr.mono (by decide)) (by rfl) (a_cons (xv 3) (a_cons (x_glob (by rfl) (by exact C.MOST_WORTH)) a_nil)))))))
       (fun _ _ _ _ _ => (xv 3)) (by decide)) (x_lst a_nil) (nomark _)))))))))
abbrev N_need_deed : List Str := ["deed"]
theorem sc_need_deed : FnScope N_need_deed ["deed"] (defScope (sT 19)) := ⟨rfl, rfl, rfl, by decide +kernel, rfl, by decide +kernel, by decide +kernel⟩
theorem w_need_deed {P : Program} {w : World} {K : PySem.W.Frag} {mg : Str → Option Value} {base : Heap} {T : Tb} {f : Addr} {cl : D4.Cl} {fd : FuncData} (F : Fun K "need_deed" "need_deed" (sT 19) f fd) (B : Bm mg) (C : Cm K w mg) {C_BadDeed : Addr} (EY_BadDeed : Ecy K mg "BadDeed" C_BadDeed) (F_is_deed : DFn P w K mg base T 2 "is_deed" D4.sp_is_deed) : FnOk P w K mg base (L2N.CX P w) 3 f fd ["deed"] (lspy K T mg D4.spy_need_deed) := by
  refine fn_dy F sc_need_deed (fun ds S Q E h => ?_) fun cdv A outer s H E hr => ⟨D4.rd_need_deed, ?_, fun ds S R RE h => D4.oky_need_deed ds S R RE h⟩
  · first | (obtain ⟨_, rfl, _⟩ := h; rfl) | (obtain ⟨_, _, rfl, _⟩ := h; rfl) | (obtain ⟨_, _, _, rfl, _⟩ := h; rfl) | (obtain ⟨_, _, _, _, rfl, _⟩ := h; rfl) | (obtain ⟨_, _, _, _, _, rfl, _⟩ := h; rfl)
  · exact (sy_one (sy_if (t_not (t_val (x_call F_is_deed (hr.mono (by decide)) (by rfl) (a_cons (xv 0) a_nil))))
       (sy_one (sy_raise rfl (L2N.takes_of rfl rfl rfl rfl) PySem.F.excBase_ValueError EY_BadDeed.q EY_BadDeed.g EY_BadDeed.k EY_BadDeed.b EY_BadDeed.t (by rfl)))
       sy_nil))
abbrev N_worth_behind : List Str := ["deed", "worth", "more"]
theorem sc_worth_behind : FnScope N_worth_behind ["deed", "worth"] (defScope (sT 20)) := ⟨rfl, rfl, rfl, by decide +kernel, rfl, by decide +kernel, by decide +kernel⟩
theorem w_worth_behind {P : Program} {w : World} {K : PySem.W.Frag} {mg : Str → Option Value} {base : Heap} {T : Tb} {f : Addr} {cl : D4.Cl} {fd : FuncData} (F : Fun K "worth_behind" "worth_behind" (sT 20) f fd) (B : Bm mg) (C : Cm K w mg) : FnOk P w K mg base CX0 1 f fd ["deed", "worth"] (lsp K T sp_worth_behind) := by
  refine fn_d F sc_worth_behind (fun ds S Q h => ?_) fun cdv A outer s H E hr => ⟨rd_worth_behind, ?_, fun ds S R h => ok_worth_behind ds S R h⟩
  · simp only [sp_worth_behind] at h; first | (obtain ⟨_, rfl, _⟩ := h; rfl) | (obtain ⟨_, _, rfl, _⟩ := h; rfl) | (obtain ⟨_, _, _, rfl, _⟩ := h; rfl) | (obtain ⟨_, _, _, _, rfl, _⟩ := h; rfl)
  · exact (s_cons (s_if (t_cmp (op_eqD hr.units) d_eq (x_ix (hu_of hr) (xv 0) x_int (fun _ _ => rfl)) x_str (nomark _))
       (s_one (s_ret (x_tup (a_cons (xv 1) (a_cons (xv 1) a_nil)))))
       s_nil)
       (s_cons (s_if (t_cmp (op_eqD hr.units) d_eq (x_ix (hu_of hr) (xv 0) x_int (fun _ _ => rfl)) x_str (nomark _))
       (s_one (s_ret (x_tup (a_cons (xv 1) (a_cons (x_ix (hu_of hr) (xv 0) x_int (fun _ _ => rfl)) a_nil)))))
       s_nil)
       (s_cons (s_if (t_cmp (op_eqD hr.units) d_eq (x_ix (hu_of hr) (xv 0) x_int (fun _ _ => rfl)) x_str (nomark _))
       (s_cons (s_set (i := 2) sc_worth_behind.nd rfl (by first | exact Or.inl rfl | exact Or.inr rfl) (x_op op_mod d_mod (x_op op_addV d_add (xv 1) (x_ix (hu_of hr) (xv 0) x_int (fun _ _ => rfl))) (x_glob (by rfl) (by exact C.MOST_WORTH))))
       (s_one (s_ret (x_tup (a_cons (xv 2) (a_cons (xv 2) a_nil))))))
       s_nil)
       (s_one (s_ret (x_if (t_cmp (op_eqD hr.units) d_eq (xv 1) (x_ix (hu_of hr) (xv 0) x_int (fun _ _ => rfl)) (nomark _)) (x_tup (a_cons x_bl (a_cons (x_ix (hu_of hr) (xv 0) x_int (fun _ _ => rfl)) a_nil))) (x_tup (a_cons x_bl (a_cons (xv 1) a_nil)))))))))
abbrev N_need_range : List Str := ["low", "high", "gen"]
theorem sc_need_range : FnScope N_need_range ["low", "high", "gen"] (defScope (sT 23)) := ⟨rfl, rfl, rfl, by decide +kernel, rfl, by decide +kernel, by decide +kernel⟩
theorem w_need_range {P : Program} {w : World} {K : PySem.W.Frag} {mg : Str → Option Value} {base : Heap} {T : Tb} {f : Addr} {cl : D4.Cl} {fd : FuncData} (F : Fun K "need_range" "need_range" (sT 23) f fd) (B : Bm mg) (C : Cm K w mg) {C_BadRange : Addr} (EY_BadRange : Ecy K mg "BadRange" C_BadRange) : FnOk P w K mg base (L2N.CX P w) 3 f fd ["low", "high", "gen"] (lspy K T mg D4.spy_need_range) := by
  refine fn_dy F sc_need_range (fun ds S Q E h => ?_) fun cdv A outer s H E hr => ⟨D4.rd_need_range, ?_, fun ds S R RE h => D4.oky_need_range ds S R RE h⟩
  · first | (obtain ⟨_, rfl, _⟩ := h; rfl) | (obtain ⟨_, _, rfl, _⟩ := h; rfl) | (obtain ⟨_, _, _, rfl, _⟩ := h; rfl) | (obtain ⟨_, _, _, _, rfl, _⟩ := h; rfl) | (obtain ⟨_, _, _, _, _, rfl, _⟩ := h; rfl)
  · exact (sy_one (sy_if (w_or (t_not (t_chain3 op_le d_le op_lt d_lt op_le d_le x_int (xv 0) (xv 1) (x_glob (by rfl) (by exact C.KEYS)))) (w_or1 (t_cmp op_lt d_lt (xv 2) x_int (nomark _)))).pt
       (sy_one (sy_raise rfl (L2N.takes_of rfl rfl rfl rfl) PySem.F.excBase_ValueError EY_BadRange.q EY_BadRange.g EY_BadRange.k EY_BadRange.b EY_BadRange.t (by rfl)))
       sy_nil))
abbrev N_fresh : List Str := ["low", "high", "gen"]
theorem sc_fresh : FnScope N_fresh ["low", "high", "gen"] (defScope (sT 24)) := ⟨rfl, rfl, rfl, by decide +kernel, rfl, by decide +kernel, by decide +kernel⟩
theorem w_fresh {P : Program} {w : World} {K : PySem.W.Frag} {mg : Str → Option Value} {base : Heap} {T : Tb} {f : Addr} {cl : D4.Cl} {fd : FuncData} (F : Fun K "fresh" "fresh" (sT 24) f fd) (B : Bm mg) (C : Cm K w mg) (F_need_range : DFy P w K mg base T 3 "need_range" D4.spy_need_range) : FnOk P w K mg base (L2N.CX P w) 4 f fd ["low", "high", "gen"] (lspy K T mg D4.spy_fresh) := by
  refine fn_dy F sc_fresh (fun ds S Q E h => ?_) fun cdv A outer s H E hr => ⟨D4.rd_fresh, ?_, fun ds S R RE h => D4.oky_fresh ds S R RE h⟩
  · first | (obtain ⟨_, rfl, _⟩ := h; rfl) | (obtain ⟨_, _, rfl, _⟩ := h; rfl) | (obtain ⟨_, _, _, rfl, _⟩ := h; rfl) | (obtain ⟨_, _, _, _, rfl, _⟩ := h; rfl) | (obtain ⟨_, _, _, _, _, rfl, _⟩ := h; rfl)
  · exact (sy_cons (sy_expr (xy_call (L2N.takes_of rfl rfl rfl rfl) F_need_range (hr.mono (by decide)) (by rfl) (a_cons (xv 0) (a_cons (xv 1) (a_cons (xv 2) a_nil)))))
       (XSs.y (s_one (s_ret (x_tup (a_cons (xv 0) (a_cons (xv 1) (a_cons (xv 2) (a_cons x_int (a_cons x_tupP0 (a_cons (x_tup a_nil) a_nil)))))))))))
abbrev N_worth_at : List Str := ["state", "key"]
theorem sc_worth_at : FnScope N_worth_at ["state", "key"] (defScope (sT 25)) := ⟨rfl, rfl, rfl, by decide +kernel, rfl, by decide +kernel, by decide +kernel⟩
theorem w_worth_at {P : Program} {w : World} {K : PySem.W.Frag} {mg : Str → Option Value} {base : Heap} {T : Tb} {f : Addr} {cl : D4.Cl} {fd : FuncData} (F : Fun K "worth_at" "worth_at" (sT 25) f fd) (B : Bm mg) (C : Cm K w mg) : FnOk P w K mg base CX0 1 f fd ["state", "key"] (lsp K T sp_worth_at) := by
  refine fn_d F sc_worth_at (fun ds S Q h => ?_) fun cdv A outer s H E hr => ⟨rd_worth_at, ?_, fun ds S R h => ok_worth_at ds S R h⟩
  · simp only [sp_worth_at] at h; first | (obtain ⟨_, rfl, _⟩ := h; rfl) | (obtain ⟨_, _, rfl, _⟩ := h; rfl) | (obtain ⟨_, _, _, rfl, _⟩ := h; rfl) | (obtain ⟨_, _, _, _, rfl, _⟩ := h; rfl)
  · exact (s_one (s_ret (x_get2 (hu_of hr) (x_callTy (call_dictT rfl) d_dict (by rfl) B.dict (by decide +kernel) (a_cons (x_ix (hu_of hr) (xv 0) x_int (fun _ _ => rfl)) a_nil)) (xv 1) x_int ⟨rfl, rfl, rfl, rfl⟩)))
abbrev N_seen_by : List Str := ["state", "asker", "one", "number", "answer"]
theorem sc_seen_by : FnScope N_seen_by ["state", "asker"] (defScope (sT 26)) := ⟨rfl, rfl, rfl, by decide +kernel, rfl, by decide +kernel, by decide +kernel⟩
theorem w_seen_by {P : Program} {w : World} {K : PySem.W.Frag} {mg : Str → Option Value} {base : Heap} {T : Tb} {f : Addr} {cl : D4.Cl} {fd : FuncData} (F : Fun K "seen_by" "seen_by" (sT 26) f fd) (B : Bm mg) (C : Cm K w mg) : FnOk P w K mg base CX0 1 f fd ["state", "asker"] (lsp K T sp_seen_by) := by
  refine fn_d F sc_seen_by (fun ds S Q h => ?_) fun cdv A outer s H E hr => ⟨rd_seen_by, ?_, fun ds S R h => ok_seen_by ds S R h⟩
  · simp only [sp_seen_by] at h; first | (obtain ⟨_, rfl, _⟩ := h; rfl) | (obtain ⟨_, _, rfl, _⟩ := h; rfl) | (obtain ⟨_, _, _, rfl, _⟩ := h; rfl) | (obtain ⟨_, _, _, _, rfl, _⟩ := h; rfl)
  · exact (s_cons (s_for (tg := (.tp [2, 3, 4])) PassesOwn.never rfl (i_seq (x_ix (hu_of hr) (xv 0) x_int (fun _ _ => rfl))) (pg_tup rfl (pgs_cons (pg_name (i := 2) sc_seen_by.nd rfl (by first | exact Or.inl rfl | exact Or.inr rfl)) (pgs_cons (pg_name (i := 3) sc_seen_by.nd rfl (by first | exact Or.inl rfl | exact Or.inr rfl)) (pgs_cons (pg_name (i := 4) sc_seen_by.nd rfl (by first | exact Or.inl rfl | exact Or.inr rfl)) pgs_nil))))
       (s_one (s_if (t_cmp (op_eqD hr.units) d_eq (xv 2) (xv 1) (nomark _))
       (s_one (s_ret (x_tup (a_cons (xv 3) (a_cons (xv 4) a_nil)))))
       s_nil)))
       (s_one (s_ret (x_tup (a_cons x_int (a_cons x_non a_nil))))))
abbrev N_with_answer : List Str := ["state", "asker", "number", "answer", "rest", "row"]
theorem sc_with_answer : FnScope N_with_answer ["state", "asker", "number", "answer"] (defScope (sT 27)) := ⟨rfl, rfl, rfl, by decide +kernel, rfl, by decide +kernel, by decide +kernel⟩

theorem w_with_answer {P : Program} {w : World} {K : PySem.W.Frag} {mg : Str → Option Value} {base : Heap} {T : Tb} {f : Addr} {cl : D4.Cl} {c Q : Addr} {oc : Value} {od an : Option Addr} {osl : Array (Option Value)} {kV doc pm ct : Value} (lk : K.lookup f = some ⟨oc, od, .func (PySem.W.fnOf "with_answer" "with_answer" (defArgs (sT 27)) (defBody (sT 27)) (defScope (sT 27)) .none kV doc pm an (.ref c) ct), osl⟩) (hcd : PySem.W.codeIn K (.ref c) "with_answer" = true) (TB : TabB base mg c Q) (hT : (Q, ("with_answer.<locals>.<lambda>" : Str)) ∈ T) (hTu : ∀ p ∈ T, p.1 = Q → p.2 = "with_answer.<locals>.<lambda>") (B : Bm mg) (C : Cm K w mg) :
    FnOk P w K mg base CX0 1 f (PySem.W.fnOf "with_answer" "with_answer" (defArgs (sT 27)) (defBody (sT 27)) (defScope (sT 27)) .none kV doc pm an (.ref c) ct) ["state", "asker", "number", "answer"] (lsp K T sp_with_answer) := by
  refine fn_dc lk hcd sc_with_answer (fun ds S Q h => ?_) fun A outer s H E hr => ?_
  · simp only [sp_with_answer] at h; first | (obtain ⟨_, rfl, _⟩ := h; rfl) | (obtain ⟨_, _, rfl, _⟩ := h; rfl) | (obtain ⟨_, _, _, rfl, _⟩ := h; rfl) | (obtain ⟨_, _, _, _, rfl, _⟩ := h; rfl)
  · refine ⟨rd_with_answer, ?_, fun ds S R h => ok_with_answer ds S R h⟩
    exact (s_cons (s_setLc (i := 4) (tg := (.nm 5)) (own := [("row", 5)]) rfl sc_with_answer.nd rfl (by rfl) (sw_true rfl rfl rfl (by decide +kernel)) (i_seq (x_ix (hu_of hr) (xv 0) x_int (fun _ _ => rfl))) (blkOk_by (own := [("row", 5)]) (N := N_with_answer) (sc := defScope (sT 27)) (by decide +kernel)) (fun _ _ _ _ _ => (pg_name (i := 5) sc_with_answer.nd rfl (by first | exact Or.inl rfl | exact Or.inr rfl)))
 (fun _ _ _ _ _ => (ts_one (t_cmp (op_neD hr.units) d_ne (x_ix (hu_of hr) (xv 5) x_int (fun _ _ => rfl)) (xv 1) (nomark _))))
 (fun _ _ _ _ _ => (xv 5)) (by decide))
 (s_one (s_ret (x_op op_addV d_add (x_slice (xv 0) o_none (o_some x_int)) (x_tup (a_cons (x_callTy call_tuple_of d_tup (by rfl) B.tuple (by decide +kernel) (a_cons (x_sortKey (a_cons (x_op op_addV d_add (xv 4) (x_lst (a_cons (x_tup (a_cons (xv 1) (a_cons (xv 2) (a_cons (xv 3) a_nil)))) a_nil))) a_nil) ⟨rfl, rfl, rfl, rfl, ⟨_, _, _, _, rfl⟩, fun _ _ _ _ _ _ => rfl, by decide⟩ (by rfl) B.sorted TB rfl hT hTu rfl (dp1 hr)) a_nil)) a_nil))))))
abbrev N_with_worth : List Str := ["state", "key", "worth", "rest", "pair", "worths"]
theorem sc_with_worth : FnScope N_with_worth ["state", "key", "worth"] (defScope (sT 28)) := ⟨rfl, rfl, rfl, by decide +kernel, rfl, by decide +kernel, by decide +kernel⟩
theorem w_with_worth {P : Program} {w : World} {K : PySem.W.Frag} {mg : Str → Option Value} {base : Heap} {T : Tb} {f : Addr} {cl : D4.Cl} {fd : FuncData} (F : Fun K "with_worth" "with_worth" (sT 28) f fd) (B : Bm mg) (C : Cm K w mg) : FnOk P w K mg base CX0 1 f fd ["state", "key", "worth"] (lsp K T sp_with_worth) := by
  refine fn_d F sc_with_worth (fun ds S Q h => ?_) fun cdv A outer s H E hr => ⟨rd_with_worth, ?_, fun ds S R h => ok_with_worth ds S R h⟩
  · simp only [sp_with_worth] at h; first | (obtain ⟨_, rfl, _⟩ := h; rfl) | (obtain ⟨_, _, rfl, _⟩ := h; rfl) | (obtain ⟨_, _, _, rfl, _⟩ := h; rfl) | (obtain ⟨_, _, _, _, rfl, _⟩ := h; rfl)
  · exact (s_cons (s_setLc (i := 3) (tg := (.nm 4)) (own := [("pair", 4)]) rfl sc_with_worth.nd rfl (by rfl) (sw_true rfl rfl rfl (by decide +kernel)) (i_seq (x_ix (hu_of hr) (xv 0) x_int (fun _ _ => rfl))) (blkOk_by (own := [("pair", 4)]) (N := N_with_worth) (sc := defScope (sT 28)) (by decide +kernel)) (fun _ _ _ _ _ => (pg_name (i := 4) sc_with_worth.nd rfl (by first | exact Or.inl rfl | exact Or.inr rfl)))
       (fun _ _ _ _ _ => (ts_one (t_cmp (op_neD hr.units) d_ne (x_ix (hu_of hr) (xv 4) x_int (fun _ _ => rfl)) (xv 1) (nomark _))))
       (fun _ _ _ _ _ => (xv 4)) (by decide))
       (s_cons (s_set (i := 5) sc_with_worth.nd rfl (by first | exact Or.inl rfl | exact Or.inr rfl) (x_callTy call_tupleP d_tupP (by rfl) B.tuple (by decide +kernel) (a_cons (x_callB cr_sortPV d_sortP (by rfl) B.sorted (by decide +kernel) (a_cons (x_op op_addV d_add (xv 3) (x_op op_mulV d_mul (x_lst (a_cons (x_tup (a_cons (xv 1) (a_cons (xv 2) a_nil))) a_nil)) (x_callTy call_int1 d_int (by rfl) B.int (by decide +kernel) (a_cons (x_cmp op_gt d_gt (xv 2) x_int (nomark _)) a_nil)))) a_nil)) a_nil)))
       (s_one (s_ret (x_op op_addV d_add (x_slice (xv 0) o_none (o_some x_int)) (x_tup (a_cons (x_op op_addV d_add (x_ix (hu_of hr) (xv 0) x_int (fun _ _ => rfl)) x_int) (a_cons (xv 5) (a_cons (x_ix (hu_of hr) (xv 0) x_int (fun _ _ => rfl)) a_nil)))))))))
abbrev N_need_inside : List Str := ["state", "key"]
theorem sc_need_inside : FnScope N_need_inside ["state", "key"] (defScope (sT 29)) := ⟨rfl, rfl, rfl, by decide +kernel, rfl, by decide +kernel, by decide +kernel⟩
theorem w_need_inside {P : Program} {w : World} {K : PySem.W.Frag} {mg : Str → Option Value} {base : Heap} {T : Tb} {f : Addr} {cl : D4.Cl} {fd : FuncData} (F : Fun K "need_inside" "need_inside" (sT 29) f fd) (B : Bm mg) (C : Cm K w mg) {C_BadRange : Addr} (EY_BadRange : Ecy K mg "BadRange" C_BadRange) : FnOk P w K mg base (L2N.CX P w) 3 f fd ["state", "key"] (lspy K T mg D4.spy_need_inside) := by
  refine fn_dy F sc_need_inside (fun ds S Q E h => ?_) fun cdv A outer s H E hr => ⟨D4.rd_need_inside, ?_, fun ds S R RE h => D4.oky_need_inside ds S R RE h⟩
  · first | (obtain ⟨_, rfl, _⟩ := h; rfl) | (obtain ⟨_, _, rfl, _⟩ := h; rfl) | (obtain ⟨_, _, _, rfl, _⟩ := h; rfl) | (obtain ⟨_, _, _, _, rfl, _⟩ := h; rfl) | (obtain ⟨_, _, _, _, _, rfl, _⟩ := h; rfl)
  · exact (sy_one (sy_if (t_not (t_chain op_le d_le op_lt d_lt (x_ix (hu_of hr) (xv 0) x_int (fun _ _ => rfl)) (xv 1) (x_ix (hu_of hr) (xv 0) x_int (fun _ _ => rfl))))
       (sy_one (sy_raise rfl (L2N.takes_of rfl rfl rfl rfl) PySem.F.excBase_ValueError EY_BadRange.q EY_BadRange.g EY_BadRange.k EY_BadRange.b EY_BadRange.t (by rfl)))
       sy_nil))
abbrev N_asked_of : List Str := ["state", "asker", "number", "deed", "last", "answer", "worth"]
theorem sc_asked_of : FnScope N_asked_of ["state", "asker", "number", "deed"] (defScope (sT 30)) := ⟨rfl, rfl, rfl, by decide +kernel, rfl, by decide +kernel, by decide +kernel⟩
theorem w_asked_of {P : Program} {w : World} {K : PySem.W.Frag} {mg : Str → Option Value} {base : Heap} {T : Tb} {f : Addr} {cl : D4.Cl} {fd : FuncData} (F : Fun K "asked_of" "asked_of" (sT 30) f fd) (B : Bm mg) (C : Cm K w mg) (F_seen_by : DFn P w K mg base T 1 "seen_by" sp_seen_by) (F_with_answer : DFn P w K mg base T 1 "with_answer" sp_with_answer) (F_with_worth : DFn P w K mg base T 1 "with_worth" sp_with_worth) (F_worth_at : DFn P w K mg base T 1 "worth_at" sp_worth_at) (F_worth_behind : DFn P w K mg base T 1 "worth_behind" sp_worth_behind) : FnOk P w K mg base CX0 2 f fd ["state", "asker", "number", "deed"] (lsp K T sp_asked_of) := by
  refine fn_d F sc_asked_of (fun ds S Q h => ?_) fun cdv A outer s H E hr => ⟨rd_asked_of, ?_, fun ds S R h => ok_asked_of ds S R h⟩
  · simp only [sp_asked_of] at h; first | (obtain ⟨_, rfl, _⟩ := h; rfl) | (obtain ⟨_, _, rfl, _⟩ := h; rfl) | (obtain ⟨_, _, _, rfl, _⟩ := h; rfl) | (obtain ⟨_, _, _, _, rfl, _⟩ := h; rfl)
  · exact (s_cons (s_asg (tg := (.tp [4, 5])) (x_call F_seen_by (hr.mono (by decide)) (by rfl) (a_cons (xv 0) (a_cons (xv 1) a_nil))) (pg_tup rfl (pgs_cons (pg_name (i := 4) sc_asked_of.nd rfl (by first | exact Or.inl rfl | exact Or.inr rfl)) (pgs_cons (pg_name (i := 5) sc_asked_of.nd rfl (by first | exact Or.inl rfl | exact Or.inr rfl)) pgs_nil))))
       (s_cons (s_if (t_cmp op_le d_le (xv 2) (xv 4) (nomark _))
       (s_one (s_ret (x_tup (a_cons (x_if (t_cmp (op_eqD hr.units) d_eq (xv 2) (xv 4) (nomark _)) (xv 5) x_non) (a_cons (xv 0) a_nil)))))
       s_nil)
       (s_cons (s_asg (tg := (.tp [5, 6])) (x_call F_worth_behind (hr.mono (by decide)) (by rfl) (a_cons (xv 3) (a_cons (x_call F_worth_at (hr.mono (by decide)) (by rfl) (a_cons (xv 0) (a_cons (x_ix (hu_of hr) (xv 3) x_int (fun _ _ => rfl)) a_nil))) a_nil))) (pg_tup rfl (pgs_cons (pg_name (i := 5) sc_asked_of.nd rfl (by first | exact Or.inl rfl | exact Or.inr rfl)) (pgs_cons (pg_name (i := 6) sc_asked_of.nd rfl (by first | exact Or.inl rfl | exact Or.inr rfl)) pgs_nil))))
       (s_cons (s_if (w_and (t_cmp (op_neD hr.units) d_ne (x_ix (hu_of hr) (xv 3) x_int (fun _ _ => rfl)) x_str (nomark _)) (w_and1 (w_or (t_cmp (op_neD hr.units) d_ne (x_ix (hu_of hr) (xv 3) x_int (fun _ _ => rfl)) x_str (nomark _)) (w_or1 (t_val (xv 5)))).pt)).pt
       (s_one (s_set (i := 0) sc_asked_of.nd rfl (by first | exact Or.inl rfl | exact Or.inr rfl) (x_call F_with_worth (hr.mono (by decide)) (by rfl) (a_cons (xv 0) (a_cons (x_ix (hu_of hr) (xv 3) x_int (fun _ _ => rfl)) (a_cons (xv 6) a_nil))))))
       s_nil)
       (s_one (s_ret (x_tup (a_cons (xv 5) (a_cons (x_call F_with_answer (hr.mono (by decide)) (by rfl) (a_cons (xv 0) (a_cons (xv 1) (a_cons (xv 2) (a_cons (xv 5) a_nil))))) a_nil)))))))))
abbrev N_asked : List Str := ["state", "asker", "number", "deed"]
theorem sc_asked : FnScope N_asked ["state", "asker", "number", "deed"] (defScope (sT 31)) := ⟨rfl, rfl, rfl, by decide +kernel, rfl, by decide +kernel, by decide +kernel⟩
theorem w_asked {P : Program} {w : World} {K : PySem.W.Frag} {mg : Str → Option Value} {base : Heap} {T : Tb} {f : Addr} {cl : D4.Cl} {fd : FuncData} (F : Fun K "asked" "asked" (sT 31) f fd) (B : Bm mg) (C : Cm K w mg) {C_BadRange : Addr} (EY_BadRange : Ecy K mg "BadRange" C_BadRange) (F_asked_of : DFn P w K mg base T 2 "asked_of" sp_asked_of) (F_need_deed : DFy P w K mg base T 3 "need_deed" D4.spy_need_deed) (F_need_inside : DFy P w K mg base T 3 "need_inside" D4.spy_need_inside) : FnOk P w K mg base (L2N.CX P w) 4 f fd ["state", "asker", "number", "deed"] (lspy K T mg D4.spy_asked) := by
  refine fn_dy F sc_asked (fun ds S Q E h => ?_) fun cdv A outer s H E hr => ⟨D4.rd_asked, ?_, fun ds S R RE h => D4.oky_asked ds S R RE h⟩
  · first | (obtain ⟨_, rfl, _⟩ := h; rfl) | (obtain ⟨_, _, rfl, _⟩ := h; rfl) | (obtain ⟨_, _, _, rfl, _⟩ := h; rfl) | (obtain ⟨_, _, _, _, rfl, _⟩ := h; rfl) | (obtain ⟨_, _, _, _, _, rfl, _⟩ := h; rfl)
  · exact (sy_cons (sy_expr (xy_call (L2N.takes_of rfl rfl rfl rfl) F_need_deed (hr.mono (by decide)) (by rfl) (a_cons (xv 3) a_nil)))
       (sy_cons (sy_if (t_cmp op_notIn_seq (d_in true) (x_ix (hu_of hr) (xv 3) x_int (fun _ _ => rfl)) (x_glob (by rfl) (by exact C.PLAIN)) (by rfl))
       (sy_one (sy_raise rfl (L2N.takes_of rfl rfl rfl rfl) PySem.F.excBase_ValueError EY_BadRange.q EY_BadRange.g EY_BadRange.k EY_BadRange.b EY_BadRange.t (by rfl)))
       sy_nil)
       (sy_cons (sy_expr (xy_call (L2N.takes_of rfl rfl rfl rfl) F_need_inside (hr.mono (by decide)) (by rfl) (a_cons (xv 0) (a_cons (x_ix (hu_of hr) (xv 3) x_int (fun _ _ => rfl)) a_nil))))
       (XSs.y (s_one (s_ret (x_call F_asked_of (hr.mono (by decide)) (by rfl) (a_cons (xv 0) (a_cons (xv 1) (a_cons (xv 2) (a_cons (xv 3) a_nil)))))))))))
abbrev N_halves : List Str := ["state", "key"]
theorem sc_halves : FnScope N_halves ["state", "key"] (defScope (sT 33)) := ⟨rfl, rfl, rfl, by decide +kernel, rfl, by decide +kernel, by decide +kernel⟩
theorem w_halves {P : Program} {w : World} {K : PySem.W.Frag} {mg : Str → Option Value} {base : Heap} {T : Tb} {f : Addr} {cl : D4.Cl} {fd : FuncData} (F : Fun K "halves" "halves" (sT 33) f fd) (B : Bm mg) (C : Cm K w mg) {C_BadRange : Addr} (EY_BadRange : Ecy K mg "BadRange" C_BadRange) : FnOk P w K mg base (L2N.CX P w) 3 f fd ["state", "key"] (lspy K T mg D4.spy_halves) := by
  refine fn_dy F sc_halves (fun ds S Q E h => ?_) fun cdv A outer s H E hr => ⟨D4.rd_halves, ?_, fun ds S R RE h => D4.oky_halves ds S R RE h⟩
  · first | (obtain ⟨_, rfl, _⟩ := h; rfl) | (obtain ⟨_, _, rfl, _⟩ := h; rfl) | (obtain ⟨_, _, _, rfl, _⟩ := h; rfl) | (obtain ⟨_, _, _, _, rfl, _⟩ := h; rfl) | (obtain ⟨_, _, _, _, _, rfl, _⟩ := h; rfl)
  · exact (sy_cons (sy_if (t_not (t_chain op_lt d_lt op_lt d_lt (x_ix (hu_of hr) (xv 0) x_int (fun _ _ => rfl)) (xv 1) (x_ix (hu_of hr) (xv 0) x_int (fun _ _ => rfl))))
       (sy_one (sy_raise rfl (L2N.takes_of rfl rfl rfl rfl) PySem.F.excBase_ValueError EY_BadRange.q EY_BadRange.g EY_BadRange.k EY_BadRange.b EY_BadRange.t (by rfl)))
       sy_nil)
       (XSs.y ss_never))
abbrev N_joined : List Str := ["left", "right"]
theorem sc_joined : FnScope N_joined ["left", "right"] (defScope (sT 36)) := ⟨rfl, rfl, rfl, by decide +kernel, rfl, by decide +kernel, by decide +kernel⟩
theorem w_joined {P : Program} {w : World} {K : PySem.W.Frag} {mg : Str → Option Value} {base : Heap} {T : Tb} {f : Addr} {cl : D4.Cl} {fd : FuncData} (F : Fun K "joined" "joined" (sT 36) f fd) (B : Bm mg) (C : Cm K w mg) {C_BadRange : Addr} (EY_BadRange : Ecy K mg "BadRange" C_BadRange) : FnOk P w K mg base (L2N.CX P w) 3 f fd ["left", "right"] (lspy K T mg D4.spy_joined) := by
  refine fn_dy F sc_joined (fun ds S Q E h => ?_) fun cdv A outer s H E hr => ⟨D4.rd_joined, ?_, fun ds S R RE h => D4.oky_joined ds S R RE h⟩
  · first | (obtain ⟨_, rfl, _⟩ := h; rfl) | (obtain ⟨_, _, rfl, _⟩ := h; rfl) | (obtain ⟨_, _, _, rfl, _⟩ := h; rfl) | (obtain ⟨_, _, _, _, rfl, _⟩ := h; rfl) | (obtain ⟨_, _, _, _, _, rfl, _⟩ := h; rfl)
  · exact (sy_cons (sy_if (t_cmp (op_neD hr.units) d_ne (x_ix (hu_of hr) (xv 0) x_int (fun _ _ => rfl)) (x_ix (hu_of hr) (xv 1) x_int (fun _ _ => rfl)) (nomark _))
       (sy_one (sy_raise rfl (L2N.takes_of rfl rfl rfl rfl) PySem.F.excBase_ValueError EY_BadRange.q EY_BadRange.g EY_BadRange.k EY_BadRange.b EY_BadRange.t (by rfl)))
       sy_nil)
       (XSs.y ss_never))
abbrev N_need_house : List Str := ["number", "many"]
theorem sc_need_house : FnScope N_need_house ["number", "many"] (defScope (sT 39)) := ⟨rfl, rfl, rfl, by decide +kernel, rfl, by decide +kernel, by decide +kernel⟩
theorem w_need_house {P : Program} {w : World} {K : PySem.W.Frag} {mg : Str → Option Value} {base : Heap} {T : Tb} {f : Addr} {cl : D4.Cl} {fd : FuncData} (F : Fun K "need_house" "need_house" (sT 39) f fd) (B : Bm mg) (C : Cm K w mg) {C_BadHouse : Addr} (EY_BadHouse : Ecy K mg "BadHouse" C_BadHouse) : FnOk P w K mg base (L2N.CX P w) 3 f fd ["number", "many"] (lspy K T mg D4.spy_need_house) := by
  refine fn_dy F sc_need_house (fun ds S Q E h => ?_) fun cdv A outer s H E hr => ⟨D4.rd_need_house, ?_, fun ds S R RE h => D4.oky_need_house ds S R RE h⟩
  · first | (obtain ⟨_, rfl, _⟩ := h; rfl) | (obtain ⟨_, _, rfl, _⟩ := h; rfl) | (obtain ⟨_, _, _, rfl, _⟩ := h; rfl) | (obtain ⟨_, _, _, _, rfl, _⟩ := h; rfl) | (obtain ⟨_, _, _, _, _, rfl, _⟩ := h; rfl)
  · exact (sy_one (sy_if (w_or (t_cmp op_notIn_seq (d_in true) (xv 1) (x_glob (by rfl) (by exact C.COUNTS)) (by rfl)) (w_or1 (t_not (t_chain op_le d_le op_lt d_lt x_int (xv 0) (xv 1))))).pt
       (sy_one (sy_raise rfl (L2N.takes_of rfl rfl rfl rfl) PySem.F.excBase_ValueError EY_BadHouse.q EY_BadHouse.g EY_BadHouse.k EY_BadHouse.b EY_BadHouse.t (by rfl)))
       sy_nil))
abbrev N_Asker___init__ : List Str := ["self", "number", "many"]
theorem sc_Asker___init__ : FnScope N_Asker___init__ ["self", "number", "many"] (defScope (inClass (sT 43) 0)) := ⟨rfl, rfl, rfl, by decide +kernel, rfl, by decide +kernel, by decide +kernel⟩
theorem w_Asker___init__ {P : Program} {w : World} {K : PySem.W.Frag} {mg : Str → Option Value} {base : Heap} {T : Tb} {f : Addr} {cl : D4.Cl} {fd : FuncData} (F : Fun K "__init__" "Asker.__init__" (inClass (sT 43) 0) f fd) (B : Bm mg) (C : Cm K w mg) {C_BadAsker : Addr} (EY_BadAsker : Ecy K mg "BadAsker" C_BadAsker) (F_need_house : DFy P w K mg base T 3 "need_house" D4.spy_need_house) : FnOk P w K mg base (L2N.CX P w) 4 f fd ["self", "number", "many"] (lspy K T mg (D4.spy_Asker___init__ cl)) := by
  refine fn_dy F sc_Asker___init__ (fun ds S Q E h => ?_) fun cdv A outer s H E hr => ⟨(D4.rd_Asker___init__ cl), ?_, fun ds S R RE h => D4.oky_Asker___init__ cl ds S R RE h⟩
  · first | (obtain ⟨_, rfl, _⟩ := h; rfl) | (obtain ⟨_, _, rfl, _⟩ := h; rfl) | (obtain ⟨_, _, _, rfl, _⟩ := h; rfl) | (obtain ⟨_, _, _, _, rfl, _⟩ := h; rfl) | (obtain ⟨_, _, _, _, _, rfl, _⟩ := h; rfl)
  · exact (sy_cons (sy_if (t_not (t_chain op_le d_le op_lt d_lt x_int (xv 1) (x_glob (by rfl) (by exact C.MOST_ASKERS))))
       (sy_one (sy_raise rfl (L2N.takes_of rfl rfl rfl rfl) PySem.F.excBase_ValueError EY_BadAsker.q EY_BadAsker.g EY_BadAsker.k EY_BadAsker.b EY_BadAsker.t (by rfl)))
       sy_nil)
       (sy_cons (sy_expr (xy_call (L2N.takes_of rfl rfl rfl rfl) F_need_house (hr.mono (by decide)) (by rfl) (a_cons x_int (a_cons (xv 2) a_nil))))
       (XSs.y (s_cons (s_setF (xv 0) (xv 1))
       (s_cons (s_setF (xv 0) (xv 2))
       (s_cons (s_setF (xv 0) (x_newN1 (hu9N hr) (x_glob (by rfl) (by exact C.NOBODY)) x_int))
       (s_cons (s_setF (xv 0) x_int)
       (s_cons (s_setF (xv 0) x_non)
       (s_cons (s_setF (xv 0) x_int)
       (s_cons (s_setF (xv 0) x_newK)
       (s_cons (s_setF (xv 0) x_newK)
       (s_one (s_setF (xv 0) x_newK)))))))))))))
abbrev N_Asker_name_at : List Str := ["self", "key", "name"]
theorem sc_Asker_name_at : FnScope N_Asker_name_at ["self", "key"] (defScope (inClass (sT 43) 1)) := ⟨rfl, rfl, rfl, by decide +kernel, rfl, by decide +kernel, by decide +kernel⟩
theorem w_Asker_name_at {P : Program} {w : World} {K : PySem.W.Frag} {mg : Str → Option Value} {base : Heap} {T : Tb} {f : Addr} {cl : D4.Cl} {fd : FuncData} (F : Fun K "name_at" "Asker.name_at" (inClass (sT 43) 1) f fd) (B : Bm mg) (C : Cm K w mg) : FnOk P w K mg base CX0 1 f fd ["self", "key"] (lsp K T (D4.sp_Asker_name_at cl)) := by
  refine fn_d F sc_Asker_name_at (fun ds S Q h => ?_) fun cdv A outer s H E hr => ⟨(D4.rd_Asker_name_at cl), ?_, fun ds S R h => D4.ok_Asker_name_at cl ds S R h⟩
  · first | (obtain ⟨_, rfl, _⟩ := h; rfl) | (obtain ⟨_, _, rfl, _⟩ := h; rfl) | (obtain ⟨_, _, _, rfl, _⟩ := h; rfl) | (obtain ⟨_, _, _, _, rfl, _⟩ := h; rfl) | (obtain ⟨_, _, _, _, _, rfl, _⟩ := h; rfl)
  · exact (s_one (s_ret (x_ix (hu_of hr) (x_callB (cr_maxD rfl (hu80 hr)) d_maxG (by rfl) B.max (by decide +kernel) (a_cons (x_lcN (i := 2) (own := [("name", 2)]) rfl sc_Asker_name_at.nd (x_fld (xv 0)) (blkOk_by (own := [("name", 2)]) (N := N_Asker_name_at) (sc := defScope (inClass (sT 43) 1)) (by decide +kernel)) (fun _ _ _ _ _ => (pg_name (i := 2) sc_Asker_name_at.nd rfl (by first | exact Or.inl rfl | exact Or.inr rfl)))
       (fun _ _ _ _ _ => (ts_one (t_chain op_le d_le op_lt d_lt (x_ix (hu_of hr) (xv 2) x_int (fun _ _ => rfl)) (xv 1) (x_ix (hu_of hr) (xv 2) x_int (fun _ _ => rfl)))))
       (fun _ _ _ _ _ => (x_tup (a_cons (x_ix (hu_of hr) (xv 2) x_int (fun _ _ => rfl)) (a_cons (xv 2) a_nil)))) (by decide)) a_nil)) x_int (fun _ _ => rfl))))
abbrev N_Asker_asked : List Str := ["self"]
theorem sc_Asker_asked : FnScope N_Asker_asked ["self"] (defScope (inClass (sT 43) 6)) := ⟨rfl, rfl, rfl, by decide +kernel, rfl, by decide +kernel, by decide +kernel⟩
theorem w_Asker_asked {P : Program} {w : World} {K : PySem.W.Frag} {mg : Str → Option Value} {base : Heap} {T : Tb} {f : Addr} {cl : D4.Cl} {fd : FuncData} (F : Fun K "asked" "Asker.asked" (inClass (sT 43) 6) f fd) (B : Bm mg) (C : Cm K w mg) : FnOk P w K mg base CX0 1 f fd ["self"] (lsp K T (D4.sp_Asker_asked cl)) := by
  refine fn_d F sc_Asker_asked (fun ds S Q h => ?_) fun cdv A outer s H E hr => ⟨(D4.rd_Asker_asked cl), ?_, fun ds S R h => D4.ok_Asker_asked cl ds S R h⟩
  · first | (obtain ⟨_, rfl, _⟩ := h; rfl) | (obtain ⟨_, _, rfl, _⟩ := h; rfl) | (obtain ⟨_, _, _, rfl, _⟩ := h; rfl) | (obtain ⟨_, _, _, _, rfl, _⟩ := h; rfl) | (obtain ⟨_, _, _, _, _, rfl, _⟩ := h; rfl)
  · exact (s_one (s_ret (x_fld (xv 0))))
abbrev N_Asker_wanted : List Str := ["self", "key"]
theorem sc_Asker_wanted : FnScope N_Asker_wanted ["self"] (defScope (inClass (sT 43) 2)) := ⟨rfl, rfl, rfl, by decide +kernel, rfl, by decide +kernel, by decide +kernel⟩
theorem w_Asker_wanted {P : Program} {w : World} {K : PySem.W.Frag} {mg : Str → Option Value} {base : Heap} {T : Tb} {f : Addr} {cl : D4.Cl} {fd : FuncData} (F : Fun K "wanted" "Asker.wanted" (inClass (sT 43) 2) f fd) (B : Bm mg) (C : Cm K w mg) : FnOk P w K mg base CX0 1 f fd ["self"] (lsp K T (D4.sp_Asker_wanted cl)) := by
  refine fn_d F sc_Asker_wanted (fun ds S Q h => ?_) fun cdv A outer s H E hr => ⟨(D4.rd_Asker_wanted cl), ?_, fun ds S R h => D4.ok_Asker_wanted cl ds S R h⟩
  · first | (obtain ⟨_, rfl, _⟩ := h; rfl) | (obtain ⟨_, _, rfl, _⟩ := h; rfl) | (obtain ⟨_, _, _, rfl, _⟩ := h; rfl) | (obtain ⟨_, _, _, _, rfl, _⟩ := h; rfl) | (obtain ⟨_, _, _, _, _, rfl, _⟩ := h; rfl)
  · exact (s_cons (s_if (t_cmp (op_eqD hr.units) d_eq (x_ix (hu_of hr) (x_fld (xv 0)) x_int (fun _ _ => rfl)) x_str (nomark _))
       (s_one (s_ret (x_lc (tg := (.nm 1)) (own := [("key", 1)]) rfl sc_Asker_wanted.nd (i_seq (x_ix (hu_of hr) (x_fld (xv 0)) x_int (fun _ _ => rfl))) (blkOk_by (own := [("key", 1)]) (N := N_Asker_wanted) (sc := defScope (inClass (sT 43) 2)) (by decide +kernel)) (fun _ _ _ _ _ => (pg_name (i := 1) sc_Asker_wanted.nd rfl (by first | exact Or.inl rfl | exact Or.inr rfl)))
       (fun _ _ _ _ _ => (ts_one (t_cmp op_notIn_seq (d_in true) (xv 1) (x_fld (xv 0)) (by rfl))))
       (fun _ _ _ _ _ => (xv 1)) (by decide))))
       s_nil)
       (s_one (s_ret (x_lst (a_cons (x_op op_sub d_sub (x_ix (hu_of hr) (x_fld (xv 0)) x_int (fun _ _ => rfl)) (x_callTy call_int1 d_int (by rfl) B.int (by decide +kernel) (a_cons (x_cmp (op_eqD hr.units) d_eq (x_ix (hu_of hr) (x_fld (xv 0)) x_int (fun _ _ => rfl)) x_str (nomark _)) a_nil))) a_nil)))))
abbrev N_Asker_send : List Str := ["self", "letters", "key", "body"]
theorem sc_Asker_send : FnScope N_Asker_send ["self"] (defScope (inClass (sT 43) 3)) := ⟨rfl, rfl, rfl, by decide +kernel, rfl, by decide +kernel, by decide +kernel⟩
theorem w_Asker_send {P : Program} {w : World} {K : PySem.W.Frag} {mg : Str → Option Value} {base : Heap} {T : Tb} {f : Addr} {cl : D4.Cl} {fd : FuncData} (F : Fun K "send" "Asker.send" (inClass (sT 43) 3) f fd) (B : Bm mg) (C : Cm K w mg) (O_Asker : Cls K cl.asker) (F_Asker_name_at : DMt P w K mg base T 1 cl.asker "name_at" (D4.sp_Asker_name_at cl)) (F_Asker_wanted : DMt P w K mg base T 1 cl.asker "wanted" (D4.sp_Asker_wanted cl)) : FnOk P w K mg base CX0 2 f fd ["self"] (lsp K T (D4.sp_Asker_send cl)) := by
  refine fn_d F sc_Asker_send (fun ds S Q h => ?_) fun cdv A outer s H E hr => ⟨(D4.rd_Asker_send cl), ?_, fun ds S R h => D4.ok_Asker_send cl ds S R h⟩
  · first | (obtain ⟨_, rfl, _⟩ := h; rfl) | (obtain ⟨_, _, rfl, _⟩ := h; rfl) | (obtain ⟨_, _, _, rfl, _⟩ := h; rfl) | (obtain ⟨_, _, _, _, rfl, _⟩ := h; rfl) | (obtain ⟨_, _, _, _, _, rfl, _⟩ := h; rfl)
  · exact (s_cons (s_set (i := 1) sc_Asker_send.nd rfl (by first | exact Or.inl rfl | exact Or.inr rfl) (x_lstR a_nil))
       (s_cons (s_for (tg := (.nm 2)) PassesOwn.never rfl (i_seq (x_meth0 F_Asker_wanted (hr.mono (by decide)) (xv 0) (hc := O_Asker))) (pg_name (i := 2) sc_Asker_send.nd rfl (by first | exact Or.inl rfl | exact Or.inr rfl))
       (s_cons (s_set (i := 3) sc_Asker_send.nd rfl (by first | exact Or.inl rfl | exact Or.inr rfl) (x_tup (a_cons x_str (a_cons (x_fld (xv 0)) (a_cons (x_fld (xv 0)) (a_cons (x_fld (xv 0)) a_nil))))))
       (s_cons (s_if (t_cmp (op_eqD hr.units) d_eq (x_ix (hu_of hr) (x_fld (xv 0)) x_int (fun _ _ => rfl)) x_str (nomark _))
       (s_one (s_set (i := 3) sc_Asker_send.nd rfl (by first | exact Or.inl rfl | exact Or.inr rfl) (x_tup (a_cons x_str (a_cons (x_fld (xv 0)) (a_cons (x_fld (xv 0)) (a_cons (x_fld (xv 0)) (a_cons (xv 2) a_nil))))))))
       s_nil)
       (s_one (s_expr (x_ml PySem.F.slot_list_append PySem.F.type_list_append mt_append d_append (xv 1) (a_cons (x_tup (a_cons (x_tup (a_cons x_str (a_cons (x_ixN (hu9N hr) (x_fld (xv 0)) (x_meth F_Asker_name_at (hr.mono (by decide)) (xv 0) (a_cons (xv 2) a_nil) (hc := O_Asker))) a_nil))) (a_cons (xv 3) a_nil))) a_nil)))))))
       (s_one (s_ret (xv 1)))))
abbrev N_Asker_ask : List Str := ["self", "deed"]
theorem sc_Asker_ask : FnScope N_Asker_ask ["self", "deed"] (defScope (inClass (sT 43) 4)) := ⟨rfl, rfl, rfl, by decide +kernel, rfl, by decide +kernel, by decide +kernel⟩
theorem w_Asker_ask {P : Program} {w : World} {K : PySem.W.Frag} {mg : Str → Option Value} {base : Heap} {T : Tb} {f : Addr} {cl : D4.Cl} {fd : FuncData} (F : Fun K "ask" "Asker.ask" (inClass (sT 43) 4) f fd) (B : Bm mg) (C : Cm K w mg) {C_Busy : Addr} (EY_Busy : Ecy K mg "Busy" C_Busy) (O_Asker : Cls K cl.asker) (F_Asker_send : DMt P w K mg base T 2 cl.asker "send" (D4.sp_Asker_send cl)) (F_need_deed : DFy P w K mg base T 3 "need_deed" D4.spy_need_deed) : FnOk P w K mg base (L2N.CX P w) 4 f fd ["self", "deed"] (lspy K T mg (D4.spy_Asker_ask cl)) := by
  refine fn_dy F sc_Asker_ask (fun ds S Q E h => ?_) fun cdv A outer s H E hr => ⟨(D4.rd_Asker_ask cl), ?_, fun ds S R RE h => D4.oky_Asker_ask cl ds S R RE h⟩
  · first | (obtain ⟨_, rfl, _⟩ := h; rfl) | (obtain ⟨_, _, rfl, _⟩ := h; rfl) | (obtain ⟨_, _, _, rfl, _⟩ := h; rfl) | (obtain ⟨_, _, _, _, rfl, _⟩ := h; rfl) | (obtain ⟨_, _, _, _, _, rfl, _⟩ := h; rfl)
  · exact (sy_cons (sy_expr (xy_call (L2N.takes_of rfl rfl rfl rfl) F_need_deed (hr.mono (by decide)) (by rfl) (a_cons (xv 1) a_nil)))
       (sy_cons (sy_if (t_cmp op_notN d_notN (x_fld (xv 0)) x_non (nomark _))
       (sy_one (sy_raise rfl (L2N.takes_of rfl rfl rfl rfl) PySem.F.excBase_ValueError EY_Busy.q EY_Busy.g EY_Busy.k EY_Busy.b EY_Busy.t (by rfl)))
       sy_nil)
       (XSs.y (s_cons (s_setF (xv 0) (x_op op_addV d_add (x_fld (xv 0)) x_int))
       (s_cons (s_setF (xv 0) (xv 1))
       (s_cons (s_setF (xv 0) x_int)
       (s_cons (s_setF (xv 0) x_newK)
       (s_cons (s_setF (xv 0) x_newK)
       (s_cons (s_setF (xv 0) x_newK)
       (s_one (s_ret (x_meth0 F_Asker_send (hr.mono (by decide)) (xv 0) (hc := O_Asker)))))))))))))
abbrev N__law_dice : List Str := ["_law_script", "_law_k", "_law_found", "_law_cell"]
theorem sc__law_dice : FnScope N__law_dice ["_law_script", "_law_k"] (defScope (sT 45)) := ⟨rfl, rfl, rfl, by decide +kernel, rfl, by decide +kernel, by decide +kernel⟩
theorem w__law_dice {P : Program} {w : World} {K : PySem.W.Frag} {mg : Str → Option Value} {base : Heap} {T : Tb} {f : Addr} {cl : D4.Cl} {fd : FuncData} (F : Fun K "_law_dice" "_law_dice" (sT 45) f fd) (B : Bm mg) (C : Cm K w mg) : FnOk P w K mg base CX0 1 f fd ["_law_script", "_law_k"] (lsp K T sp__law_dice) := by
  refine fn_d F sc__law_dice (fun ds S Q h => ?_) fun cdv A outer s H E hr => ⟨rd__law_dice, ?_, fun ds S R h => ok__law_dice ds S R h⟩
  · simp only [sp__law_dice] at h; first | (obtain ⟨_, rfl, _⟩ := h; rfl) | (obtain ⟨_, _, rfl, _⟩ := h; rfl) | (obtain ⟨_, _, _, rfl, _⟩ := h; rfl) | (obtain ⟨_, _, _, _, rfl, _⟩ := h; rfl)
  · exact (s_cons (s_set (i := 2) sc__law_dice.nd rfl (by first | exact Or.inl rfl | exact Or.inr rfl) (xv 1))
       (s_cons (s_for (tg := (.nm 3)) PassesOwn.never rfl (i_seq (xv 0)) (pg_name (i := 3) sc__law_dice.nd rfl (by first | exact Or.inl rfl | exact Or.inr rfl))
       (s_one (s_set (i := 2) sc__law_dice.nd rfl (by first | exact Or.inl rfl | exact Or.inr rfl) (x_op op_mod d_mod (x_op op_addV d_add (x_op op_mulV d_mul (xv 2) x_int) (x_callB call_abs d_abs (by rfl) B.abs (by decide +kernel) (a_cons (xv 3) a_nil))) x_int))))
       (s_one (s_ret (x_lstR (a_cons (xv 2) (a_cons x_int (a_cons (x_lcR (tg := (.nm 3)) (own := [("_law_cell", 3)]) rfl sc__law_dice.nd (i_seq (xv 0)) (blkOk_by (own := [("_law_cell", 3)]) (N := N__law_dice) (sc := defScope (sT 45)) (by decide +kernel)) (fun _ _ _ _ _ => (pg_name (i := 3) sc__law_dice.nd rfl (by first | exact Or.inl rfl | exact Or.inr rfl)))
       (fun _ _ _ _ _ => (ts_one (t_cmp op_ge d_ge (xv 3) (x_op op_pow d_pow x_int x_int) (nomark _))))
       (fun _ _ _ _ _ => (xv 3)) (by decide)) a_nil))))))))
abbrev N__law_off : List Str := ["_law_d", "_law_most", "_law_found"]
theorem sc__law_off : FnScope N__law_off ["_law_d", "_law_most"] (defScope (sT 46)) := ⟨rfl, rfl, rfl, by decide +kernel, rfl, by decide +kernel, by decide +kernel⟩
theorem w__law_off {P : Program} {w : World} {K : PySem.W.Frag} {mg : Str → Option Value} {base : Heap} {T : Tb} {f : Addr} {cl : D4.Cl} {fd : FuncData} (F : Fun K "_law_off" "_law_off" (sT 46) f fd) (B : Bm mg) (C : Cm K w mg) : FnOk P w K mg base CX0 1 f fd ["_law_d", "_law_most"] (lsp K T sp__law_off) := by
  refine fn_d F sc__law_off (fun ds S Q h => ?_) fun cdv A outer s H E hr => ⟨rd__law_off, ?_, fun ds S R h => ok__law_off ds S R h⟩
  · simp only [sp__law_off] at h; first | (obtain ⟨_, rfl, _⟩ := h; rfl) | (obtain ⟨_, _, rfl, _⟩ := h; rfl) | (obtain ⟨_, _, _, rfl, _⟩ := h; rfl) | (obtain ⟨_, _, _, _, rfl, _⟩ := h; rfl)
  · exact (s_cons (s_if (w_and (t_cmp (op_eqD hr.units) d_eq (x_ix (hu_of hr) (xv 0) x_int (fun _ _ => rfl)) x_int (nomark _)) (w_and1 (t_cmp (op_neD hr.units) d_ne (x_ix (hu_of hr) (xv 0) x_int (fun _ _ => rfl)) (x_lst a_nil) (nomark _)))).pt
       (s_one (s_setIx (xv 0) x_int (x_ml PySem.F.slot_list_pop PySem.F.type_list_pop mt_popAt d_popAt (x_ix (hu_of hr) (xv 0) x_int (fun _ _ => rfl)) (a_cons x_int a_nil))))
       s_nil)
       (s_cons (s_if (t_cmp op_gt d_gt (x_ix (hu_of hr) (xv 0) x_int (fun _ _ => rfl)) x_int (nomark _))
       (s_cons (s_set (i := 2) sc__law_off.nd rfl (by first | exact Or.inl rfl | exact Or.inr rfl) (x_op op_mod d_mod (x_ix (hu_of hr) (xv 0) x_int (fun _ _ => rfl)) (xv 1)))
       (s_cons (s_setIx (xv 0) x_int (x_op op_fdiv d_fdiv (x_ix (hu_of hr) (xv 0) x_int (fun _ _ => rfl)) (xv 1)))
       (s_one (s_ret (xv 2)))))
       s_nil)
       (s_cons (s_setIx (xv 0) x_int (x_op op_mod d_mod (x_op op_addV d_add (x_op op_mulV d_mul (x_ix (hu_of hr) (xv 0) x_int (fun _ _ => rfl)) x_int) x_int) x_int))
       (s_one (s_ret (x_op op_mod d_mod (x_op op_fdiv d_fdiv (x_ix (hu_of hr) (xv 0) x_int (fun _ _ => rfl)) x_int) (xv 1)))))))
abbrev N_al0 : List Str := ["_law_found", "_law_due", "_law_k"]
theorem sc_al0 : FnScope N_al0 ["_law_found", "_law_due"] (defScope (sT 47)) := ⟨rfl, rfl, rfl, by decide +kernel, rfl, by decide +kernel, by decide +kernel⟩
theorem w_al0 {P : Program} {w : World} {K : PySem.W.Frag} {mg : Str → Option Value} {base : Heap} {T : Tb} {f : Addr} {cl : D4.Cl} {fd : FuncData} (F : Fun K "_law_alike" "_law_alike" (sT 47) f fd) (B : Bm mg) (C : Cm K w mg) : FnOk P w K mg base CX0 1 f fd ["_law_found", "_law_due"] (lsp K T (sp_alike 0)) := by
  refine fn_d F sc_al0 (fun ds S Q h => ?_) fun cdv A outer s H E hr => ⟨rd__law_alike0, ?_, fun ds S R h => ok__law_alike0 ds S R h⟩
  · obtain ⟨x, y, rfl, _⟩ := h; rfl
  · exact (s_cons (s_if (t_cmp op_isN d_isN (xv 1) x_non (nomark _))
       (s_one (s_ret (x_cmp op_isN d_isN (xv 0) x_non (nomark _))))
       s_nil)
       (s_cons (s_if (t_val (x_isi (C := "bool") (xv 1) (by rfl) B.isinstance (by rfl) B.bool (by decide +kernel)))
       (s_one (s_ret (x_and (x_isi (C := "bool") (xv 0) (by rfl) B.isinstance (by rfl) B.bool (by decide +kernel)) (x_one (x_cmp (op_eqD hr.units) d_eq (xv 0) (xv 1) (nomark _))))))
       s_nil)
       (s_cons (s_if (t_val (x_isi (C := "int") (xv 1) (by rfl) B.isinstance (by rfl) B.int (by decide +kernel)))
       (s_one (s_ret (x_and (x_isi (C := "int") (xv 0) (by rfl) B.isinstance (by rfl) B.int (by decide +kernel)) (x_and (x_not (x_isi (C := "bool") (xv 0) (by rfl) B.isinstance (by rfl) B.bool (by decide +kernel))) (x_one (x_cmp (op_eqD hr.units) d_eq (xv 0) (xv 1) (nomark _)))))))
       s_nil)
       (s_cons (s_if (t_val (x_isi (C := "str") (xv 1) (by rfl) B.isinstance (by rfl) B.str (by decide +kernel)))
       (s_one (s_ret (x_and (x_isi (C := "str") (xv 0) (by rfl) B.isinstance (by rfl) B.str (by decide +kernel)) (x_one (x_cmp (op_eqD hr.units) d_eq (xv 0) (xv 1) (nomark _))))))
       s_nil)
       (s_cons (s_if (w_or (t_cmp (op_neD hr.units) d_ne (x_isi (C := "tuple") (xv 1) (by rfl) B.isinstance (by rfl) B.tuple (by decide +kernel)) (x_isi (C := "tuple") (xv 0) (by rfl) B.isinstance (by rfl) B.tuple (by decide +kernel)) (nomark _)) (w_or1 (t_cmp (op_neD hr.units) d_ne (x_isi (C := "list") (xv 1) (by rfl) B.isinstance (by rfl) B.list (by decide +kernel)) (x_isi (C := "list") (xv 0) (by rfl) B.isinstance (by rfl) B.list (by decide +kernel)) (nomark _)))).pt
       (s_one (s_ret x_bl))
       s_nil)
       (s_cons (s_if (t_cmp (op_neD hr.units) d_ne (x_callB call_len d_len (by rfl) B.len (by decide +kernel) (a_cons (xv 0) a_nil)) (x_callB call_len d_len (by rfl) B.len (by decide +kernel) (a_cons (xv 1) a_nil)) (nomark _))
       (s_one (s_ret x_bl))
       s_nil)
       ss_never))))))
abbrev N_al1 : List Str := ["_law_found", "_law_due", "_law_k"]
theorem sc_al1 : FnScope N_al1 ["_law_found", "_law_due"] (defScope (sT 47)) := ⟨rfl, rfl, rfl, by decide +kernel, rfl, by decide +kernel, by decide +kernel⟩
theorem w_al1 {P : Program} {w : World} {K : PySem.W.Frag} {mg : Str → Option Value} {base : Heap} {T : Tb} {f : Addr} {cl : D4.Cl} {fd : FuncData} (F : Fun K "_law_alike" "_law_alike" (sT 47) f fd) (B : Bm mg) (C : Cm K w mg) (F_al0 : DFn P w K mg base T 1 "_law_alike" (sp_alike 0)) : FnOk P w K mg base CX0 2 f fd ["_law_found", "_law_due"] (lsp K T (sp_alike 1)) := by
  refine fn_d F sc_al1 (fun ds S Q h => ?_) fun cdv A outer s H E hr => ⟨(rd__law_alike 0), ?_, fun ds S R h => ok__law_alike 0 ds S R h⟩
  · obtain ⟨x, y, rfl, _⟩ := h; rfl
  · exact (s_cons (s_if (t_cmp op_isN d_isN (xv 1) x_non (nomark _))
       (s_one (s_ret (x_cmp op_isN d_isN (xv 0) x_non (nomark _))))
       s_nil)
       (s_cons (s_if (t_val (x_isi (C := "bool") (xv 1) (by rfl) B.isinstance (by rfl) B.bool (by decide +kernel)))
       (s_one (s_ret (x_and (x_isi (C := "bool") (xv 0) (by rfl) B.isinstance (by rfl) B.bool (by decide +kernel)) (x_one (x_cmp (op_eqD hr.units) d_eq (xv 0) (xv 1) (nomark _))))))
       s_nil)
       (s_cons (s_if (t_val (x_isi (C := "int") (xv 1) (by rfl) B.isinstance (by rfl) B.int (by decide +kernel)))
       (s_one (s_ret (x_and (x_isi (C := "int") (xv 0) (by rfl) B.isinstance (by rfl) B.int (by decide +kernel)) (x_and (x_not (x_isi (C := "bool") (xv 0) (by rfl) B.isinstance (by rfl) B.bool (by decide +kernel))) (x_one (x_cmp (op_eqD hr.units) d_eq (xv 0) (xv 1) (nomark _)))))))
       s_nil)
       (s_cons (s_if (t_val (x_isi (C := "str") (xv 1) (by rfl) B.isinstance (by rfl) B.str (by decide +kernel)))
       (s_one (s_ret (x_and (x_isi (C := "str") (xv 0) (by rfl) B.isinstance (by rfl) B.str (by decide +kernel)) (x_one (x_cmp (op_eqD hr.units) d_eq (xv 0) (xv 1) (nomark _))))))
       s_nil)
       (s_cons (s_if (w_or (t_cmp (op_neD hr.units) d_ne (x_isi (C := "tuple") (xv 1) (by rfl) B.isinstance (by rfl) B.tuple (by decide +kernel)) (x_isi (C := "tuple") (xv 0) (by rfl) B.isinstance (by rfl) B.tuple (by decide +kernel)) (nomark _)) (w_or1 (t_cmp (op_neD hr.units) d_ne (x_isi (C := "list") (xv 1) (by rfl) B.isinstance (by rfl) B.list (by decide +kernel)) (x_isi (C := "list") (xv 0) (by rfl) B.isinstance (by rfl) B.list (by decide +kernel)) (nomark _)))).pt
       (s_one (s_ret x_bl))
       s_nil)
       (s_cons (s_if (t_cmp (op_neD hr.units) d_ne (x_callB call_len d_len (by rfl) B.len (by decide +kernel) (a_cons (xv 0) a_nil)) (x_callB call_len d_len (by rfl) B.len (by decide +kernel) (a_cons (xv 1) a_nil)) (nomark _))
       (s_one (s_ret x_bl))
       s_nil)
       (s_one (s_ret (x_callB (cr_all rfl) d_all (by rfl) B.all (by decide +kernel) (a_cons (x_lc (tg := (.nm 2)) (own := [("_law_k", 2)]) rfl sc_al1.nd (i_range1 (by rfl) B.range (a_cons (x_callB call_len d_len (by rfl) B.len (by decide +kernel) (a_cons (xv 1) a_nil)) a_nil)) (blkOk_by (own := [("_law_k", 2)]) (N := N_al1) (sc := defScope (sT 47)) (by decide +kernel)) (fun _ _ _ _ _ => (pg_name (i := 2) sc_al1.nd rfl (by first | exact Or.inl rfl | exact Or.inr rfl)))
       (fun _ _ _ _ _ => ts_nil)
       (fun _ _ _ _ _ => (x_call F_al0 (hr.mono (by decide)) (by rfl) (a_cons (x_ix (hu_of hr) (xv 0) (xv 2) (fun _ _ => rfl)) (a_cons (x_ix (hu_of hr) (xv 1) (xv 2) (fun _ _ => rfl)) a_nil)))) (by decide)) a_nil))))))))))
abbrev N_al2 : List Str := ["_law_found", "_law_due", "_law_k"]
theorem sc_al2 : FnScope N_al2 ["_law_found", "_law_due"] (defScope (sT 47)) := ⟨rfl, rfl, rfl, by decide +kernel, rfl, by decide +kernel, by decide +kernel⟩
theorem w_al2 {P : Program} {w : World} {K : PySem.W.Frag} {mg : Str → Option Value} {base : Heap} {T : Tb} {f : Addr} {cl : D4.Cl} {fd : FuncData} (F : Fun K "_law_alike" "_law_alike" (sT 47) f fd) (B : Bm mg) (C : Cm K w mg) (F_al1 : DFn P w K mg base T 2 "_law_alike" (sp_alike 1)) : FnOk P w K mg base CX0 3 f fd ["_law_found", "_law_due"] (lsp K T (sp_alike 2)) := by
  refine fn_d F sc_al2 (fun ds S Q h => ?_) fun cdv A outer s H E hr => ⟨(rd__law_alike 1), ?_, fun ds S R h => ok__law_alike 1 ds S R h⟩
  · obtain ⟨x, y, rfl, _⟩ := h; rfl
  · exact (s_cons (s_if (t_cmp op_isN d_isN (xv 1) x_non (nomark _))
       (s_one (s_ret (x_cmp op_isN d_isN (xv 0) x_non (nomark _))))
       s_nil)
       (s_cons (s_if (t_val (x_isi (C := "bool") (xv 1) (by rfl) B.isinstance (by rfl) B.bool (by decide +kernel)))
       (s_one (s_ret (x_and (x_isi (C := "bool") (xv 0) (by rfl) B.isinstance (by rfl) B.bool (by decide +kernel)) (x_one (x_cmp (op_eqD hr.units) d_eq (xv 0) (xv 1) (nomark _))))))
       s_nil)
       (s_cons (s_if (t_val (x_isi (C := "int") (xv 1) (by rfl) B.isinstance (by rfl) B.int (by decide +kernel)))
       (s_one (s_ret (x_and (x_isi (C := "int") (xv 0) (by rfl) B.isinstance (by rfl) B.int (by decide +kernel)) (x_and (x_not (x_isi (C := "bool") (xv 0) (by rfl) B.isinstance (by rfl) B.bool (by decide +kernel))) (x_one (x_cmp (op_eqD hr.units) d_eq (xv 0) (xv 1) (nomark _)))))))
       s_nil)
       (s_cons (s_if (t_val (x_isi (C := "str") (xv 1) (by rfl) B.isinstance (by rfl) B.str (by decide +kernel)))
       (s_one (s_ret (x_and (x_isi (C := "str") (xv 0) (by rfl) B.isinstance (by rfl) B.str (by decide +kernel)) (x_one (x_cmp (op_eqD hr.units) d_eq (xv 0) (xv 1) (nomark _))))))
       s_nil)
       (s_cons (s_if (w_or (t_cmp (op_neD hr.units) d_ne (x_isi (C := "tuple") (xv 1) (by rfl) B.isinstance (by rfl) B.tuple (by decide +kernel)) (x_isi (C := "tuple") (xv 0) (by rfl) B.isinstance (by rfl) B.tuple (by decide +kernel)) (nomark _)) (w_or1 (t_cmp (op_neD hr.units) d_ne (x_isi (C := "list") (xv 1) (by rfl) B.isinstance (by rfl) B.list (by decide +kernel)) (x_isi (C := "list") (xv 0) (by rfl) B.isinstance (by rfl) B.list (by decide +kernel)) (nomark _)))).pt
       (s_one (s_ret x_bl))
       s_nil)
       (s_cons (s_if (t_cmp (op_neD hr.units) d_ne (x_callB call_len d_len (by rfl) B.len (by decide +kernel) (a_cons (xv 0) a_nil)) (x_callB call_len d_len (by rfl) B.len (by decide +kernel) (a_cons (xv 1) a_nil)) (nomark _))
       (s_one (s_ret x_bl))
       s_nil)
       (s_one (s_ret (x_callB (cr_all rfl) d_all (by rfl) B.all (by decide +kernel) (a_cons (x_lc (tg := (.nm 2)) (own := [("_law_k", 2)]) rfl sc_al2.nd (i_range1 (by rfl) B.range (a_cons (x_callB call_len d_len (by rfl) B.len (by decide +kernel) (a_cons (xv 1) a_nil)) a_nil)) (blkOk_by (own := [("_law_k", 2)]) (N := N_al2) (sc := defScope (sT 47)) (by decide +kernel)) (fun _ _ _ _ _ => (pg_name (i := 2) sc_al2.nd rfl (by first | exact Or.inl rfl | exact Or.inr rfl)))
       (fun _ _ _ _ _ => ts_nil)
       (fun _ _ _ _ _ => (x_call F_al1 (hr.mono (by decide)) (by rfl) (a_cons (x_ix (hu_of hr) (xv 0) (xv 2) (fun _ _ => rfl)) (a_cons (x_ix (hu_of hr) (xv 1) (xv 2) (fun _ _ => rfl)) a_nil)))) (by decide)) a_nil))))))))))
abbrev N_al3 : List Str := ["_law_found", "_law_due", "_law_k"]
theorem sc_al3 : FnScope N_al3 ["_law_found", "_law_due"] (defScope (sT 47)) := ⟨rfl, rfl, rfl, by decide +kernel, rfl, by decide +kernel, by decide +kernel⟩
theorem w_al3 {P : Program} {w : World} {K : PySem.W.Frag} {mg : Str → Option Value} {base : Heap} {T : Tb} {f : Addr} {cl : D4.Cl} {fd : FuncData} (F : Fun K "_law_alike" "_law_alike" (sT 47) f fd) (B : Bm mg) (C : Cm K w mg) (F_al2 : DFn P w K mg base T 3 "_law_alike" (sp_alike 2)) : FnOk P w K mg base CX0 4 f fd ["_law_found", "_law_due"] (lsp K T (sp_alike 3)) := by
  refine fn_d F sc_al3 (fun ds S Q h => ?_) fun cdv A outer s H E hr => ⟨(rd__law_alike 2), ?_, fun ds S R h => ok__law_alike 2 ds S R h⟩
  · obtain ⟨x, y, rfl, _⟩ := h; rfl
  · exact (s_cons (s_if (t_cmp op_isN d_isN (xv 1) x_non (nomark _))
       (s_one (s_ret (x_cmp op_isN d_isN (xv 0) x_non (nomark _))))
       s_nil)
       (s_cons (s_if (t_val (x_isi (C := "bool") (xv 1) (by rfl) B.isinstance (by rfl) B.bool (by decide +kernel)))
       (s_one (s_ret (x_and (x_isi (C := "bool") (xv 0) (by rfl) B.isinstance (by rfl) B.bool (by decide +kernel)) (x_one (x_cmp (op_eqD hr.units) d_eq (xv 0) (xv 1) (nomark _))))))
       s_nil)
       (s_cons (s_if (t_val (x_isi (C := "int") (xv 1) (by rfl) B.isinstance (by rfl) B.int (by decide +kernel)))
       (s_one (s_ret (x_and (x_isi (C := "int") (xv 0) (by rfl) B.isinstance (by rfl) B.int (by decide +kernel)) (x_and (x_not (x_isi (C := "bool") (xv 0) (by rfl) B.isinstance (by rfl) B.bool (by decide +kernel))) (x_one (x_cmp (op_eqD hr.units) d_eq (xv 0) (xv 1) (nomark _)))))))
       s_nil)
       (s_cons (s_if (t_val (x_isi (C := "str") (xv 1) (by rfl) B.isinstance (by rfl) B.str (by decide +kernel)))
       (s_one (s_ret (x_and (x_isi (C := "str") (xv 0) (by rfl) B.isinstance (by rfl) B.str (by decide +kernel)) (x_one (x_cmp (op_eqD hr.units) d_eq (xv 0) (xv 1) (nomark _))))))
       s_nil)
       (s_cons (s_if (w_or (t_cmp (op_neD hr.units) d_ne (x_isi (C := "tuple") (xv 1) (by rfl) B.isinstance (by rfl) B.tuple (by decide +kernel)) (x_isi (C := "tuple") (xv 0) (by rfl) B.isinstance (by rfl) B.tuple (by decide +kernel)) (nomark _)) (w_or1 (t_cmp (op_neD hr.units) d_ne (x_isi (C := "list") (xv 1) (by rfl) B.isinstance (by rfl) B.list (by decide +kernel)) (x_isi (C := "list") (xv 0) (by rfl) B.isinstance (by rfl) B.list (by decide +kernel)) (nomark _)))).pt
       (s_one (s_ret x_bl))
       s_nil)
       (s_cons (s_if (t_cmp (op_neD hr.units) d_ne (x_callB call_len d_len (by rfl) B.len (by decide +kernel) (a_cons (xv 0) a_nil)) (x_callB call_len d_len (by rfl) B.len (by decide +kernel) (a_cons (xv 1) a_nil)) (nomark _))
       (s_one (s_ret x_bl))
       s_nil)
       (s_one (s_ret (x_callB (cr_all rfl) d_all (by rfl) B.all (by decide +kernel) (a_cons (x_lc (tg := (.nm 2)) (own := [("_law_k", 2)]) rfl sc_al3.nd (i_range1 (by rfl) B.range (a_cons (x_callB call_len d_len (by rfl) B.len (by decide +kernel) (a_cons (xv 1) a_nil)) a_nil)) (blkOk_by (own := [("_law_k", 2)]) (N := N_al3) (sc := defScope (sT 47)) (by decide +kernel)) (fun _ _ _ _ _ => (pg_name (i := 2) sc_al3.nd rfl (by first | exact Or.inl rfl | exact Or.inr rfl)))
       (fun _ _ _ _ _ => ts_nil)
       (fun _ _ _ _ _ => (x_call F_al2 (hr.mono (by decide)) (by rfl) (a_cons (x_ix (hu_of hr) (xv 0) (xv 2) (fun _ _ => rfl)) (a_cons (x_ix (hu_of hr) (xv 1) (xv 2) (fun _ _ => rfl)) a_nil)))) (by decide)) a_nil))))))))))
abbrev N_al4 : List Str := ["_law_found", "_law_due", "_law_k"]
theorem sc_al4 : FnScope N_al4 ["_law_found", "_law_due"] (defScope (sT 47)) := ⟨rfl, rfl, rfl, by decide +kernel, rfl, by decide +kernel, by decide +kernel⟩
theorem w_al4 {P : Program} {w : World} {K : PySem.W.Frag} {mg : Str → Option Value} {base : Heap} {T : Tb} {f : Addr} {cl : D4.Cl} {fd : FuncData} (F : Fun K "_law_alike" "_law_alike" (sT 47) f fd) (B : Bm mg) (C : Cm K w mg) (F_al3 : DFn P w K mg base T 4 "_law_alike" (sp_alike 3)) : FnOk P w K mg base CX0 5 f fd ["_law_found", "_law_due"] (lsp K T (sp_alike 4)) := by
  refine fn_d F sc_al4 (fun ds S Q h => ?_) fun cdv A outer s H E hr => ⟨(rd__law_alike 3), ?_, fun ds S R h => ok__law_alike 3 ds S R h⟩
  · obtain ⟨x, y, rfl, _⟩ := h; rfl
  · exact (s_cons (s_if (t_cmp op_isN d_isN (xv 1) x_non (nomark _))
       (s_one (s_ret (x_cmp op_isN d_isN (xv 0) x_non (nomark _))))
       s_nil)
       (s_cons (s_if (t_val (x_isi (C := "bool") (xv 1) (by rfl) B.isinstance (by rfl) B.bool (by decide +kernel)))
       (s_one (s_ret (x_and (x_isi (C := "bool") (xv 0) (by rfl) B.isinstance (by rfl) B.bool (by decide +kernel)) (x_one (x_cmp (op_eqD hr.units) d_eq (xv 0) (xv 1) (nomark _))))))
       s_nil)
       (s_cons (s_if (t_val (x_isi (C := "int") (xv 1) (by rfl) B.isinstance (by rfl) B.int (by decide +kernel)))
       (s_one (s_ret (x_and (x_isi (C := "int") (xv 0) (by rfl) B.isinstance (by rfl) B.int (by decide +kernel)) (x_and (x_not (x_isi (C := "bool") (xv 0) (by rfl) B.isinstance (by rfl) B.bool (by decide +kernel))) (x_one (x_cmp (op_eqD hr.units) d_eq (xv 0) (xv 1) (nomark _)))))))
       s_nil)
       (s_cons (s_if (t_val (x_isi (C := "str") (xv 1) (by rfl) B.isinstance (by rfl) B.str (by decide +kernel)))
       (s_one (s_ret (x_and (x_isi (C := "str") (xv 0) (by rfl) B.isinstance (by rfl) B.str (by decide +kernel)) (x_one (x_cmp (op_eqD hr.units) d_eq (xv 0) (xv 1) (nomark _))))))
       s_nil)
       (s_cons (s_if (w_or (t_cmp (op_neD hr.units) d_ne (x_isi (C := "tuple") (xv 1) (by rfl) B.isinstance (by rfl) B.tuple (by decide +kernel)) (x_isi (C := "tuple") (xv 0) (by rfl) B.isinstance (by rfl) B.tuple (by decide +kernel)) (nomark _)) (w_or1 (t_cmp (op_neD hr.units) d_ne (x_isi (C := "list") (xv 1) (by rfl) B.isinstance (by rfl) B.list (by decide +kernel)) (x_isi (C := "list") (xv 0) (by rfl) B.isinstance (by rfl) B.list (by decide +kernel)) (nomark _)))).pt
       (s_one (s_ret x_bl))
       s_nil)
       (s_cons (s_if (t_cmp (op_neD hr.units) d_ne (x_callB call_len d_len (by rfl) B.len (by decide +kernel) (a_cons (xv 0) a_nil)) (x_callB call_len d_len (by rfl) B.len (by decide +kernel) (a_cons (xv 1) a_nil)) (nomark _))
       (s_one (s_ret x_bl))
       s_nil)
       (s_one (s_ret (x_callB (cr_all rfl) d_all (by rfl) B.all (by decide +kernel) (a_cons (x_lc (tg := (.nm 2)) (own := [("_law_k", 2)]) rfl sc_al4.nd (i_range1 (by rfl) B.range (a_cons (x_callB call_len d_len (by rfl) B.len (by decide +kernel) (a_cons (xv 1) a_nil)) a_nil)) (blkOk_by (own := [("_law_k", 2)]) (N := N_al4) (sc := defScope (sT 47)) (by decide +kernel)) (fun _ _ _ _ _ => (pg_name (i := 2) sc_al4.nd rfl (by first | exact Or.inl rfl | exact Or.inr rfl)))
       (fun _ _ _ _ _ => ts_nil)
       (fun _ _ _ _ _ => (x_call F_al3 (hr.mono (by decide)) (by rfl) (a_cons (x_ix (hu_of hr) (xv 0) (xv 2) (fun _ _ => rfl)) (a_cons (x_ix (hu_of hr) (xv 1) (xv 2) (fun _ _ => rfl)) a_nil)))) (by decide)) a_nil))))))))))
abbrev N__law_alike_h : List Str := ["_law_found", "_law_due", "_law_k"]
theorem sc__law_alike_h : FnScope N__law_alike_h ["_law_found", "_law_due"] (defScope (sT 47)) := ⟨rfl, rfl, rfl, by decide +kernel, rfl, by decide +kernel, by decide +kernel⟩
theorem w__law_alike_h {P : Program} {w : World} {K : PySem.W.Frag} {mg : Str → Option Value} {base : Heap} {T : Tb} {f : Addr} {cl : D4.Cl} {fd : FuncData} (F : Fun K "_law_alike" "_law_alike" (sT 47) f fd) (B : Bm mg) (C : Cm K w mg) : L2H.FnH P w K mg base CX0 1 f fd ["_law_found", "_law_due"] (lsp K T D4.sp_alike_i) := by
  refine fn_dH F sc__law_alike_h (fun ds S Q h => ?_) fun cdv A outer s H E p hp hr => ⟨D4.rd__law_alike_h, ?_, fun ds S R h => D4.ok__law_alike_h ds S R h⟩
  · first | (obtain ⟨_, rfl, _⟩ := h; rfl) | (obtain ⟨_, _, rfl, _⟩ := h; rfl) | (obtain ⟨_, _, _, rfl, _⟩ := h; rfl) | (obtain ⟨_, _, _, _, rfl, _⟩ := h; rfl) | (obtain ⟨_, _, _, _, _, rfl, _⟩ := h; rfl)
  · exact (s_cons (s_if (t_cmp op_isN d_isN (xv 1) x_non (nomark _))
       (s_one (s_ret (x_cmp op_isN d_isN (xv 0) x_non (nomark _))))
       s_nil)
       (s_cons (s_if (t_val (x_isi (C := "bool") (xv 1) (by rfl) B.isinstance (by rfl) B.bool (by decide +kernel)))
       (s_one (s_ret (x_and (x_isi (C := "bool") (xv 0) (by rfl) B.isinstance (by rfl) B.bool (by decide +kernel)) (x_one (x_cmp (op_eqD (hot_units hr)) d_eq (xv 0) (xv 1) (nomark _))))))
       s_nil)
       (s_cons (s_if (t_val (x_isi (C := "int") (xv 1) (by rfl) B.isinstance (by rfl) B.int (by decide +kernel)))
       (s_one (s_ret (x_and (x_isi (C := "int") (xv 0) (by rfl) B.isinstance (by rfl) B.int (by decide +kernel)) (x_and (x_not (x_isi (C := "bool") (xv 0) (by rfl) B.isinstance (by rfl) B.bool (by decide +kernel))) (x_one (x_cmp (op_eqD (hot_units hr)) d_eq (xv 0) (xv 1) (nomark _)))))))
       s_nil)
       ss_never)))
abbrev N__law_refused : List Str := ["_law_work", "_law_word", "_law_value", "_law_e", "_law_kinds", "_law_words", "_law_one"]
theorem sc__law_refused : FnScope N__law_refused ["_law_work", "_law_word", "_law_value"] (defScope (sT 48)) := ⟨rfl, rfl, rfl, by decide +kernel, rfl, by decide +kernel, by decide +kernel⟩
theorem w__law_refused {P : Program} {w : World} {K : PySem.W.Frag} {mg : Str → Option Value} {base : Heap} {T : Tb} {f : Addr} {cl : D4.Cl} {fd : FuncData} (F : Fun K "_law_refused" "_law_refused" (sT 48) f fd) (bi : Binds K fd ["_law_work", "_law_word", "_law_value"] []) (hm : mg "_law_refused" = some (.ref f)) (hk : PySem.W.keepIn K (.ref f) = true) (B : Bm mg) (C : Cm K w mg) {SC : Addr} (EF : ErrF K mg D4.RN CSk SC) (F__law_alike_h : DFnH P w K mg base T 1 "_law_alike" D4.sp_alike_i) : DGn P w K mg base T 5 "_law_refused" D4.spg__law_refused := by
  refine fn_g F sc__law_refused bi hm hk (fun b ds S Q h => ?_) fun cdv A outer s H F fr ws dws b hr LW CW nfW => ⟨D4.rd__law_refused F ws dws b, ?_, fun ds S R h => D4.okg__law_refused F ws dws b ds S R h⟩
  · obtain ⟨_, ⟨rfl, _⟩ | ⟨rfl, _⟩, _⟩ := h <;> rfl
  · exact (s_cons (s_tryAs (RN := D4.RN) (i := 3) rfl rfl sc__law_refused.nd rfl rfl ⟨by rfl, by decide, .inl EF.s⟩ EF.exm (fun W pn xe tk _ => (sy_one (sy_expr (xy_act tk LW (hr.mono (by decide)) CW nfW (fun _ _ _ z => nomatch z) rfl (.inl rfl)))))
       (fun a oe nm C d pn hm g hz hf => (s_cons (s_set (i := 4) sc__law_refused.nd rfl (by first | exact Or.inl rfl | exact Or.inr rfl) (x_lst (a_cons (x_isiF EF hm g hz hf (by decide) (by rfl) B.isinstance (by rfl) (pv 3)) (a_cons (x_isiF EF hm g hz hf (by decide) (by rfl) B.isinstance (by rfl) (pv 3)) (a_cons (x_isiF EF hm g hz hf (by decide) (by rfl) B.isinstance (by rfl) (pv 3)) (a_cons (x_isiF EF hm g hz hf (by decide) (by rfl) B.isinstance (by rfl) (pv 3)) a_nil))))))
       (s_cons (s_set (i := 4) sc__law_refused.nd rfl (by first | exact Or.inl rfl | exact Or.inr rfl) (x_op op_addV d_add (xv 4) (x_lst (a_cons (x_isiF EF hm g hz hf (by decide) (by rfl) B.isinstance (by rfl) (pv 3)) (a_cons (x_isiF EF hm g hz hf (by decide) (by rfl) B.isinstance (by rfl) (pv 3)) (a_cons (x_isiF EF hm g hz hf (by decide) (by rfl) B.isinstance (by rfl) (pv 3)) a_nil))))))
       (s_cons (s_set (i := 5) sc__law_refused.nd rfl (by first | exact Or.inl rfl | exact Or.inr rfl) (x_lst (a_cons x_str (a_cons x_str (a_cons x_str (a_cons x_str (a_cons x_str (a_cons x_str (a_cons x_str (a_cons x_str a_nil))))))))))
       (s_cons (s_if (w_or (t_not (t_val (x_isiVE EF hm g hz hf (by rfl) B.isinstance (by rfl) B.ValueError (pv 3)))) (w_or1 (t_cmp (op_neD hr.units) d_ne (x_op op_addV d_add (xv 4) (x_lst (a_cons (x_isiF EF hm g hz hf (by decide) (by rfl) B.isinstance (by rfl) (pv 3)) a_nil))) (x_lcH (tg := (.nm 6)) (own := [("_law_one", 6)]) (hot_suite hz hf) sc__law_refused.nd (i_listH (xv 5)) (blkOk_by (own := [("_law_one", 6)]) (N := N__law_refused) (sc := defScope (sT 48)) (by decide +kernel)) (fun _ _ _ _ _ => (pg_name (i := 6) sc__law_refused.nd rfl (by first | exact Or.inl rfl | exact Or.inr rfl)))
       (fun _ _ _ _ _ => ts_nil)
       (fun _ _ _ _ _ => (x_cmp (op_eqD hr.units) d_eq (xv 1) (xv 6) (nomark _))) (by decide)) (nomark _)))).pt
       (s_one (s_ret x_bl))
       s_nil)
       (s_cons (s_if (t_cmp (op_eqD hr.units) d_eq (xv 1) x_str (nomark _))
       (s_one (s_ret (x_callH F__law_alike_h ((room_hot hr _).mono (by decide)) (hot_suite hz hf) (by rfl) (a_cons (x_exFF EF hm g hz hf (pv 3)) (a_cons (xv 2) a_nil)))))
       s_nil)
       (s_one (s_ret (x_or (x_cmp (op_neD hr.units) d_ne (xv 1) x_str (nomark _)) (x_one (x_callH F__law_alike_h ((room_hot hr _).mono (by decide)) (hot_suite hz hf) (by rfl) (a_cons (x_exFF EF hm g hz hf (pv 3)) (a_cons (xv 2) a_nil))))))))))))))
       (s_one (s_ret x_bl)))
abbrev N__law_none : List Str := ["_law_d", "_law_far", "_law_some"]
theorem sc__law_none : FnScope N__law_none ["_law_d"] (defScope (sT 49)) := ⟨rfl, rfl, rfl, by decide +kernel, rfl, by decide +kernel, by decide +kernel⟩
theorem w__law_none {P : Program} {w : World} {K : PySem.W.Frag} {mg : Str → Option Value} {base : Heap} {T : Tb} {f : Addr} {cl : D4.Cl} {fd : FuncData} (F : Fun K "_law_none" "_law_none" (sT 49) f fd) (B : Bm mg) (C : Cm K w mg) (F__law_off : DFn P w K mg base T 1 "_law_off" sp__law_off) : FnOk P w K mg base CX0 2 f fd ["_law_d"] (lsp K T D4.sp__law_none) := by
  refine fn_d F sc__law_none (fun ds S Q h => ?_) fun cdv A outer s H E hr => ⟨D4.rd__law_none, ?_, fun ds S R h => D4.ok__law_none ds S R h⟩
  · first | (obtain ⟨_, rfl, _⟩ := h; rfl) | (obtain ⟨_, _, rfl, _⟩ := h; rfl) | (obtain ⟨_, _, _, rfl, _⟩ := h; rfl) | (obtain ⟨_, _, _, _, rfl, _⟩ := h; rfl) | (obtain ⟨_, _, _, _, _, rfl, _⟩ := h; rfl)
  · exact (s_cons (s_set (i := 1) sc__law_none.nd rfl (by first | exact Or.inl rfl | exact Or.inr rfl) (x_callB (call_max2 rfl) d_m2 (by rfl) B.max (by decide +kernel) (a_cons x_int (a_cons (x_op op_sub d_sub (x_call F__law_off (hr.mono (by decide)) (by rfl) (a_cons (xv 0) (a_cons (x_op op_pow d_pow x_int x_int) a_nil))) x_int) a_nil))))
       (s_cons (s_set (i := 2) sc__law_none.nd rfl (by first | exact Or.inl rfl | exact Or.inr rfl) (x_lst (a_cons x_tupP0 (a_cons (x_tup (a_cons x_str a_nil)) (a_cons (x_tup (a_cons x_str (a_cons (x_op op_addV d_add x_int (xv 1)) a_nil))) (a_cons (x_tup (a_cons x_str (a_cons (x_op op_sub d_sub (x_neg x_int) (xv 1)) a_nil))) (a_cons (x_tup (a_cons x_str (a_cons x_int (a_cons x_int a_nil)))) (a_cons (x_tup (a_cons x_str (a_cons x_int a_nil))) (a_cons (x_tup (a_cons x_str (a_cons x_bl a_nil))) a_nil)))))))))
       (s_cons (s_set (i := 2) sc__law_none.nd rfl (by first | exact Or.inl rfl | exact Or.inr rfl) (x_op op_addV d_add (xv 2) (x_lst (a_cons (x_tup (a_cons x_str (a_cons x_non a_nil))) (a_cons (x_tup (a_cons x_str (a_cons x_int a_nil))) (a_cons (x_tup (a_cons x_str (a_cons x_int (a_cons (x_op op_addV d_add x_int (xv 1)) a_nil)))) (a_cons (x_tup (a_cons x_str (a_cons x_int (a_cons (x_neg x_int) a_nil)))) (a_cons (x_tup (a_cons x_str (a_cons x_int (a_cons x_bl a_nil)))) a_nil))))))))
       (s_cons (s_set (i := 2) sc__law_none.nd rfl (by first | exact Or.inl rfl | exact Or.inr rfl) (x_op op_addV d_add (xv 2) (x_lst (a_cons (x_tup (a_cons x_str (a_cons x_int (a_cons x_int a_nil)))) (a_cons (x_tup (a_cons x_str (a_cons x_str (a_cons x_int a_nil)))) (a_cons (x_tup (a_cons x_str (a_cons x_int (a_cons x_int a_nil)))) (a_cons (x_tup (a_cons x_str (a_cons x_int (a_cons x_int (a_cons x_int a_nil))))) (a_cons (x_tup (a_cons x_str (a_cons x_int (a_cons (x_neg x_int) (a_cons x_int a_nil))))) a_nil))))))))
       (s_cons (s_set (i := 2) sc__law_none.nd rfl (by first | exact Or.inl rfl | exact Or.inr rfl) (x_op op_addV d_add (xv 2) (x_lst (a_cons (x_tup (a_cons x_str (a_cons x_tupP0 a_nil))) (a_cons (x_tup (a_cons x_str (a_cons x_int a_nil))) a_nil)))))
       (s_cons (s_set (i := 2) sc__law_none.nd rfl (by first | exact Or.inl rfl | exact Or.inr rfl) (x_op op_addV d_add (xv 2) (x_lst (a_cons (x_tup (a_cons x_str (a_cons (x_tup (a_cons x_int (a_cons x_int a_nil))) a_nil))) (a_cons (x_tup (a_cons x_str (a_cons (x_tup (a_cons x_int (a_cons x_int a_nil))) a_nil))) (a_cons (x_tup (a_cons x_str (a_cons (x_tup (a_cons x_int (a_cons x_int (a_cons x_int (a_cons x_int (a_cons x_int (a_cons x_int (a_cons x_int a_nil)))))))) a_nil))) (a_cons (x_tup (a_cons x_str (a_cons (x_tup (a_cons x_int (a_cons x_int a_nil))) a_nil))) a_nil)))))))
       (s_cons (s_set (i := 2) sc__law_none.nd rfl (by first | exact Or.inl rfl | exact Or.inr rfl) (x_op op_addV d_add (xv 2) (x_lst (a_cons (x_tup (a_cons x_str (a_cons (x_tup (a_cons x_int (a_cons x_bl a_nil))) a_nil))) (a_cons (x_tup (a_cons x_str a_nil)) a_nil)))))
       (s_cons (s_set (i := 2) sc__law_none.nd rfl (by first | exact Or.inl rfl | exact Or.inr rfl) (x_op op_addV d_add (xv 2) (x_lst (a_cons (x_tup (a_cons x_str (a_cons x_int a_nil))) (a_cons (x_tup (a_cons x_str (a_cons x_int a_nil))) (a_cons (x_tup (a_cons x_str (a_cons x_int a_nil))) (a_cons (x_tup (a_cons x_str (a_cons (x_neg x_int) a_nil))) (a_cons (x_tup (a_cons x_str (a_cons x_int (a_cons x_int a_nil)))) (a_cons (x_tup (a_cons x_int (a_cons x_int a_nil))) (a_cons (x_tup (a_cons x_str (a_cons x_int a_nil))) (a_cons (x_tup (a_cons x_str a_nil)) a_nil)))))))))))
       (s_one (s_ret (x_ix (hu_of hr) (xv 2) (x_call F__law_off (hr.mono (by decide)) (by rfl) (a_cons (xv 0) (a_cons (x_callB call_len d_len (by rfl) B.len (by decide +kernel) (a_cons (xv 2) a_nil)) a_nil))) (fun _ _ => rfl))))))))))))
abbrev N_law : List Str := ["_law_script", "_law_d", "_law_far", "_law_low", "_law_high", "_law_kept", "_law_none_here", "_law_asker", "_law_works", "_law_work", "_law_some", "_law_odd", "_law_keys", "_law_key"]
theorem sc_law : FnScope N_law ["_law_script"] (defScope (sT 50)) := ⟨rfl, rfl, rfl, by decide +kernel, rfl, by decide +kernel, by decide +kernel⟩
abbrev asgE (s : Stmt) : Expr := match s with | .Assign _ e _ => e | .Expr e _ => e | _ => .Name "" ⟨0, 0, 0, 0⟩
abbrev ifB (s : Stmt) (i : Nat) : Stmt := match s with | .If _ b _ _ => b.getD i (.Pass ⟨0, 0, 0, 0⟩) | _ => s
abbrev lstE (e : Expr) (i : Nat) : Expr := match e with | .List es _ => es.getD i (.Name "" ⟨0, 0, 0, 0⟩) | .Call _ es _ _ => es.getD i (.Name "" ⟨0, 0, 0, 0⟩) | _ => e
abbrev lamP (e : Expr) : Arguments := match e with | .Lambda a _ _ _ => a | _ => { posonlyargs := [], args := [], vararg := none, kwonlyargs := [], kw_defaults := [], kwarg := none, defaults := [] }
abbrev lamB (e : Expr) : Expr := match e with | .Lambda _ b _ _ => b | _ => e
abbrev lamS (s0 : Scope) (e : Expr) : Scope := match e with | .Lambda _ _ s _ => s | _ => s0
abbrev lx0 : Expr := lstE (asgE ((defBody (sT 50)).getD 7 (.Pass ⟨0, 0, 0, 0⟩))) 1
abbrev lx1 : Expr := lstE (asgE ((defBody (sT 50)).getD 7 (.Pass ⟨0, 0, 0, 0⟩))) 0
abbrev lx2 : Expr := lstE (asgE ((defBody (sT 50)).getD 14 (.Pass ⟨0, 0, 0, 0⟩))) 1
abbrev lx3 : Expr := lstE (asgE ((defBody (sT 50)).getD 14 (.Pass ⟨0, 0, 0, 0⟩))) 0
abbrev lx4 : Expr := lstE (asgE ((defBody (sT 50)).getD 15 (.Pass ⟨0, 0, 0, 0⟩))) 0
abbrev lx5 : Expr := lstE (asgE ((defBody (sT 50)).getD 16 (.Pass ⟨0, 0, 0, 0⟩))) 0
abbrev lx6 : Expr := lstE (asgE (ifB ((defBody (sT 50)).getD 17 (.Pass ⟨0, 0, 0, 0⟩)) 0)) 0
abbrev lx7 : Expr := lstE (asgE (ifB ((defBody (sT 50)).getD 18 (.Pass ⟨0, 0, 0, 0⟩)) 0)) 0
abbrev lx8 : Expr := lstE (asgE (ifB ((defBody (sT 50)).getD 18 (.Pass ⟨0, 0, 0, 0⟩)) 1)) 0
abbrev Lk (cells : List (Str × Addr)) (qual : Str) (e : Expr) : Addr → Option Addr → LF := mkLF cells qual (lamP e) (lamB e) (lamS (defScope (sT 50)) e)
def Lw (cells : List (Str × Addr)) (qual : Str) : Nat → Addr → Option Addr → LF
  | 0 => Lk cells qual lx0
  | 1 => Lk cells qual lx1
  | 2 => Lk cells qual lx2
  | 3 => Lk cells qual lx3
  | 4 => Lk cells qual lx4
  | 5 => Lk cells qual lx5
  | 6 => Lk cells qual lx6
  | 7 => Lk cells qual lx7
  | 8 => Lk cells qual lx8
  | _ => Lk cells qual lx0
theorem ns0 : NdefX.nscB ["_law_a", "_law_asker", "_law_none_here"] ["_law_a"] ["_law_asker", "_law_none_here"] (lamS (defScope (sT 50)) lx0) = true := by decide +kernel
theorem nf0 : NdefX.ndefB (defScope (sT 50)) (lamS (defScope (sT 50)) lx0) ["_law_asker", "_law_none_here"] = true := by decide +kernel
theorem lo0 {P : Program} {w : World} {K : PySem.W.Frag} {mg : Str → Option Value} {base : Heap} {T : Tb} {cells : List (Str × Addr)} {qual : Str} {cl : D4.Cl} (B : Bm mg) (C : Cm K w mg) (O_Asker : Cls K cl.asker) (F_asked : DFy P w K mg base T 4 "asked" D4.spy_asked) (F_fresh : DFy P w K mg base T 4 "fresh" D4.spy_fresh) (F_halves : DFy P w K mg base T 3 "halves" D4.spy_halves) (F_joined : DFy P w K mg base T 3 "joined" D4.spy_joined) (F_Asker_ask : DMy P w K mg base T 4 cl.asker "ask" (D4.spy_Asker_ask cl)) (c t : Addr) : LOk P w K mg base T 5 (Lw cells qual 0 c (some t)) ["_law_asker", "_law_none_here"] (D4.be0 cl) :=
  lok_ofD (a := "_law_a") (F := Lw cells qual 0 c (some t)) (t := t) (Ψ := fun τ S R RE => (dMethY cl.asker "ask" (D4.spy_Asker_ask cl) (dVar 1) (dCons (dVar 2) dNil)) τ S R RE) (NdefX.nscope_by ns0) rfl (fun pm ctv u => ⟨_, rfl, rfl⟩) fun A outer s H f E hr => (xy_meth (L2N.takes_of rfl rfl rfl rfl) F_Asker_ask (hr.mono (by decide)) (xv 1) (a_cons (xv 2) a_nil) O_Asker)
theorem ns1 : NdefX.nscB ["_law_kept", "_law_none_here"] [] ["_law_kept", "_law_none_here"] (lamS (defScope (sT 50)) lx1) = true := by decide +kernel
theorem nf1 : NdefX.ndefB (defScope (sT 50)) (lamS (defScope (sT 50)) lx1) ["_law_kept", "_law_none_here"] = true := by decide +kernel
theorem lo1 {P : Program} {w : World} {K : PySem.W.Frag} {mg : Str → Option Value} {base : Heap} {T : Tb} {cells : List (Str × Addr)} {qual : Str} {cl : D4.Cl} (B : Bm mg) (C : Cm K w mg) (O_Asker : Cls K cl.asker) (F_asked : DFy P w K mg base T 4 "asked" D4.spy_asked) (F_fresh : DFy P w K mg base T 4 "fresh" D4.spy_fresh) (F_halves : DFy P w K mg base T 3 "halves" D4.spy_halves) (F_joined : DFy P w K mg base T 3 "joined" D4.spy_joined) (F_Asker_ask : DMy P w K mg base T 4 cl.asker "ask" (D4.spy_Asker_ask cl)) (c : Addr) : LOk P w K mg base T 5 (Lw cells qual 1 c none) ["_law_kept", "_law_none_here"] (D4.be1 cl) :=
  lok_of (F := Lw cells qual 1 c none) (Ψ := fun τ S R RE => (dCallY D4.spy_asked (dCons (dVar 0) (dCons (dC (.int 0)) (dCons (dC (.int 1)) (dCons (dVar 1) dNil))))) τ S R RE) (NdefX.nscope_by ns1) rfl (fun pm ctv => rfl) fun A outer s H f E hr => (xy_call (L2N.takes_of rfl rfl rfl rfl) F_asked (hr.mono (by decide)) (by rfl) (a_cons (xv 0) (a_cons x_int (a_cons x_int (a_cons (xv 1) a_nil)))))
theorem ns2 : NdefX.nscB ["_law_a", "_law_far", "_law_high", "_law_kept", "_law_low"] ["_law_a"] ["_law_far", "_law_high", "_law_kept", "_law_low"] (lamS (defScope (sT 50)) lx2) = true := by decide +kernel
theorem nf2 : NdefX.ndefB (defScope (sT 50)) (lamS (defScope (sT 50)) lx2) ["_law_far", "_law_high", "_law_kept", "_law_low"] = true := by decide +kernel
theorem lo2 {P : Program} {w : World} {K : PySem.W.Frag} {mg : Str → Option Value} {base : Heap} {T : Tb} {cells : List (Str × Addr)} {qual : Str} {cl : D4.Cl} (B : Bm mg) (C : Cm K w mg) (O_Asker : Cls K cl.asker) (F_asked : DFy P w K mg base T 4 "asked" D4.spy_asked) (F_fresh : DFy P w K mg base T 4 "fresh" D4.spy_fresh) (F_halves : DFy P w K mg base T 3 "halves" D4.spy_halves) (F_joined : DFy P w K mg base T 3 "joined" D4.spy_joined) (F_Asker_ask : DMy P w K mg base T 4 cl.asker "ask" (D4.spy_Asker_ask cl)) (c t : Addr) : LOk P w K mg base T 5 (Lw cells qual 2 c (some t)) ["_law_far", "_law_high", "_law_kept", "_law_low"] (D4.be2 cl) :=
  lok_ofD (a := "_law_a") (F := Lw cells qual 2 c (some t)) (t := t) (Ψ := fun τ S R RE => (dCallY D4.spy_halves (dCons (dVar 3) (dCons (d2 rIxD (dLst (dCons (dVar 4) (dCons (dVar 2) (dCons (dNeg (dC (.int 1))) (dCons (d2 rAddD (dC (.int 100)) (dVar 1)) dNil))))) (d2 rModD (dVar 1) (dC (.int 4)))) dNil))) τ S R RE) (NdefX.nscope_by ns2) rfl (fun pm ctv u => ⟨_, rfl, rfl⟩) fun A outer s H f E hr => (xy_call (L2N.takes_of rfl rfl rfl rfl) F_halves (hr.mono (by decide)) (by rfl) (a_cons (xv 3) (a_cons (x_ix (hu_of hr) (x_lst (a_cons (xv 4) (a_cons (xv 2) (a_cons (x_neg x_int) (a_cons (x_op op_addV d_add x_int (xv 1)) a_nil))))) (x_op op_mod d_mod (xv 1) x_int) (fun _ _ => rfl)) a_nil)))
theorem ns3 : NdefX.nscB ["_law_odd"] [] ["_law_odd"] (lamS (defScope (sT 50)) lx3) = true := by decide +kernel
theorem nf3 : NdefX.ndefB (defScope (sT 50)) (lamS (defScope (sT 50)) lx3) ["_law_odd"] = true := by decide +kernel
theorem lo3 {P : Program} {w : World} {K : PySem.W.Frag} {mg : Str → Option Value} {base : Heap} {T : Tb} {cells : List (Str × Addr)} {qual : Str} {cl : D4.Cl} (B : Bm mg) (C : Cm K w mg) (O_Asker : Cls K cl.asker) (F_asked : DFy P w K mg base T 4 "asked" D4.spy_asked) (F_fresh : DFy P w K mg base T 4 "fresh" D4.spy_fresh) (F_halves : DFy P w K mg base T 3 "halves" D4.spy_halves) (F_joined : DFy P w K mg base T 3 "joined" D4.spy_joined) (F_Asker_ask : DMy P w K mg base T 4 cl.asker "ask" (D4.spy_Asker_ask cl)) (c : Addr) : LOk P w K mg base T 5 (Lw cells qual 3 c none) ["_law_odd"] (D4.be3 cl) :=
  lok_of (F := Lw cells qual 3 c none) (Ψ := fun τ S R RE => (dCallY D4.spy_fresh (dCons (d2 rIxD (dVar 0) (dC (.int 0))) (dCons (d2 rIxD (dVar 0) (dC (.int 1))) (dCons (d2 rIxD (dVar 0) (dC (.int 2))) dNil)))) τ S R RE) (NdefX.nscope_by ns3) rfl (fun pm ctv => rfl) fun A outer s H f E hr => (xy_call (L2N.takes_of rfl rfl rfl rfl) F_fresh (hr.mono (by decide)) (by rfl) (a_cons (x_ix (hu_of hr) (xv 0) x_int (fun _ _ => rfl)) (a_cons (x_ix (hu_of hr) (xv 0) x_int (fun _ _ => rfl)) (a_cons (x_ix (hu_of hr) (xv 0) x_int (fun _ _ => rfl)) a_nil))))
theorem ns4 : NdefX.nscB ["_law_b", "_law_kept", "_law_low"] ["_law_b"] ["_law_kept", "_law_low"] (lamS (defScope (sT 50)) lx4) = true := by decide +kernel
theorem nf4 : NdefX.ndefB (defScope (sT 50)) (lamS (defScope (sT 50)) lx4) ["_law_kept", "_law_low"] = true := by decide +kernel
theorem lo4 {P : Program} {w : World} {K : PySem.W.Frag} {mg : Str → Option Value} {base : Heap} {T : Tb} {cells : List (Str × Addr)} {qual : Str} {cl : D4.Cl} (B : Bm mg) (C : Cm K w mg) (O_Asker : Cls K cl.asker) (F_asked : DFy P w K mg base T 4 "asked" D4.spy_asked) (F_fresh : DFy P w K mg base T 4 "fresh" D4.spy_fresh) (F_halves : DFy P w K mg base T 3 "halves" D4.spy_halves) (F_joined : DFy P w K mg base T 3 "joined" D4.spy_joined) (F_Asker_ask : DMy P w K mg base T 4 cl.asker "ask" (D4.spy_Asker_ask cl)) (c t : Addr) : LOk P w K mg base T 5 (Lw cells qual 4 c (some t)) ["_law_kept", "_law_low"] (D4.be4 cl) :=
  lok_ofD (a := "_law_b") (F := Lw cells qual 4 c (some t)) (t := t) (Ψ := fun τ S R RE => (dCallY D4.spy_asked (dCons (dVar 1) (dCons (dC (.int 0)) (dCons (dC (.int 1)) (dCons (dTup (dCons (dC (.str "look")) (dCons (dTup (dCons (dVar 2) dNil)) dNil))) dNil))))) τ S R RE) (NdefX.nscope_by ns4) rfl (fun pm ctv u => ⟨_, rfl, rfl⟩) fun A outer s H f E hr => (xy_call (L2N.takes_of rfl rfl rfl rfl) F_asked (hr.mono (by decide)) (by rfl) (a_cons (xv 1) (a_cons x_int (a_cons x_int (a_cons (x_tup (a_cons x_str (a_cons (x_tup (a_cons (xv 2) a_nil)) a_nil))) a_nil)))))
theorem ns5 : NdefX.nscB ["_law_c", "_law_far", "_law_kept", "_law_low"] ["_law_c"] ["_law_far", "_law_kept", "_law_low"] (lamS (defScope (sT 50)) lx5) = true := by decide +kernel
theorem nf5 : NdefX.ndefB (defScope (sT 50)) (lamS (defScope (sT 50)) lx5) ["_law_far", "_law_kept", "_law_low"] = true := by decide +kernel
theorem lo5 {P : Program} {w : World} {K : PySem.W.Frag} {mg : Str → Option Value} {base : Heap} {T : Tb} {cells : List (Str × Addr)} {qual : Str} {cl : D4.Cl} (B : Bm mg) (C : Cm K w mg) (O_Asker : Cls K cl.asker) (F_asked : DFy P w K mg base T 4 "asked" D4.spy_asked) (F_fresh : DFy P w K mg base T 4 "fresh" D4.spy_fresh) (F_halves : DFy P w K mg base T 3 "halves" D4.spy_halves) (F_joined : DFy P w K mg base T 3 "joined" D4.spy_joined) (F_Asker_ask : DMy P w K mg base T 4 cl.asker "ask" (D4.spy_Asker_ask cl)) (c t : Addr) : LOk P w K mg base T 5 (Lw cells qual 5 c (some t)) ["_law_far", "_law_kept", "_law_low"] (D4.be5 cl) :=
  lok_ofD (a := "_law_c") (F := Lw cells qual 5 c (some t)) (t := t) (Ψ := fun τ S R RE => (dCallY D4.spy_asked (dCons (dVar 2) (dCons (dC (.int 0)) (dCons (dC (.int 1)) (dCons (dTup (dCons (d2 rIxD (dLst (dCons (dC (.str "split")) (dCons (dC (.str "join")) dNil))) (d2 rModD (dVar 1) (dC (.int 2)))) (dCons (dCB rMaxD (dCons (dC (.int 1)) (dCons (dVar 3) dNil))) dNil))) dNil))))) τ S R RE) (NdefX.nscope_by ns5) rfl (fun pm ctv u => ⟨_, rfl, rfl⟩) fun A outer s H f E hr => (xy_call (L2N.takes_of rfl rfl rfl rfl) F_asked (hr.mono (by decide)) (by rfl) (a_cons (xv 2) (a_cons x_int (a_cons x_int (a_cons (x_tup (a_cons (x_ix (hu_of hr) (x_lst (a_cons x_str (a_cons x_str a_nil))) (x_op op_mod d_mod (xv 1) x_int) (fun _ _ => rfl)) (a_cons (x_callB (call_max2 rfl) d_m2 (by rfl) B.max (by decide +kernel) (a_cons x_int (a_cons (xv 3) a_nil))) a_nil))) a_nil)))))
theorem ns6 : NdefX.nscB ["_law_e", "_law_kept", "_law_key"] ["_law_e"] ["_law_kept", "_law_key"] (lamS (defScope (sT 50)) lx6) = true := by decide +kernel
theorem nf6 : NdefX.ndefB (defScope (sT 50)) (lamS (defScope (sT 50)) lx6) ["_law_kept", "_law_key"] = true := by decide +kernel
theorem lo6 {P : Program} {w : World} {K : PySem.W.Frag} {mg : Str → Option Value} {base : Heap} {T : Tb} {cells : List (Str × Addr)} {qual : Str} {cl : D4.Cl} (B : Bm mg) (C : Cm K w mg) (O_Asker : Cls K cl.asker) (F_asked : DFy P w K mg base T 4 "asked" D4.spy_asked) (F_fresh : DFy P w K mg base T 4 "fresh" D4.spy_fresh) (F_halves : DFy P w K mg base T 3 "halves" D4.spy_halves) (F_joined : DFy P w K mg base T 3 "joined" D4.spy_joined) (F_Asker_ask : DMy P w K mg base T 4 cl.asker "ask" (D4.spy_Asker_ask cl)) (c t : Addr) : LOk P w K mg base T 5 (Lw cells qual 6 c (some t)) ["_law_kept", "_law_key"] (D4.be6 cl) :=
  lok_ofD (a := "_law_e") (F := Lw cells qual 6 c (some t)) (t := t) (Ψ := fun τ S R RE => (dCallY D4.spy_asked (dCons (dVar 1) (dCons (dC (.int 0)) (dCons (dC (.int 1)) (dCons (dTup (dCons (dC (.str "get")) (dCons (dVar 2) dNil))) dNil))))) τ S R RE) (NdefX.nscope_by ns6) rfl (fun pm ctv u => ⟨_, rfl, rfl⟩) fun A outer s H f E hr => (xy_call (L2N.takes_of rfl rfl rfl rfl) F_asked (hr.mono (by decide)) (by rfl) (a_cons (xv 1) (a_cons x_int (a_cons x_int (a_cons (x_tup (a_cons x_str (a_cons (xv 2) a_nil))) a_nil)))))
theorem ns7 : NdefX.nscB ["_law_f", "_law_high", "_law_kept", "_law_low"] ["_law_f"] ["_law_high", "_law_kept", "_law_low"] (lamS (defScope (sT 50)) lx7) = true := by decide +kernel
theorem nf7 : NdefX.ndefB (defScope (sT 50)) (lamS (defScope (sT 50)) lx7) ["_law_high", "_law_kept", "_law_low"] = true := by decide +kernel
theorem lo7 {P : Program} {w : World} {K : PySem.W.Frag} {mg : Str → Option Value} {base : Heap} {T : Tb} {cells : List (Str × Addr)} {qual : Str} {cl : D4.Cl} (B : Bm mg) (C : Cm K w mg) (O_Asker : Cls K cl.asker) (F_asked : DFy P w K mg base T 4 "asked" D4.spy_asked) (F_fresh : DFy P w K mg base T 4 "fresh" D4.spy_fresh) (F_halves : DFy P w K mg base T 3 "halves" D4.spy_halves) (F_joined : DFy P w K mg base T 3 "joined" D4.spy_joined) (F_Asker_ask : DMy P w K mg base T 4 cl.asker "ask" (D4.spy_Asker_ask cl)) (c t : Addr) : LOk P w K mg base T 5 (Lw cells qual 7 c (some t)) ["_law_high", "_law_kept", "_law_low"] (D4.be7 cl) :=
  lok_ofD (a := "_law_f") (F := Lw cells qual 7 c (some t)) (t := t) (Ψ := fun τ S R RE => (dCallY D4.spy_joined (dCons (dVar 2) (dCons (dCallN2 D4.spy_fresh (dCons (dVar 3) (dCons (dVar 1) (dCons (dC (.int 2)) dNil)))) dNil))) τ S R RE) (NdefX.nscope_by ns7) rfl (fun pm ctv u => ⟨_, rfl, rfl⟩) fun A outer s H f E hr => (xy_call (L2N.takes_of rfl rfl rfl rfl) F_joined (hr.mono (by decide)) (by rfl) (a_cons (xv 2) (a_cons (x_callN2 F_fresh (hr.mono (by decide)) (by rfl) (a_cons (xv 3) (a_cons (xv 1) (a_cons x_int a_nil)))) a_nil)))
theorem ns8 : NdefX.nscB ["_law_g", "_law_high", "_law_kept"] ["_law_g"] ["_law_high", "_law_kept"] (lamS (defScope (sT 50)) lx8) = true := by decide +kernel
theorem nf8 : NdefX.ndefB (defScope (sT 50)) (lamS (defScope (sT 50)) lx8) ["_law_high", "_law_kept"] = true := by decide +kernel
theorem lo8 {P : Program} {w : World} {K : PySem.W.Frag} {mg : Str → Option Value} {base : Heap} {T : Tb} {cells : List (Str × Addr)} {qual : Str} {cl : D4.Cl} (B : Bm mg) (C : Cm K w mg) (O_Asker : Cls K cl.asker) (F_asked : DFy P w K mg base T 4 "asked" D4.spy_asked) (F_fresh : DFy P w K mg base T 4 "fresh" D4.spy_fresh) (F_halves : DFy P w K mg base T 3 "halves" D4.spy_halves) (F_joined : DFy P w K mg base T 3 "joined" D4.spy_joined) (F_Asker_ask : DMy P w K mg base T 4 cl.asker "ask" (D4.spy_Asker_ask cl)) (c t : Addr) : LOk P w K mg base T 5 (Lw cells qual 8 c (some t)) ["_law_high", "_law_kept"] (D4.be8 cl) :=
  lok_ofD (a := "_law_g") (F := Lw cells qual 8 c (some t)) (t := t) (Ψ := fun τ S R RE => (dIfy (dTest (d2 rLtD (dVar 1) (dC (.int 99)))) (dCallY D4.spy_joined (dCons (dVar 2) (dCons (dCallN2 D4.spy_fresh (dCons (d2 rAddD (dVar 1) (dCB rIntD (dCons (d2 rLtD (dVar 1) (dC (.int 99))) dNil))) (dCons (dC (.int 100)) (dCons (dC (.int 2)) dNil)))) dNil))) (dCallY D4.spy_fresh (dCons (dC (.int 5)) (dCons (dC (.int 5)) (dCons (dC (.int 5)) dNil))))) τ S R RE) (NdefX.nscope_by ns8) rfl (fun pm ctv u => ⟨_, rfl, rfl⟩) fun A outer s H f E hr => (xy_if (t_cmp op_lt d_lt (xv 1) x_int (nomark _)) (xy_call (L2N.takes_of rfl rfl rfl rfl) F_joined (hr.mono (by decide)) (by rfl) (a_cons (xv 2) (a_cons (x_callN2 F_fresh (hr.mono (by decide)) (by rfl) (a_cons (x_op op_addV d_add (xv 1) (x_callTy call_int1 d_int (by rfl) B.int (by decide +kernel) (a_cons (x_cmp op_lt d_lt (xv 1) x_int (nomark _)) a_nil))) (a_cons x_int (a_cons x_int a_nil)))) a_nil))) (xy_call (L2N.takes_of rfl rfl rfl rfl) F_fresh (hr.mono (by decide)) (by rfl) (a_cons x_int (a_cons x_int (a_cons x_int a_nil)))))
theorem w_law {P : Program} {w : World} {K : PySem.W.Frag} {mg : Str → Option Value} {base : Heap} {T : Tb} {f : Addr} {cl : D4.Cl} {c Q : Addr} {oc : Value} {od an : Option Addr} {osl : Array (Option Value)} {kV doc pm ct : Value} (lk : K.lookup f = some ⟨oc, od, .func (PySem.W.fnOf "law" "law" (defArgs (sT 50)) (defBody (sT 50)) (defScope (sT 50)) .none kV doc pm an (.ref c) ct), osl⟩) (hcd : PySem.W.codeIn K (.ref c) "law" = true) (TB : TabB base mg c Q) (hT : (Q, ("law.<locals>.<lambda>" : Str)) ∈ T) (hTu : ∀ p ∈ T, p.1 = Q → p.2 = "law.<locals>.<lambda>") (B : Bm mg) (C : Cm K w mg) (O_Asker : Cls K cl.asker) (F_Asker___init__ : DMkY P w K mg base T 4 "Asker" cl.asker (D4.spy_Asker___init__ cl)) (F_Asker_ask : DMy P w K mg base T 4 cl.asker "ask" (D4.spy_Asker_ask cl)) (F_Asker_asked : DMt P w K mg base T 1 cl.asker "asked" (D4.sp_Asker_asked cl)) (F__law_dice : DFn P w K mg base T 1 "_law_dice" sp__law_dice) (F__law_none : DFn P w K mg base T 2 "_law_none" D4.sp__law_none) (F__law_off : DFn P w K mg base T 1 "_law_off" sp__law_off) (F__law_refused : DGn P w K mg base T 5 "_law_refused" D4.spg__law_refused) (F_al4 : DFn P w K mg base T 5 "_law_alike" (sp_alike 4)) (F_asked : DFy P w K mg base T 4 "asked" D4.spy_asked) (F_fresh : DFy P w K mg base T 4 "fresh" D4.spy_fresh) (F_halves : DFy P w K mg base T 3 "halves" D4.spy_halves) (F_joined : DFy P w K mg base T 3 "joined" D4.spy_joined) :
    FnOk P w K mg base CX0 7 f (PySem.W.fnOf "law" "law" (defArgs (sT 50)) (defBody (sT 50)) (defScope (sT 50)) .none kV doc pm an (.ref c) ct) ["_law_script"] (lsp K T spLaw) := by
  refine fn_dc lk hcd sc_law (fun ds S Q h => ?_) fun A outer s H E hr => ?_
  · obtain ⟨ns, rfl, _⟩ := h; rfl
  · have hKB : ∀ (own : List Nat) (ho : own = [9] := by rfl) (F : LF) (js : List Nat) (b : DSy), D4.Kn_law cl (Lw (envOfC "law" (defScope (sT 50)) s.heap.objs.size f (.ref c)).cells (envOfC "law" (defScope (sT 50)) s.heap.objs.size f (.ref c)).qual) F js b → (∀ i ∈ js, i ∉ own) ∧ ∃ fr, (((cxOf CX0 P w K mg base N_law "law" (defScope (sT 50)) f (.ref c) A outer s H E).nox).Ok → NdefX.Caps ((cxOf CX0 P w K mg base N_law "law" (defScope (sT 50)) f (.ref c) A outer s H E).nox) F.cl fr js) ∧ LOk P w K mg base T 5 F fr b := by
      intro own ho F js b kn
      subst ho
      rcases kn with ⟨⟨c', t, rfl⟩, rfl, rfl⟩ | ⟨⟨c', rfl⟩, rfl, rfl⟩ | ⟨⟨c', t, rfl⟩, rfl, rfl⟩ | ⟨⟨c', rfl⟩, rfl, rfl⟩ | ⟨⟨c', t, rfl⟩, rfl, rfl⟩ | ⟨⟨c', t, rfl⟩, rfl, rfl⟩ | ⟨⟨c', t, rfl⟩, rfl, rfl⟩ | ⟨⟨c', t, rfl⟩, rfl, rfl⟩ | ⟨⟨c', t, rfl⟩, rfl, rfl⟩
      · exact ⟨by decide, ["_law_asker", "_law_none_here"], fun ok => NdefX.Caps.made ok (NdefX.ndef_free nf0) (NdefX.ndef_fr nf0) rfl, lo0 B C O_Asker F_asked F_fresh F_halves F_joined F_Asker_ask c' t⟩
      · exact ⟨by decide, ["_law_kept", "_law_none_here"], fun ok => NdefX.Caps.made ok (NdefX.ndef_free nf1) (NdefX.ndef_fr nf1) rfl, lo1 B C O_Asker F_asked F_fresh F_halves F_joined F_Asker_ask c'⟩
      · exact ⟨by decide, ["_law_far", "_law_high", "_law_kept", "_law_low"], fun ok => NdefX.Caps.made ok (NdefX.ndef_free nf2) (NdefX.ndef_fr nf2) rfl, lo2 B C O_Asker F_asked F_fresh F_halves F_joined F_Asker_ask c' t⟩
      · exact ⟨by decide, ["_law_odd"], fun ok => NdefX.Caps.made ok (NdefX.ndef_free nf3) (NdefX.ndef_fr nf3) rfl, lo3 B C O_Asker F_asked F_fresh F_halves F_joined F_Asker_ask c'⟩
      · exact ⟨by decide, ["_law_kept", "_law_low"], fun ok => NdefX.Caps.made ok (NdefX.ndef_free nf4) (NdefX.ndef_fr nf4) rfl, lo4 B C O_Asker F_asked F_fresh F_halves F_joined F_Asker_ask c' t⟩
      · exact ⟨by decide, ["_law_far", "_law_kept", "_law_low"], fun ok => NdefX.Caps.made ok (NdefX.ndef_free nf5) (NdefX.ndef_fr nf5) rfl, lo5 B C O_Asker F_asked F_fresh F_halves F_joined F_Asker_ask c' t⟩
      · exact ⟨by decide, ["_law_kept", "_law_key"], fun ok => NdefX.Caps.made ok (NdefX.ndef_free nf6) (NdefX.ndef_fr nf6) rfl, lo6 B C O_Asker F_asked F_fresh F_halves F_joined F_Asker_ask c' t⟩
      · exact ⟨by decide, ["_law_high", "_law_kept", "_law_low"], fun ok => NdefX.Caps.made ok (NdefX.ndef_free nf7) (NdefX.ndef_fr nf7) rfl, lo7 B C O_Asker F_asked F_fresh F_halves F_joined F_Asker_ask c' t⟩
      · exact ⟨by decide, ["_law_high", "_law_kept"], fun ok => NdefX.Caps.made ok (NdefX.ndef_free nf8) (NdefX.ndef_fr nf8) rfl, lo8 B C O_Asker F_asked F_fresh F_halves F_joined F_Asker_ask c' t⟩
    refine ⟨D4.rd_law cl (Lw (envOfC "law" (defScope (sT 50)) s.heap.objs.size f (.ref c)).cells (envOfC "law" (defScope (sT 50)) s.heap.objs.size f (.ref c)).qual), ?_, fun ds S R h => D4.ok_law cl _ ds S R h⟩
    exact (s_cons (s_set (i := 1) sc_law.nd rfl (by first | exact Or.inl rfl | exact Or.inr rfl) (x_call F__law_dice (hr.mono (by decide)) (by rfl) (a_cons (xv 0) (a_cons x_int a_nil))))
       (s_cons (s_set (i := 2) sc_law.nd rfl (by first | exact Or.inl rfl | exact Or.inr rfl) (x_callB (call_max2 rfl) d_m2 (by rfl) B.max (by decide +kernel) (a_cons x_int (a_cons (x_op op_sub d_sub (x_call F__law_off (hr.mono (by decide)) (by rfl) (a_cons (xv 1) (a_cons (x_op op_pow d_pow x_int x_int) a_nil))) x_int) a_nil))))
       (s_cons (s_set (i := 3) sc_law.nd rfl (by first | exact Or.inl rfl | exact Or.inr rfl) (x_call F__law_off (hr.mono (by decide)) (by rfl) (a_cons (xv 1) (a_cons x_int a_nil))))
       (s_cons (s_set (i := 4) sc_law.nd rfl (by first | exact Or.inl rfl | exact Or.inr rfl) (x_op op_addV d_add (x_op op_addV d_add (xv 3) x_int) (x_call F__law_off (hr.mono (by decide)) (by rfl) (a_cons (xv 1) (a_cons (x_op op_sub d_sub x_int (xv 3)) a_nil)))))
       (s_cons (s_set (i := 5) sc_law.nd rfl (by first | exact Or.inl rfl | exact Or.inr rfl) (x_callN2 F_fresh (hr.mono (by decide)) (by rfl) (a_cons (xv 3) (a_cons (xv 4) (a_cons (x_op op_addV d_add x_int (xv 2)) a_nil)))))
       (s_cons (s_set (i := 6) sc_law.nd rfl (by first | exact Or.inl rfl | exact Or.inr rfl) (x_call F__law_none (hr.mono (by decide)) (by rfl) (a_cons (xv 1) a_nil)))
       (s_cons (s_set (i := 7) sc_law.nd rfl (by first | exact Or.inl rfl | exact Or.inr rfl) (x_makeN2 F_Asker___init__ (hr.mono (by decide)) (by rfl) (a_cons (x_call F__law_off (hr.mono (by decide)) (by rfl) (a_cons (xv 1) (a_cons x_int a_nil))) (a_cons (x_ix (hu_of hr) (x_lst (a_cons x_int (a_cons x_int (a_cons x_int a_nil)))) (x_call F__law_off (hr.mono (by decide)) (by rfl) (a_cons (xv 1) (a_cons x_int a_nil))) (fun _ _ => rfl)) a_nil))))
       (s_cons (s_set (i := 8) sc_law.nd rfl (by first | exact Or.inl rfl | exact Or.inr rfl) (x_lst (a_cons (x_lam TB rfl hT hTu (NdefX.ndef_free nf1) rfl) (a_cons (x_lamD TB rfl hT hTu (NdefX.ndef_free nf0) pe_int rfl) a_nil))))
       (s_cons (s_if (w_or (t_cmp (op_neD hr.units) d_ne (x_lcG (tg := (.nm 9)) (own := [("_law_work", 9)]) rfl sc_law.nd (i_seq (xv 8)) (blkOk_by (own := [("_law_work", 9)]) (N := N_law) (sc := defScope (sT 50)) (by decide +kernel)) (fun _ _ _ _ _ => (pg_name (i := 9) sc_law.nd rfl (by first | exact Or.inl rfl | exact Or.inr rfl)))
       (fun pins σ s H C2 cl2 fp I0 hfp _ => tp_not (tp_val (x_callGB I0 hfp F__law_refused (hr.mono (by decide)) (fun _ => rfl) (hKB [9]) (by rfl) (a_cons (xv 9) (a_cons x_str (a_cons x_int a_nil))))))
       (fun _ _ _ _ _ => (xv 9)) (by decide)) (x_lst a_nil) (nomark _)) (w_or1 (t_cmp op_notN d_notN (x_meth0 F_Asker_asked (hr.mono (by decide)) (xv 7) (hc := O_Asker)) x_non (nomark _)))).pt
       (s_one (s_ret x_bl))
       s_nil)
       (s_cons (s_set (i := 10) sc_law.nd rfl (by first | exact Or.inl rfl | exact Or.inr rfl) (x_lst (a_cons (x_tup (a_cons (xv 3) (a_cons (xv 3) (a_cons x_int a_nil)))) (a_cons (x_tup (a_cons (x_op op_sub d_sub (x_neg x_int) (xv 2)) (a_cons x_int (a_cons x_int a_nil)))) (a_cons (x_tup (a_cons (xv 3) (a_cons (x_op op_addV d_add x_int (xv 2)) (a_cons x_int a_nil)))) (a_cons (x_tup (a_cons (xv 3) (a_cons (xv 4) (a_cons (x_op op_sub d_sub x_int (xv 2)) a_nil)))) (a_cons (x_tup (a_cons (xv 4) (a_cons (xv 3) (a_cons x_int a_nil)))) (a_cons (x_tup (a_cons x_int (a_cons x_int (a_cons x_int a_nil)))) a_nil))))))))
       (s_cons (s_set (i := 11) sc_law.nd rfl (by first | exact Or.inl rfl | exact Or.inr rfl) (x_ix (hu_of hr) (xv 10) (x_call F__law_off (hr.mono (by decide)) (by rfl) (a_cons (xv 1) (a_cons x_int a_nil))) (fun _ _ => rfl)))
       (s_cons (s_set (i := 12) sc_law.nd rfl (by first | exact Or.inl rfl | exact Or.inr rfl) (x_lstR (a_cons (x_neg x_int) (a_cons x_int a_nil))))
       (s_cons (s_for (tg := (.nm 13)) PassesOwn.never rfl (i_seq (x_lst (a_cons (x_op op_sub d_sub (xv 3) x_int) (a_cons (xv 4) (a_cons x_int (a_cons x_int a_nil)))))) (pg_name (i := 13) sc_law.nd rfl (by first | exact Or.inl rfl | exact Or.inr rfl))
       (s_one (s_if (w_and (t_not (t_chain op_le d_le op_lt d_lt (xv 3) (xv 13) (xv 4))) (w_and1 (t_chain op_le d_le op_lt d_lt x_int (xv 13) x_int))).pt
       (s_one (s_expr (x_ml PySem.F.slot_list_append PySem.F.type_list_append mt_append d_append (xv 12) (a_cons (xv 13) a_nil))))
       s_nil)))
       (s_cons (s_set (i := 13) sc_law.nd rfl (by first | exact Or.inl rfl | exact Or.inr rfl) (x_ix (hu_of hr) (x_op op_addV d_add (x_lst (a_cons x_int a_nil)) (x_slice (xv 12) (o_some x_int) o_none)) (x_call F__law_off (hr.mono (by decide)) (by rfl) (a_cons (xv 1) (a_cons (x_op op_sub d_sub (x_callB call_len d_len (by rfl) B.len (by decide +kernel) (a_cons (xv 12) a_nil)) x_int) a_nil))) (fun _ _ => rfl)))
       (s_cons (s_set (i := 8) sc_law.nd rfl (by first | exact Or.inl rfl | exact Or.inr rfl) (x_lstR (a_cons (x_lam TB rfl hT hTu (NdefX.ndef_free nf3) rfl) (a_cons (x_lamD TB rfl hT hTu (NdefX.ndef_free nf2) pe_int rfl) a_nil))))
       (s_cons (s_expr (x_ml PySem.F.slot_list_append PySem.F.type_list_append mt_append d_append (xv 8) (a_cons (x_lamD TB rfl hT hTu (NdefX.ndef_free nf4) pe_int rfl) a_nil)))
       (s_cons (s_expr (x_ml PySem.F.slot_list_append PySem.F.type_list_append mt_append d_append (xv 8) (a_cons (x_lamD TB rfl hT hTu (NdefX.ndef_free nf5) pe_int rfl) a_nil)))
       (s_cons (s_if (t_not (t_chain op_le d_le op_lt d_lt (xv 3) (xv 13) (xv 4)))
       (s_one (s_expr (x_ml PySem.F.slot_list_append PySem.F.type_list_append mt_append d_append (xv 8) (a_cons (x_lamD TB rfl hT hTu (NdefX.ndef_free nf6) pe_int rfl) a_nil))))
       s_nil)
       (s_cons (s_if (t_cmp op_lt d_lt (xv 4) x_int (nomark _))
       (s_cons (s_expr (x_ml PySem.F.slot_list_append PySem.F.type_list_append mt_append d_append (xv 8) (a_cons (x_lamD TB rfl hT hTu (NdefX.ndef_free nf7) pe_int rfl) a_nil)))
       (s_one (s_expr (x_ml PySem.F.slot_list_append PySem.F.type_list_append mt_append d_append (xv 8) (a_cons (x_lamD TB rfl hT hTu (NdefX.ndef_free nf8) pe_int rfl) a_nil)))))
       s_nil)
       (s_cons (s_if (t_cmp (op_neD hr.units) d_ne (x_lcG (tg := (.nm 9)) (own := [("_law_work", 9)]) rfl sc_law.nd (i_seq (x_frz (xv 8))) (blkOk_by (own := [("_law_work", 9)]) (N := N_law) (sc := defScope (sT 50)) (by decide +kernel)) (fun _ _ _ _ _ => (pg_name (i := 9) sc_law.nd rfl (by first | exact Or.inl rfl | exact Or.inr rfl)))
       (fun pins σ s H C2 cl2 fp I0 hfp _ => tp_not (tp_val (x_callGB I0 hfp F__law_refused (hr.mono (by decide)) (fun _ => rfl) (hKB [9]) (by rfl) (a_cons (xv 9) (a_cons x_str (a_cons x_int a_nil))))))
       (fun _ _ _ _ _ => (xv 9)) (by decide)) (x_lst a_nil) (nomark _))
       (s_one (s_ret x_bl))
       s_nil)
       (s_one (s_ret (x_and (x_call F_al4 (hr.mono (by decide)) (by rfl) (a_cons (x_ix (hu_of hr) (x_callN2 F_asked (hr.mono (by decide)) (by rfl) (a_cons (xv 5) (a_cons x_int (a_cons x_int (a_cons (x_tup (a_cons x_str (a_cons (xv 3) a_nil))) a_nil))))) x_int (fun _ _ => rfl)) (a_cons x_int a_nil))) (x_one (x_cmp (op_neD hr.units) d_ne (x_methN2 F_Asker_ask (hr.mono (by decide)) (xv 7) (a_cons (x_tup (a_cons x_str (a_cons x_int a_nil))) a_nil) O_Asker) (x_lst a_nil) (nomark _))))))))))))))))))))))))))
end K01

set_option Elab.async false
set_option linter.all false
set_option maxRecDepth 100000
namespace K01
open PySem PySem.Spec PyProof.Rows L2 LamX Dl
theorem tabIn_of {K : PySem.W.Frag} {x : Str} {f c Q : Addr} {oc oC : Value} {od oD : Option Addr} {fd : FuncData} {osl slC : Array (Option Value)} {vC : Array Value} (a : PySem.W.nsIn K mainGlobals x = some (some (.ref f))) (l : K.lookup f = some ⟨oc, od, .func fd, osl⟩) (e : fd.code = .ref c) (t : K.lookup c = some ⟨oC, oD, .fields vC, slC⟩) (p : (vC[11]? : Option Value) = some (.ref Q)) : PySem.W.tabIn K x = some (c, Q) := by
  unfold PySem.W.tabIn
  simp only [a, l, e, t, p]
theorem rs (x : Str) (t : Tok) : RelV (.str x) (.str x t) := ⟨t, rfl⟩
theorem ri (i : Int) (t : Tok) : RelV (.int i) (.int i t) := ⟨t, rfl⟩
theorem two_of {a b p : Addr × Str} {c : Addr} {x : Str} (h : p ∈ [a, b]) (ha : a.1 = c → a.2 = x) (hb : b.1 = c → b.2 = x) (e : p.1 = c) : p.2 = x := by
  simp only [List.mem_cons, List.not_mem_nil, or_false] at h
  rcases h with rfl | rfl
  · exact ha e
  · exact hb e
/-- facts of a class of errors -/
structure Erk (K : PySem.W.Frag) (C : Addr) : Prop where
  cl : (PySem.W.clsIn K C).isSome = true
  ga : PySem.W.findIn K (.ref C) "__getattribute__" = some (some (.builtin "BaseException.__getattribute__"))
  gg : PySem.W.findIn K (.ref C) "__getattr__" = some none
  sb : PySem.W.subIn K (.ref C) (.type "BaseException") = some true
  ha : PySem.W.findIn K (.ref C) "__class__" = some (some (.builtin "object.__class__"))
  hn : PySem.W.specialIn K (.builtin "object.__class__") "__get__" = some (some (.builtin "getset_descriptor.__get__"))
  htk : PySem.W.takesIn K (.builtin "object.__class__") = some true
  hm : PySem.W.mroIn K C (.type "object") = some true
  hd : PySem.W.hasDictIn K C = true
theorem all_mk {P q : Program} {w : World} {K : PySem.W.Frag} {h : Heap} {mg : Str → Option Value} {fa : Addr} (X : K.In h) (G : h.Ns mainGlobals mg) (hfa : mg "law" = some (.ref fa))
    (tabs : ∀ (y : Str) (c Q : Addr), ((PyProof.Rows.recsOf q).find? (fun e => e.name == y)).isSome = true → PySem.W.tabIn K y = some (c, Q) → PySem.W.CodeHd h c Q ∧ h.get? Q = some { cls := .none, data := .fields #[] })
    {f0 f1 f2 f3 f4 f5 f6 f7 f8 c8 q8 f9 f10 f11 f12 f13 f14 f15 f16 f17 f18 f19 f20 f21 c21 q21 k_SHAPES p_PLAIN p_NOBODY p_COUNTS C_SplitError C_BadDeed C_BadRange C_BadHouse C_BadAsker C_Busy C_BadLetter C_BadHistory C_BadText C_Asker f_Asker___init__ f_Asker_name_at f_Asker_asked f_Asker_wanted f_Asker_send f_Asker_ask : Addr} {od0 an0 od1 an1 od2 an2 od3 an3 od4 an4 od5 an5 od6 an6 od7 an7 od8 an8 od9 an9 od10 an10 od11 an11 od12 an12 od13 an13 od14 an14 od15 an15 od16 an16 od17 an17 od18 an18 od19 an19 od20 an20 od21 an21 od_Asker___init__ an_Asker___init__ od_Asker_name_at an_Asker_name_at od_Asker_asked an_Asker_asked od_Asker_wanted an_Asker_wanted od_Asker_send an_Asker_send od_Asker_ask an_Asker_ask : Option Addr} {sl0 sl1 sl2 sl3 sl4 sl5 sl6 sl7 sl8 sl9 sl10 sl11 sl12 sl13 sl14 sl15 sl16 sl17 sl18 sl19 sl20 sl21 sl_Asker___init__ sl_Asker_name_at sl_Asker_asked sl_Asker_wanted sl_Asker_send sl_Asker_ask : Array (Option Value)} {oc0 kV0 dc0 pm0 ct0 cd0 oc1 kV1 dc1 pm1 ct1 cd1 oc2 kV2 dc2 pm2 ct2 cd2 oc3 kV3 dc3 pm3 ct3 cd3 oc4 kV4 dc4 pm4 ct4 cd4 oc5 kV5 dc5 pm5 ct5 cd5 oc6 kV6 dc6 pm6 ct6 cd6 oc7 kV7 dc7 pm7 ct7 cd7 oc8 kV8 dc8 pm8 ct8 oc9 kV9 dc9 pm9 ct9 cd9 oc10 kV10 dc10 pm10 ct10 cd10 oc11 kV11 dc11 pm11 ct11 cd11 oc12 kV12 dc12 pm12 ct12 cd12 oc13 kV13 dc13 pm13 ct13 cd13 oc14 kV14 dc14 pm14 ct14 cd14 oc15 kV15 dc15 pm15 ct15 cd15 oc16 kV16 dc16 pm16 ct16 cd16 oc17 kV17 dc17 pm17 ct17 cd17 oc18 kV18 dc18 pm18 ct18 cd18 oc19 kV19 dc19 pm19 ct19 cd19 oc20 kV20 dc20 pm20 ct20 cd20 oc21 kV21 dc21 pm21 ct21 oc_Asker___init__ kV_Asker___init__ dc_Asker___init__ pm_Asker___init__ ct_Asker___init__ cd_Asker___init__ oc_Asker_name_at kV_Asker_name_at dc_Asker_name_at pm_Asker_name_at ct_Asker_name_at cd_Asker_name_at oc_Asker_asked kV_Asker_asked dc_Asker_asked pm_Asker_asked ct_Asker_asked cd_Asker_asked oc_Asker_wanted kV_Asker_wanted dc_Asker_wanted pm_Asker_wanted ct_Asker_wanted cd_Asker_wanted oc_Asker_send kV_Asker_send dc_Asker_send pm_Asker_send ct_Asker_send cd_Asker_send oc_Asker_ask kV_Asker_ask dc_Asker_ask pm_Asker_ask ct_Asker_ask cd_Asker_ask : Value}
    (a0 : PySem.W.nsIn K mainGlobals "is_below" = some (some (.ref f0)))
    (l0 : K.lookup f0 = some ⟨oc0, od0, .func (PySem.W.fnOf "is_below" "is_below" (defArgs (sT 17)) (defBody (sT 17)) (defScope (sT 17)) .none kV0 dc0 pm0 an0 cd0 ct0), sl0⟩) (c_0 : PySem.W.codeIn K cd0 "is_below" = true) (k0 : PySem.W.keepIn K (.ref f0) = true)
    (a1 : PySem.W.nsIn K mainGlobals "is_deed" = some (some (.ref f1)))
    (l1 : K.lookup f1 = some ⟨oc1, od1, .func (PySem.W.fnOf "is_deed" "is_deed" (defArgs (sT 18)) (defBody (sT 18)) (defScope (sT 18)) .none kV1 dc1 pm1 an1 cd1 ct1), sl1⟩) (c_1 : PySem.W.codeIn K cd1 "is_deed" = true) (k1 : PySem.W.keepIn K (.ref f1) = true)
    (a2 : PySem.W.nsIn K mainGlobals "need_deed" = some (some (.ref f2)))
    (l2 : K.lookup f2 = some ⟨oc2, od2, .func (PySem.W.fnOf "need_deed" "need_deed" (defArgs (sT 19)) (defBody (sT 19)) (defScope (sT 19)) .none kV2 dc2 pm2 an2 cd2 ct2), sl2⟩) (c_2 : PySem.W.codeIn K cd2 "need_deed" = true) (k2 : PySem.W.keepIn K (.ref f2) = true)
    (a3 : PySem.W.nsIn K mainGlobals "worth_behind" = some (some (.ref f3)))
    (l3 : K.lookup f3 = some ⟨oc3, od3, .func (PySem.W.fnOf "worth_behind" "worth_behind" (defArgs (sT 20)) (defBody (sT 20)) (defScope (sT 20)) .none kV3 dc3 pm3 an3 cd3 ct3), sl3⟩) (c_3 : PySem.W.codeIn K cd3 "worth_behind" = true) (k3 : PySem.W.keepIn K (.ref f3) = true)
    (a4 : PySem.W.nsIn K mainGlobals "need_range" = some (some (.ref f4)))
    (l4 : K.lookup f4 = some ⟨oc4, od4, .func (PySem.W.fnOf "need_range" "need_range" (defArgs (sT 23)) (defBody (sT 23)) (defScope (sT 23)) .none kV4 dc4 pm4 an4 cd4 ct4), sl4⟩) (c_4 : PySem.W.codeIn K cd4 "need_range" = true) (k4 : PySem.W.keepIn K (.ref f4) = true)
    (a5 : PySem.W.nsIn K mainGlobals "fresh" = some (some (.ref f5)))
    (l5 : K.lookup f5 = some ⟨oc5, od5, .func (PySem.W.fnOf "fresh" "fresh" (defArgs (sT 24)) (defBody (sT 24)) (defScope (sT 24)) .none kV5 dc5 pm5 an5 cd5 ct5), sl5⟩) (c_5 : PySem.W.codeIn K cd5 "fresh" = true) (k5 : PySem.W.keepIn K (.ref f5) = true)
    (a6 : PySem.W.nsIn K mainGlobals "worth_at" = some (some (.ref f6)))
    (l6 : K.lookup f6 = some ⟨oc6, od6, .func (PySem.W.fnOf "worth_at" "worth_at" (defArgs (sT 25)) (defBody (sT 25)) (defScope (sT 25)) .none kV6 dc6 pm6 an6 cd6 ct6), sl6⟩) (c_6 : PySem.W.codeIn K cd6 "worth_at" = true) (k6 : PySem.W.keepIn K (.ref f6) = true)
    (a7 : PySem.W.nsIn K mainGlobals "seen_by" = some (some (.ref f7)))
    (l7 : K.lookup f7 = some ⟨oc7, od7, .func (PySem.W.fnOf "seen_by" "seen_by" (defArgs (sT 26)) (defBody (sT 26)) (defScope (sT 26)) .none kV7 dc7 pm7 an7 cd7 ct7), sl7⟩) (c_7 : PySem.W.codeIn K cd7 "seen_by" = true) (k7 : PySem.W.keepIn K (.ref f7) = true)
    (a8 : PySem.W.nsIn K mainGlobals "with_answer" = some (some (.ref f8)))
    (l8 : K.lookup f8 = some ⟨oc8, od8, .func (PySem.W.fnOf "with_answer" "with_answer" (defArgs (sT 27)) (defBody (sT 27)) (defScope (sT 27)) .none kV8 dc8 pm8 an8 (.ref c8) ct8), sl8⟩) (c_8 : PySem.W.codeIn K (.ref c8) "with_answer" = true) (k8 : PySem.W.keepIn K (.ref f8) = true)
    {oC8 : Value} {odC8 : Option Addr} {vC8 : Array Value} {slC8 : Array (Option Value)} (t8 : K.lookup c8 = some ⟨oC8, odC8, .fields vC8, slC8⟩) (tp8 : (vC8[11]? : Option Value) = some (.ref q8)) (tn8 : K.lookup q8 = none) (tq8 : ((PyProof.Rows.recsOf q).find? (fun e => e.name == ("with_answer" : Str))).isSome = true)
    (a9 : PySem.W.nsIn K mainGlobals "with_worth" = some (some (.ref f9)))
    (l9 : K.lookup f9 = some ⟨oc9, od9, .func (PySem.W.fnOf "with_worth" "with_worth" (defArgs (sT 28)) (defBody (sT 28)) (defScope (sT 28)) .none kV9 dc9 pm9 an9 cd9 ct9), sl9⟩) (c_9 : PySem.W.codeIn K cd9 "with_worth" = true) (k9 : PySem.W.keepIn K (.ref f9) = true)
    (a10 : PySem.W.nsIn K mainGlobals "need_inside" = some (some (.ref f10)))
    (l10 : K.lookup f10 = some ⟨oc10, od10, .func (PySem.W.fnOf "need_inside" "need_inside" (defArgs (sT 29)) (defBody (sT 29)) (defScope (sT 29)) .none kV10 dc10 pm10 an10 cd10 ct10), sl10⟩) (c_10 : PySem.W.codeIn K cd10 "need_inside" = true) (k10 : PySem.W.keepIn K (.ref f10) = true)
    (a11 : PySem.W.nsIn K mainGlobals "asked_of" = some (some (.ref f11)))
    (l11 : K.lookup f11 = some ⟨oc11, od11, .func (PySem.W.fnOf "asked_of" "asked_of" (defArgs (sT 30)) (defBody (sT 30)) (defScope (sT 30)) .none kV11 dc11 pm11 an11 cd11 ct11), sl11⟩) (c_11 : PySem.W.codeIn K cd11 "asked_of" = true) (k11 : PySem.W.keepIn K (.ref f11) = true)
    (a12 : PySem.W.nsIn K mainGlobals "asked" = some (some (.ref f12)))
    (l12 : K.lookup f12 = some ⟨oc12, od12, .func (PySem.W.fnOf "asked" "asked" (defArgs (sT 31)) (defBody (sT 31)) (defScope (sT 31)) .none kV12 dc12 pm12 an12 cd12 ct12), sl12⟩) (c_12 : PySem.W.codeIn K cd12 "asked" = true) (k12 : PySem.W.keepIn K (.ref f12) = true)
    (a13 : PySem.W.nsIn K mainGlobals "halves" = some (some (.ref f13)))
    (l13 : K.lookup f13 = some ⟨oc13, od13, .func (PySem.W.fnOf "halves" "halves" (defArgs (sT 33)) (defBody (sT 33)) (defScope (sT 33)) .none kV13 dc13 pm13 an13 cd13 ct13), sl13⟩) (c_13 : PySem.W.codeIn K cd13 "halves" = true) (k13 : PySem.W.keepIn K (.ref f13) = true)
    (a14 : PySem.W.nsIn K mainGlobals "joined" = some (some (.ref f14)))
    (l14 : K.lookup f14 = some ⟨oc14, od14, .func (PySem.W.fnOf "joined" "joined" (defArgs (sT 36)) (defBody (sT 36)) (defScope (sT 36)) .none kV14 dc14 pm14 an14 cd14 ct14), sl14⟩) (c_14 : PySem.W.codeIn K cd14 "joined" = true) (k14 : PySem.W.keepIn K (.ref f14) = true)
    (a15 : PySem.W.nsIn K mainGlobals "need_house" = some (some (.ref f15)))
    (l15 : K.lookup f15 = some ⟨oc15, od15, .func (PySem.W.fnOf "need_house" "need_house" (defArgs (sT 39)) (defBody (sT 39)) (defScope (sT 39)) .none kV15 dc15 pm15 an15 cd15 ct15), sl15⟩) (c_15 : PySem.W.codeIn K cd15 "need_house" = true) (k15 : PySem.W.keepIn K (.ref f15) = true)
    (a16 : PySem.W.nsIn K mainGlobals "_law_dice" = some (some (.ref f16)))
    (l16 : K.lookup f16 = some ⟨oc16, od16, .func (PySem.W.fnOf "_law_dice" "_law_dice" (defArgs (sT 45)) (defBody (sT 45)) (defScope (sT 45)) .none kV16 dc16 pm16 an16 cd16 ct16), sl16⟩) (c_16 : PySem.W.codeIn K cd16 "_law_dice" = true) (k16 : PySem.W.keepIn K (.ref f16) = true)
    (a17 : PySem.W.nsIn K mainGlobals "_law_off" = some (some (.ref f17)))
    (l17 : K.lookup f17 = some ⟨oc17, od17, .func (PySem.W.fnOf "_law_off" "_law_off" (defArgs (sT 46)) (defBody (sT 46)) (defScope (sT 46)) .none kV17 dc17 pm17 an17 cd17 ct17), sl17⟩) (c_17 : PySem.W.codeIn K cd17 "_law_off" = true) (k17 : PySem.W.keepIn K (.ref f17) = true)
    (a18 : PySem.W.nsIn K mainGlobals "_law_alike" = some (some (.ref f18)))
    (l18 : K.lookup f18 = some ⟨oc18, od18, .func (PySem.W.fnOf "_law_alike" "_law_alike" (defArgs (sT 47)) (defBody (sT 47)) (defScope (sT 47)) .none kV18 dc18 pm18 an18 cd18 ct18), sl18⟩) (c_18 : PySem.W.codeIn K cd18 "_law_alike" = true) (k18 : PySem.W.keepIn K (.ref f18) = true)
    (a19 : PySem.W.nsIn K mainGlobals "_law_refused" = some (some (.ref f19)))
    (l19 : K.lookup f19 = some ⟨oc19, od19, .func (PySem.W.fnOf "_law_refused" "_law_refused" (defArgs (sT 48)) (defBody (sT 48)) (defScope (sT 48)) .none kV19 dc19 pm19 an19 cd19 ct19), sl19⟩) (c_19 : PySem.W.codeIn K cd19 "_law_refused" = true) (k19 : PySem.W.keepIn K (.ref f19) = true)
    (a20 : PySem.W.nsIn K mainGlobals "_law_none" = some (some (.ref f20)))
    (l20 : K.lookup f20 = some ⟨oc20, od20, .func (PySem.W.fnOf "_law_none" "_law_none" (defArgs (sT 49)) (defBody (sT 49)) (defScope (sT 49)) .none kV20 dc20 pm20 an20 cd20 ct20), sl20⟩) (c_20 : PySem.W.codeIn K cd20 "_law_none" = true) (k20 : PySem.W.keepIn K (.ref f20) = true)
    (a21 : PySem.W.nsIn K mainGlobals "law" = some (some (.ref f21)))
    (l21 : K.lookup f21 = some ⟨oc21, od21, .func (PySem.W.fnOf "law" "law" (defArgs (sT 50)) (defBody (sT 50)) (defScope (sT 50)) .none kV21 dc21 pm21 an21 (.ref c21) ct21), sl21⟩) (c_21 : PySem.W.codeIn K (.ref c21) "law" = true) (k21 : PySem.W.keepIn K (.ref f21) = true)
    {oC21 : Value} {odC21 : Option Addr} {vC21 : Array Value} {slC21 : Array (Option Value)} (t21 : K.lookup c21 = some ⟨oC21, odC21, .fields vC21, slC21⟩) (tp21 : (vC21[11]? : Option Value) = some (.ref q21)) (tn21 : K.lookup q21 = none) (tq21 : ((PyProof.Rows.recsOf q).find? (fun e => e.name == ("law" : Str))).isSome = true)
    (b_ValueError : PySem.W.nsIn K mainGlobals "ValueError" = some none)
    (b_abs : PySem.W.nsIn K mainGlobals "abs" = some none)
    (b_all : PySem.W.nsIn K mainGlobals "all" = some none)
    (b_bool : PySem.W.nsIn K mainGlobals "bool" = some none)
    (b_dict : PySem.W.nsIn K mainGlobals "dict" = some none)
    (b_int : PySem.W.nsIn K mainGlobals "int" = some none)
    (b_isinstance : PySem.W.nsIn K mainGlobals "isinstance" = some none)
    (b_len : PySem.W.nsIn K mainGlobals "len" = some none)
    (b_list : PySem.W.nsIn K mainGlobals "list" = some none)
    (b_max : PySem.W.nsIn K mainGlobals "max" = some none)
    (b_range : PySem.W.nsIn K mainGlobals "range" = some none)
    (b_set : PySem.W.nsIn K mainGlobals "set" = some none)
    (b_sorted : PySem.W.nsIn K mainGlobals "sorted" = some none)
    (b_str : PySem.W.nsIn K mainGlobals "str" = some none)
    (b_tuple : PySem.W.nsIn K mainGlobals "tuple" = some none)
    {e_SHAPES : Array DictEntry} {n_SHAPES : Nat} (x_SHAPES : PySem.W.nsIn K mainGlobals "SHAPES" = some (some (.ref k_SHAPES))) (y_SHAPES : K.lookup k_SHAPES = some ⟨.type "dict", none, .dict e_SHAPES n_SHAPES, #[]⟩) (z_SHAPES : PySem.W.KeysLit w.params e_SHAPES.toList) (v_SHAPES : (k_SHAPES == sysModules) = false) (u_SHAPES : ∀ p ∈ tb_SHAPES, KAns K k_SHAPES p.1 p.2)
    {tk_KEYS : Tok} (g_KEYS : PySem.W.nsIn K mainGlobals "KEYS" = some (some (.int 100 tk_KEYS)))
    {tk_MOST_WORTH : Tok} (g_MOST_WORTH : PySem.W.nsIn K mainGlobals "MOST_WORTH" = some (some (.int 1000 tk_MOST_WORTH)))
    {iPLAIN0 iPLAIN1 iPLAIN2 iPLAIN3 : Tok} {m_PLAIN : Nat} (g_PLAIN : PySem.W.nsIn K mainGlobals "PLAIN" = some (some (.ref p_PLAIN))) (h_PLAIN : K.lookup p_PLAIN = some ⟨.type "tuple", none, .seq #[.str "get" iPLAIN0, .str "put" iPLAIN1, .str "add" iPLAIN2, .str "swap" iPLAIN3] m_PLAIN, #[]⟩)
    {tk_MOST_LOOK : Tok} (g_MOST_LOOK : PySem.W.nsIn K mainGlobals "MOST_LOOK" = some (some (.int 6 tk_MOST_LOOK)))
    {tk_MOST_ASKERS : Tok} (g_MOST_ASKERS : PySem.W.nsIn K mainGlobals "MOST_ASKERS" = some (some (.int 10 tk_MOST_ASKERS)))
    {iNOBODY0 iNOBODY1 iNOBODY2 : Tok} {m_NOBODY : Nat} (g_NOBODY : PySem.W.nsIn K mainGlobals "NOBODY" = some (some (.ref p_NOBODY))) (h_NOBODY : K.lookup p_NOBODY = some ⟨.type "tuple", none, .seq #[.int 0 iNOBODY0, .int 100 iNOBODY1, .int 0 iNOBODY2] m_NOBODY, #[]⟩)
    {iCOUNTS0 iCOUNTS1 iCOUNTS2 : Tok} {m_COUNTS : Nat} (g_COUNTS : PySem.W.nsIn K mainGlobals "COUNTS" = some (some (.ref p_COUNTS))) (h_COUNTS : K.lookup p_COUNTS = some ⟨.type "tuple", none, .seq #[.int 1 iCOUNTS0, .int 3 iCOUNTS1, .int 5 iCOUNTS2] m_COUNTS, #[]⟩)
    (g_SplitError : PySem.W.nsIn K mainGlobals "SplitError" = some (some (.ref C_SplitError)))
    (g_BadDeed : PySem.W.nsIn K mainGlobals "BadDeed" = some (some (.ref C_BadDeed)))
    (g_BadRange : PySem.W.nsIn K mainGlobals "BadRange" = some (some (.ref C_BadRange)))
    (g_BadHouse : PySem.W.nsIn K mainGlobals "BadHouse" = some (some (.ref C_BadHouse)))
    (g_BadAsker : PySem.W.nsIn K mainGlobals "BadAsker" = some (some (.ref C_BadAsker)))
    (g_Busy : PySem.W.nsIn K mainGlobals "Busy" = some (some (.ref C_Busy)))
    (g_BadLetter : PySem.W.nsIn K mainGlobals "BadLetter" = some (some (.ref C_BadLetter)))
    (g_BadHistory : PySem.W.nsIn K mainGlobals "BadHistory" = some (some (.ref C_BadHistory)))
    (g_BadText : PySem.W.nsIn K mainGlobals "BadText" = some (some (.ref C_BadText)))
    (g_Asker : PySem.W.nsIn K mainGlobals "Asker" = some (some (.ref C_Asker)))
    (oc_Asker : OwnC K C_Asker)
    (mk1_Asker : PySem.W.makesIn K C_Asker = true)
    (mk2_Asker : PySem.W.keepIn K (.ref C_Asker) = true)
    (at_Asker___init__ : PySem.W.findIn K (.ref C_Asker) "__init__" = some (some (.ref f_Asker___init__)))
    (if_Asker___init__ : PySem.W.isFn K (.ref f_Asker___init__) = true)
    (l_Asker___init__ : K.lookup f_Asker___init__ = some ⟨oc_Asker___init__, od_Asker___init__, .func (PySem.W.fnOf "__init__" "Asker.__init__" (defArgs (inClass (sT 43) 0)) (defBody (inClass (sT 43) 0)) (defScope (inClass (sT 43) 0)) .none kV_Asker___init__ dc_Asker___init__ pm_Asker___init__ an_Asker___init__ cd_Asker___init__ ct_Asker___init__), sl_Asker___init__⟩) (c__Asker___init__ : PySem.W.codeIn K cd_Asker___init__ "Asker.__init__" = true) (k_Asker___init__ : PySem.W.keepIn K (.ref f_Asker___init__) = true)
    (at_Asker_name_at : PySem.W.findIn K (.ref C_Asker) "name_at" = some (some (.ref f_Asker_name_at)))
    (if_Asker_name_at : PySem.W.isFn K (.ref f_Asker_name_at) = true)
    (l_Asker_name_at : K.lookup f_Asker_name_at = some ⟨oc_Asker_name_at, od_Asker_name_at, .func (PySem.W.fnOf "name_at" "Asker.name_at" (defArgs (inClass (sT 43) 1)) (defBody (inClass (sT 43) 1)) (defScope (inClass (sT 43) 1)) .none kV_Asker_name_at dc_Asker_name_at pm_Asker_name_at an_Asker_name_at cd_Asker_name_at ct_Asker_name_at), sl_Asker_name_at⟩) (c__Asker_name_at : PySem.W.codeIn K cd_Asker_name_at "Asker.name_at" = true) (k_Asker_name_at : PySem.W.keepIn K (.ref f_Asker_name_at) = true)
    (at_Asker_asked : PySem.W.findIn K (.ref C_Asker) "asked" = some (some (.ref f_Asker_asked)))
    (if_Asker_asked : PySem.W.isFn K (.ref f_Asker_asked) = true)
    (l_Asker_asked : K.lookup f_Asker_asked = some ⟨oc_Asker_asked, od_Asker_asked, .func (PySem.W.fnOf "asked" "Asker.asked" (defArgs (inClass (sT 43) 6)) (defBody (inClass (sT 43) 6)) (defScope (inClass (sT 43) 6)) .none kV_Asker_asked dc_Asker_asked pm_Asker_asked an_Asker_asked cd_Asker_asked ct_Asker_asked), sl_Asker_asked⟩) (c__Asker_asked : PySem.W.codeIn K cd_Asker_asked "Asker.asked" = true) (k_Asker_asked : PySem.W.keepIn K (.ref f_Asker_asked) = true)
    (at_Asker_wanted : PySem.W.findIn K (.ref C_Asker) "wanted" = some (some (.ref f_Asker_wanted)))
    (if_Asker_wanted : PySem.W.isFn K (.ref f_Asker_wanted) = true)
    (l_Asker_wanted : K.lookup f_Asker_wanted = some ⟨oc_Asker_wanted, od_Asker_wanted, .func (PySem.W.fnOf "wanted" "Asker.wanted" (defArgs (inClass (sT 43) 2)) (defBody (inClass (sT 43) 2)) (defScope (inClass (sT 43) 2)) .none kV_Asker_wanted dc_Asker_wanted pm_Asker_wanted an_Asker_wanted cd_Asker_wanted ct_Asker_wanted), sl_Asker_wanted⟩) (c__Asker_wanted : PySem.W.codeIn K cd_Asker_wanted "Asker.wanted" = true) (k_Asker_wanted : PySem.W.keepIn K (.ref f_Asker_wanted) = true)
    (at_Asker_send : PySem.W.findIn K (.ref C_Asker) "send" = some (some (.ref f_Asker_send)))
    (if_Asker_send : PySem.W.isFn K (.ref f_Asker_send) = true)
    (l_Asker_send : K.lookup f_Asker_send = some ⟨oc_Asker_send, od_Asker_send, .func (PySem.W.fnOf "send" "Asker.send" (defArgs (inClass (sT 43) 3)) (defBody (inClass (sT 43) 3)) (defScope (inClass (sT 43) 3)) .none kV_Asker_send dc_Asker_send pm_Asker_send an_Asker_send cd_Asker_send ct_Asker_send), sl_Asker_send⟩) (c__Asker_send : PySem.W.codeIn K cd_Asker_send "Asker.send" = true) (k_Asker_send : PySem.W.keepIn K (.ref f_Asker_send) = true)
    (at_Asker_ask : PySem.W.findIn K (.ref C_Asker) "ask" = some (some (.ref f_Asker_ask)))
    (if_Asker_ask : PySem.W.isFn K (.ref f_Asker_ask) = true)
    (l_Asker_ask : K.lookup f_Asker_ask = some ⟨oc_Asker_ask, od_Asker_ask, .func (PySem.W.fnOf "ask" "Asker.ask" (defArgs (inClass (sT 43) 4)) (defBody (inClass (sT 43) 4)) (defScope (inClass (sT 43) 4)) .none kV_Asker_ask dc_Asker_ask pm_Asker_ask an_Asker_ask cd_Asker_ask ct_Asker_ask), sl_Asker_ask⟩) (c__Asker_ask : PySem.W.codeIn K cd_Asker_ask "Asker.ask" = true) (k_Asker_ask : PySem.W.keepIn K (.ref f_Asker_ask) = true)
    (yq_BadAsker : PySem.W.excIn K C_BadAsker [.type "ValueError", .type "Exception", .type "BaseException", .type "object"] "ValueError.__new__" = true)
    (yk_BadAsker : PySem.W.keepIn K (.ref C_BadAsker) = true)
    (yb_BadAsker : PySem.W.subIn K (.ref C_BadAsker) (.type "BaseException") = some true)
    (yt_BadAsker : PySem.W.typeIn K (.ref C_BadAsker) = some (.type "type"))
    (yq_BadDeed : PySem.W.excIn K C_BadDeed [.type "ValueError", .type "Exception", .type "BaseException", .type "object"] "ValueError.__new__" = true)
    (yk_BadDeed : PySem.W.keepIn K (.ref C_BadDeed) = true)
    (yb_BadDeed : PySem.W.subIn K (.ref C_BadDeed) (.type "BaseException") = some true)
    (yt_BadDeed : PySem.W.typeIn K (.ref C_BadDeed) = some (.type "type"))
    (yq_BadHouse : PySem.W.excIn K C_BadHouse [.type "ValueError", .type "Exception", .type "BaseException", .type "object"] "ValueError.__new__" = true)
    (yk_BadHouse : PySem.W.keepIn K (.ref C_BadHouse) = true)
    (yb_BadHouse : PySem.W.subIn K (.ref C_BadHouse) (.type "BaseException") = some true)
    (yt_BadHouse : PySem.W.typeIn K (.ref C_BadHouse) = some (.type "type"))
    (yq_BadRange : PySem.W.excIn K C_BadRange [.type "ValueError", .type "Exception", .type "BaseException", .type "object"] "ValueError.__new__" = true)
    (yk_BadRange : PySem.W.keepIn K (.ref C_BadRange) = true)
    (yb_BadRange : PySem.W.subIn K (.ref C_BadRange) (.type "BaseException") = some true)
    (yt_BadRange : PySem.W.typeIn K (.ref C_BadRange) = some (.type "type"))
    (yq_Busy : PySem.W.excIn K C_Busy [.type "ValueError", .type "Exception", .type "BaseException", .type "object"] "ValueError.__new__" = true)
    (yk_Busy : PySem.W.keepIn K (.ref C_Busy) = true)
    (yb_Busy : PySem.W.subIn K (.ref C_Busy) (.type "BaseException") = some true)
    (yt_Busy : PySem.W.typeIn K (.ref C_Busy) = some (.type "type"))
    (s1 : PySem.W.specialIn K (.ref C_SplitError) "__getattribute__" = some (some (.builtin "type.__getattribute__")))
    (s2 : PySem.W.readsIn K C_SplitError (.type "type") = true)
    (s3 : PySem.W.findCls K (.ref C_SplitError) (.type "type") "__init__" = some (.val (.builtin "ValueError.__init__")))
    (er_BadDeed : Erk K C_BadDeed)
    (ex_BadDeed : PySem.W.exmOne K (.ref C_BadDeed) (.ref C_SplitError) = some (subE "BadDeed" "SplitError"))
    (ek_BadDeed_BadDeed : PySem.W.kitOne K (.ref C_BadDeed) (.ref C_BadDeed) = some (subE "BadDeed" "BadDeed"))
    (ek_BadDeed_BadRange : PySem.W.kitOne K (.ref C_BadDeed) (.ref C_BadRange) = some (subE "BadDeed" "BadRange"))
    (ek_BadDeed_BadHouse : PySem.W.kitOne K (.ref C_BadDeed) (.ref C_BadHouse) = some (subE "BadDeed" "BadHouse"))
    (ek_BadDeed_BadAsker : PySem.W.kitOne K (.ref C_BadDeed) (.ref C_BadAsker) = some (subE "BadDeed" "BadAsker"))
    (ek_BadDeed_Busy : PySem.W.kitOne K (.ref C_BadDeed) (.ref C_Busy) = some (subE "BadDeed" "Busy"))
    (ek_BadDeed_BadLetter : PySem.W.kitOne K (.ref C_BadDeed) (.ref C_BadLetter) = some (subE "BadDeed" "BadLetter"))
    (ek_BadDeed_BadHistory : PySem.W.kitOne K (.ref C_BadDeed) (.ref C_BadHistory) = some (subE "BadDeed" "BadHistory"))
    (ek_BadDeed_BadText : PySem.W.kitOne K (.ref C_BadDeed) (.ref C_BadText) = some (subE "BadDeed" "BadText"))
    (ev_BadDeed : PySem.W.kitOne K (.ref C_BadDeed) (.type "ValueError") = some true)
    (er_BadRange : Erk K C_BadRange)
    (ex_BadRange : PySem.W.exmOne K (.ref C_BadRange) (.ref C_SplitError) = some (subE "BadRange" "SplitError"))
    (ek_BadRange_BadDeed : PySem.W.kitOne K (.ref C_BadRange) (.ref C_BadDeed) = some (subE "BadRange" "BadDeed"))
    (ek_BadRange_BadRange : PySem.W.kitOne K (.ref C_BadRange) (.ref C_BadRange) = some (subE "BadRange" "BadRange"))
    (ek_BadRange_BadHouse : PySem.W.kitOne K (.ref C_BadRange) (.ref C_BadHouse) = some (subE "BadRange" "BadHouse"))
    (ek_BadRange_BadAsker : PySem.W.kitOne K (.ref C_BadRange) (.ref C_BadAsker) = some (subE "BadRange" "BadAsker"))
    (ek_BadRange_Busy : PySem.W.kitOne K (.ref C_BadRange) (.ref C_Busy) = some (subE "BadRange" "Busy"))
    (ek_BadRange_BadLetter : PySem.W.kitOne K (.ref C_BadRange) (.ref C_BadLetter) = some (subE "BadRange" "BadLetter"))
    (ek_BadRange_BadHistory : PySem.W.kitOne K (.ref C_BadRange) (.ref C_BadHistory) = some (subE "BadRange" "BadHistory"))
    (ek_BadRange_BadText : PySem.W.kitOne K (.ref C_BadRange) (.ref C_BadText) = some (subE "BadRange" "BadText"))
    (ev_BadRange : PySem.W.kitOne K (.ref C_BadRange) (.type "ValueError") = some true)
    (dq : q8 ≠ q21) :
    ∃ (fd : FuncData) (cs : List (Addr × Addr × Str)), (∀ p ∈ cs, h.get? p.2.1 = some { cls := .none, data := .fields #[] }) ∧ (∀ p ∈ cs, K.lookup p.2.1 = none) ∧ (∀ p ∈ cs, PySem.W.CodeHd h p.1 p.2.1) ∧
        (∀ (s : Shared) (u : Value), BindsTo s fd ⟨[u], []⟩ [("_law_script", u)]) ∧ ∀ base : Heap, K.In base → base.Ns mainGlobals mg → (∀ p ∈ cs, TabB base mg p.1 p.2.1) → FnOk P w K mg base CX0 7 fa fd ["_law_script"] (lsp K (cs.map fun p => p.2) spLaw) := by
  have e := hfa.symm.trans (PySem.W.mg_of X G a21)
  cases e
  have B : Bm mg := ⟨PySem.W.mg_none_of X G b_ValueError, PySem.W.mg_none_of X G b_abs, PySem.W.mg_none_of X G b_all, PySem.W.mg_none_of X G b_bool, PySem.W.mg_none_of X G b_dict, PySem.W.mg_none_of X G b_int, PySem.W.mg_none_of X G b_isinstance, PySem.W.mg_none_of X G b_len, PySem.W.mg_none_of X G b_list, PySem.W.mg_none_of X G b_max, PySem.W.mg_none_of X G b_range, PySem.W.mg_none_of X G b_set, PySem.W.mg_none_of X G b_sorted, PySem.W.mg_none_of X G b_str, PySem.W.mg_none_of X G b_tuple⟩
  have C : Cm K w mg := ⟨⟨.int 100, _, PySem.W.mg_of X G g_KEYS, ⟨_, rfl⟩, fun _ _ _ => .int _⟩, ⟨.int 1000, _, PySem.W.mg_of X G g_MOST_WORTH, ⟨_, rfl⟩, fun _ _ _ => .int _⟩, ⟨.ref p_PLAIN, _, PySem.W.mg_of X G g_PLAIN, rfl, fun _ _ _ => .tup (.inr ⟨_, _, _, h_PLAIN, rfl, rfl, len_ok (by simp), (.cons (rs _ _) (.cons (rs _ _) (.cons (rs _ _) (.cons (rs _ _) (.nil)))))⟩) (.cons (.str _) (.cons (.str _) (.cons (.str _) (.cons (.str _) (.nil)))))⟩, ⟨.int 6, _, PySem.W.mg_of X G g_MOST_LOOK, ⟨_, rfl⟩, fun _ _ _ => .int _⟩, ⟨.int 10, _, PySem.W.mg_of X G g_MOST_ASKERS, ⟨_, rfl⟩, fun _ _ _ => .int _⟩, ⟨.ref p_NOBODY, _, PySem.W.mg_of X G g_NOBODY, rfl, fun _ _ _ => .tup (.inr ⟨_, _, _, h_NOBODY, rfl, rfl, len_ok (by simp), (.cons (ri _ _) (.cons (ri _ _) (.cons (ri _ _) (.nil))))⟩) (.cons (.int _) (.cons (.int _) (.cons (.int _) (.nil))))⟩, ⟨.ref p_COUNTS, _, PySem.W.mg_of X G g_COUNTS, rfl, fun _ _ _ => .tup (.inr ⟨_, _, _, h_COUNTS, rfl, rfl, len_ok (by simp), (.cons (ri _ _) (.cons (ri _ _) (.cons (ri _ _) (.nil))))⟩) (.cons (.int _) (.cons (.int _) (.cons (.int _) (.nil))))⟩, ⟨_, _, _, PySem.W.mg_of X G x_SHAPES, ⟨y_SHAPES, z_SHAPES, v_SHAPES⟩, u_SHAPES⟩⟩
  have M_SplitError := PySem.W.mg_of X G g_SplitError
  have M_BadDeed := PySem.W.mg_of X G g_BadDeed
  have M_BadRange := PySem.W.mg_of X G g_BadRange
  have M_BadHouse := PySem.W.mg_of X G g_BadHouse
  have M_BadAsker := PySem.W.mg_of X G g_BadAsker
  have M_Busy := PySem.W.mg_of X G g_Busy
  have M_BadLetter := PySem.W.mg_of X G g_BadLetter
  have M_BadHistory := PySem.W.mg_of X G g_BadHistory
  have M_BadText := PySem.W.mg_of X G g_BadText
  have Z_BadDeed : Erz K mg "BadDeed" C_BadDeed := ⟨M_BadDeed, er_BadDeed.cl, er_BadDeed.ga, er_BadDeed.gg, er_BadDeed.sb, er_BadDeed.ha, er_BadDeed.hn, er_BadDeed.htk, er_BadDeed.hm, er_BadDeed.hd⟩
  have Z_BadRange : Erz K mg "BadRange" C_BadRange := ⟨M_BadRange, er_BadRange.cl, er_BadRange.ga, er_BadRange.gg, er_BadRange.sb, er_BadRange.ha, er_BadRange.hn, er_BadRange.htk, er_BadRange.hm, er_BadRange.hd⟩
  have EY_BadAsker : Ecy K mg "BadAsker" C_BadAsker := ⟨yq_BadAsker, M_BadAsker, yk_BadAsker, yb_BadAsker, yt_BadAsker⟩
  have EY_BadDeed : Ecy K mg "BadDeed" C_BadDeed := ⟨yq_BadDeed, M_BadDeed, yk_BadDeed, yb_BadDeed, yt_BadDeed⟩
  have EY_BadHouse : Ecy K mg "BadHouse" C_BadHouse := ⟨yq_BadHouse, M_BadHouse, yk_BadHouse, yb_BadHouse, yt_BadHouse⟩
  have EY_BadRange : Ecy K mg "BadRange" C_BadRange := ⟨yq_BadRange, M_BadRange, yk_BadRange, yb_BadRange, yt_BadRange⟩
  have EY_Busy : Ecy K mg "Busy" C_Busy := ⟨yq_Busy, M_Busy, yk_Busy, yb_Busy, yt_Busy⟩
  have G_Asker___init__ := fun_mk (st := (inClass (sT 43) 0)) l_Asker___init__ c__Asker___init__ k_Asker___init__
  have b_Asker___init__ := G_Asker___init__.binds (ps := ["self", "number", "many"]) fun _ _ _ _ _ _ us hl => match us, hl with | [_, _, _], _ => rfl
  have G_Asker_name_at := fun_mk (st := (inClass (sT 43) 1)) l_Asker_name_at c__Asker_name_at k_Asker_name_at
  have b_Asker_name_at := G_Asker_name_at.binds (ps := ["self", "key"]) fun _ _ _ _ _ _ us hl => match us, hl with | [_, _], _ => rfl
  have G_Asker_asked := fun_mk (st := (inClass (sT 43) 6)) l_Asker_asked c__Asker_asked k_Asker_asked
  have b_Asker_asked := G_Asker_asked.binds (ps := ["self"]) fun _ _ _ _ _ _ us hl => match us, hl with | [_], _ => rfl
  have G_Asker_wanted := fun_mk (st := (inClass (sT 43) 2)) l_Asker_wanted c__Asker_wanted k_Asker_wanted
  have b_Asker_wanted := G_Asker_wanted.binds (ps := ["self"]) fun _ _ _ _ _ _ us hl => match us, hl with | [_], _ => rfl
  have G_Asker_send := fun_mk (st := (inClass (sT 43) 3)) l_Asker_send c__Asker_send k_Asker_send
  have b_Asker_send := G_Asker_send.binds (ps := ["self"]) fun _ _ _ _ _ _ us hl => match us, hl with | [_], _ => rfl
  have G_Asker_ask := fun_mk (st := (inClass (sT 43) 4)) l_Asker_ask c__Asker_ask k_Asker_ask
  have b_Asker_ask := G_Asker_ask.binds (ps := ["self", "deed"]) fun _ _ _ _ _ _ us hl => match us, hl with | [_, _], _ => rfl
  have G0 := fun_mk (st := sT 17) l0 c_0 k0
  have b0 := G0.binds (ps := ["part", "bound"]) fun _ _ _ _ _ _ us hl => match us, hl with | [_, _], _ => rfl
  have G1 := fun_mk (st := sT 18) l1 c_1 k1
  have b1 := G1.binds (ps := ["deed"]) fun _ _ _ _ _ _ us hl => match us, hl with | [_], _ => rfl
  have G2 := fun_mk (st := sT 19) l2 c_2 k2
  have b2 := G2.binds (ps := ["deed"]) fun _ _ _ _ _ _ us hl => match us, hl with | [_], _ => rfl
  have G3 := fun_mk (st := sT 20) l3 c_3 k3
  have b3 := G3.binds (ps := ["deed", "worth"]) fun _ _ _ _ _ _ us hl => match us, hl with | [_, _], _ => rfl
  have G4 := fun_mk (st := sT 23) l4 c_4 k4
  have b4 := G4.binds (ps := ["low", "high", "gen"]) fun _ _ _ _ _ _ us hl => match us, hl with | [_, _, _], _ => rfl
  have G5 := fun_mk (st := sT 24) l5 c_5 k5
  have b5 := G5.binds (ps := ["low", "high", "gen"]) fun _ _ _ _ _ _ us hl => match us, hl with | [_, _, _], _ => rfl
  have G6 := fun_mk (st := sT 25) l6 c_6 k6
  have b6 := G6.binds (ps := ["state", "key"]) fun _ _ _ _ _ _ us hl => match us, hl with | [_, _], _ => rfl
  have G7 := fun_mk (st := sT 26) l7 c_7 k7
  have b7 := G7.binds (ps := ["state", "asker"]) fun _ _ _ _ _ _ us hl => match us, hl with | [_, _], _ => rfl
  have G8 := fun_mk (st := sT 27) l8 c_8 k8
  have b8 := G8.binds (ps := ["state", "asker", "number", "answer"]) fun _ _ _ _ _ _ us hl => match us, hl with | [_, _, _, _], _ => rfl
  have G9 := fun_mk (st := sT 28) l9 c_9 k9
  have b9 := G9.binds (ps := ["state", "key", "worth"]) fun _ _ _ _ _ _ us hl => match us, hl with | [_, _, _], _ => rfl
  have G10 := fun_mk (st := sT 29) l10 c_10 k10
  have b10 := G10.binds (ps := ["state", "key"]) fun _ _ _ _ _ _ us hl => match us, hl with | [_, _], _ => rfl
  have G11 := fun_mk (st := sT 30) l11 c_11 k11
  have b11 := G11.binds (ps := ["state", "asker", "number", "deed"]) fun _ _ _ _ _ _ us hl => match us, hl with | [_, _, _, _], _ => rfl
  have G12 := fun_mk (st := sT 31) l12 c_12 k12
  have b12 := G12.binds (ps := ["state", "asker", "number", "deed"]) fun _ _ _ _ _ _ us hl => match us, hl with | [_, _, _, _], _ => rfl
  have G13 := fun_mk (st := sT 33) l13 c_13 k13
  have b13 := G13.binds (ps := ["state", "key"]) fun _ _ _ _ _ _ us hl => match us, hl with | [_, _], _ => rfl
  have G14 := fun_mk (st := sT 36) l14 c_14 k14
  have b14 := G14.binds (ps := ["left", "right"]) fun _ _ _ _ _ _ us hl => match us, hl with | [_, _], _ => rfl
  have G15 := fun_mk (st := sT 39) l15 c_15 k15
  have b15 := G15.binds (ps := ["number", "many"]) fun _ _ _ _ _ _ us hl => match us, hl with | [_, _], _ => rfl
  have G16 := fun_mk (st := sT 45) l16 c_16 k16
  have b16 := G16.binds (ps := ["_law_script", "_law_k"]) fun _ _ _ _ _ _ us hl => match us, hl with | [_, _], _ => rfl
  have G17 := fun_mk (st := sT 46) l17 c_17 k17
  have b17 := G17.binds (ps := ["_law_d", "_law_most"]) fun _ _ _ _ _ _ us hl => match us, hl with | [_, _], _ => rfl
  have G18 := fun_mk (st := sT 47) l18 c_18 k18
  have b18 := G18.binds (ps := ["_law_found", "_law_due"]) fun _ _ _ _ _ _ us hl => match us, hl with | [_, _], _ => rfl
  have G19 := fun_mk (st := sT 48) l19 c_19 k19
  have b19 := G19.binds (ps := ["_law_work", "_law_word", "_law_value"]) fun _ _ _ _ _ _ us hl => match us, hl with | [_, _, _], _ => rfl
  have G20 := fun_mk (st := sT 49) l20 c_20 k20
  have b20 := G20.binds (ps := ["_law_d"]) fun _ _ _ _ _ _ us hl => match us, hl with | [_], _ => rfl
  have G21 := fun_mk (st := sT 50) l21 c_21 k21
  have b21 := G21.binds (ps := ["_law_script"]) fun _ _ _ _ _ _ us hl => match us, hl with | [_], _ => rfl
  have tI8 : PySem.W.tabIn K "with_answer" = some (c8, q8) := tabIn_of a8 l8 rfl t8 tp8
  have tI21 : PySem.W.tabIn K "law" = some (c21, q21) := tabIn_of a21 l21 rfl t21 tp21
  refine ⟨PySem.W.fnOf "law" "law" (defArgs (sT 50)) (defBody (sT 50)) (defScope (sT 50)) .none kV21 dc21 pm21 an21 (.ref c21) ct21, [(c8, q8, ("with_answer.<locals>.<lambda>" : Str)), (c21, q21, ("law.<locals>.<lambda>" : Str))], ?_, ?_, ?_, fun s u => .of_eq rfl, fun base h1 h2 h3 => ?_⟩
  · intro p hp
    simp only [List.mem_cons, List.not_mem_nil, or_false] at hp
    rcases hp with rfl | rfl
    · exact (tabs "with_answer" c8 q8 tq8 tI8).2
    · exact (tabs "law" c21 q21 tq21 tI21).2
  · intro p hp
    simp only [List.mem_cons, List.not_mem_nil, or_false] at hp
    rcases hp with rfl | rfl
    · exact tn8
    · exact tn21
  · intro p hp
    simp only [List.mem_cons, List.not_mem_nil, or_false] at hp
    rcases hp with rfl | rfl
    · exact (tabs "with_answer" c8 q8 tq8 tI8).1
    · exact (tabs "law" c21 q21 tq21 tI21).1
  · have KC_BadDeed : ∀ c ∈ CSk, ∃ Cc, mg c = some (.ref Cc) ∧ PySem.W.kitOne K (.ref C_BadDeed) (.ref Cc) = some (subE "BadDeed" c) := by
      intro c hc
      simp only [CSk, List.mem_cons, List.not_mem_nil, or_false] at hc
      rcases hc with rfl | rfl | rfl | rfl | rfl | rfl | rfl | rfl
      · exact ⟨_, M_BadDeed, ek_BadDeed_BadDeed⟩
      · exact ⟨_, M_BadRange, ek_BadDeed_BadRange⟩
      · exact ⟨_, M_BadHouse, ek_BadDeed_BadHouse⟩
      · exact ⟨_, M_BadAsker, ek_BadDeed_BadAsker⟩
      · exact ⟨_, M_Busy, ek_BadDeed_Busy⟩
      · exact ⟨_, M_BadLetter, ek_BadDeed_BadLetter⟩
      · exact ⟨_, M_BadHistory, ek_BadDeed_BadHistory⟩
      · exact ⟨_, M_BadText, ek_BadDeed_BadText⟩
    have KC_BadRange : ∀ c ∈ CSk, ∃ Cc, mg c = some (.ref Cc) ∧ PySem.W.kitOne K (.ref C_BadRange) (.ref Cc) = some (subE "BadRange" c) := by
      intro c hc
      simp only [CSk, List.mem_cons, List.not_mem_nil, or_false] at hc
      rcases hc with rfl | rfl | rfl | rfl | rfl | rfl | rfl | rfl
      · exact ⟨_, M_BadDeed, ek_BadRange_BadDeed⟩
      · exact ⟨_, M_BadRange, ek_BadRange_BadRange⟩
      · exact ⟨_, M_BadHouse, ek_BadRange_BadHouse⟩
      · exact ⟨_, M_BadAsker, ek_BadRange_BadAsker⟩
      · exact ⟨_, M_Busy, ek_BadRange_Busy⟩
      · exact ⟨_, M_BadLetter, ek_BadRange_BadLetter⟩
      · exact ⟨_, M_BadHistory, ek_BadRange_BadHistory⟩
      · exact ⟨_, M_BadText, ek_BadRange_BadText⟩
    have EF : ErrF K mg D4.RN CSk C_SplitError := by
      refine ⟨M_SplitError, fun nm hn => ?_⟩
      simp only [D4.RN, List.mem_cons, List.not_mem_nil, or_false] at hn
      rcases hn with rfl | rfl
      · exact ⟨C_BadDeed, Z_BadDeed, ex_BadDeed, KC_BadDeed, ev_BadDeed, fun f hf => .inr (by decide)⟩
      · exact ⟨C_BadRange, Z_BadRange, ex_BadRange, KC_BadRange, ev_BadRange, fun f hf => .inr (by decide)⟩
    have W_is_below := w_is_below (P := P) (w := w) (base := base) (T := [(q8, ("with_answer.<locals>.<lambda>" : Str)), (q21, ("law.<locals>.<lambda>" : Str))]) (cl := (D4.Cl.mk C_Asker C_Asker C_Asker)) G0 B C
    have F_is_below : DFn P w K mg base [(q8, ("with_answer.<locals>.<lambda>" : Str)), (q21, ("law.<locals>.<lambda>" : Str))] 1 "is_below" sp_is_below := ⟨f0, _, _, PySem.W.mg_of X G a0, k0, b0, W_is_below⟩
    have W_is_deed := w_is_deed (P := P) (w := w) (base := base) (T := [(q8, ("with_answer.<locals>.<lambda>" : Str)), (q21, ("law.<locals>.<lambda>" : Str))]) (cl := (D4.Cl.mk C_Asker C_Asker C_Asker)) G1 B C F_is_below
    have F_is_deed : DFn P w K mg base [(q8, ("with_answer.<locals>.<lambda>" : Str)), (q21, ("law.<locals>.<lambda>" : Str))] 2 "is_deed" D4.sp_is_deed := ⟨f1, _, _, PySem.W.mg_of X G a1, k1, b1, W_is_deed⟩
    have W_need_deed := w_need_deed (P := P) (w := w) (base := base) (T := [(q8, ("with_answer.<locals>.<lambda>" : Str)), (q21, ("law.<locals>.<lambda>" : Str))]) (cl := (D4.Cl.mk C_Asker C_Asker C_Asker)) G2 B C EY_BadDeed F_is_deed
    have F_need_deed : DFy P w K mg base [(q8, ("with_answer.<locals>.<lambda>" : Str)), (q21, ("law.<locals>.<lambda>" : Str))] 3 "need_deed" D4.spy_need_deed := ⟨f2, _, _, PySem.W.mg_of X G a2, k2, b2, W_need_deed⟩
    have W_worth_behind := w_worth_behind (P := P) (w := w) (base := base) (T := [(q8, ("with_answer.<locals>.<lambda>" : Str)), (q21, ("law.<locals>.<lambda>" : Str))]) (cl := (D4.Cl.mk C_Asker C_Asker C_Asker)) G3 B C
    have F_worth_behind : DFn P w K mg base [(q8, ("with_answer.<locals>.<lambda>" : Str)), (q21, ("law.<locals>.<lambda>" : Str))] 1 "worth_behind" sp_worth_behind := ⟨f3, _, _, PySem.W.mg_of X G a3, k3, b3, W_worth_behind⟩
    have W_need_range := w_need_range (P := P) (w := w) (base := base) (T := [(q8, ("with_answer.<locals>.<lambda>" : Str)), (q21, ("law.<locals>.<lambda>" : Str))]) (cl := (D4.Cl.mk C_Asker C_Asker C_Asker)) G4 B C EY_BadRange
    have F_need_range : DFy P w K mg base [(q8, ("with_answer.<locals>.<lambda>" : Str)), (q21, ("law.<locals>.<lambda>" : Str))] 3 "need_range" D4.spy_need_range := ⟨f4, _, _, PySem.W.mg_of X G a4, k4, b4, W_need_range⟩
    have W_fresh := w_fresh (P := P) (w := w) (base := base) (T := [(q8, ("with_answer.<locals>.<lambda>" : Str)), (q21, ("law.<locals>.<lambda>" : Str))]) (cl := (D4.Cl.mk C_Asker C_Asker C_Asker)) G5 B C F_need_range
    have F_fresh : DFy P w K mg base [(q8, ("with_answer.<locals>.<lambda>" : Str)), (q21, ("law.<locals>.<lambda>" : Str))] 4 "fresh" D4.spy_fresh := ⟨f5, _, _, PySem.W.mg_of X G a5, k5, b5, W_fresh⟩
    have W_worth_at := w_worth_at (P := P) (w := w) (base := base) (T := [(q8, ("with_answer.<locals>.<lambda>" : Str)), (q21, ("law.<locals>.<lambda>" : Str))]) (cl := (D4.Cl.mk C_Asker C_Asker C_Asker)) G6 B C
    have F_worth_at : DFn P w K mg base [(q8, ("with_answer.<locals>.<lambda>" : Str)), (q21, ("law.<locals>.<lambda>" : Str))] 1 "worth_at" sp_worth_at := ⟨f6, _, _, PySem.W.mg_of X G a6, k6, b6, W_worth_at⟩
    have W_seen_by := w_seen_by (P := P) (w := w) (base := base) (T := [(q8, ("with_answer.<locals>.<lambda>" : Str)), (q21, ("law.<locals>.<lambda>" : Str))]) (cl := (D4.Cl.mk C_Asker C_Asker C_Asker)) G7 B C
    have F_seen_by : DFn P w K mg base [(q8, ("with_answer.<locals>.<lambda>" : Str)), (q21, ("law.<locals>.<lambda>" : Str))] 1 "seen_by" sp_seen_by := ⟨f7, _, _, PySem.W.mg_of X G a7, k7, b7, W_seen_by⟩
    have W_with_answer := w_with_answer (P := P) (w := w) (base := base) (T := [(q8, ("with_answer.<locals>.<lambda>" : Str)), (q21, ("law.<locals>.<lambda>" : Str))]) (cl := (D4.Cl.mk C_Asker C_Asker C_Asker)) l8 c_8 (h3 (c8, q8, "with_answer.<locals>.<lambda>") (by simp)) (by simp) (fun p hp e => two_of hp (fun _ => rfl) (fun e => absurd e (Ne.symm dq)) e) B C
    have F_with_answer : DFn P w K mg base [(q8, ("with_answer.<locals>.<lambda>" : Str)), (q21, ("law.<locals>.<lambda>" : Str))] 1 "with_answer" sp_with_answer := ⟨f8, _, _, PySem.W.mg_of X G a8, k8, b8, W_with_answer⟩
    have W_with_worth := w_with_worth (P := P) (w := w) (base := base) (T := [(q8, ("with_answer.<locals>.<lambda>" : Str)), (q21, ("law.<locals>.<lambda>" : Str))]) (cl := (D4.Cl.mk C_Asker C_Asker C_Asker)) G9 B C
    have F_with_worth : DFn P w K mg base [(q8, ("with_answer.<locals>.<lambda>" : Str)), (q21, ("law.<locals>.<lambda>" : Str))] 1 "with_worth" sp_with_worth := ⟨f9, _, _, PySem.W.mg_of X G a9, k9, b9, W_with_worth⟩
    have W_need_inside := w_need_inside (P := P) (w := w) (base := base) (T := [(q8, ("with_answer.<locals>.<lambda>" : Str)), (q21, ("law.<locals>.<lambda>" : Str))]) (cl := (D4.Cl.mk C_Asker C_Asker C_Asker)) G10 B C EY_BadRange
    have F_need_inside : DFy P w K mg base [(q8, ("with_answer.<locals>.<lambda>" : Str)), (q21, ("law.<locals>.<lambda>" : Str))] 3 "need_inside" D4.spy_need_inside := ⟨f10, _, _, PySem.W.mg_of X G a10, k10, b10, W_need_inside⟩
    have W_asked_of := w_asked_of (P := P) (w := w) (base := base) (T := [(q8, ("with_answer.<locals>.<lambda>" : Str)), (q21, ("law.<locals>.<lambda>" : Str))]) (cl := (D4.Cl.mk C_Asker C_Asker C_Asker)) G11 B C F_seen_by F_with_answer F_with_worth F_worth_at F_worth_behind
    have F_asked_of : DFn P w K mg base [(q8, ("with_answer.<locals>.<lambda>" : Str)), (q21, ("law.<locals>.<lambda>" : Str))] 2 "asked_of" sp_asked_of := ⟨f11, _, _, PySem.W.mg_of X G a11, k11, b11, W_asked_of⟩
    have W_asked := w_asked (P := P) (w := w) (base := base) (T := [(q8, ("with_answer.<locals>.<lambda>" : Str)), (q21, ("law.<locals>.<lambda>" : Str))]) (cl := (D4.Cl.mk C_Asker C_Asker C_Asker)) G12 B C EY_BadRange F_asked_of F_need_deed F_need_inside
    have F_asked : DFy P w K mg base [(q8, ("with_answer.<locals>.<lambda>" : Str)), (q21, ("law.<locals>.<lambda>" : Str))] 4 "asked" D4.spy_asked := ⟨f12, _, _, PySem.W.mg_of X G a12, k12, b12, W_asked⟩
    have W_halves := w_halves (P := P) (w := w) (base := base) (T := [(q8, ("with_answer.<locals>.<lambda>" : Str)), (q21, ("law.<locals>.<lambda>" : Str))]) (cl := (D4.Cl.mk C_Asker C_Asker C_Asker)) G13 B C EY_BadRange
    have F_halves : DFy P w K mg base [(q8, ("with_answer.<locals>.<lambda>" : Str)), (q21, ("law.<locals>.<lambda>" : Str))] 3 "halves" D4.spy_halves := ⟨f13, _, _, PySem.W.mg_of X G a13, k13, b13, W_halves⟩
    have W_joined := w_joined (P := P) (w := w) (base := base) (T := [(q8, ("with_answer.<locals>.<lambda>" : Str)), (q21, ("law.<locals>.<lambda>" : Str))]) (cl := (D4.Cl.mk C_Asker C_Asker C_Asker)) G14 B C EY_BadRange
    have F_joined : DFy P w K mg base [(q8, ("with_answer.<locals>.<lambda>" : Str)), (q21, ("law.<locals>.<lambda>" : Str))] 3 "joined" D4.spy_joined := ⟨f14, _, _, PySem.W.mg_of X G a14, k14, b14, W_joined⟩
    have W_need_house := w_need_house (P := P) (w := w) (base := base) (T := [(q8, ("with_answer.<locals>.<lambda>" : Str)), (q21, ("law.<locals>.<lambda>" : Str))]) (cl := (D4.Cl.mk C_Asker C_Asker C_Asker)) G15 B C EY_BadHouse
    have F_need_house : DFy P w K mg base [(q8, ("with_answer.<locals>.<lambda>" : Str)), (q21, ("law.<locals>.<lambda>" : Str))] 3 "need_house" D4.spy_need_house := ⟨f15, _, _, PySem.W.mg_of X G a15, k15, b15, W_need_house⟩
    have W_Asker___init__ := w_Asker___init__ (P := P) (w := w) (base := base) (T := [(q8, ("with_answer.<locals>.<lambda>" : Str)), (q21, ("law.<locals>.<lambda>" : Str))]) (cl := (D4.Cl.mk C_Asker C_Asker C_Asker)) G_Asker___init__ B C EY_BadAsker F_need_house
    have F_Asker___init__ : DMkY P w K mg base [(q8, ("with_answer.<locals>.<lambda>" : Str)), (q21, ("law.<locals>.<lambda>" : Str))] 4 "Asker" C_Asker (D4.spy_Asker___init__ (D4.Cl.mk C_Asker C_Asker C_Asker)) := ⟨⟨f_Asker___init__, _, _, PySem.W.mg_of X G g_Asker, ⟨mk1_Asker, at_Asker___init__, if_Asker___init__, mk2_Asker⟩, b_Asker___init__, W_Asker___init__⟩, oc_Asker⟩
    have W_Asker_name_at := w_Asker_name_at (P := P) (w := w) (base := base) (T := [(q8, ("with_answer.<locals>.<lambda>" : Str)), (q21, ("law.<locals>.<lambda>" : Str))]) (cl := (D4.Cl.mk C_Asker C_Asker C_Asker)) G_Asker_name_at B C
    have F_Asker_name_at : DMt P w K mg base [(q8, ("with_answer.<locals>.<lambda>" : Str)), (q21, ("law.<locals>.<lambda>" : Str))] 1 C_Asker "name_at" (D4.sp_Asker_name_at (D4.Cl.mk C_Asker C_Asker C_Asker)) := ⟨⟨f_Asker_name_at, _, _, ⟨at_Asker_name_at, if_Asker_name_at, k_Asker_name_at⟩, b_Asker_name_at, W_Asker_name_at⟩⟩
    have W_Asker_asked := w_Asker_asked (P := P) (w := w) (base := base) (T := [(q8, ("with_answer.<locals>.<lambda>" : Str)), (q21, ("law.<locals>.<lambda>" : Str))]) (cl := (D4.Cl.mk C_Asker C_Asker C_Asker)) G_Asker_asked B C
    have F_Asker_asked : DMt P w K mg base [(q8, ("with_answer.<locals>.<lambda>" : Str)), (q21, ("law.<locals>.<lambda>" : Str))] 1 C_Asker "asked" (D4.sp_Asker_asked (D4.Cl.mk C_Asker C_Asker C_Asker)) := ⟨⟨f_Asker_asked, _, _, ⟨at_Asker_asked, if_Asker_asked, k_Asker_asked⟩, b_Asker_asked, W_Asker_asked⟩⟩
    have W_Asker_wanted := w_Asker_wanted (P := P) (w := w) (base := base) (T := [(q8, ("with_answer.<locals>.<lambda>" : Str)), (q21, ("law.<locals>.<lambda>" : Str))]) (cl := (D4.Cl.mk C_Asker C_Asker C_Asker)) G_Asker_wanted B C
    have F_Asker_wanted : DMt P w K mg base [(q8, ("with_answer.<locals>.<lambda>" : Str)), (q21, ("law.<locals>.<lambda>" : Str))] 1 C_Asker "wanted" (D4.sp_Asker_wanted (D4.Cl.mk C_Asker C_Asker C_Asker)) := ⟨⟨f_Asker_wanted, _, _, ⟨at_Asker_wanted, if_Asker_wanted, k_Asker_wanted⟩, b_Asker_wanted, W_Asker_wanted⟩⟩
    have W_Asker_send := w_Asker_send (P := P) (w := w) (base := base) (T := [(q8, ("with_answer.<locals>.<lambda>" : Str)), (q21, ("law.<locals>.<lambda>" : Str))]) (cl := (D4.Cl.mk C_Asker C_Asker C_Asker)) G_Asker_send B C oc_Asker.c F_Asker_name_at F_Asker_wanted
    have F_Asker_send : DMt P w K mg base [(q8, ("with_answer.<locals>.<lambda>" : Str)), (q21, ("law.<locals>.<lambda>" : Str))] 2 C_Asker "send" (D4.sp_Asker_send (D4.Cl.mk C_Asker C_Asker C_Asker)) := ⟨⟨f_Asker_send, _, _, ⟨at_Asker_send, if_Asker_send, k_Asker_send⟩, b_Asker_send, W_Asker_send⟩⟩
    have W_Asker_ask := w_Asker_ask (P := P) (w := w) (base := base) (T := [(q8, ("with_answer.<locals>.<lambda>" : Str)), (q21, ("law.<locals>.<lambda>" : Str))]) (cl := (D4.Cl.mk C_Asker C_Asker C_Asker)) G_Asker_ask B C EY_Busy oc_Asker.c F_Asker_send F_need_deed
    have F_Asker_ask : DMy P w K mg base [(q8, ("with_answer.<locals>.<lambda>" : Str)), (q21, ("law.<locals>.<lambda>" : Str))] 4 C_Asker "ask" (D4.spy_Asker_ask (D4.Cl.mk C_Asker C_Asker C_Asker)) := ⟨⟨f_Asker_ask, _, _, ⟨at_Asker_ask, if_Asker_ask, k_Asker_ask⟩, b_Asker_ask, W_Asker_ask⟩⟩
    have W__law_dice := w__law_dice (P := P) (w := w) (base := base) (T := [(q8, ("with_answer.<locals>.<lambda>" : Str)), (q21, ("law.<locals>.<lambda>" : Str))]) (cl := (D4.Cl.mk C_Asker C_Asker C_Asker)) G16 B C
    have F__law_dice : DFn P w K mg base [(q8, ("with_answer.<locals>.<lambda>" : Str)), (q21, ("law.<locals>.<lambda>" : Str))] 1 "_law_dice" sp__law_dice := ⟨f16, _, _, PySem.W.mg_of X G a16, k16, b16, W__law_dice⟩
    have W__law_off := w__law_off (P := P) (w := w) (base := base) (T := [(q8, ("with_answer.<locals>.<lambda>" : Str)), (q21, ("law.<locals>.<lambda>" : Str))]) (cl := (D4.Cl.mk C_Asker C_Asker C_Asker)) G17 B C
    have F__law_off : DFn P w K mg base [(q8, ("with_answer.<locals>.<lambda>" : Str)), (q21, ("law.<locals>.<lambda>" : Str))] 1 "_law_off" sp__law_off := ⟨f17, _, _, PySem.W.mg_of X G a17, k17, b17, W__law_off⟩
    have W_al0 := w_al0 (P := P) (w := w) (base := base) (T := [(q8, ("with_answer.<locals>.<lambda>" : Str)), (q21, ("law.<locals>.<lambda>" : Str))]) (cl := (D4.Cl.mk C_Asker C_Asker C_Asker)) G18 B C
    have F_al0 : DFn P w K mg base [(q8, ("with_answer.<locals>.<lambda>" : Str)), (q21, ("law.<locals>.<lambda>" : Str))] 1 "_law_alike" (sp_alike 0) := ⟨f18, _, _, PySem.W.mg_of X G a18, k18, b18, W_al0⟩
    have W_al1 := w_al1 (P := P) (w := w) (base := base) (T := [(q8, ("with_answer.<locals>.<lambda>" : Str)), (q21, ("law.<locals>.<lambda>" : Str))]) (cl := (D4.Cl.mk C_Asker C_Asker C_Asker)) G18 B C F_al0
    have F_al1 : DFn P w K mg base [(q8, ("with_answer.<locals>.<lambda>" : Str)), (q21, ("law.<locals>.<lambda>" : Str))] 2 "_law_alike" (sp_alike 1) := ⟨f18, _, _, PySem.W.mg_of X G a18, k18, b18, W_al1⟩
    have W_al2 := w_al2 (P := P) (w := w) (base := base) (T := [(q8, ("with_answer.<locals>.<lambda>" : Str)), (q21, ("law.<locals>.<lambda>" : Str))]) (cl := (D4.Cl.mk C_Asker C_Asker C_Asker)) G18 B C F_al1
    have F_al2 : DFn P w K mg base [(q8, ("with_answer.<locals>.<lambda>" : Str)), (q21, ("law.<locals>.<lambda>" : Str))] 3 "_law_alike" (sp_alike 2) := ⟨f18, _, _, PySem.W.mg_of X G a18, k18, b18, W_al2⟩
    have W_al3 := w_al3 (P := P) (w := w) (base := base) (T := [(q8, ("with_answer.<locals>.<lambda>" : Str)), (q21, ("law.<locals>.<lambda>" : Str))]) (cl := (D4.Cl.mk C_Asker C_Asker C_Asker)) G18 B C F_al2
    have F_al3 : DFn P w K mg base [(q8, ("with_answer.<locals>.<lambda>" : Str)), (q21, ("law.<locals>.<lambda>" : Str))] 4 "_law_alike" (sp_alike 3) := ⟨f18, _, _, PySem.W.mg_of X G a18, k18, b18, W_al3⟩
    have W_al4 := w_al4 (P := P) (w := w) (base := base) (T := [(q8, ("with_answer.<locals>.<lambda>" : Str)), (q21, ("law.<locals>.<lambda>" : Str))]) (cl := (D4.Cl.mk C_Asker C_Asker C_Asker)) G18 B C F_al3
    have F_al4 : DFn P w K mg base [(q8, ("with_answer.<locals>.<lambda>" : Str)), (q21, ("law.<locals>.<lambda>" : Str))] 5 "_law_alike" (sp_alike 4) := ⟨f18, _, _, PySem.W.mg_of X G a18, k18, b18, W_al4⟩
    have W__law_alike_h := w__law_alike_h (P := P) (w := w) (base := base) (T := [(q8, ("with_answer.<locals>.<lambda>" : Str)), (q21, ("law.<locals>.<lambda>" : Str))]) (cl := (D4.Cl.mk C_Asker C_Asker C_Asker)) G18 B C
    have F__law_alike_h : DFnH P w K mg base [(q8, ("with_answer.<locals>.<lambda>" : Str)), (q21, ("law.<locals>.<lambda>" : Str))] 1 "_law_alike" D4.sp_alike_i := ⟨f18, _, _, PySem.W.mg_of X G a18, k18, b18, W__law_alike_h⟩
    have F__law_refused := w__law_refused (P := P) (w := w) (base := base) (T := [(q8, ("with_answer.<locals>.<lambda>" : Str)), (q21, ("law.<locals>.<lambda>" : Str))]) (cl := (D4.Cl.mk C_Asker C_Asker C_Asker)) G19 b19 (PySem.W.mg_of X G a19) k19 B C EF F__law_alike_h
    have W__law_none := w__law_none (P := P) (w := w) (base := base) (T := [(q8, ("with_answer.<locals>.<lambda>" : Str)), (q21, ("law.<locals>.<lambda>" : Str))]) (cl := (D4.Cl.mk C_Asker C_Asker C_Asker)) G20 B C F__law_off
    have F__law_none : DFn P w K mg base [(q8, ("with_answer.<locals>.<lambda>" : Str)), (q21, ("law.<locals>.<lambda>" : Str))] 2 "_law_none" D4.sp__law_none := ⟨f20, _, _, PySem.W.mg_of X G a20, k20, b20, W__law_none⟩
    have W_law := w_law (P := P) (w := w) (base := base) (T := [(q8, ("with_answer.<locals>.<lambda>" : Str)), (q21, ("law.<locals>.<lambda>" : Str))]) (cl := (D4.Cl.mk C_Asker C_Asker C_Asker)) l21 c_21 (h3 (c21, q21, "law.<locals>.<lambda>") (by simp)) (by simp) (fun p hp e => two_of hp (fun e => absurd e dq) (fun _ => rfl) e) B C oc_Asker.c F_Asker___init__ F_Asker_ask F_Asker_asked F__law_dice F__law_none F__law_off F__law_refused F_al4 F_asked F_fresh F_halves F_joined
    exact W_law
end K01
open PySem PySem.W PyProof.Rows
set_option maxRecDepth 100000 in
set_option maxHeartbeats 8000000 in
theorem PySem.Challenge.cw_splitranges_k01_deeds_and_ranges_refused_holds : PySem.Challenge.rw_splitranges_k01_deeds_and_ranges_refused.Holds := by
  w_on; o_law; k_head; (case hw => w_witness2)
  k_fill
  refine Dl.walk_d (l := PySem.Challenge.rw_splitranges_k01_deeds_and_ranges_refused) (x := "_law_script") (k := 7) rfl rfl ⟨rfl, by decide, by decide⟩ (fun w h Y => PySem.W.km_in_of Y) ?F
  case F =>
    intro w mg fa h KX G hmg tabs
    refine' K01.all_mk KX G hmg tabs ?a0 ?l0 ?c_0 ?k0 ?a1 ?l1 ?c_1 ?k1 ?a2 ?l2 ?c_2 ?k2 ?a3 ?l3 ?c_3 ?k3 ?a4 ?l4 ?c_4 ?k4 ?a5 ?l5 ?c_5 ?k5 ?a6 ?l6 ?c_6 ?k6 ?a7 ?l7 ?c_7 ?k7 ?a8 ?l8 ?c_8 ?k8 ?t8 ?tp8 ?tn8 ?tq8 ?a9 ?l9 ?c_9 ?k9 ?a10 ?l10 ?c_10 ?k10 ?a11 ?l11 ?c_11 ?k11 ?a12 ?l12 ?c_12 ?k12 ?a13 ?l13 ?c_13 ?k13 ?a14 ?l14 ?c_14 ?k14 ?a15 ?l15 ?c_15 ?k15 ?a16 ?l16 ?c_16 ?k16 ?a17 ?l17 ?c_17 ?k17 ?a18 ?l18 ?c_18 ?k18 ?a19 ?l19 ?c_19 ?k19 ?a20 ?l20 ?c_20 ?k20 ?a21 ?l21 ?c_21 ?k21 ?t21 ?tp21 ?tn21 ?tq21 ?b_ValueError ?b_abs ?b_all ?b_bool ?b_dict ?b_int ?b_isinstance ?b_len ?b_list ?b_max ?b_range ?b_set ?b_sorted ?b_str ?b_tuple ?x_SHAPES ?y_SHAPES ?z_SHAPES ?v_SHAPES ?u_SHAPES ?g_KEYS ?g_MOST_WORTH ?g_PLAIN ?h_PLAIN ?g_MOST_LOOK ?g_MOST_ASKERS ?g_NOBODY ?h_NOBODY ?g_COUNTS ?h_COUNTS ?g_SplitError ?g_BadDeed ?g_BadRange ?g_BadHouse ?g_BadAsker ?g_Busy ?g_BadLetter ?g_BadHistory ?g_BadText ?g_Asker ?oc_Asker ?mk1_Asker ?mk2_Asker ?at_Asker___init__ ?if_Asker___init__ ?l_Asker___init__ ?c__Asker___init__ ?k_Asker___init__ ?at_Asker_name_at ?if_Asker_name_at ?l_Asker_name_at ?c__Asker_name_at ?k_Asker_name_at ?at_Asker_asked ?if_Asker_asked ?l_Asker_asked ?c__Asker_asked ?k_Asker_asked ?at_Asker_wanted ?if_Asker_wanted ?l_Asker_wanted ?c__Asker_wanted ?k_Asker_wanted ?at_Asker_send ?if_Asker_send ?l_Asker_send ?c__Asker_send ?k_Asker_send ?at_Asker_ask ?if_Asker_ask ?l_Asker_ask ?c__Asker_ask ?k_Asker_ask ?yq_BadAsker ?yk_BadAsker ?yb_BadAsker ?yt_BadAsker ?yq_BadDeed ?yk_BadDeed ?yb_BadDeed ?yt_BadDeed ?yq_BadHouse ?yk_BadHouse ?yb_BadHouse ?yt_BadHouse ?yq_BadRange ?yk_BadRange ?yb_BadRange ?yt_BadRange ?yq_Busy ?yk_Busy ?yb_Busy ?yt_Busy ?s1 ?s2 ?s3 ?er_BadDeed ?ex_BadDeed ?ek_BadDeed_BadDeed ?ek_BadDeed_BadRange ?ek_BadDeed_BadHouse ?ek_BadDeed_BadAsker ?ek_BadDeed_Busy ?ek_BadDeed_BadLetter ?ek_BadDeed_BadHistory ?ek_BadDeed_BadText ?ev_BadDeed ?er_BadRange ?ex_BadRange ?ek_BadRange_BadDeed ?ek_BadRange_BadRange ?ek_BadRange_BadHouse ?ek_BadRange_BadAsker ?ek_BadRange_Busy ?ek_BadRange_BadLetter ?ek_BadRange_BadHistory ?ek_BadRange_BadText ?ev_BadRange ?dq
    (case a0 => k_is)
    (case l0 => k_is)
    (case c_0 => k_is)
    (case k0 => k_is)
    (case a1 => k_is)
    (case l1 => k_is)
    (case c_1 => k_is)
    (case k1 => k_is)
    (case a2 => k_is)
    (case l2 => k_is)
    (case c_2 => k_is)
    (case k2 => k_is)
    (case a3 => k_is)
    (case l3 => k_is)
    (case c_3 => k_is)
    (case k3 => k_is)
    (case a4 => k_is)
    (case l4 => k_is)
    (case c_4 => k_is)
    (case k4 => k_is)
    (case a5 => k_is)
    (case l5 => k_is)
    (case c_5 => k_is)
    (case k5 => k_is)
    (case a6 => k_is)
    (case l6 => k_is)
    (case c_6 => k_is)
    (case k6 => k_is)
    (case a7 => k_is)
    (case l7 => k_is)
    (case c_7 => k_is)
    (case k7 => k_is)
    (case a8 => k_is)
    (case l8 => k_is)
    (case c_8 => k_is)
    (case k8 => k_is)
    (case t8 => k_is)
    (case tp8 => rfl)
    (case tn8 => first | k_is | kernel_rfl | rfl)
    (case tq8 => decide +kernel)
    (case a9 => k_is)
    (case l9 => k_is)
    (case c_9 => k_is)
    (case k9 => k_is)
    (case a10 => k_is)
    (case l10 => k_is)
    (case c_10 => k_is)
    (case k10 => k_is)
    (case a11 => k_is)
    (case l11 => k_is)
    (case c_11 => k_is)
    (case k11 => k_is)
    (case a12 => k_is)
    (case l12 => k_is)
    (case c_12 => k_is)
    (case k12 => k_is)
    (case a13 => k_is)
    (case l13 => k_is)
    (case c_13 => k_is)
    (case k13 => k_is)
    (case a14 => k_is)
    (case l14 => k_is)
    (case c_14 => k_is)
    (case k14 => k_is)
    (case a15 => k_is)
    (case l15 => k_is)
    (case c_15 => k_is)
    (case k15 => k_is)
    (case a16 => k_is)
    (case l16 => k_is)
    (case c_16 => k_is)
    (case k16 => k_is)
    (case a17 => k_is)
    (case l17 => k_is)
    (case c_17 => k_is)
    (case k17 => k_is)
    (case a18 => k_is)
    (case l18 => k_is)
    (case c_18 => k_is)
    (case k18 => k_is)
    (case a19 => k_is)
    (case l19 => k_is)
    (case c_19 => k_is)
    (case k19 => k_is)
    (case a20 => k_is)
    (case l20 => k_is)
    (case c_20 => k_is)
    (case k20 => k_is)
    (case a21 => k_is)
    (case l21 => k_is)
    (case c_21 => k_is)
    (case k21 => k_is)
    (case t21 => k_is)
    (case tp21 => rfl)
    (case tn21 => first | k_is | kernel_rfl | rfl)
    (case tq21 => decide +kernel)
    (case b_ValueError => k_is)
    (case b_abs => k_is)
    (case b_all => k_is)
    (case b_bool => k_is)
    (case b_dict => k_is)
    (case b_int => k_is)
    (case b_isinstance => k_is)
    (case b_len => k_is)
    (case b_list => k_is)
    (case b_max => k_is)
    (case b_range => k_is)
    (case b_set => k_is)
    (case b_sorted => k_is)
    (case b_str => k_is)
    (case b_tuple => k_is)
    (case x_SHAPES => k_is)
    (case y_SHAPES => k_is)
    (case z_SHAPES => exact ⟨⟨_, _, rfl, rfl⟩, ⟨_, _, rfl, rfl⟩, ⟨_, _, rfl, rfl⟩, ⟨_, _, rfl, rfl⟩, ⟨_, _, rfl, rfl⟩, ⟨_, _, rfl, rfl⟩, trivial⟩)
    (case v_SHAPES => decide)
    (case u_SHAPES => intro p hp; simp only [Dl.tb_SHAPES, List.mem_cons, List.not_mem_nil, or_false] at hp; rcases hp with rfl | rfl | rfl | rfl | rfl | rfl | rfl | rfl <;> first | exact ⟨_, _, by k_is, K01.rs _ _, fun _ _ _ => .str _⟩ | k_is | (show PySem.W.nsIn _ _ _ = some none; kernel_rfl))
    (case g_KEYS => k_is)
    (case g_MOST_WORTH => k_is)
    (case g_PLAIN => k_is)
    (case h_PLAIN => k_is)
    (case g_MOST_LOOK => k_is)
    (case g_MOST_ASKERS => k_is)
    (case g_NOBODY => k_is)
    (case h_NOBODY => k_is)
    (case g_COUNTS => k_is)
    (case h_COUNTS => k_is)
    (case g_SplitError => k_is)
    (case g_BadDeed => k_is)
    (case g_BadRange => k_is)
    (case g_BadHouse => k_is)
    (case g_BadAsker => k_is)
    (case g_Busy => k_is)
    (case g_BadLetter => k_is)
    (case g_BadHistory => k_is)
    (case g_BadText => k_is)
    (case g_Asker => k_is)
    (case oc_Asker => exact ⟨⟨by first | kernel_rfl | k_is, by first | kernel_rfl | k_is, by first | kernel_rfl | k_is, by first | kernel_rfl | k_is⟩, fun f hf => by simp only [Dl.flds, List.mem_cons, List.not_mem_nil, or_false] at hf; rcases hf with rfl | rfl | rfl | rfl | rfl | rfl | rfl | rfl | rfl | rfl | rfl | rfl | rfl | rfl | rfl | rfl | rfl | rfl | rfl | rfl | rfl | rfl | rfl | rfl | rfl | rfl <;> (show PySem.W.findIn _ _ _ = some none; first | k_is | kernel_rfl)⟩)
    (case mk1_Asker => first | kernel_rfl | k_is | rfl)
    (case mk2_Asker => first | kernel_rfl | k_is | rfl)
    (case at_Asker___init__ => k_is)
    (case if_Asker___init__ => first | kernel_rfl | k_is | rfl)
    (case l_Asker___init__ => k_is)
    (case c__Asker___init__ => k_is)
    (case k_Asker___init__ => k_is)
    (case at_Asker_name_at => k_is)
    (case if_Asker_name_at => first | kernel_rfl | k_is | rfl)
    (case l_Asker_name_at => k_is)
    (case c__Asker_name_at => k_is)
    (case k_Asker_name_at => k_is)
    (case at_Asker_asked => k_is)
    (case if_Asker_asked => first | kernel_rfl | k_is | rfl)
    (case l_Asker_asked => k_is)
    (case c__Asker_asked => k_is)
    (case k_Asker_asked => k_is)
    (case at_Asker_wanted => k_is)
    (case if_Asker_wanted => first | kernel_rfl | k_is | rfl)
    (case l_Asker_wanted => k_is)
    (case c__Asker_wanted => k_is)
    (case k_Asker_wanted => k_is)
    (case at_Asker_send => k_is)
    (case if_Asker_send => first | kernel_rfl | k_is | rfl)
    (case l_Asker_send => k_is)
    (case c__Asker_send => k_is)
    (case k_Asker_send => k_is)
    (case at_Asker_ask => k_is)
    (case if_Asker_ask => first | kernel_rfl | k_is | rfl)
    (case l_Asker_ask => k_is)
    (case c__Asker_ask => k_is)
    (case k_Asker_ask => k_is)
    (case yq_BadAsker => first | kernel_rfl | k_is | rfl)
    (case yk_BadAsker => first | kernel_rfl | k_is | rfl)
    (case yb_BadAsker => first | kernel_rfl | k_is | rfl)
    (case yt_BadAsker => first | kernel_rfl | k_is | rfl)
    (case yq_BadDeed => first | kernel_rfl | k_is | rfl)
    (case yk_BadDeed => first | kernel_rfl | k_is | rfl)
    (case yb_BadDeed => first | kernel_rfl | k_is | rfl)
    (case yt_BadDeed => first | kernel_rfl | k_is | rfl)
    (case yq_BadHouse => first | kernel_rfl | k_is | rfl)
    (case yk_BadHouse => first | kernel_rfl | k_is | rfl)
    (case yb_BadHouse => first | kernel_rfl | k_is | rfl)
    (case yt_BadHouse => first | kernel_rfl | k_is | rfl)
    (case yq_BadRange => first | kernel_rfl | k_is | rfl)
    (case yk_BadRange => first | kernel_rfl | k_is | rfl)
    (case yb_BadRange => first | kernel_rfl | k_is | rfl)
    (case yt_BadRange => first | kernel_rfl | k_is | rfl)
    (case yq_Busy => first | kernel_rfl | k_is | rfl)
    (case yk_Busy => first | kernel_rfl | k_is | rfl)
    (case yb_Busy => first | kernel_rfl | k_is | rfl)
    (case yt_Busy => first | kernel_rfl | k_is | rfl)
    (case s1 => first | kernel_rfl | k_is | rfl)
    (case s2 => first | kernel_rfl | k_is | rfl)
    (case s3 => first | kernel_rfl | k_is | rfl)
    (case er_BadDeed => exact ⟨by first | kernel_rfl | k_is, by first | kernel_rfl | k_is, by first | kernel_rfl | k_is, by first | kernel_rfl | k_is, by first | kernel_rfl | k_is, by first | kernel_rfl | k_is, by first | kernel_rfl | k_is, by first | kernel_rfl | k_is, by first | kernel_rfl | k_is⟩)
    (case ex_BadDeed => first | kernel_rfl | k_is | rfl)
    (case ek_BadDeed_BadDeed => first | kernel_rfl | k_is | rfl)
    (case ek_BadDeed_BadRange => first | kernel_rfl | k_is | rfl)
    (case ek_BadDeed_BadHouse => first | kernel_rfl | k_is | rfl)
    (case ek_BadDeed_BadAsker => first | kernel_rfl | k_is | rfl)
    (case ek_BadDeed_Busy => first | kernel_rfl | k_is | rfl)
    (case ek_BadDeed_BadLetter => first | kernel_rfl | k_is | rfl)
    (case ek_BadDeed_BadHistory => first | kernel_rfl | k_is | rfl)
    (case ek_BadDeed_BadText => first | kernel_rfl | k_is | rfl)
    (case ev_BadDeed => first | kernel_rfl | k_is | rfl)
    (case er_BadRange => exact ⟨by first | kernel_rfl | k_is, by first | kernel_rfl | k_is, by first | kernel_rfl | k_is, by first | kernel_rfl | k_is, by first | kernel_rfl | k_is, by first | kernel_rfl | k_is, by first | kernel_rfl | k_is, by first | kernel_rfl | k_is, by first | kernel_rfl | k_is⟩)
    (case ex_BadRange => first | kernel_rfl | k_is | rfl)
    (case ek_BadRange_BadDeed => first | kernel_rfl | k_is | rfl)
    (case ek_BadRange_BadRange => first | kernel_rfl | k_is | rfl)
    (case ek_BadRange_BadHouse => first | kernel_rfl | k_is | rfl)
    (case ek_BadRange_BadAsker => first | kernel_rfl | k_is | rfl)
    (case ek_BadRange_Busy => first | kernel_rfl | k_is | rfl)
    (case ek_BadRange_BadLetter => first | kernel_rfl | k_is | rfl)
    (case ek_BadRange_BadHistory => first | kernel_rfl | k_is | rfl)
    (case ek_BadRange_BadText => first | kernel_rfl | k_is | rfl)
    (case ev_BadRange => first | kernel_rfl | k_is | rfl)
    (case dq => decide)
#print axioms PySem.Challenge.cw_splitranges_k01_deeds_and_ranges_refused_holds
