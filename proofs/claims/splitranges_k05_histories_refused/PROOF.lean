import PyProof.Rows.All
import Wide.All
import OpenK.AllK
import Wide.FinOn
import HandS.ForMost
import HandS.Lambda
import PyProof.DictRoadsH
import HandS.Nested
import HandS.IsInst
import HandS.SortRule
import HandS.SortInts
import HandS.SortKw
import HandS.Slots
import HandS.ExcOwn
import KE.KSortKeySt
import KE.KSortRegSt
import HandS.More
import KE.KDictPairs
import HandS.EndTab
import HandS.SetFor
import HandS.Strs
import HandS.TupAny
import HandS.WordsExc
import HandS.Conv
import HandS.Sort
import HandS.Zip
import HandS.ExcInit
import HandS.TryOnly
import HandS.ExcCtx
import HandS.HotCalls
import HandS.SuiteRaise
import KE.KExcIs
import HandS.Hot
import HandS.Text
import PySem.Challenge.RW_splitranges_k05_histories_refused
set_option Elab.async false
set_option linter.all false
set_option maxRecDepth 100000
set_option maxHeartbeats 2000000
namespace Dl
open PySem PySem.Spec PyProof.Rows L2 LamX
/-! ### keys: tuples of ints and of such tuples -/
inductive Kt where
  | int (i : Int) | tup (ks : List Kt)
mutual
inductive IsV (h : Heap) : Kt → Value → Prop
  | int (i : Int) (t : Tok) : IsV h (.int i) (.int i t)
  | tup {a : Addr} {o : Obj} {its : Array Value} {n : Nat} {ks : List Kt} : h.get? a = some o → o.cls = .type "tuple" → o.data = .seq its n → IsVs h ks its.toList → IsV h (.tup ks) (.ref a)
inductive IsVs (h : Heap) : List Kt → List Value → Prop
  | nil : IsVs h [] []
  | cons {k : Kt} {v : Value} {ks : List Kt} {vs : List Value} : IsV h k v → IsVs h ks vs → IsVs h (k :: ks) (v :: vs)
end
mutual
def hK : Kt → Int
  | .int i => hashInt i
  | .tup ks => reduceHash (Builtin.Tuple.tupleHashOf (hKs ks))
def hKs : List Kt → List Int
  | [] => []
  | k :: ks => hK k :: hKs ks
end
mutual
def drK : Kt → Nat
  | .int _ => 1
  | .tup ks => drKs ks + 1
def drKs : List Kt → Nat
  | [] => 0
  | k :: ks => drK k + drKs ks
end
mutual
def dpK : Kt → Nat
  | .int _ => 0
  | .tup ks => dpKs ks + 1
def dpKs : List Kt → Nat
  | [] => 0
  | k :: ks => max (dpK k) (dpKs ks)
end
theorem hKs_map : ∀ ks : List Kt, hKs ks = ks.map hK
  | [] => rfl
  | k :: ks => by rw [hKs, hKs_map ks]; rfl
theorem drKs_app : ∀ (l m : List Kt), drKs (l ++ m) = drKs l + drKs m
  | [], m => by simp [drKs]
  | k :: l, m => by rw [List.cons_append, drKs, drKs, drKs_app l m]; omega
theorem dpKs_mem : ∀ {ks : List Kt} {k : Kt}, k ∈ ks → dpK k ≤ dpKs ks
  | x :: ks, k, h => by
    rw [dpKs]
    rcases List.mem_cons.mp h with e | e
    · rw [e]; exact Nat.le_max_left _ _
    · exact Nat.le_trans (dpKs_mem e) (Nat.le_max_right _ _)
section
variable {P : Program} {w : World} {E : Value → Shared → Prop}
/-- hash of a tuple, where those of its items are known -/
theorem hash_tup {ks : List Kt} {A : Around} {s : Shared} {a : Addr} {o : Obj} {its : Array Value} {n : Nat} {Q : Int → Shared → Prop} (ho : s.heap.get? a = some o) (hc : o.cls = .type "tuple") (hd : o.data = .seq its n) (hi : IsVs s.heap ks its.toList) (hu : A.units < cLine)
    (item : ∀ (k : Kt), k ∈ ks → ∀ (A' : Around) (E' : Value → Shared → Prop) (t : Nat) (v : Value) (Q : Int → Shared → Prop), A'.units ≤ A.units + 1 → IsV s.heap k v → Q (hK k) { s with toks := t + drK k } → wpAny (model P w) A' (pyHash v) Q E' { s with toks := t })
    (q : Q (hK (.tup ks)) { s with toks := s.toks + drK (.tup ks) }) : wpAny (model P w) A (pyHash (.ref a)) Q E s := by
  have hT : s.TypeIs (.ref a) "tuple" := ⟨o, ho, hc⟩
  unfold pyHash; unfold pyHashByItsType
  refine wpAny_bind (wpAny_cRoomFor_or (.inr hu) (wpAny_bind (wpAny_specialOf hT PySem.F.slot_tuple_hash.lookup ?_)))
  show wpAny _ _ (if (some (Value.builtin "tuple.__hash__") == some Value.none) = true then _ else _) Q E s; rw [if_neg (by rw [beq_builtin_none]; exact Bool.false_ne_true)]
  refine wpAny_bind (wpAny_specialOf hT PySem.F.slot_tuple_hash.lookup ?_)
  show wpAny _ _ (callSpecialIfBoundUnlessNone? (.ref a) "__hash__" _ >>= _) Q E s
  refine wpAny_bind (wpAny_callSpecialIfBoundUnlessNone?_slot hT PySem.F.slot_tuple_hash (wpAny_call_entry PySem.F.slot_tuple_hash hT PySem.F.entry_tuple_hash ?_ (PySem.F.args_tuple_hash_1 _)))
  show wpAny _ _ (Builtin.Tuple.tupleItemsOf (.ref a) >>= _) _ _ s
  refine wpAny_bind (wpAny_tupleItemsOf ho hd (wpAny_bind ?_)); rw [← Array.forIn_toList]
  refine wpAny_forIn_list _ (fun rest (b : Array Int) s' => ∃ l r, ks = l ++ r ∧ IsVs s.heap r rest ∧ b.toList = l.map hK ∧ s' = { s with toks := s.toks + drKs l }) _ ?_ ?_ _ _ ⟨[], ks, rfl, hi, rfl, rfl⟩
  · rintro x rest b s' ⟨l, r, rfl, hr, hb, rfl⟩
    cases hr with
    | @cons k _ r' _ h1 hr' =>
      have fin : (hK k :: []) = [hK k] := rfl
      refine wpAny_bind (item k (List.mem_append_right _ List.mem_cons_self) _ _ _ x _ (Nat.le_of_eq rfl) h1 ?_)
      have nxt : ∃ l' r'', l ++ k :: r' = l' ++ r'' ∧ IsVs s.heap r'' rest ∧ (b.push (hK k)).toList = l'.map hK ∧ ({ s with toks := s.toks + drKs l + drK k } : Shared) = { s with toks := s.toks + drKs l' } :=
        ⟨l ++ [k], r', by simp, hr', by simp [hb], by rw [drKs_app]; simp [drKs, Nat.add_assoc]⟩
      first
        | exact wpAny_pure nxt
        | exact wpAny_bind (wpAny_pure (wpAny_pure nxt))
  · rintro b s' ⟨l, r, rfl, hr, hb, rfl⟩
    cases hr
    rw [List.append_nil] at q
    show wpAny _ _ (retInt (Builtin.Tuple.tupleHashOf b.toList)) _ _ _; rw [hb]
    refine wpAny_ret_mkInt ?_
    have q' : Q (reduceHash (Builtin.Tuple.tupleHashOf (l.map hK))) { s with toks := s.toks + drKs l + 1 } := by
      rw [← hKs_map]; exact q
    unfold reduceHash at q'
    show wpAny _ _ (if (decide (-(2 : Int) ^ 63 ≤ Builtin.Tuple.tupleHashOf (l.map hK)) && decide (Builtin.Tuple.tupleHashOf (l.map hK) < 2 ^ 63)) = true then _ else _) Q E _
    split
    · rename_i c; rw [if_pos c] at q'; exact wpAny_pure q'
    · rename_i c; rw [if_neg c] at q'; exact wpAny_bind (wpAny_rule (wpAny_pure q'))
theorem hash_ok : ∀ (k : Kt) {A : Around} {s : Shared} {v : Value} {E : Value → Shared → Prop} {Q : Int → Shared → Prop}, IsV s.heap k v → A.units + dpK k ≤ cLine → Q (hK k) { s with toks := s.toks + drK k } → wpAny (model P w) A (pyHash v) Q E s
  | .int i, A, s, v, E, Q, hv, hu, q => by
    cases hv with
    | int _ t => exact (intKind P w).pyHash (intKind_is _ _ _ _) q
  | .tup ks, A, s, v, E, Q, hv, hu, q => by
    cases hv with
    | @tup a o its n _ ho hc hd hi =>
      rw [dpK] at hu
      refine hash_tup ho hc hd hi (by omega) (fun k hk A' E' t u Q' ha hv' q' => hash_ok k (s := { s with toks := t }) hv' ?_ q') q
      have := dpKs_mem hk
      omega
/-! ### == of keys, by the library's == of data -/
mutual
def pK : Kt → PyData
  | .int i => .int i
  | .tup ks => .tuple (pKs ks)
def pKs : List Kt → List PyData
  | [] => []
  | k :: ks => pK k :: pKs ks
end
mutual
theorem IsV.reads {h : Heap} : ∀ {k : Kt} {v : Value}, IsV h k v → ∃ as, Reads h v (pK k) as
  | _, _, .int i t => ⟨_, .int i t⟩
  | _, _, .tup ho hc hd hi => by
    obtain ⟨as, r⟩ := IsVs.reads hi
    exact ⟨as, .tuple ho hc hd r⟩
theorem IsVs.reads {h : Heap} : ∀ {ks : List Kt} {vs : List Value}, IsVs h ks vs → ∃ as, ReadsAll h vs (pKs ks) as
  | _, _, .nil => ⟨_, .nil⟩
  | _, _, .cons a b => by
    obtain ⟨as, r⟩ := IsV.reads a
    obtain ⟨bs, q⟩ := IsVs.reads b
    exact ⟨_, .cons r q⟩
end
mutual
theorem pK_eqv : ∀ (x y : Kt), PyData.eqv (pK x) (pK y) = true ↔ x = y
  | .int i, .int j => by simp [pK, PyData.eqv]
  | .int i, .tup ks => by simp [pK, PyData.eqv]
  | .tup ks, .int i => by simp [pK, PyData.eqv]
  | .tup ks, .tup ls => by
    simp only [pK, PyData.eqv, Kt.tup.injEq]
    exact pKs_eqv ks ls
theorem pKs_eqv : ∀ (x y : List Kt), PyData.eqvAll (pKs x) (pKs y) = true ↔ x = y
  | [], [] => by simp [pKs, PyData.eqvAll]
  | [], k :: ks => by simp [pKs, PyData.eqvAll]
  | k :: ks, [] => by simp [pKs, PyData.eqvAll]
  | k :: ks, l :: ls => by
    simp only [pKs, PyData.eqvAll, Bool.and_eq_true, List.cons.injEq]
    rw [pK_eqv k l, pKs_eqv ks ls]
end
mutual
theorem pK_lay : ∀ k : Kt, (pK k).canLay0 = true
  | .int i => by simp [pK, PyData.canLay0]
  | .tup ks => by simp only [pK, PyData.canLay0]; exact pKs_lay ks
theorem pKs_lay : ∀ ks : List Kt, PyData.canLayAll0 (pKs ks) = true
  | [] => by simp [pKs, PyData.canLayAll0]
  | k :: ks => by simp only [pKs, PyData.canLayAll0, Bool.and_eq_true]; exact ⟨pK_lay k, pKs_lay ks⟩
end
mutual
theorem pK_depth : ∀ k : Kt, (pK k).depth ≤ dpK k + 1
  | .int i => by simp [pK, PyData.depth]
  | .tup ks => by
    simp only [pK, PyData.depth, dpK]
    have := pKs_depth ks
    omega
theorem pKs_depth : ∀ ks : List Kt, PyData.depthAll (pKs ks) ≤ dpKs ks + 1
  | [] => by simp [pKs, PyData.depthAll]
  | k :: ks => by
    simp only [pKs, PyData.depthAll, dpKs]
    have := pK_depth k
    have := pKs_depth ks
    omega
end
end
mutual
theorem IsV.inj {h : Heap} : ∀ {x y : Kt} {v : Value}, IsV h x v → IsV h y v → x = y
  | _, _, _, .int i t, .int _ _ => rfl
  | _, _, _, .tup ho _ hd hi, .tup ho' _ hd' hi' => by
    rw [ho] at ho'; cases ho'
    rw [hd] at hd'; cases hd'
    rw [IsVs.inj hi hi']
theorem IsVs.inj {h : Heap} : ∀ {x y : List Kt} {vs : List Value}, IsVs h x vs → IsVs h y vs → x = y
  | _, _, _, .nil, .nil => rfl
  | _, _, _, .cons a b, .cons a' b' => by rw [IsV.inj a a', IsVs.inj b b']
end
mutual
theorem IsV.keep {h h' : Heap} (k : ∀ b o, h.get? b = some o → o.cls = .type "tuple" → (∃ its n, o.data = .seq its n) → h'.get? b = some o) : ∀ {x : Kt} {v : Value}, IsV h x v → IsV h' x v
  | _, _, .int i t => .int i t
  | _, _, .tup ho hc hd hi => .tup (k _ _ ho hc ⟨_, _, hd⟩) hc hd (IsVs.keep k hi)
theorem IsVs.keep {h h' : Heap} (k : ∀ b o, h.get? b = some o → o.cls = .type "tuple" → (∃ its n, o.data = .seq its n) → h'.get? b = some o) : ∀ {x : List Kt} {v : List Value}, IsVs h x v → IsVs h' x v
  | _, _, .nil => .nil
  | _, _, .cons a b => .cons (IsV.keep k a) (IsVs.keep k b)
end
theorem quiet_all {M : Model} {E : Value → Shared → Prop} : ∀ (n : Nat) {A : Around} {k : Kt} {s : Shared} {v : Value} {Q : Bool → Shared → Prop}, IsV s.heap k v → dpK k ≤ n → Q true s → wpAny M A (eqIsQuiet n v) Q E s
  | n, A, .int i, s, v, Q, hv, hn, q => by
    cases hv
    rw [eqIsQuiet_byValue n rfl]
    exact wpAny_pure q
  | 0, A, .tup ks, s, v, Q, hv, hn, q => by rw [dpK] at hn; omega
  | n + 1, A, .tup ks, s, v, Q, hv, hn, q => by
    cases hv with
    | @tup a o its c _ ho hc hd hi =>
      have hT : s.TypeIs (.ref a) "tuple" := ⟨o, ho, hc⟩
      rw [dpK] at hn
      unfold eqIsQuiet
      refine wpAny_bind (wpAny_specialOf hT PySem.F.slot_tuple_eq.lookup ?_)
      show wpAny _ _ (isInstance (.ref a) (.type "tuple") >>= _) _ _ s
      refine wpAny_bind (wpAny_isInstance hT isSubtype_tuple_tuple ?_)
      simp only [Bool.not_true, Bool.false_eq_true, if_false]
      refine wpAny_bind (wpAny_seqItems ho hd (wpAny_bind ?_))
      show wpAny _ _ (forIn its _ _) _ _ s
      rw [← Array.forIn_toList]
      refine wpAny_forIn_list _ (fun rest r s' => r.1 = none ∧ s' = s ∧ ∃ l, IsVs s.heap l rest ∧ dpKs l ≤ n) _ ?_ ?_ _ _ ⟨rfl, rfl, ks, hi, by omega⟩
      · rintro x rest r s' ⟨hr, rfl, l, hl, ln⟩
        cases hl with
        | @cons k _ l' _ h1 hl' =>
          rw [dpKs] at ln
          refine wpAny_bind (quiet_all n h1 (by omega) ?_)
          simp only [Bool.not_true, Bool.false_eq_true, if_false]
          exact wpAny_pure ⟨rfl, rfl, l', hl', by omega⟩
      · rintro ⟨r1, r2⟩ s' ⟨hr, rfl, _⟩
        simp only at hr
        subst hr
        exact wpAny_pure q
noncomputable instance : DecidableEq Kt := fun _ _ => Classical.propDecidable _
noncomputable def kKind (P : Program) (w : World) : HeapKind P w Kt where
  is := fun h k a => IsV h k (.ref a) ∧ dpK k ≤ 5
  hash := hK
  draws := drK
  room := fun A => A.units + 7 < cLine
  inj := fun hx hy => hx.1.inj hy.1
  keeps := fun {h h' k a d o es ep} x ho hd hs => ⟨x.1.keep fun b o' hb hc ⟨its, n, e⟩ => (hs.2 b fun q => by rw [q, ho] at hb; cases hb; rw [hd] at e; cases e).trans hb, x.2⟩
  pyHash := fun {A E s k a Q} hu hk q => hash_ok k hk.1 (by have := hk.2; omega) q
  eqBool := fun {A E s x y a b Q} hu hx hy q => by
    obtain ⟨as, rx⟩ := hx.1.reads
    obtain ⟨bs, ry⟩ := hy.1.reads
    have e := SeqAt.eqAt_reads (pK x) (pK y) A s _ _ as bs rx ry (pK_lay x) (pK_lay y) (by
      have := pK_depth x
      have := hx.2
      omega)
    have d : PyData.eqv (pK x) (pK y) = decide (x = y) := by
      by_cases z : x = y
      · rw [decide_eq_true z, (pK_eqv x y).mpr z]
      · rw [decide_eq_false z]
        cases c : PyData.eqv (pK x) (pK y) with
        | false => rfl
        | true => exact absurd ((pK_eqv x y).mp c) z
    rw [d] at e
    exact e _ _ _ _ q
  quiet := fun {A E s k a Q} hk q => quiet_all 8 hk.1 (by have := hk.2; omega) q
/-! ### a dict with such keys -/
def entK (x : Kt × Addr × Value) : DictEntry := ⟨hK x.1, .ref x.2.1, x.2.2⟩
def MemoO (a : Addr) (xs : List (Kt × Addr × Value)) : HO := .ext fun h => (a == sysModules) = false ∧ ∃ o es ep, h.get? a = some o ∧ o.ExactDict ∧ o.data = .dict es ep ∧ es.toList = xs.map entK ∧ (xs.map (·.1)).Nodup
theorem memo_ok {P : Program} {w : World} {H : Hp} {h : Heap} {a : Addr} {xs : List (Kt × Addr × Value)} {o : Obj} {es : Array DictEntry} {ep : Nat} (n : (a == sysModules) = false) (h1 : h.get? a = some o) (h2 : o.ExactDict) (h3 : o.data = .dict es ep) (h4 : es.toList = xs.map entK) (h5 : (xs.map (·.1)).Nodup) : ObjOk P w H h a (MemoO a xs) :=
  ⟨⟨n, o, es, ep, h1, h2, h3, h4, h5⟩, ⟨o, h1⟩, fun g1 g2 ⟨n, o, es, ep, q1, q2⟩ k => ⟨n, o, es, ep, k o q1, q2⟩⟩
theorem memo_at {P : Program} {w : World} {H : Hp} {h : Heap} {a : Addr} {xs : List (Kt × Addr × Value)} (ok : HOk P w H h) (e : H a = some (MemoO a xs)) (hk : ∀ x ∈ xs, IsV h x.1 (.ref x.2.1) ∧ dpK x.1 ≤ 5) : (a == sysModules) = false ∧ h.DictOfH (kKind P w) a xs := by
  obtain ⟨⟨n, o, es, ep, h1, h2, h3, h4, h5⟩, _⟩ := (show ObjOk P w H h a (MemoO a xs) from ok a _ e)
  exact ⟨n, o, es, ep, h1, h2, h3, h4, hk, h5⟩
/-- a heap of n records -/
def onlyF : Nat → Heap
  | 0 => {}
  | n + 1 => (onlyF n).push { cls := .none, data := .fields #[] }
theorem onlyF_size : ∀ n, (onlyF n).objs.size = n
  | 0 => rfl
  | n + 1 => by rw [onlyF, Heap.size_push, onlyF_size n]
theorem onlyF_at : ∀ (n : Nat) (b : Addr) (o : Obj), (onlyF n).get? b = some o → o.data = .fields #[]
  | 0, b, o, e => by
    have := Heap.lt_size e
    rw [onlyF_size] at this
    exact absurd this (Nat.not_lt_zero _)
  | n + 1, b, o, e => by
    rcases Heap.get?_push_cases e with ⟨_, rfl⟩ | e
    · rfl
    · exact onlyF_at n b o e
theorem memo_code {a c : Addr} {xs : List (Kt × Addr × Value)} {q : Str} : MemoO a xs ≠ LamX.CodeO c q := fun z => by
  unfold MemoO LamX.CodeO at z
  injection z with z
  have at_c : ((onlyF c).push { cls := .none, data := .fields #[.none, .str q 0] }).get? (onlyF c).objs.size = some { cls := .none, data := .fields #[.none, .str q 0] } := Heap.get?_push_size _ rfl
  rw [onlyF_size] at at_c
  have yes := (congrFun z ((onlyF c).push { cls := .none, data := .fields #[.none, .str q 0] })).mpr ⟨_, _, 0, at_c, rfl, rfl⟩
  obtain ⟨_, o, es, ep, h1, _, h3, _⟩ := yes
  rcases Heap.get?_push_cases h1 with ⟨_, rfl⟩ | e
  · cases h3
  · rw [onlyF_at c a o e] at h3; cases h3
theorem memo_tbl {a : Addr} {xs : List (Kt × Addr × Value)} (ps : Array Value) : MemoO a xs ≠ .tbl ps := fun z => by
  unfold MemoO at z; cases z
/-! ### by values -/
mutual
inductive KVr (K : PySem.W.Frag) (H : Hp) : Kt → V → Prop
  | int (i : Int) : KVr K H (.int i) (.int i)
  | tup {a : Addr} {xs : List V} {ks : List Kt} : SqT K H a xs → KVrs K H ks xs → KVr K H (.tup ks) (.ref a)
inductive KVrs (K : PySem.W.Frag) (H : Hp) : List Kt → List V → Prop
  | nil : KVrs K H [] []
  | cons {k : Kt} {v : V} {ks : List Kt} {vs : List V} : KVr K H k v → KVrs K H ks vs → KVrs K H (k :: ks) (v :: vs)
end
section
variable {X : Cx} {pins : List (Addr × Obj)} {σ : L2.St} {H : Hp} {s : Shared}
mutual
theorem KVr.isV (I : Inv X pins σ H s) : ∀ {k : Kt} {v : V} {u : Value}, KVr X.K H k v → RelV v u → IsV s.heap k u
  | _, _, _, .int i, r => by
    obtain ⟨t, rfl⟩ := r
    exact .int i t
  | _, _, _, .tup hs hk, r => by
    cases r
    obtain ⟨its, rv, ⟨o, ho, hc, n, hd⟩, _⟩ := I.tuple hs
    exact .tup ho hc hd (by rw [List.toList_toArray]; exact KVrs.isVs I hk rv)
theorem KVrs.isVs (I : Inv X pins σ H s) : ∀ {ks : List Kt} {vs : List V} {us : List Value}, KVrs X.K H ks vs → Vals vs us → IsVs s.heap ks us
  | _, _, _, .nil, r => by cases r; exact .nil
  | _, _, _, .cons a b, r => by
    cases r with
    | cons r1 r2 => exact .cons (KVr.isV I a r1) (KVrs.isVs I b r2)
end
/-- x in d, x not in d -/
def rMemoIn (K : PySem.W.Frag) (neg : Bool) : R2 := fun x y H Q => ∃ (a b : Addr) (k : Kt) (xs : List (Kt × Addr × Value)), y = .ref a ∧ x = .ref b ∧ H a = some (MemoO a xs) ∧ (∀ p ∈ xs, KVr K H p.1 (.ref p.2.1) ∧ dpK p.1 ≤ 5) ∧ KVr K H k x ∧ dpK k ≤ 5 ∧
  Q (.bl (if neg then !(xs.map (·.1)).contains k else (xs.map (·.1)).contains k)) H
theorem atKey_has (xs : List (Kt × Addr × Value)) (k : Kt) : (atKey xs k).isSome = (xs.map (·.1)).contains k := by
  induction xs with
  | nil => rfl
  | cons p r ih =>
    unfold atKey at ih ⊢
    rw [List.find?_cons, List.map_cons, List.contains_cons]
    by_cases e : p.1 = k
    · rw [decide_eq_true e]; simp [e]
    · rw [decide_eq_false e]
      have : (k == p.1) = false := by simpa using fun z => e z.symm
      rw [this, Bool.false_or]; exact ih
theorem op_memoIn (hu : X.A.units + 9 < cLine) : OpR X (compareOp .In) (rMemoIn X.K false) := by
  intro pins s σ H x y v u Q I rx ry ⟨a, b, k, xs, ey, ex, ha, hk, hx, dk, q⟩
  subst ey; subst ex
  cases rx; cases ry
  obtain ⟨n, dd⟩ := memo_at (P := X.prog) (w := X.w) I.hok ha fun p hp => ⟨(hk p hp).1.isV I rfl, (hk p hp).2⟩
  refine wpAny_in_heap (knd := kKind X.prog X.w) (show X.A.units + 1 + 7 < cLine by omega) ⟨hx.isV I rfl, dk⟩ n dd ?_
  rw [atKey_has]
  exact ⟨.bl _, H, I.tok _, rfl, q⟩
theorem op_memoNotIn (hu : X.A.units + 9 < cLine) : OpR X (compareOp .NotIn) (rMemoIn X.K true) := by
  intro pins s σ H x y v u Q I rx ry ⟨a, b, k, xs, ey, ex, ha, hk, hx, dk, q⟩
  subst ey; subst ex
  cases rx; cases ry
  obtain ⟨n, dd⟩ := memo_at (P := X.prog) (w := X.w) I.hok ha fun p hp => ⟨(hk p hp).1.isV I rfl, (hk p hp).2⟩
  refine wpAny_notIn_heap (knd := kKind X.prog X.w) (show X.A.units + 1 + 7 < cLine by omega) ⟨hx.isV I rfl, dk⟩ n dd ?_
  rw [atKey_has]
  exact ⟨.bl _, H, I.tok _, rfl, q⟩
/-- d[k] = v -/
def rMemoSet (K : PySem.W.Frag) : V → V → V → Hp → (Hp → Prop) → Prop := fun o i v H Q => ∃ (a b : Addr) (k : Kt) (xs : List (Kt × Addr × Value)), o = .ref a ∧ i = .ref b ∧ H a = some (MemoO a xs) ∧ (∀ p ∈ xs, KVr K H p.1 (.ref p.2.1) ∧ dpK p.1 ≤ 5) ∧ KVr K H k i ∧ dpK k ≤ 5 ∧ xs.length < sizeLine ∧
  ∀ u, Q (upd H a (MemoO a (storedH xs k b u)))
theorem set_memo (hu : X.A.units + 9 < cLine) : PSet X (rMemoSet X.K) := by
  intro pins s σ H o i v ov iv u Q I ro ri rv ⟨a, b, k, xs, eo, ei, ha, hk, hx, dk, hl, q⟩
  subst eo; subst ei
  cases ro; cases ri
  obtain ⟨n, dd⟩ := memo_at (P := X.prog) (w := X.w) I.hok ha fun p hp => ⟨(hk p hp).1.isV I rfl, (hk p hp).2⟩
  refine wpAny_setItem_heap (hsz := by omega) (knd := kKind X.prog X.w) (show X.A.units + 1 + 7 < cLine by omega) ⟨hx.isV I rfl, dk⟩ dd fun h' dd' hs => ?_
  obtain ⟨ob, es, ep, h1, h2, h3, h4, _, h5⟩ := dd'
  exact ⟨_, I.write (x := a) (e := a) (by rw [ha]; trivial) (.inl rfl) (fun c r hb z => (hs.2 c hb).trans z) ⟨ob, h1⟩ (memo_ok n h1 h2 h3 h4 h5), q u⟩
def tMemo0 : TE := fun _ H Q => ∀ p, H p = none → Q (.ref p) (upd H p (MemoO p []))
theorem pe_memo0 {pos : Pos} : PE X (.Dict [] [] pos) tMemo0 := ⟨fun pins s σ H Q I h => by
  refine wpAny_Dict_empty ?_
  have n : (s.heap.objs.size == sysModules) = false := by
    have := I.big
    exact beq_eq_false_iff_ne.mpr (Nat.ne_of_gt this)
  exact ⟨.ref s.heap.objs.size, _, I.laid (a := s.heap.objs.size) (o := MemoO s.heap.objs.size []) (t' := s.toks) (fun _ _ q => Heap.get?_push_of_some _ q) (Nat.le_refl _) (memo_ok n (Heap.get?_push_size _ rfl) ⟨rfl, rfl, rfl⟩ rfl rfl .nil), rfl, h _ (I.hok.fresh (Nat.le_refl _))⟩⟩
end
end Dl

set_option Elab.async false
set_option linter.all false
set_option maxRecDepth 100000
namespace Dl
open PySem PySem.Spec PyProof.Rows L2 LamX

/-! ### data: tuples and lists by what they hold; mutable things by their address -/
/-- a lambda as it was made: its words, the cells that it captured, its code object, the tuple of its default -/
structure LF where
  qual : Str
  params : Arguments
  body : Expr
  scope : Scope
  cl : List (Str × Addr)
  c : Addr
  dt : Option Addr
inductive D where
  | non | bl (b : Bool) | int (i : Int) | str (x : Str) | tup (ds : List D) | ptp (ds : List D) | lst (ds : List D) | scr (ns : List Int) | ref (a : Addr)
  | fn (F : LF) (ws : List V) (dws : List D) | exc (a : Addr) (d : Option Addr) (nm : Str) (ps : List D)
/-- what may change, by what it holds -/
inductive MO where
  | lst (ds : List D)
  | dK (kvs : List (L2.Key × D))
  | dT (kvs : List (List L2.Key × D))
  | ins (C : Addr) (fs : List (Str × D))
  | memo (ks : List Kt)
mutual
/-- data as a key -/
def ktOf : D → Option Kt
  | .int i => some (.int i)
  | .tup ds => (ktsOf ds).map .tup
  | .ptp ds => (ktsOf ds).map .tup
  | _ => none
def ktsOf : List D → Option (List Kt)
  | [] => some []
  | d :: ds => match ktOf d, ktsOf ds with
    | some k, some ks => some (k :: ks)
    | _, _ => none
end
abbrev Store := Addr → Option MO
abbrev Tb := List (Addr × Str)

/-- a tuple at a, hidden or written -/
def TupAt (K : PySem.W.Frag) (H : Hp) (S : Store) (a : Addr) (vs : List V) : Prop :=
  (Rd H a (.tup vs) ∧ S a = none) ∨
    ∃ (o : Obj) (its : Array Value) (n : Nat), K.lookup a = some o ∧ o.cls = .type "tuple" ∧ o.data = .seq its n ∧ its.size ≤ sizeLine ∧ Vals vs its.toList
/-- a tuple whose object is known to have no dict of its own -/
def PtpAt (K : PySem.W.Frag) (H : Hp) (S : Store) (a : Addr) (vs : List V) : Prop :=
  (∃ o : Obj, H a = some (.frz o (.tup vs)) ∧ o.dict = none ∧ S a = none) ∨
    ∃ (o : Obj) (its : Array Value) (n : Nat), K.lookup a = some o ∧ o.cls = .type "tuple" ∧ o.data = .seq its n ∧ its.size ≤ sizeLine ∧ Vals vs its.toList ∧ o.dict = none
/-- a list that is read, hidden or written -/
def LstAt (K : PySem.W.Frag) (Z : List Addr) (H : Hp) (S : Store) (a : Addr) (vs : List V) : Prop :=
  (Rd H a (.lst vs) ∧ S a = none ∧ a ∉ Z) ∨
    ∃ (o : Obj) (its : Array Value) (n : Nat), K.lookup a = some o ∧ o.cls = .type "list" ∧ o.dict = none ∧ o.data = .seq its n ∧ its.size ≤ sizeLine ∧ Vals vs its.toList
theorem TupAt.sq {K : PySem.W.Frag} {H : Hp} {S : Store} {a : Addr} {vs : List V} (h : TupAt K H S a vs) : SqT K H a vs := h.imp (·.1) id
theorem PtpAt.sq {K : PySem.W.Frag} {H : Hp} {S : Store} {a : Addr} {vs : List V} (h : PtpAt K H S a vs) : SqT K H a vs := by
  rcases h with ⟨o, h, _⟩ | ⟨o, its, n, h1, h2, h3, h4, h5, _⟩
  · exact .inl (.inr ⟨o, h⟩)
  · exact .inr ⟨o, its, n, h1, h2, h3, h4, h5⟩
theorem LstAt.sq {K : PySem.W.Frag} {Z : List Addr} {H : Hp} {S : Store} {a : Addr} {vs : List V} (h : LstAt K Z H S a vs) : SqL K H a vs := h.imp (·.1) id
def dtV : Option Addr → Value
  | some t => .ref t
  | none => .none
abbrev LF.fd (F : LF) (pm ctv : Value) : FuncData := { name := "<lambda>", qualname := F.qual, params := F.params, body := .expr F.body, scope := F.scope, globals := mainGlobals, closure := F.cl, defaults := dtV F.dt, kwdefaults := .none, doc := .none, pyModule := pm, annotations := none, code := .ref F.c, closureTuple := ctv, builtins := builtinsNs }
/-- the object at f is the lambda F -/
def LamO (f : Addr) (F : LF) : HO := .ext fun h => ∃ (od : Option Addr) (sl : Array (Option Value)) (pm ctv : Value), h.get? f = some (⟨.type "function", od, .func (F.fd pm ctv), sl⟩ : Obj)
structure FnAt (H : Hp) (S : Store) (a : Addr) (F : LF) : Prop where
  at_ : H a = some (LamO a F)
  ns : S a = none
  co : H F.c = some (CodeO F.c F.qual)
  nc : S F.c = none
  df : ∀ t, F.dt = some t → H t = some (.tup [.int 0]) ∧ S t = none
theorem lamO_ne {f : Addr} {F : LF} : (∀ ps, LamO f F ≠ .tbl ps) ∧ (∀ xs, LamO f F ≠ .lst xs) ∧ LamO f F ≠ .dK [] := by
  unfold LamO
  exact ⟨fun ps z => (by cases z), fun ps z => (by cases z), fun z => (by cases z)⟩
theorem FnAt.mv {H H' : Hp} {S S' : Store} {a : Addr} {F : LF} (h : FnAt H S a F) (x : ∀ b o, S b = none → H b = some o → (∀ ps, o ≠ .tbl ps) → (∀ xs, o ≠ .lst xs) → o ≠ .dK [] → S' b = none ∧ H' b = some o) : FnAt H' S' a F := by
  have c1 : (∀ ps, CodeO F.c F.qual ≠ .tbl ps) ∧ (∀ xs, CodeO F.c F.qual ≠ .lst xs) ∧ CodeO F.c F.qual ≠ .dK [] := by
    unfold CodeO
    exact ⟨fun ps z => (by cases z), fun ps z => (by cases z), fun z => (by cases z)⟩
  obtain ⟨a1, a2⟩ := x a _ h.ns h.at_ lamO_ne.1 lamO_ne.2.1 lamO_ne.2.2
  obtain ⟨b1, b2⟩ := x _ _ h.nc h.co c1.1 c1.2.1 c1.2.2
  refine ⟨a2, a1, b2, b1, fun t e => ?_⟩
  obtain ⟨d1, d2⟩ := h.df t e
  obtain ⟨e1, e2⟩ := x t _ d2 d1 (fun ps z => (by cases z)) (fun ps z => (by cases z)) (fun z => (by cases z))
  exact ⟨e2, e1⟩
/-- the field of an own error that has one -/
def fieldOf (nm : Str) : Str := if nm = "BadHistory" then "number" else "row"
theorem xd_mv {H H' : Hp} {S S' : Store} {b : Addr} {fs : List (Str × V)} (h : H b = some (.xd fs)) (n : S b = none) (x : ∀ b o, S b = none → H b = some o → (∀ ps, o ≠ .tbl ps) → (∀ xs, o ≠ .lst xs) → o ≠ .dK [] → S' b = none ∧ H' b = some o) : H' b = some (.xd fs) ∧ S' b = none :=
  let z := x b _ n h (fun ps z => (by cases z)) (fun ps z => (by cases z)) (fun z => (by cases z))
  ⟨z.2, z.1⟩
mutual
inductive Rep (K : PySem.W.Frag) (Z : List Addr) (H : Hp) (S : Store) : V → D → Prop
  | non : Rep K Z H S .non .non
  | bl (b : Bool) : Rep K Z H S (.bl b) (.bl b)
  | int (i : Int) : Rep K Z H S (.int i) (.int i)
  | str (x : Str) : Rep K Z H S (.str x) (.str x)
  | ref (a : Addr) : Rep K Z H S (.ref a) (.ref a)
  | tup {a : Addr} {vs : List V} {ds : List D} : TupAt K H S a vs → Reps K Z H S vs ds → Rep K Z H S (.ref a) (.tup ds)
  | ptp {a : Addr} {vs : List V} {ds : List D} : PtpAt K H S a vs → Reps K Z H S vs ds → Rep K Z H S (.ref a) (.ptp ds)
  | lst {a : Addr} {vs : List V} {ds : List D} : H a = some (.lst vs) → S a = none → a ∉ Z → Reps K Z H S vs ds → Rep K Z H S (.ref a) (.lst ds)
  | scr {a : Addr} {ns : List Int} : LstAt K Z H S a (ns.map V.int) → Rep K Z H S (.ref a) (.scr ns)
  | fn {a : Addr} {F : LF} {ws : List V} {dws : List D} : FnAt H S a F → Reps K Z H S ws dws → Rep K Z H S (.ref a) (.fn F ws dws)
  | exc0 {a : Addr} {nm : Str} : Rep K Z H S (.ref a) (.exc a none nm [])
  | exc1 {a b : Addr} {nm : Str} {v : V} {d : D} : H b = some (.xd [(fieldOf nm, v)]) → S b = none → Rep K Z H S v d → Rep K Z H S (.ref a) (.exc a (some b) nm [d])
inductive Reps (K : PySem.W.Frag) (Z : List Addr) (H : Hp) (S : Store) : List V → List D → Prop
  | nil : Reps K Z H S [] []
  | cons {v : V} {d : D} {vs : List V} {ds : List D} : Rep K Z H S v d → Reps K Z H S vs ds → Reps K Z H S (v :: vs) (d :: ds)
end
abbrev RKV (K : PySem.W.Frag) (Z : List Addr) (H : Hp) (S : Store) {κ : Type} : List (κ × V) → List (κ × D) → Prop := Paired fun p q => p.1 = q.1 ∧ Rep K Z H S p.2 q.2

def MOk (K : PySem.W.Frag) (Z : List Addr) (H : Hp) (S : Store) (a : Addr) : MO → Prop
  | .lst ds => ∃ vs, H a = some (.lst vs) ∧ Reps K Z H S vs ds
  | .dK kds => ∃ kvs, H a = some (.dK kvs) ∧ RKV K Z H S kvs kds
  | .dT kds => ∃ kvs, H a = some (.dT kvs) ∧ RKV K Z H S kvs kds
  | .ins C fds => ∃ dx fvs, H a = some (.ins C dx fvs) ∧ RKV K Z H S fvs fds
  | .memo ks => ∃ xs : List (Kt × Addr × Value), H a = some (MemoO a xs) ∧ xs.map (·.1) = ks ∧ ∀ x ∈ xs, ∃ d, Rep K Z H S (.ref x.2.1) d ∧ ktOf d = some x.1 ∧ dpK x.1 ≤ 5
structure StOk (K : PySem.W.Frag) (T : Tb) (Z : List Addr) (H : Hp) (S : Store) : Prop where
  tabs : Tabs T H
  rsv : ∀ z ∈ Z, S z = none ∧ ∃ vs, H z = some (.lst vs)
  obj : ∀ a o, S a = some o → MOk K Z H S a o
/-- what is hidden stays -/
structure Ext (H : Hp) (S : Store) (H' : Hp) (S' : Store) : Prop where
  st : ∀ a o, S a = none → H a = some o → (∀ ps, o ≠ .tbl ps) → S' a = none ∧ H' a = some o
theorem Ext.hid {H H' : Hp} {S S' : Store} (x : Ext H S H' S') (a : Addr) (o : HO) (n : S a = none) (e : H a = some o) (nt : ∀ ps, o ≠ .tbl ps) : S' a = none := (x.st a o n e nt).1
theorem Ext.eq {H H' : Hp} {S S' : Store} (x : Ext H S H' S') (a : Addr) (o : HO) (n : S a = none) (e : H a = some o) (nt : ∀ ps, o ≠ .tbl ps) : H' a = some o := (x.st a o n e nt).2
theorem Ext.refl (H : Hp) (S : Store) : Ext H S H S := ⟨fun a o h e _ => ⟨h, e⟩⟩
theorem Ext.trans {H H1 H2 : Hp} {S S1 S2 : Store} (x : Ext H S H1 S1) (y : Ext H1 S1 H2 S2) : Ext H S H2 S2 :=
  ⟨fun a o h e n => y.st a o (x.hid a o h e n) (x.eq a o h e n) n⟩
section
variable {K : PySem.W.Frag} {T : Tb} {Z : List Addr} {H H' : Hp} {S S' : Store}
theorem StOk.get (ok : StOk K T Z H S) {a : Addr} {o : MO} (e : S a = some o) : ∃ u, H a = some u ∧ ∀ ps, u ≠ .tbl ps := by
  have m := ok.obj a o e
  cases o with
  | lst ds => obtain ⟨vs, h, _⟩ := m; exact ⟨_, h, fun ps z => (by cases z)⟩
  | dK ds => obtain ⟨vs, h, _⟩ := m; exact ⟨_, h, fun ps z => (by cases z)⟩
  | dT ds => obtain ⟨vs, h, _⟩ := m; exact ⟨_, h, fun ps z => (by cases z)⟩
  | ins C ds => obtain ⟨dx, vs, h, _⟩ := m; exact ⟨_, h, fun ps z => (by cases z)⟩
  | memo ks => obtain ⟨xs, h, _⟩ := m; exact ⟨_, h, fun ps => memo_tbl ps⟩
theorem StOk.fresh (ok : StOk K T Z H S) {a : Addr} (e : H a = none) : S a = none := by
  cases q : S a with
  | none => rfl
  | some o =>
    obtain ⟨u, h, _⟩ := ok.get q
    rw [e] at h; cases h
theorem StOk.nz (ok : StOk K T Z H S) {p : Addr} (hp : H p = none) : p ∉ Z := fun q => by
  obtain ⟨_, vs, e⟩ := ok.rsv p q
  rw [hp] at e; cases e
theorem Rd.ext {a : Addr} {u : HO} (h : Rd H a u) (n : S a = none) (x : Ext H S H' S') (nt : ∀ ps, u ≠ .tbl ps) : Rd H' a u ∧ S' a = none := by
  rcases h with h | ⟨o, h⟩
  · exact ⟨.inl (x.eq a _ n h nt), x.hid a _ n h nt⟩
  · exact ⟨.inr ⟨o, x.eq a _ n h fun ps z => (by cases z)⟩, x.hid a _ n h fun ps z => (by cases z)⟩
theorem TupAt.ext {a : Addr} {vs : List V} (h : TupAt K H S a vs) (x : Ext H S H' S') : TupAt K H' S' a vs := by
  rcases h with ⟨h, n⟩ | h
  · exact .inl (Rd.ext h n x fun ps z => (by cases z))
  · exact .inr h
theorem PtpAt.ext {a : Addr} {vs : List V} (h : PtpAt K H S a vs) (x : Ext H S H' S') : PtpAt K H' S' a vs := by
  rcases h with ⟨o, h, d, n⟩ | h
  · exact .inl ⟨o, x.eq a _ n h fun ps z => (by cases z), d, x.hid a _ n h fun ps z => (by cases z)⟩
  · exact .inr h
theorem LstAt.ext {a : Addr} {vs : List V} (h : LstAt K Z H S a vs) (x : Ext H S H' S') : LstAt K Z H' S' a vs := by
  rcases h with ⟨h, n, nz⟩ | h
  · obtain ⟨h1, h2⟩ := Rd.ext h n x fun ps z => (by cases z)
    exact .inl ⟨h1, h2, nz⟩
  · exact .inr h
mutual
theorem Rep.ext (x : Ext H S H' S') : ∀ {v : V} {d : D}, Rep K Z H S v d → Rep K Z H' S' v d
  | _, _, .non => .non
  | _, _, .bl b => .bl b
  | _, _, .int i => .int i
  | _, _, .str z => .str z
  | _, _, .ref a => .ref a
  | _, _, .tup h r => .tup (h.ext x) (Reps.ext x r)
  | _, _, .ptp h r => .ptp (h.ext x) (Reps.ext x r)
  | _, _, .lst h n nz r => .lst (x.eq _ _ n h fun ps z => (by cases z)) (x.hid _ _ n h fun ps z => (by cases z)) nz (Reps.ext x r)
  | _, _, .scr h => .scr (h.ext x)
  | _, _, .fn h r => .fn (h.mv fun b o n e t _ _ => x.st b o n e t) (Reps.ext x r)
  | _, _, .exc0 => .exc0
  | _, _, .exc1 h n r => .exc1 (xd_mv h n fun b o n e t _ _ => x.st b o n e t).1 (xd_mv h n fun b o n e t _ _ => x.st b o n e t).2 (Rep.ext x r)
theorem Reps.ext (x : Ext H S H' S') : ∀ {vs : List V} {ds : List D}, Reps K Z H S vs ds → Reps K Z H' S' vs ds
  | _, _, .nil => .nil
  | _, _, .cons r t => .cons (Rep.ext x r) (Reps.ext x t)
end
theorem RKV.ext {κ : Type} (x : Ext H S H' S') {kvs : List (κ × V)} {kds : List (κ × D)} (r : RKV K Z H S kvs kds) : RKV K Z H' S' kvs kds :=
  L2.Paired.mapP r fun _ _ q => ⟨q.1, q.2.ext x⟩
/-- a view of less -/
def Sub (S' S : Store) : Prop := ∀ a o, S' a = some o → S a = some o
theorem Sub.refl (S : Store) : Sub S S := fun _ _ h => h
theorem Sub.trans {S S1 S2 : Store} (a : Sub S S1) (b : Sub S1 S2) : Sub S S2 := fun c o h => b c o (a c o h)
theorem Sub.no {S S' : Store} (h : Sub S' S) {a : Addr} (n : S a = none) : S' a = none := by
  cases q : S' a with
  | none => rfl
  | some o => rw [h a o q] at n; cases n
mutual
theorem Rep.sub (x : Sub S' S) : ∀ {v : V} {d : D}, Rep K Z H S v d → Rep K Z H S' v d
  | _, _, .non => .non
  | _, _, .bl b => .bl b
  | _, _, .int i => .int i
  | _, _, .str z => .str z
  | _, _, .ref a => .ref a
  | _, _, .tup h r => .tup (h.imp (fun z => ⟨z.1, x.no z.2⟩) id) (Reps.sub x r)
  | _, _, .ptp h r => .ptp (h.imp (fun ⟨o, z1, z2, z3⟩ => ⟨o, z1, z2, x.no z3⟩) id) (Reps.sub x r)
  | _, _, .lst h n nz r => .lst h (x.no n) nz (Reps.sub x r)
  | _, _, .scr h => .scr (h.imp (fun z => ⟨z.1, x.no z.2.1, z.2.2⟩) id)
  | _, _, .fn h r => .fn (h.mv fun b o n e _ _ _ => ⟨x.no n, e⟩) (Reps.sub x r)
  | _, _, .exc0 => .exc0
  | _, _, .exc1 h n r => .exc1 h (x.no n) (Rep.sub x r)
theorem Reps.sub (x : Sub S' S) : ∀ {vs : List V} {ds : List D}, Reps K Z H S vs ds → Reps K Z H S' vs ds
  | _, _, .nil => .nil
  | _, _, .cons r t => .cons (Rep.sub x r) (Reps.sub x t)
end
theorem RKV.sub {κ : Type} (x : Sub S' S) {kvs : List (κ × V)} {kds : List (κ × D)} (r : RKV K Z H S kvs kds) : RKV K Z H S' kvs kds :=
  L2.Paired.mapP r fun _ _ q => ⟨q.1, q.2.sub x⟩
theorem MOk.sub (x : Sub S' S) {a : Addr} {o : MO} (m : MOk K Z H S a o) : MOk K Z H S' a o := by
  cases o with
  | lst ds => obtain ⟨vs, h, r⟩ := m; exact ⟨vs, h, r.sub x⟩
  | dK ds => obtain ⟨vs, h, r⟩ := m; exact ⟨vs, h, r.sub x⟩
  | dT ds => obtain ⟨vs, h, r⟩ := m; exact ⟨vs, h, r.sub x⟩
  | ins C ds => obtain ⟨dx, vs, h, r⟩ := m; exact ⟨dx, vs, h, r.sub x⟩
  | memo ks => obtain ⟨xs, h, e, r⟩ := m; exact ⟨xs, h, e, fun y hy => let ⟨d, a, b, c⟩ := r y hy; ⟨d, a.sub x, b, c⟩⟩
theorem StOk.sub (x : Sub S' S) (ok : StOk K T Z H S) : StOk K T Z H S' := ⟨ok.tabs, fun z hz => ⟨x.no (ok.rsv z hz).1, (ok.rsv z hz).2⟩, fun a o e => (ok.obj a o (x a o e)).sub x⟩
theorem Ext.sub {S2 : Store} (x : Ext H S H' S') (z : Sub S2 S') : Ext H S H' S2 := ⟨fun a o n e nt => ⟨z.no (x.hid a o n e nt), x.eq a o n e nt⟩⟩

/-! ### slots -/
abbrev DSt := List (Option D)
structure Slots (K : PySem.W.Frag) (Z : List Addr) (H : Hp) (S : Store) (σ : L2.St) (τ : DSt) : Prop where
  len : σ.length = τ.length
  at_ : ∀ (i : Nat) (d : D), τ[i]? = some (some d) → ∃ v, σ[i]? = some (some v) ∧ Rep K Z H S v d
theorem Slots.ext {σ : L2.St} {τ : DSt} (x : Ext H S H' S') (s : Slots K Z H S σ τ) : Slots K Z H' S' σ τ :=
  ⟨s.len, fun i d e => let ⟨v, h, r⟩ := s.at_ i d e; ⟨v, h, r.ext x⟩⟩
theorem Slots.sub {σ : L2.St} {τ : DSt} (x : Sub S' S) (s : Slots K Z H S σ τ) : Slots K Z H S' σ τ :=
  ⟨s.len, fun i d e => let ⟨v, h, r⟩ := s.at_ i d e; ⟨v, h, r.sub x⟩⟩
theorem Slots.set {σ : L2.St} {τ : DSt} (s : Slots K Z H S σ τ) (i : Nat) {v : V} {d : D} (r : Rep K Z H S v d) : Slots K Z H S (σ.set i (some v)) (τ.set i (some d)) := by
  refine ⟨by simp [s.len], fun j e h => ?_⟩
  by_cases hj : i = j
  · subst hj
    by_cases hi : i < τ.length
    · rw [List.getElem?_set_self hi] at h
      cases h
      exact ⟨v, List.getElem?_set_self (by rw [s.len]; exact hi), r⟩
    · rw [List.getElem?_eq_none (by simp; omega)] at h
      cases h
  · rw [List.getElem?_set_ne hj] at h ⊢
    exact s.at_ j e h
theorem Slots.weak {σ : L2.St} {τ τ' : DSt} (s : Slots K Z H S σ τ) (hl : τ'.length = τ.length) (h : ∀ (i : Nat) (d : D), τ'[i]? = some (some d) → τ[i]? = some (some d)) : Slots K Z H S σ τ' :=
  ⟨s.len.trans hl.symm, fun i d e => s.at_ i d (h i d e)⟩
theorem Reps.length : ∀ {vs : List V} {ds : List D}, Reps K Z H S vs ds → vs.length = ds.length
  | _, _, .nil => rfl
  | _, _, .cons _ t => by simp [Reps.length t]
theorem Reps.get : ∀ {vs : List V} {ds : List D} {i : Nat} {d : D}, Reps K Z H S vs ds → ds[i]? = some d → ∃ v, vs[i]? = some v ∧ Rep K Z H S v d
  | _, _, _, _, .nil, e => by simp at e
  | _, _, 0, _, .cons r _, e => by simp at e; subst e; exact ⟨_, rfl, r⟩
  | _, _, i + 1, d, .cons _ t, e => by
    obtain ⟨u, h1, h2⟩ := Reps.get (i := i) (d := d) t (by simpa using e)
    exact ⟨u, by simpa using h1, h2⟩
theorem Reps.get' : ∀ {vs : List V} {ds : List D} {i : Nat} {v : V}, Reps K Z H S vs ds → vs[i]? = some v → ∃ d, ds[i]? = some d ∧ Rep K Z H S v d
  | _, _, _, _, .nil, e => by simp at e
  | _, _, 0, _, .cons r _, e => by simp at e; subst e; exact ⟨_, rfl, r⟩
  | _, _, i + 1, d, .cons _ t, e => by
    obtain ⟨u, h1, h2⟩ := Reps.get' (i := i) (v := d) t (by simpa using e)
    exact ⟨u, by simpa using h1, h2⟩
theorem Reps.append : ∀ {vs ws : List V} {ds es : List D}, Reps K Z H S vs ds → Reps K Z H S ws es → Reps K Z H S (vs ++ ws) (ds ++ es)
  | _, _, _, _, .nil, q => q
  | _, _, _, _, .cons r t, q => .cons r (Reps.append t q)
theorem Reps.take : ∀ {vs : List V} {ds : List D} (n : Nat), Reps K Z H S vs ds → Reps K Z H S (vs.take n) (ds.take n)
  | _, _, 0, _ => .nil
  | _, _, _ + 1, .nil => .nil
  | _, _, n + 1, .cons r t => .cons r (Reps.take n t)
theorem Reps.drop : ∀ {vs : List V} {ds : List D} (n : Nat), Reps K Z H S vs ds → Reps K Z H S (vs.drop n) (ds.drop n)
  | _, _, 0, r => r
  | _, _, _ + 1, .nil => .nil
  | _, _, n + 1, .cons _ t => Reps.drop n t
theorem Reps.set : ∀ {vs : List V} {ds : List D} (i : Nat) {v : V} {d : D}, Reps K Z H S vs ds → Rep K Z H S v d → Reps K Z H S (vs.set i v) (ds.set i d)
  | _, _, _, _, _, .nil, _ => .nil
  | _, _, 0, _, _, .cons _ t, r => .cons r t
  | _, _, i + 1, _, _, .cons q t, r => .cons q (Reps.set i t r)
theorem Reps.eraseIdx : ∀ {vs : List V} {ds : List D} (i : Nat), Reps K Z H S vs ds → Reps K Z H S (vs.eraseIdx i) (ds.eraseIdx i)
  | _, _, _, .nil => .nil
  | _, _, 0, .cons _ t => t
  | _, _, i + 1, .cons r t => .cons r (Reps.eraseIdx i t)
theorem Reps.ints : ∀ (ns : List Int), Reps K Z H S (ns.map V.int) (ns.map D.int)
  | [] => .nil
  | n :: r => .cons (.int n) (Reps.ints r)
theorem Reps.ints_of : ∀ {ns : List Int} {vs : List V}, Reps K Z H S vs (ns.map D.int) → vs = ns.map V.int
  | [], _, .nil => rfl
  | n :: r, _, .cons (.int _) t => by rw [Reps.ints_of t]; rfl

/-! ### making, changing -/
def ups (S : Store) (a : Addr) (o : MO) : Store := fun b => if b = a then some o else S b
theorem ups_same {a : Addr} {o : MO} : ups S a o a = some o := by unfold ups; rw [if_pos rfl]
theorem ups_ne {a b : Addr} {o : MO} (h : b ≠ a) : ups S a o b = S b := by unfold ups; rw [if_neg h]
theorem Ext.new {p : Addr} {u : HO} (hp : H p = none) : Ext H S (upd H p u) S :=
  ⟨fun a o n e _ => ⟨n, by rw [upd_ne (ne_of_none e hp)]; exact e⟩⟩
theorem Ext.newS {p : Addr} {u : HO} {o : MO} (hp : H p = none) : Ext H S (upd H p u) (ups S p o) :=
  ⟨fun a o' n e _ => ⟨by rw [ups_ne (ne_of_none e hp)]; exact n, by rw [upd_ne (ne_of_none e hp)]; exact e⟩⟩
theorem Ext.put {a : Addr} {u : HO} {o o1 : MO} (h : S a = some o) : Ext H S (upd H a u) (ups S a o1) := by
  have ne : ∀ b, S b = none → b ≠ a := fun b n z => by rw [z, h] at n; cases n
  exact ⟨fun b o' n e _ => ⟨by rw [ups_ne (ne b n)]; exact n, by rw [upd_ne (ne b n)]; exact e⟩⟩
theorem MOk.other {b p : Addr} {u : HO} {o : MO} (x : Ext H S H' S') (hne : H' b = H b) (m : MOk K Z H S b o) : MOk K Z H' S' b o := by
  cases o with
  | lst ds => obtain ⟨vs, h, r⟩ := m; exact ⟨vs, hne.trans h, r.ext x⟩
  | dK ds => obtain ⟨vs, h, r⟩ := m; exact ⟨vs, hne.trans h, r.ext x⟩
  | dT ds => obtain ⟨vs, h, r⟩ := m; exact ⟨vs, hne.trans h, r.ext x⟩
  | ins C ds => obtain ⟨dx, vs, h, r⟩ := m; exact ⟨dx, vs, hne.trans h, r.ext x⟩
  | memo ks => obtain ⟨xs, h, e, r⟩ := m; exact ⟨xs, hne.trans h, e, fun y hy => let ⟨d, a, b, c⟩ := r y hy; ⟨d, a.ext x, b, c⟩⟩
theorem tabs_upd {p : Addr} {u : HO} (t : Tabs T H) (h : H p = none ∨ ∃ o, H p = some o ∧ (∀ ps, o ≠ .tbl ps) ∧ ∀ c q, o ≠ CodeO c q) : Tabs T (upd H p u) := fun z hz => by
  obtain ⟨ps, h1, h2, h3⟩ := t z hz
  have ne : ∀ b o, H b = some o → ((∃ ps, o = .tbl ps) ∨ ∃ c q, o = CodeO c q) → b ≠ p := fun b o e k q => by
    rw [q] at e
    rcases h with h | ⟨o', e', n1, n2⟩
    · rw [e] at h; cases h
    · rw [e] at e'; cases e'
      rcases k with ⟨ps, k⟩ | ⟨c, q, k⟩
      · exact n1 ps k
      · exact n2 c q k
  refine ⟨ps, by rw [upd_ne (ne _ _ h1 (.inl ⟨ps, rfl⟩))]; exact h1, h2, fun pos cv hc => ?_⟩
  obtain ⟨c, e1, e2⟩ := h3 pos cv hc
  exact ⟨c, e1, by rw [upd_ne (ne _ _ e2 (.inr ⟨_, _, rfl⟩))]; exact e2⟩
theorem codeO_not {c : Addr} {q : Str} : (∀ xs, HO.lst xs ≠ CodeO c q) ∧ (∀ xs, HO.dK xs ≠ CodeO c q) ∧ (∀ xs, HO.dT xs ≠ CodeO c q) ∧ ∀ C dx fs, HO.ins C dx fs ≠ CodeO c q := by
  unfold CodeO
  refine ⟨fun xs z => ?_, fun xs z => ?_, fun xs z => ?_, fun C dx fs z => ?_⟩ <;> cases z
/-- a new hidden thing -/
theorem StOk.new {p : Addr} {u : HO} (ok : StOk K T Z H S) (hp : H p = none) : StOk K T Z (upd H p u) S := by
  refine ⟨tabs_upd ok.tabs (.inl hp), fun z hz => ⟨(ok.rsv z hz).1, (ok.rsv z hz).2.imp fun vs e => by rw [upd_ne (ne_of_none e hp)]; exact e⟩, fun a o e => (ok.obj a o e).other (p := p) (u := u) (Ext.new hp) ?_⟩
  obtain ⟨w, h, _⟩ := ok.get e
  exact upd_ne (ne_of_none h hp)
/-- a new thing of the store -/
theorem StOk.newS {p : Addr} {u : HO} {o : MO} (ok : StOk K T Z H S) (hp : H p = none) (m : MOk K Z (upd H p u) (ups S p o) p o) : StOk K T Z (upd H p u) (ups S p o) := by
  refine ⟨tabs_upd ok.tabs (.inl hp), fun z hz => ?_, fun a o' e => ?_⟩
  · obtain ⟨n, vs, e⟩ := ok.rsv z hz
    exact ⟨by rw [ups_ne (ne_of_none e hp)]; exact n, vs, by rw [upd_ne (ne_of_none e hp)]; exact e⟩
  by_cases h : a = p
  · subst h; rw [ups_same] at e; cases e; exact m
  · rw [ups_ne h] at e
    exact (ok.obj a o' e).other (p := p) (u := u) (Ext.newS hp) (upd_ne h)
/-- a thing of the store is changed -/
theorem StOk.put {a : Addr} {u : HO} {o o1 : MO} (ok : StOk K T Z H S) (h : S a = some o) (m : MOk K Z (upd H a u) (ups S a o1) a o1) : StOk K T Z (upd H a u) (ups S a o1) := by
  have mm := ok.obj a o h
  refine ⟨tabs_upd ok.tabs (.inr ?_), fun z hz => ?_, fun b o' e => ?_⟩
  · cases o with
    | lst ds => obtain ⟨vs, h, r⟩ := mm; exact ⟨_, h, ⟨fun ps z => (by cases z), fun c q => codeO_not.1 _⟩⟩
    | dK ds => obtain ⟨vs, h, r⟩ := mm; exact ⟨_, h, ⟨fun ps z => (by cases z), fun c q => codeO_not.2.1 _⟩⟩
    | dT ds => obtain ⟨vs, h, r⟩ := mm; exact ⟨_, h, ⟨fun ps z => (by cases z), fun c q => codeO_not.2.2.1 _⟩⟩
    | ins C ds => obtain ⟨dx, vs, h, r⟩ := mm; exact ⟨_, h, ⟨fun ps z => (by cases z), fun c q => codeO_not.2.2.2 _ _ _⟩⟩
    | memo ks => obtain ⟨xs, h, _⟩ := mm; exact ⟨_, h, ⟨fun ps => memo_tbl ps, fun c q => memo_code⟩⟩
  · obtain ⟨n, vs, e⟩ := ok.rsv z hz
    have ne : z ≠ a := fun q => by rw [q, h] at n; cases n
    exact ⟨by rw [ups_ne ne]; exact n, vs, by rw [upd_ne ne]; exact e⟩
  · by_cases hb : b = a
    · subst hb; rw [ups_same] at e; cases e; exact m
    · rw [ups_ne hb] at e
      exact (ok.obj b o' e).other (p := a) (u := u) (Ext.put h) (upd_ne hb)
end

/-! ### readings over the data -/
abbrev DK := D → Store → Prop
abbrev DE := DSt → Store → DK → Prop
abbrev DT := DSt → Store → (Bool → Store → Prop) → Prop
abbrev DA := DSt → Store → (List D → Store → Prop) → Prop
structure DEnds where
  nx : DSt → Store → Prop
  rt : DK
  bk : DSt → Store → Prop := fun _ _ => False
  ct : DSt → Store → Prop := fun _ _ => False
  ex : Addr → DSt → Store → Prop := fun _ _ _ => False
  ey : Str → List D → DSt → Store → Prop := fun _ _ _ _ => False
abbrev DS := DEnds → DSt → Store → Prop

def lf (K : PySem.W.Frag) (T : Tb) (Ψ : DE) : TE := fun σ H Q => ∃ Z τ S R, Slots K Z H S σ τ ∧ StOk K T Z H S ∧ Ψ τ S R ∧ ∀ v H' d S', Ext H S H' S' → Rep K Z H' S' v d → StOk K T Z H' S' → R d S' → Q v H'
def lfT (K : PySem.W.Frag) (T : Tb) (Ψ : DT) : TT := fun σ H Q => ∃ Z τ S R, Slots K Z H S σ τ ∧ StOk K T Z H S ∧ Ψ τ S R ∧ ∀ b H' S', Ext H S H' S' → StOk K T Z H' S' → R b S' → Q b H'
def lfA (K : PySem.W.Frag) (T : Tb) (Ψ : DA) : TA := fun σ H Q => ∃ Z τ S R, Slots K Z H S σ τ ∧ StOk K T Z H S ∧ Ψ τ S R ∧ ∀ vs H' ds S', Ext H S H' S' → Reps K Z H' S' vs ds → StOk K T Z H' S' → R ds S' → Q vs H'
/-- what the D-ends give of the ends -/
structure EOk (K : PySem.W.Frag) (T : Tb) (Z : List Addr) (H : Hp) (S : Store) (D : Ends) (E : DEnds) : Prop where
  nx : ∀ σ H' τ S', Ext H S H' S' → Slots K Z H' S' σ τ → StOk K T Z H' S' → E.nx τ S' → D.nx σ H'
  rt : ∀ v H' d S', Ext H S H' S' → Rep K Z H' S' v d → StOk K T Z H' S' → E.rt d S' → D.rt v H'
  bk : ∀ σ H' τ S', Ext H S H' S' → Slots K Z H' S' σ τ → StOk K T Z H' S' → E.bk τ S' → D.bk σ H'
  ct : ∀ σ H' τ S', Ext H S H' S' → Slots K Z H' S' σ τ → StOk K T Z H' S' → E.ct τ S' → D.ct σ H'
theorem EOk.later {K : PySem.W.Frag} {T : Tb} {Z : List Addr} {H H' : Hp} {S S' : Store} {D : Ends} {E : DEnds} (e : EOk K T Z H S D E) (x : Ext H S H' S') : EOk K T Z H' S' D E :=
  ⟨fun σ H2 τ S2 y => e.nx σ H2 τ S2 (x.trans y), fun v H2 d S2 y => e.rt v H2 d S2 (x.trans y), fun σ H2 τ S2 y => e.bk σ H2 τ S2 (x.trans y), fun σ H2 τ S2 y => e.ct σ H2 τ S2 (x.trans y)⟩
def lfS (K : PySem.W.Frag) (T : Tb) (Θ : DS) : TS := fun D σ H => ∃ Z τ S E, Slots K Z H S σ τ ∧ StOk K T Z H S ∧ Θ E τ S ∧ EOk K T Z H S D E

abbrev XE (X : Cx) (T : Tb) (e : Expr) (Ψ : DE) : Prop := PE X e (lf X.K T Ψ)
abbrev XT (X : Cx) (T : Tb) (e : Expr) (Ψ : DT) : Prop := PT X e (lfT X.K T Ψ)
abbrev XW (X : Cx) (T : Tb) (e : Expr) (Ψ : DT) : Prop := PW X e (lfT X.K T Ψ)
abbrev XA (X : Cx) (T : Tb) (es : List Expr) (Ψ : DA) : Prop := PA X es (lfA X.K T Ψ)
abbrev XS (X : Cx) (T : Tb) (st : Stmt) (Θ : DS) : Prop := PS X st (lfS X.K T Θ)
abbrev XSs (X : Cx) (T : Tb) (st : List Stmt) (Θ : DS) : Prop := PSs X st (lfS X.K T Θ)

section
variable {X : Cx} {T : Tb} {e a b : Expr} {es : List Expr} {pos : Pos}
theorem _root_.L2.PE.imp {t t' : TE} (h : PE X e t) (w : ∀ σ H Q, t' σ H Q → t σ H Q) : PE X e t' := ⟨fun pins s σ H Q I q => h.run pins s σ H Q I (w σ H Q q)⟩
theorem _root_.L2.PT.imp {t t' : TT} (h : PT X e t) (w : ∀ σ H Q, t' σ H Q → t σ H Q) : PT X e t' := ⟨fun pins s σ H Q I q => h.run pins s σ H Q I (w σ H Q q)⟩
theorem _root_.L2.PW.imp {t t' : TT} (h : PW X e t) (w : ∀ σ H Q, t' σ H Q → t σ H Q) : PW X e t' := ⟨fun wh pins s σ H Q I q => h.run wh pins s σ H Q I (w σ H Q q)⟩
theorem _root_.L2.PA.imp {t t' : TA} (h : PA X es t) (w : ∀ σ H Q, t' σ H Q → t σ H Q) : PA X es t' := ⟨fun p pins s σ H Q I q => h.run p pins s σ H Q I (w σ H Q q)⟩
theorem _root_.L2.PS.imp {st : Stmt} {t t' : TS} (h : PS X st t) (w : ∀ D σ H, t' D σ H → t D σ H) : PS X st t' := ⟨fun pins s σ H D I q => h.run pins s σ H D I (w D σ H q)⟩
theorem _root_.L2.PSs.imp {st : List Stmt} {t t' : TS} (h : PSs X st t) (w : ∀ D σ H, t' D σ H → t D σ H) : PSs X st t' := ⟨fun pins s σ H D I q => h.run pins s σ H D I (w D σ H q)⟩

/-! ### names, constants -/
def dVar (i : Nat) : DE := fun τ S Q => match τ[i]? with
  | some (some d) => Q d S
  | _ => False
def dC (d : D) : DE := fun _ S Q => Q d S
theorem xv (i : Nat) {x : Str} (hN : X.N[i]? = some x := by rfl) (hv : Vis X.env.scope x := by first | exact Or.inl rfl | exact Or.inr (Or.inl rfl) | exact Or.inr (Or.inr rfl)) (hd : (x == ("__debug__" : Str)) = false := by decide)
    (hcd : (x == ("__classdict__" : Str)) = false := by decide) : XE X T (.Name x pos) (dVar i) := by
  refine (pe_var hN hv hd hcd).imp fun σ H Q ⟨Z, τ, S, R, sl, ok, h, k⟩ => ?_
  unfold dVar at h
  split at h
  · rename_i d e
    obtain ⟨v, e1, r⟩ := sl.at_ i d e
    exact ⟨v, e1, k v H d S (.refl _ _) r ok h⟩
  · exact h.elim
theorem xc {v : V} {d : D} (h : PE X e (tC v)) (r : ∀ Z H S, Rep X.K Z H S v d) : XE X T e (dC d) :=
  h.imp fun σ H Q ⟨Z, τ, S, R, sl, ok, h, k⟩ => k v H d S (.refl _ _) (r Z H S) ok h
theorem x_int {i : Int} {j} : XE X T (.Constant (.int i) j pos) (dC (.int i)) := xc pe_int fun _ _ _ => .int i
theorem x_bl {i : Bool} {j} : XE X T (.Constant (.bool i) j pos) (dC (.bl i)) := xc pe_bl fun _ _ _ => .bl i
theorem x_non {j} : XE X T (.Constant .none j pos) (dC .non) := xc pe_non fun _ _ _ => .non
theorem x_str {i : Str} {j} : XE X T (.Constant (.str i) j pos) (dC (.str i)) := xc pe_str fun _ _ _ => .str i

/-! ### two-place operations by values -/
abbrev DR2 := D → D → Store → DK → Prop
/-- r keeps what R says -/
def Op2 (K : PySem.W.Frag) (T : Tb) (r : R2) (R : DR2) : Prop := ∀ (Z : List Addr) (H : Hp) (S : Store) (vx vy : V) (x y : D) (Qd : DK) (Q : VK), StOk K T Z H S → Rep K Z H S vx x → Rep K Z H S vy y → R x y S Qd →
  (∀ v H' d S', Ext H S H' S' → Rep K Z H' S' v d → StOk K T Z H' S' → Qd d S' → Q v H') → r vx vy H Q
def d2 (R : DR2) (Ψa Ψb : DE) : DE := fun τ S Q => Ψa τ S fun x S1 => Ψb τ S1 fun y S2 => R x y S2 Q
theorem lf_two {Ψa Ψb : DE} {R : DR2} {r : R2} {K : PySem.W.Frag} (hr : Op2 K T r R) (σ : L2.St) (H : Hp) (Q : VK) (h : lf K T (d2 R Ψa Ψb) σ H Q) : tOp r (lf K T Ψa) (lf K T Ψb) σ H Q := by
  obtain ⟨Z, τ, S, Rd', sl, ok, h, k⟩ := h
  refine ⟨Z, τ, S, _, sl, ok, h, fun vx H1 x S1 x1 rx ok1 h1 => ?_⟩
  refine ⟨Z, τ, S1, _, sl.ext x1, ok1, h1, fun vy H2 y S2 x2 ry ok2 h2 => ?_⟩
  exact hr Z H2 S2 vx vy x y Rd' Q ok2 (rx.ext x2) ry h2 fun v H' d S' x3 r3 ok3 q3 => k v H' d S' (x1.trans (x2.trans x3)) r3 ok3 q3
theorem x_op {op : Operator} {r : R2} {R : DR2} {Ψa Ψb : DE} (ho : OpR X (binaryOp op) r) (hr : Op2 X.K T r R) (ha : XE X T a Ψa) (hb : XE X T b Ψb) : XE X T (.BinOp a op b pos) (d2 R Ψa Ψb) :=
  (pe_op ho ha hb).imp fun σ H Q h => lf_two hr σ H Q h
theorem x_cmp {op : CmpOp} {r : R2} {R : DR2} {Ψa Ψb : DE} (ho : OpR X (compareOp op) r) (hr : Op2 X.K T r R) (ha : XE X T a Ψa) (hb : XE X T b Ψb) (hm : behindInMarks op b = false) : XE X T (.Compare a [op] [b] pos) (d2 R Ψa Ψb) :=
  (pe_cmpR ho ha hb hm).imp fun σ H Q h => lf_two hr σ H Q h
/-- a value that is a bool, as a test -/
def dTest (Ψ : DE) : DT := fun τ S Q => Ψ τ S fun d S' => match d with
  | .bl b => Q b S'
  | _ => False
theorem Rep.bool {K : PySem.W.Frag} {Z : List Addr} {H : Hp} {S : Store} {v : V} {b : Bool} (r : Rep K Z H S v (.bl b)) : v = .bl b := by cases r; rfl
theorem Rep.int' {K : PySem.W.Frag} {Z : List Addr} {H : Hp} {S : Store} {v : V} {i : Int} (r : Rep K Z H S v (.int i)) : v = .int i := by cases r; rfl
theorem Rep.str' {K : PySem.W.Frag} {Z : List Addr} {H : Hp} {S : Store} {v : V} {i : Str} (r : Rep K Z H S v (.str i)) : v = .str i := by cases r; rfl
theorem Rep.non' {K : PySem.W.Frag} {Z : List Addr} {H : Hp} {S : Store} {v : V} (r : Rep K Z H S v .non) : v = .non := by cases r; rfl
theorem lf_test {Ψ : DE} {K : PySem.W.Frag} (σ : L2.St) (H : Hp) (Q : Bool → Hp → Prop) (h : lfT K T (dTest Ψ) σ H Q) : tB (lf K T Ψ) σ H Q := by
  obtain ⟨Z, τ, S, R, sl, ok, h, k⟩ := h
  refine ⟨Z, τ, S, _, sl, ok, h, fun v H' d S' x r ok' q => ?_⟩
  cases d with
  | bl b =>
    rw [r.bool]
    exact ⟨b, rfl, k b H' S' x ok' q⟩
  | _ => exact q.elim
theorem t_cmp {op : CmpOp} {r : R2} {R : DR2} {Ψa Ψb : DE} (ho : OpR X (compareOp op) r) (hr : Op2 X.K T r R) (ha : XE X T a Ψa) (hb : XE X T b Ψb) (hm : behindInMarks op b = false) : XT X T (.Compare a [op] [b] pos) (dTest (d2 R Ψa Ψb)) := by
  refine (pt_cmpR ho ha hb hm).imp fun σ H Q h => ?_
  obtain ⟨Z, τ, S, R', sl, ok, h, k⟩ := h
  refine lf_two hr σ H _ ⟨Z, τ, S, _, sl, ok, h, fun v H' d S' x r ok' q => ?_⟩
  cases d with
  | bl b =>
    rw [r.bool]
    exact ⟨b, rfl, k b H' S' x ok' q⟩
  | _ => exact q.elim
theorem t_val {Ψ : DE} (h : XE X T e Ψ) (he : ∀ whole, isTrue e X.env whole = (do let v ← whole; standAt e.pos; holding [v] (truthy v)) := by intro _; rfl) : XT X T e (dTest Ψ) :=
  (pt_val h he).imp fun σ H Q q => lf_test σ H Q q
end
end Dl

set_option Elab.async false
set_option linter.all false
set_option maxRecDepth 100000
namespace Dl
open PySem PySem.Spec PyProof.Rows L2 LamX
section
variable {X : Cx} {T : Tb} {e a b c : Expr} {es rest : List Expr} {pos : Pos} {st : Stmt} {sts : List Stmt}

/-! ### tests -/
def dAnd (A B : DT) : DT := fun τ S Q => A τ S fun x S1 => if x = true then B τ S1 Q else Q false S1
def dOr (A B : DT) : DT := fun τ S Q => A τ S fun x S1 => if x = true then Q true S1 else B τ S1 Q
def dNot (A : DT) : DT := fun τ S Q => A τ S fun x S1 => Q (!x) S1
theorem w_and1 {A : DT} (ha : XT X T a A) : XW X T (.BoolOp .And [a] pos) A := pw_and1 ha
theorem w_or1 {A : DT} (ha : XT X T a A) : XW X T (.BoolOp .Or [a] pos) A := pw_or1 ha
theorem w_and {A B : DT} (ha : XT X T a A) (hb : XW X T (.BoolOp .And (b :: rest) pos) B) : XW X T (.BoolOp .And (a :: b :: rest) pos) (dAnd A B) :=
  (pw_and ha hb).imp fun σ H Q ⟨Z, τ, S, R, sl, ok, h, k⟩ => ⟨Z, τ, S, _, sl, ok, h, fun x H1 S1 x1 ok1 h1 => by
    cases x with
    | true => exact ⟨Z, τ, S1, R, sl.ext x1, ok1, h1, fun y H2 S2 x2 => k y H2 S2 (x1.trans x2)⟩
    | false => exact k false H1 S1 x1 ok1 h1⟩
theorem w_or {A B : DT} (ha : XT X T a A) (hb : XW X T (.BoolOp .Or (b :: rest) pos) B) : XW X T (.BoolOp .Or (a :: b :: rest) pos) (dOr A B) :=
  (pw_or ha hb).imp fun σ H Q ⟨Z, τ, S, R, sl, ok, h, k⟩ => ⟨Z, τ, S, _, sl, ok, h, fun x H1 S1 x1 ok1 h1 => by
    cases x with
    | true => exact k true H1 S1 x1 ok1 h1
    | false => exact ⟨Z, τ, S1, R, sl.ext x1, ok1, h1, fun y H2 S2 x2 => k y H2 S2 (x1.trans x2)⟩⟩
theorem t_not {A : DT} (ha : XT X T a A) : XT X T (.UnaryOp .Not a pos) (dNot A) :=
  (pt_not ha).imp fun σ H Q ⟨Z, τ, S, R, sl, ok, h, k⟩ => ⟨Z, τ, S, _, sl, ok, h, fun x H1 S1 x1 ok1 h1 => k (!x) H1 S1 x1 ok1 h1⟩
/-! and, or, not as values, of bools -/
def dAndV (A B : DE) : DE := fun τ S Q => A τ S fun d S1 => match d with
  | .bl x => if x = true then B τ S1 Q else Q (.bl false) S1
  | _ => False
def dOrV (A B : DE) : DE := fun τ S Q => A τ S fun d S1 => match d with
  | .bl x => if x = true then Q (.bl true) S1 else B τ S1 Q
  | _ => False
def dNotV (A : DE) : DE := fun τ S Q => A τ S fun d S1 => match d with
  | .bl x => Q (.bl (!x)) S1
  | _ => False
theorem x_one {op} {A : DE} (h : XE X T a A) : XE X T (.BoolOp op [a] pos) A := pe_one h
theorem x_and {A B : DE} (ha : XE X T a A) (hb : XE X T (.BoolOp .And (b :: rest) pos) B) : XE X T (.BoolOp .And (a :: b :: rest) pos) (dAndV A B) :=
  (pe_and ha hb).imp fun σ H Q ⟨Z, τ, S, R, sl, ok, h, k⟩ => ⟨Z, τ, S, _, sl, ok, h, fun v H1 d S1 x1 r1 ok1 h1 => by
    cases d with
    | bl x =>
      refine ⟨x, r1.bool, ?_⟩
      cases x with
      | true => exact ⟨Z, τ, S1, R, sl.ext x1, ok1, h1, fun v H2 d S2 x2 => k v H2 d S2 (x1.trans x2)⟩
      | false => exact k _ H1 _ S1 x1 (.bl false) ok1 h1
    | _ => exact h1.elim⟩
theorem x_or {A B : DE} (ha : XE X T a A) (hb : XE X T (.BoolOp .Or (b :: rest) pos) B) : XE X T (.BoolOp .Or (a :: b :: rest) pos) (dOrV A B) :=
  (pe_or ha hb).imp fun σ H Q ⟨Z, τ, S, R, sl, ok, h, k⟩ => ⟨Z, τ, S, _, sl, ok, h, fun v H1 d S1 x1 r1 ok1 h1 => by
    cases d with
    | bl x =>
      refine ⟨x, r1.bool, ?_⟩
      cases x with
      | true => exact k _ H1 _ S1 x1 (.bl true) ok1 h1
      | false => exact ⟨Z, τ, S1, R, sl.ext x1, ok1, h1, fun v H2 d S2 x2 => k v H2 d S2 (x1.trans x2)⟩
    | _ => exact h1.elim⟩
theorem x_not {A : DE} (ha : XE X T a A) : XE X T (.UnaryOp .Not a pos) (dNotV A) :=
  (pe_not ha).imp fun σ H Q ⟨Z, τ, S, R, sl, ok, h, k⟩ => ⟨Z, τ, S, _, sl, ok, h, fun v H1 d S1 x1 r1 ok1 h1 => by
    cases d with
    | bl x => exact ⟨x, r1.bool, k _ H1 _ S1 x1 (.bl _) ok1 h1⟩
    | _ => exact h1.elim⟩
def dIf (C : DT) (A B : DE) : DE := fun τ S Q => C τ S fun x S1 => if x = true then A τ S1 Q else B τ S1 Q
theorem x_if {C : DT} {A B : DE} (hc : XT X T c C) (ha : XE X T a A) (hb : XE X T b B) : XE X T (.IfExp c a b pos) (dIf C A B) :=
  (pe_ifExp hc ha hb).imp fun σ H Q ⟨Z, τ, S, R, sl, ok, h, k⟩ => ⟨Z, τ, S, _, sl, ok, h, fun x H1 S1 x1 ok1 h1 => by
    cases x with
    | true => exact ⟨Z, τ, S1, R, sl.ext x1, ok1, h1, fun v H2 d S2 x2 => k v H2 d S2 (x1.trans x2)⟩
    | false => exact ⟨Z, τ, S1, R, sl.ext x1, ok1, h1, fun v H2 d S2 x2 => k v H2 d S2 (x1.trans x2)⟩⟩
/-! ### a < b < c -/
def dChain (R R' : DR2) (A B C : DE) : DE := fun τ S Q => A τ S fun x S1 => B τ S1 fun y S2 => R x y S2 fun z S3 => match z with
  | .bl k => if k = true then C τ S3 fun w S4 => R' y w S4 Q else Q (.bl false) S3
  | _ => False
theorem lf_chain {r r' : R2} {R R' : DR2} {A B C : DE} {K : PySem.W.Frag} (hr : Op2 K T r R) (hr' : Op2 K T r' R') (σ : L2.St) (H : Hp) (Q : VK) (h : lf K T (dChain R R' A B C) σ H Q) : tChain r r' (lf K T A) (lf K T B) (lf K T C) σ H Q := by
  obtain ⟨Z, τ, S, G, sl, ok, h, k⟩ := h
  refine ⟨Z, τ, S, _, sl, ok, h, fun vx H1 x S1 x1 rx ok1 h1 => ?_⟩
  refine ⟨Z, τ, S1, _, sl.ext x1, ok1, h1, fun vy H2 y S2 x2 ry ok2 h2 => ?_⟩
  refine hr Z H2 S2 vx vy x y _ _ ok2 (rx.ext x2) ry h2 fun v H3 z S3 x3 rz ok3 h3 => ?_
  cases z with
  | bl q =>
    refine ⟨q, rz.bool, ?_⟩
    cases q with
    | true =>
      refine ⟨Z, τ, S3, _, sl.ext (x1.trans (x2.trans x3)), ok3, h3, fun vw H4 w S4 x4 rw ok4 h4 => ?_⟩
      exact hr' Z H4 S4 vy vw y w _ _ ok4 (ry.ext (x3.trans x4)) rw h4 fun v H5 d S5 x5 => k v H5 d S5 (x1.trans (x2.trans (x3.trans (x4.trans x5))))
    | false => exact k _ H3 _ S3 (x1.trans (x2.trans x3)) (.bl false) ok3 h3
  | _ => exact h3.elim
theorem x_chain {op op' : CmpOp} {r r' : R2} {R R' : DR2} {A B C : DE} (ho : OpR X (compareOp op) r) (hr : Op2 X.K T r R) (ho' : OpR X (compareOp op') r') (hr' : Op2 X.K T r' R') (ha : XE X T a A) (hb : XE X T b B) (hc : XE X T c C)
    (hm : lastMarks [op, op'] [b, c] = false := by with_unfolding_all rfl) : XE X T (.Compare a [op, op'] [b, c] pos) (dChain R R' A B C) :=
  (pe_chain ho ho' ha hb hc hm).imp fun σ H Q h => lf_chain hr hr' σ H Q h
theorem t_chain {op op' : CmpOp} {r r' : R2} {R R' : DR2} {A B C : DE} (ho : OpR X (compareOp op) r) (hr : Op2 X.K T r R) (ho' : OpR X (compareOp op') r') (hr' : Op2 X.K T r' R') (ha : XE X T a A) (hb : XE X T b B) (hc : XE X T c C)
    (hm : lastMarks [op, op'] [b, c] = false := by with_unfolding_all rfl) : XT X T (.Compare a [op, op'] [b, c] pos) (dTest (dChain R R' A B C)) := by
  refine (pt_chain ho ho' ha hb hc hm).imp fun σ H Q ⟨Z, τ, S, G, sl, ok, h, k⟩ => ?_
  refine lf_chain hr hr' σ H _ ⟨Z, τ, S, _, sl, ok, h, fun v H' d S' x r ok' q => ?_⟩
  cases d with
  | bl z => exact ⟨z, r.bool, k z H' S' x ok' q⟩
  | _ => exact q.elim

/-! ### lists of arguments, displays -/
def dNil : DA := fun _ S Q => Q [] S
def dCons (A : DE) (B : DA) : DA := fun τ S Q => A τ S fun d S1 => B τ S1 fun ds S2 => Q (d :: ds) S2
theorem a_nil : XA X T [] dNil := pa_nil.imp fun σ H Q ⟨Z, τ, S, R, sl, ok, h, k⟩ => k [] H [] S (.refl _ _) .nil ok h
theorem a_cons {A : DE} {B : DA} (ha : XE X T e A) (hr : XA X T es B) (hs : starEach (e :: es) X.env = (false, eval e X.env) :: starEach es X.env := by rfl) : XA X T (e :: es) (dCons A B) :=
  (pa_cons ha hr hs).imp fun σ H Q ⟨Z, τ, S, R, sl, ok, h, k⟩ => ⟨Z, τ, S, _, sl, ok, h, fun v H1 d S1 x1 r1 ok1 h1 =>
    ⟨Z, τ, S1, _, sl.ext x1, ok1, h1, fun vs H2 ds S2 x2 r2 ok2 h2 => k _ H2 _ S2 (x1.trans x2) (.cons (r1.ext x2) r2) ok2 h2⟩⟩
def dTup (A : DA) : DE := fun τ S Q => A τ S fun ds S1 => ds.length ≤ sizeLine ∧ Q (.tup ds) S1
def dLst (A : DA) : DE := fun τ S Q => A τ S fun ds S1 => ds.length ≤ sizeLine ∧ Q (.lst ds) S1
def dLstR (A : DA) : DE := fun τ S Q => A τ S fun ds S1 => ds.length ≤ sizeLine ∧ ∀ p, S1 p = none → Q (.ref p) (ups S1 p (.lst ds))
theorem Rep.newTup {K : PySem.W.Frag} {Z : List Addr} {H : Hp} {S : Store} {vs : List V} {ds : List D} (r : Reps K Z H S vs ds) {p : Addr} (hp : H p = none) (hs : S p = none) : Rep K Z (upd H p (.tup vs)) S (.ref p) (.tup ds) :=
  .tup (.inl ⟨.inl upd_same, hs⟩) (r.ext (.new hp))
theorem Rep.newLst {K : PySem.W.Frag} {Z : List Addr} {H : Hp} {S : Store} {vs : List V} {ds : List D} (r : Reps K Z H S vs ds) {p : Addr} (hp : H p = none) (hs : S p = none) (nz : p ∉ Z) : Rep K Z (upd H p (.lst vs)) S (.ref p) (.lst ds) :=
  .lst upd_same hs nz (r.ext (.new hp))
theorem x_tup {A : DA} {k} (h : XA X T es A) : XE X T (.Tuple es k pos) (dTup A) :=
  (pe_tup h).imp fun σ H Q ⟨Z, τ, S, R, sl, ok, h, k⟩ => ⟨Z, τ, S, _, sl, ok, h, fun vs H1 ds S1 x1 r1 ok1 ⟨h0, h1⟩ => ⟨by rw [r1.length]; exact h0, fun p hp =>
    k _ _ _ S1 (x1.trans (.new hp)) (.newTup r1 hp (ok1.fresh hp)) (ok1.new hp) h1⟩⟩
theorem x_lst {A : DA} (h : XA X T es A) : XE X T (.List es pos) (dLst A) :=
  (pe_lst h).imp fun σ H Q ⟨Z, τ, S, R, sl, ok, h, k⟩ => ⟨Z, τ, S, _, sl, ok, h, fun vs H1 ds S1 x1 r1 ok1 ⟨h0, h1⟩ => ⟨by rw [r1.length]; exact h0, fun p hp =>
    k _ _ _ S1 (x1.trans (.new hp)) (.newLst r1 hp (ok1.fresh hp) (ok1.nz hp)) (ok1.new hp) h1⟩⟩
theorem MOk.newLst {K : PySem.W.Frag} {Z : List Addr} {H : Hp} {S : Store} {vs : List V} {ds : List D} (r : Reps K Z H S vs ds) {p : Addr} (hp : H p = none) : MOk K Z (upd H p (.lst vs)) (ups S p (.lst ds)) p (.lst ds) :=
  ⟨vs, upd_same, r.ext (.newS hp)⟩
theorem x_lstR {A : DA} (h : XA X T es A) : XE X T (.List es pos) (dLstR A) :=
  (pe_lst h).imp fun σ H Q ⟨Z, τ, S, R, sl, ok, h, k⟩ => ⟨Z, τ, S, _, sl, ok, h, fun vs H1 ds S1 x1 r1 ok1 ⟨h0, h1⟩ => ⟨by rw [r1.length]; exact h0, fun p hp =>
    k _ _ _ _ (x1.trans (.newS hp)) (.ref p) (ok1.newS hp (.newLst r1 hp)) (h1 p (ok1.fresh hp))⟩⟩

/-! ### statements -/
def dNext : DS := fun E τ S => E.nx τ S
def dSeq (A B : DS) : DS := fun E τ S => A { E with nx := B E } τ S
theorem EOk.nxt {K : PySem.W.Frag} {Z : List Addr} {H : Hp} {S : Store} {D : Ends} {E : DEnds} {B : DS} (e : EOk K T Z H S D E) : EOk K T Z H S { D with nx := lfS K T B D } { E with nx := B E } :=
  ⟨fun σ H' τ S' x sl ok h => ⟨Z, τ, S', E, sl, ok, h, e.later x⟩, e.rt, e.bk, e.ct⟩
theorem s_nil : XSs X T [] dNext := pss_nil.imp fun D σ H ⟨Z, τ, S, E, sl, ok, h, k⟩ => k.nx σ H τ S (.refl _ _) sl ok h
theorem s_cons {A B : DS} (h1 : XS X T st A) (h2 : XSs X T sts B) : XSs X T (st :: sts) (dSeq A B) :=
  (pss_cons h1 h2).imp fun D σ H ⟨Z, τ, S, E, sl, ok, h, k⟩ => ⟨Z, τ, S, _, sl, ok, h, k.nxt⟩
theorem s_one {A : DS} (h1 : XS X T st A) : XSs X T [st] A := pss_one h1
def dBrk : DS := fun E τ S => E.bk τ S
def dCnt : DS := fun E τ S => E.ct τ S
theorem s_pass : XS X T (.Pass pos) dNext := ps_pass.imp fun D σ H ⟨Z, τ, S, E, sl, ok, h, k⟩ => k.nx σ H τ S (.refl _ _) sl ok h
theorem s_break : XS X T (.Break pos) dBrk := ps_break.imp fun D σ H ⟨Z, τ, S, E, sl, ok, h, k⟩ => k.bk σ H τ S (.refl _ _) sl ok h
theorem s_cont : XS X T (.Continue pos) dCnt := ps_continue.imp fun D σ H ⟨Z, τ, S, E, sl, ok, h, k⟩ => k.ct σ H τ S (.refl _ _) sl ok h
def dDrop (A : DE) : DS := fun E τ S => A τ S fun _ S1 => E.nx τ S1
theorem s_expr {A : DE} (he : XE X T e A) (hs : swapsWith e none pos.line X.env = pure false := by rfl) : XS X T (.Expr e pos) (dDrop A) :=
  (ps_expr he hs).imp fun D σ H ⟨Z, τ, S, E, sl, ok, h, k⟩ => ⟨Z, τ, S, _, sl, ok, h, fun v H1 d S1 x1 r1 ok1 h1 => k.nx σ H1 τ S1 x1 (sl.ext x1) ok1 h1⟩
def dRet (A : DE) : DS := fun E τ S => A τ S E.rt
theorem s_ret {A : DE} (he : XE X T e A) : XS X T (.Return (some e) pos) (dRet A) :=
  (ps_ret he).imp fun D σ H ⟨Z, τ, S, E, sl, ok, h, k⟩ => ⟨Z, τ, S, _, sl, ok, h, fun v H1 d S1 x1 r1 ok1 h1 => k.rt v H1 d S1 x1 r1 ok1 h1⟩
def dRetN : DS := fun E _ S => E.rt .non S
theorem s_retN : XS X T (.Return none pos) dRetN := ps_retN.imp fun D σ H ⟨Z, τ, S, E, sl, ok, h, k⟩ => k.rt _ H _ S (.refl _ _) .non ok h
def dIfS (C : DT) (A B : DS) : DS := fun E τ S => C τ S fun x S1 => if x = true then A E τ S1 else B E τ S1
theorem s_if {C : DT} {A B : DS} {sa sb : List Stmt} (hc : XT X T c C) (ha : XSs X T sa A) (hb : XSs X T sb B) : XS X T (.If c sa sb pos) (dIfS C A B) :=
  (ps_if hc ha hb).imp fun D σ H ⟨Z, τ, S, E, sl, ok, h, k⟩ => ⟨Z, τ, S, _, sl, ok, h, fun x H1 S1 x1 ok1 h1 => by
    cases x with
    | true => exact ⟨Z, τ, S1, E, sl.ext x1, ok1, h1, k.later x1⟩
    | false => exact ⟨Z, τ, S1, E, sl.ext x1, ok1, h1, k.later x1⟩⟩
def dNever : DS := fun _ _ _ => False
theorem s_never : XS X T st dNever := ps_never.imp fun D σ H ⟨Z, τ, S, E, sl, ok, h, k⟩ => h.elim
theorem ss_never : XSs X T sts dNever := pss_never.imp fun D σ H ⟨Z, τ, S, E, sl, ok, h, k⟩ => h.elim
def dSet (i : Nat) (A : DE) : DS := fun E τ S => A τ S fun d S1 => E.nx (τ.set i (some d)) S1
theorem s_set {i : Nat} {x : Str} {A : DE} {pos' : Pos} (hN : X.N.Nodup) (hi : X.N[i]? = some x) (hx : Loc X.env.scope x) (he : XE X T e A) (hs : swapsWith e (some (.Name x pos')) pos.line X.env = pure false := by rfl)
    (hf : X.fn x = true ∨ X.env.scope.names.lookup x = some .local := by first | exact .inl rfl | exact .inr rfl | assumption) : XS X T (.Assign [.Name x pos'] e pos) (dSet i A) :=
  (ps_set hN hi hx he hs hf).imp fun D σ H ⟨Z, τ, S, E, sl, ok, h, k⟩ => ⟨Z, τ, S, _, sl, ok, h, fun v H1 d S1 x1 r1 ok1 h1 => k.nx _ H1 _ S1 x1 ((sl.ext x1).set i r1) ok1 h1⟩

/-! ### targets: a name, or a tuple of names -/
/-- what a target may get: a tuple for a tuple of names may be any -/
def RepW (K : PySem.W.Frag) (Z : List Addr) (H : Hp) (S : Store) (v : V) (d : D) : Prop :=
  ∃ a vs ds, v = .ref a ∧ (d = .tup ds ∨ d = .ptp ds) ∧ SqT K H a vs ∧ Reps K Z H S vs ds
theorem Rep.tupW {K : PySem.W.Frag} {Z : List Addr} {H : Hp} {S : Store} {v : V} {ds : List D} (r : Rep K Z H S v (.tup ds)) : ∃ a vs, v = .ref a ∧ SqT K H a vs ∧ Reps K Z H S vs ds := by
  cases r with
  | tup h r => exact ⟨_, _, rfl, h.sq, r⟩
theorem Rep.ptpW {K : PySem.W.Frag} {Z : List Addr} {H : Hp} {S : Store} {v : V} {ds : List D} (r : Rep K Z H S v (.ptp ds)) : ∃ a vs, v = .ref a ∧ SqT K H a vs ∧ Reps K Z H S vs ds := by
  cases r with
  | ptp h r => exact ⟨_, _, rfl, h.sq, r⟩
inductive Tg where
  | nm (i : Nat) | tp (is : List Nat)
def gNms : List Nat → TGs
  | [] => gNil
  | i :: r => gCons (gName i) (gNms r)
def Tg.g (K : PySem.W.Frag) : Tg → TG
  | .nm i => gName i
  | .tp is => gTup K is.length (gNms is)
def sets (τ : DSt) : List Nat → List D → DSt
  | i :: r, d :: ds => sets (τ.set i (some d)) r ds
  | _, _ => τ
def Tg.d (τ : DSt) : Tg → D → Option DSt
  | .nm i, d => some (τ.set i (some d))
  | .tp is, .tup ds => if ds.length = is.length then some (sets τ is ds) else none
  | .tp is, .ptp ds => if ds.length = is.length then some (sets τ is ds) else none
  | .tp _, _ => none
/-- what a target is given -/
def Tg.rep (K : PySem.W.Frag) (Z : List Addr) (H : Hp) (S : Store) : Tg → V → D → Prop
  | .nm _, v, d => Rep K Z H S v d
  | .tp _, v, d => Rep K Z H S v d ∨ RepW K Z H S v d
theorem Tg.rep_of {K : PySem.W.Frag} {Z : List Addr} {H : Hp} {S : Store} {tg : Tg} {v : V} {d : D} (r : Rep K Z H S v d) : tg.rep K Z H S v d := by
  cases tg with
  | nm i => exact r
  | tp is => exact .inl r
def Tg.sl : Tg → List Nat
  | .nm i => [i]
  | .tp is => is
theorem gNms_of {K : PySem.W.Frag} {Z : List Addr} {H : Hp} {S : Store} {Q : L2.St → Hp → Prop} : ∀ {is : List Nat} {vs : List V} {ds : List D} {σ : L2.St} {τ : DSt}, Reps K Z H S vs ds → ds.length = is.length → Slots K Z H S σ τ →
    (∀ σ', Slots K Z H S σ' (sets τ is ds) → (∀ ws, (∀ i ∈ is, i ∈ ws) → wipe σ' ws = wipe σ ws) → Q σ' H) → gNms is vs σ H Q
  | [], _, _, σ, τ, .nil, _, sl, h => ⟨rfl, h σ sl fun _ _ => rfl⟩
  | [], _, _, σ, τ, .cons _ _, hl, _, _ => by simp at hl
  | i :: r, _, _, σ, τ, .nil, hl, _, _ => by simp at hl
  | i :: r, v :: vs, d :: ds, σ, τ, .cons rv rr, hl, sl, h => ⟨v, vs, rfl, gNms_of (is := r) (τ := τ.set i (some d)) rr (by simpa using hl) (sl.set i rv) fun σ' sl' hw => h σ' sl' fun ws hws => by
      rw [hw ws fun j hj => hws j (List.mem_cons_of_mem _ hj)]
      exact wipe_set (hws i List.mem_cons_self)⟩
where
  wipe_set {σ : L2.St} {i : Nat} {v : Option V} : ∀ {ws : List Nat}, i ∈ ws → wipe (σ.set i v) ws = wipe σ ws
    | w :: ws, h => by
      unfold wipe
      by_cases e : i = w
      · subst e
        by_cases m : i ∈ ws
        · rw [wipe_set m]
        · rw [wipe_out m, List.set_set]
      · rw [wipe_set (by
          rcases List.mem_cons.mp h with z | z
          · exact absurd z e
          · exact z)]
  wipe_out {σ : L2.St} {i : Nat} {v : Option V} : ∀ {ws : List Nat}, i ∉ ws → wipe (σ.set i v) ws = (wipe σ ws).set i v
    | [], _ => rfl
    | w :: ws, h => by
      have h1 : w ≠ i := fun z => h (by rw [z]; exact List.mem_cons_self)
      have h2 : i ∉ ws := fun z => h (List.mem_cons_of_mem _ z)
      unfold wipe
      rw [wipe_out h2, List.set_comm _ _ h1.symm]
theorem Tg.of {K : PySem.W.Frag} {Z : List Addr} {H : Hp} {S : Store} {Q : L2.St → Hp → Prop} {tg : Tg} {v : V} {d : D} {σ : L2.St} {τ τ' : DSt} (r : tg.rep K Z H S v d) (sl : Slots K Z H S σ τ) (e : tg.d τ d = some τ')
    (h : ∀ σ', Slots K Z H S σ' τ' → (∀ ws, (∀ i ∈ tg.sl, i ∈ ws) → wipe σ' ws = wipe σ ws) → Q σ' H) : tg.g K v σ H Q := by
  cases tg with
  | nm i =>
    cases e
    exact h _ (sl.set i r) fun ws hws => gNms_of.wipe_set (hws i (List.mem_singleton.mpr rfl))
  | tp is =>
    have fin : ∀ {ds : List D}, (∃ a vs, v = .ref a ∧ SqT K H a vs ∧ Reps K Z H S vs ds) → (if ds.length = is.length then some (sets τ is ds) else none) = some τ' → Tg.g K (.tp is) v σ H Q := by
      intro ds ⟨a, vs, ev, ht, rr⟩ e
      split at e
      · rename_i hl
        cases e
        exact ⟨a, vs, ev, ht, by rw [rr.length]; exact hl, gNms_of rr hl sl h⟩
      · cases e
    rcases r with r | ⟨a, vs, ds, ev, ed, ht, rr⟩
    · cases d with
      | tup ds => exact fin r.tupW e
      | ptp ds => exact fin r.ptpW e
      | _ => cases e
    · rcases ed with ed | ed
      · subst ed; exact fin ⟨a, vs, ev, ht, rr⟩ e
      · subst ed; exact fin ⟨a, vs, ev, ht, rr⟩ e
def dAsg (A : DE) (tg : Tg) : DS := fun E τ S => A τ S fun d S1 => match tg.d τ d with
  | some τ' => E.nx τ' S1
  | none => False
theorem s_asg {tgt : Expr} {A : DE} {tg : Tg} (he : XE X T e A) (hg : PG X tgt (tg.g X.K)) (hs : swapsWithSole [tgt] e pos.line X.env = pure false := by rfl) (hw : swappedStores [tgt] e X.env = pure none := by rfl)
    (h1 : (assignEach [tgt] X.env).map (·.2) = [assign tgt X.env] := by rfl) : XS X T (.Assign [tgt] e pos) (dAsg A tg) :=
  (ps_asg he hg hs hw h1).imp fun D σ H ⟨Z, τ, S, E, sl, ok, h, k⟩ => ⟨Z, τ, S, _, sl, ok, h, fun v H1 d S1 x1 r1 ok1 q => by
    cases et : tg.d τ d with
    | none => rw [et] at q; exact q.elim
    | some τ' =>
      rw [et] at q
      exact Tg.of (Tg.rep_of r1) (sl.ext x1) et fun σ' sl' _ => k.nx σ' H1 τ' S1 x1 sl' ok1 q⟩

/-! ### what is walked -/
/-- J walks the items ds, from H and S on -/
structure Wk (K : PySem.W.Frag) (T : Tb) (Z : List Addr) (tg : Tg) (J : It) (H : Hp) (S : Store) (ds : List D) : Prop where
  go : ∀ i H2 S2, Ext H S H2 S2 → i < ds.length → J.go i H2
  yld : ∀ Z2 i d H2 S2 v H3, (∀ z ∈ Z2, z ∈ Z ∨ H z = none) → Ext H S H2 S2 → StOk K T Z2 H2 S2 → ds[i]? = some d → J.yld i H2 v H3 → Ext H2 S2 H3 S2 ∧ StOk K T Z2 H3 S2 ∧ tg.rep K Z2 H3 S2 v d
  stop : ∀ i H2 S2, Ext H S H2 S2 → ds.length ≤ i → J.stop i H2
abbrev DI := DSt → Store → (List D → Store → Prop) → Prop
def lfI (K : PySem.W.Frag) (T : Tb) (tg : Tg) (Ψ : DI) : TI := fun σ H R => ∃ Z τ S G, Slots K Z H S σ τ ∧ StOk K T Z H S ∧ Ψ τ S G ∧ ∀ J H' ds S', Ext H S H' S' → StOk K T Z H' S' → Wk K T Z tg J H' S' ds → G ds S' → R J H'
abbrev XI (X : Cx) (T : Tb) (tt : Tg) (tg iter : Expr) (Ψ : DI) : Prop := PI X tg iter (lfI X.K T tt Ψ)
theorem _root_.L2.PI.imp {tg iter : Expr} {t t' : TI} (h : PI X tg iter t) (w : ∀ σ H Q, t' σ H Q → t σ H Q) : PI X tg iter t' := ⟨fun pins s σ H Q I q => h.run pins s σ H Q I (w σ H Q q)⟩

/-- for -/
def loopD (tg : Tg) (B : DS) (E : DEnds) : List D → DSt → Store → Prop
  | [], τ, S => E.nx τ S
  | d :: r, τ, S => match tg.d τ d with
    | some τ' => B { E with nx := loopD tg B E r, ct := loopD tg B E r, bk := E.nx } τ' S
    | none => False
def dFor (I : DI) (tg : Tg) (B : DS) : DS := fun E τ S => I τ S fun ds S1 => loopD tg B E ds τ S1
theorem drop_at {α : Type} {l : List α} {i : Nat} (h : i < l.length) : l.drop i = l[i] :: l.drop (i + 1) := by
  rw [← List.getElem_cons_drop]
theorem s_for {tgt iter : Expr} {body : List Stmt} {I : DI} {tg : Tg} {B : DS} (hp : PassesOwn (model X.prog X.w) X.A X.env X.xe) (hc : X.calm = true) (hi : XI X T tg tgt iter I) (hg : PG X tgt (tg.g X.K)) (hb : XSs X T body B)
    (hs : ∀ x, foldedSetIterable iter X.env x = pure x := by intro _; rfl) : XS X T (.For tgt iter body [] pos) (dFor I tg B) := by
  refine (ps_for hp hc hi hg hb hs).imp fun D σ H ⟨Z, τ, S, E, sl, ok, h, k⟩ => ?_
  refine ⟨Z, τ, S, _, sl, ok, h, fun J H1 ds S1 x1 ok1 wk q => ?_⟩
  have sl1 := sl.ext x1
  refine ⟨fun i m σ' H' => m = ds.length - i ∧ i ≤ ds.length ∧ ∃ τ' S', Ext H1 S1 H' S' ∧ Slots X.K Z H' S' σ' τ' ∧ StOk X.K T Z H' S' ∧ loopD tg B E (ds.drop i) τ' S', ⟨ds.length, by simp, Nat.zero_le _, τ, S1, .refl _ _, sl1, ok1, by simpa using q⟩, ?_⟩
  rintro i m σ' H' ⟨rfl, hi', τ', S', x2, sl2, ok2, q2⟩
  by_cases hlt : i < ds.length
  · rw [drop_at hlt] at q2
    refine .inr ⟨wk.go i H' S' x2 hlt, fun σ2 H2 => ∃ τ2 S2, Ext H1 S1 H2 S2 ∧ Slots X.K Z H2 S2 σ2 τ2 ∧ StOk X.K T Z H2 S2 ∧ loopD tg B E (ds.drop (i + 1)) τ2 S2, fun σ2 H2 ⟨τ2, S2, a1, a2, a3, a4⟩ => ⟨ds.length - (i + 1), by omega, rfl, hlt, τ2, S2, a1, a2, a3, a4⟩, fun v H2 y => ?_⟩
    obtain ⟨x3, ok3, r3⟩ := wk.yld Z i ds[i] H' S' v H2 (fun _ h => .inl h) x2 ok2 (by simp [hlt]) y
    unfold loopD at q2
    cases et : tg.d τ' ds[i] with
    | none => rw [et] at q2; exact q2.elim
    | some τ'' =>
      rw [et] at q2
      refine Tg.of r3 (sl2.ext x3) et fun σ3 sl3 _ => ⟨Z, τ'', S', _, sl3, ok3, q2, ?_⟩
      have xx := x1.trans (x2.trans x3)
      exact ⟨fun σ4 H4 τ4 S4 x4 s4 o4 h4 => ⟨τ4, S4, x2.trans (x3.trans x4), s4, o4, h4⟩, (k.later xx).rt, fun σ4 H4 τ4 S4 x4 s4 o4 h4 => (k.later xx).nx σ4 H4 τ4 S4 x4 s4 o4 h4, fun σ4 H4 τ4 S4 x4 s4 o4 h4 => ⟨τ4, S4, x2.trans (x3.trans x4), s4, o4, h4⟩⟩
  · have e : i = ds.length := by omega
    subst e
    rw [List.drop_length] at q2
    exact .inl ⟨wk.stop _ H' S' x2 (Nat.le_refl _), (k.later (x1.trans x2)).nx σ' H' τ' S' (.refl _ _) sl2 ok2 q2⟩

/-! ### comprehensions -/
def wipeD (τ : DSt) : List Nat → DSt
  | [] => τ
  | v :: vs => (wipeD τ vs).set v none
theorem Slots.wipe {K : PySem.W.Frag} {Z : List Addr} {H : Hp} {S : Store} {σ : L2.St} {τ : DSt} (s : Slots K Z H S σ τ) : ∀ ws : List Nat, Slots K Z H S (L2.wipe σ ws) (wipeD τ ws)
  | [] => s
  | w :: ws => by
    have q := Slots.wipe s ws
    refine ⟨by unfold L2.wipe wipeD; simp [q.len], fun i d h => ?_⟩
    unfold wipeD at h
    unfold L2.wipe
    by_cases e : w = i
    · subst e
      by_cases hi : w < (wipeD τ ws).length
      · rw [List.getElem?_set_self hi] at h; cases h
      · rw [List.getElem?_eq_none (by simp; omega)] at h; cases h
    · rw [List.getElem?_set_ne e] at h ⊢
      exact q.at_ i d h
def compD (tg : Tg) (C : DT) (A : DE) (τ : DSt) : List D → List D → Store → (List D → Store → Prop) → Prop
  | [], acc, S, Q => Q acc S
  | d :: r, acc, S, Q => match tg.d τ d with
    | some τ' => C τ' S fun b S1 => if b = true then A τ' S1 fun y S2 => compD tg C A τ r (acc ++ [y]) S2 Q else compD tg C A τ r acc S1 Q
    | none => False
def dComp (I : DI) (tg : Tg) (C : DT) (A : DE) (ws : List Nat) : DI := fun τ S Q => I τ S fun ds S1 => ds.length ≤ sizeLine ∧ compD tg C A (wipeD τ ws) ds [] S1 Q
def dLc (I : DI) (tg : Tg) (C : DT) (A : DE) (ws : List Nat) : DE := fun τ S Q => dComp I tg C A ws τ S fun ds S1 => Q (.lst ds) S1
def dLcR (I : DI) (tg : Tg) (C : DT) (A : DE) (ws : List Nat) : DE := fun τ S Q => dComp I tg C A ws τ S fun ds S1 => ∀ p, S1 p = none → Q (.ref p) (ups S1 p (.lst ds))
def dYes : DT := fun _ S Q => Q true S
abbrev XTs (X : Cx) (T : Tb) (ifs : List Expr) (Ψ : DT) : Prop := PTs X ifs (lfT X.K T Ψ)
theorem ts_nil : XTs X T [] dYes := ⟨fun pins s σ H Q I ⟨Z, τ, S, R, sl, ok, h, k⟩ => pts_nil.run pins s σ H Q I (k true H S (.refl _ _) ok h)⟩
theorem ts_one {C : DT} (h : XT X T c C) : XTs X T [c] C := pts_one h
theorem Ext.hset {H H' : Hp} {S S' : Store} {D : Addr} {u : HO} (x : Ext H S H' S') (hD : H D = none) : Ext H S (upd H' D u) S' := by
  exact ⟨fun a o n e nt => ⟨x.hid a o n e nt, by rw [upd_ne (ne_of_none e hD)]; exact x.eq a o n e nt⟩⟩
section
variable {K : PySem.W.Frag} {Z Z' : List Addr} {H : Hp} {S : Store} {L : Addr} {xs ys : List V}
mutual
theorem Rep.hset (hD : H L = some (.lst xs)) (hz : L ∈ Z) : ∀ {v : V} {d : D}, Rep K Z H S v d → Rep K Z (upd H L (.lst ys)) S v d
  | _, _, .non => .non
  | _, _, .bl b => .bl b
  | _, _, .int i => .int i
  | _, _, .str z => .str z
  | _, _, .ref a => .ref a
  | _, _, .tup (a := a) h r => .tup (h.imp (fun z => ⟨by
      rcases z.1 with q | ⟨o, q⟩
      · exact .inl (by rw [upd_ne (fun e => by rw [e, hD] at q; cases q)]; exact q)
      · exact .inr ⟨o, by rw [upd_ne (fun e => by rw [e, hD] at q; cases q)]; exact q⟩, z.2⟩) id) (Reps.hset hD hz r)
  | _, _, .ptp (a := a) h r => .ptp (h.imp (fun ⟨o, q, z2, z3⟩ => ⟨o, by
      rw [upd_ne (fun e => by rw [e, hD] at q; cases q)]; exact q, z2, z3⟩) id) (Reps.hset hD hz r)
  | _, _, .lst h n nz r => .lst (by rw [upd_ne (fun e => nz (by rw [e]; exact hz))]; exact h) n nz (Reps.hset hD hz r)
  | _, _, .scr (a := a) h => .scr (h.imp (fun z => ⟨by
      have ne : a ≠ L := fun e => z.2.2 (by rw [e]; exact hz)
      rcases z.1 with q | ⟨o, q⟩
      · exact .inl (by rw [upd_ne ne]; exact q)
      · exact .inr ⟨o, by rw [upd_ne ne]; exact q⟩, z.2⟩) id)
  | _, _, .fn h r => .fn (h.mv fun b o n e _ l _ => ⟨n, by rw [upd_ne (fun q => l xs (by rw [q, hD] at e; exact (Option.some.inj e).symm))]; exact e⟩) (Reps.hset hD hz r)
  | _, _, .exc0 => .exc0
  | _, _, .exc1 h n r => .exc1 (by rw [upd_ne (fun q => by rw [q, hD] at h; cases h)]; exact h) n (Rep.hset hD hz r)
theorem Reps.hset (hD : H L = some (.lst xs)) (hz : L ∈ Z) : ∀ {vs : List V} {ds : List D}, Reps K Z H S vs ds → Reps K Z (upd H L (.lst ys)) S vs ds
  | _, _, .nil => .nil
  | _, _, .cons r t => .cons (Rep.hset hD hz r) (Reps.hset hD hz t)
end
mutual
theorem Rep.zw (x : ∀ z ∈ Z', z ∈ Z ∨ H z = none) : ∀ {v : V} {d : D}, Rep K Z H S v d → Rep K Z' H S v d
  | _, _, .non => .non
  | _, _, .bl b => .bl b
  | _, _, .int i => .int i
  | _, _, .str z => .str z
  | _, _, .ref a => .ref a
  | _, _, .tup h r => .tup h (Reps.zw x r)
  | _, _, .ptp h r => .ptp h (Reps.zw x r)
  | _, _, .lst h n nz r => .lst h n (fun q => (x _ q).elim nz fun e => by rw [e] at h; cases h) (Reps.zw x r)
  | _, _, .scr h => .scr (h.imp (fun z => ⟨z.1, z.2.1, fun q => (x _ q).elim z.2.2 fun e => by
      rcases z.1 with q | ⟨o, q⟩
      · rw [e] at q; cases q
      · rw [e] at q; cases q⟩) id)
  | _, _, .fn h r => .fn h (Reps.zw x r)
  | _, _, .exc0 => .exc0
  | _, _, .exc1 h n r => .exc1 h n (Rep.zw x r)
theorem Reps.zw (x : ∀ z ∈ Z', z ∈ Z ∨ H z = none) : ∀ {vs : List V} {ds : List D}, Reps K Z H S vs ds → Reps K Z' H S vs ds
  | _, _, .nil => .nil
  | _, _, .cons r t => .cons (Rep.zw x r) (Reps.zw x t)
end
theorem Rep.zs (x : ∀ z ∈ Z', z ∈ Z) {v : V} {d : D} (r : Rep K Z H S v d) : Rep K Z' H S v d := r.zw fun z h => .inl (x z h)
theorem Reps.zs (x : ∀ z ∈ Z', z ∈ Z) {v : List V} {d : List D} (r : Reps K Z H S v d) : Reps K Z' H S v d := r.zw fun z h => .inl (x z h)
theorem Rep.zn (hD : H L = none) {v : V} {d : D} (r : Rep K Z H S v d) : Rep K (L :: Z) H S v d := r.zw fun z h => (List.mem_cons.mp h).elim (fun e => .inr (by rw [e]; exact hD)) .inl
theorem Reps.zn (hD : H L = none) {v : List V} {d : List D} (r : Reps K Z H S v d) : Reps K (L :: Z) H S v d := r.zw fun z h => (List.mem_cons.mp h).elim (fun e => .inr (by rw [e]; exact hD)) .inl
theorem RKV.map {κ : Type} {Z' : List Addr} {H' : Hp} {S' : Store} (f : ∀ v d, Rep K Z H S v d → Rep K Z' H' S' v d) {kvs : List (κ × V)} {kds : List (κ × D)} (r : RKV K Z H S kvs kds) : RKV K Z' H' S' kvs kds :=
  L2.Paired.mapP r fun _ _ q => ⟨q.1, f _ _ q.2⟩
theorem MOk.map {Z' : List Addr} {H' : Hp} {S' : Store} (f : ∀ v d, Rep K Z H S v d → Rep K Z' H' S' v d) (fs : ∀ vs ds, Reps K Z H S vs ds → Reps K Z' H' S' vs ds) {a : Addr} {o : MO} (e : H' a = H a) (m : MOk K Z H S a o) : MOk K Z' H' S' a o := by
  cases o with
  | lst ds => obtain ⟨vs, h, r⟩ := m; exact ⟨vs, e.trans h, fs _ _ r⟩
  | dK ds => obtain ⟨vs, h, r⟩ := m; exact ⟨vs, e.trans h, RKV.map f r⟩
  | dT ds => obtain ⟨vs, h, r⟩ := m; exact ⟨vs, e.trans h, RKV.map f r⟩
  | ins C ds => obtain ⟨dx, vs, h, r⟩ := m; exact ⟨dx, vs, e.trans h, RKV.map f r⟩
  | memo ks => obtain ⟨xs, h, e2, r⟩ := m; exact ⟨xs, e.trans h, e2, fun y hy => let ⟨d, a, b, c⟩ := r y hy; ⟨d, f _ _ a, b, c⟩⟩
theorem Slots.map {Z' : List Addr} {H' : Hp} {S' : Store} (f : ∀ v d, Rep K Z H S v d → Rep K Z' H' S' v d) {σ : L2.St} {τ : DSt} (s : Slots K Z H S σ τ) : Slots K Z' H' S' σ τ :=
  ⟨s.len, fun i d e => let ⟨v, h, r⟩ := s.at_ i d e; ⟨v, h, f _ _ r⟩⟩
theorem StOk.hset (ok : StOk K T Z H S) (hD : H L = some (.lst xs)) (hz : L ∈ Z) : StOk K T Z (upd H L (.lst ys)) S := by
  refine ⟨tabs_upd ok.tabs (.inr ⟨_, hD, ⟨fun ps z => (by cases z), fun c q => codeO_not.1 _⟩⟩), fun z h => ?_, fun a o e => ?_⟩
  · obtain ⟨n, vs, e⟩ := ok.rsv z h
    by_cases q : z = L
    · subst q; exact ⟨n, _, upd_same⟩
    · exact ⟨n, vs, by rw [upd_ne q]; exact e⟩
  · refine (ok.obj a o e).map (fun _ _ r => r.hset hD hz) (fun _ _ r => r.hset hD hz) (upd_ne fun q => ?_)
    rw [q, (ok.rsv L hz).1] at e
    cases e
theorem StOk.zn (ok : StOk K T Z H S) (hD : H L = none) : StOk K T (L :: Z) (upd H L (.lst ys)) S := by
  have ok1 : StOk K T Z (upd H L (.lst ys)) S := ok.new hD
  have nz : L ∉ Z := fun q => by
    obtain ⟨_, vs, e⟩ := ok.rsv L q
    rw [hD] at e; cases e
  refine ⟨ok1.tabs, fun z h => ?_, fun a o e => ?_⟩
  · rcases List.mem_cons.mp h with q | q
    · subst q; exact ⟨ok.fresh hD, _, upd_same⟩
    · exact ok1.rsv z q
  · have m := ok.obj a o e
    obtain ⟨w, hw, _⟩ := ok.get e
    exact m.map (fun _ _ r => (r.zn hD).ext (.new hD)) (fun _ _ r => (r.zn hD).ext (.new hD)) (upd_ne (ne_of_none hw hD))
theorem StOk.zs (ok : StOk K T Z H S) (x : ∀ z ∈ Z', z ∈ Z) : StOk K T Z' H S := ⟨ok.tabs, fun z h => ok.rsv z (x z h), fun a o e => (ok.obj a o e).map (fun _ _ r => r.zs x) (fun _ _ r => r.zs x) rfl⟩
end
theorem wipe_none {σ : L2.St} {v : Nat} : ∀ {ws : List Nat}, v ∈ ws → (L2.wipe σ ws).set v none = L2.wipe σ ws
  | w :: ws, h => by
    unfold L2.wipe
    by_cases e : v = w
    · subst e; rw [List.set_set]
    · have h2 : v ∈ ws := (List.mem_cons.mp h).elim (fun z => absurd z e) id
      rw [List.set_comm _ _ (Ne.symm e), wipe_none h2]
theorem wipe_sub {σ : L2.St} {ws : List Nat} : ∀ {us : List Nat}, (∀ u ∈ us, u ∈ ws) → L2.wipe (L2.wipe σ ws) us = L2.wipe σ ws
  | [], _ => rfl
  | u :: us, h => by
    show (L2.wipe (L2.wipe σ ws) us).set u none = _
    rw [wipe_sub fun x hx => h x (List.mem_cons_of_mem _ hx)]
    exact wipe_none (h u List.mem_cons_self)
theorem wipe_idem {σ : L2.St} (ws : List Nat) : L2.wipe (L2.wipe σ ws) ws = L2.wipe σ ws := wipe_sub fun _ h => h
theorem lf_comp {K : PySem.W.Frag} {Z : List Addr} {I : DI} {tg : Tg} {C : DT} {A : DE} {ws : List Nat} (hws : ∀ i ∈ tg.sl, i ∈ ws) {σ : L2.St} {H : Hp} {Q : VK} {τ : DSt} {S : Store} {G : List D → Store → Prop} (sl : Slots K Z H S σ τ) (ok : StOk K T Z H S) (h : dComp I tg C A ws τ S G)
    (k : ∀ p H1 vs ds S1, Ext H S H1 S1 → H1 p = some (.lst vs) → S1 p = none → p ∉ Z → (∀ a o, S a = none → H a = some o → (∀ ps, o ≠ .tbl ps) → a ≠ p) → Reps K (p :: Z) H1 S1 vs ds → StOk K T (p :: Z) H1 S1 → G ds S1 → Q (.ref p) H1) :
    tLc (lfI K T tg I) (tg.g K) (lfT K T C) (lf K T A) ws σ H Q := by
  refine ⟨Z, τ, S, _, sl, ok, h, fun J H1 ds S1 x1 ok1 wk ⟨hz, q⟩ D hD => ?_⟩
  have nD : S1 D = none := ok1.fresh hD
  have xD : Ext H1 S1 (upd H1 D (.lst [])) S1 := .new hD
  have nZ : D ∉ Z := fun q => by
    obtain ⟨_, vs, e⟩ := ok1.rsv D q
    rw [hD] at e; cases e
  have hDH : ∀ a o, S a = none → H a = some o → (∀ ps, o ≠ .tbl ps) → a ≠ D := fun a o n e nt z => by
    have q := x1.eq a o n e nt
    rw [z, hD] at q; cases q
  have zz : ∀ z ∈ D :: Z, z ∈ Z ∨ H1 z = none := fun z h => (List.mem_cons.mp h).elim (fun e => .inr (by rw [e]; exact hD)) .inl
  have sl1 := (sl.ext x1).map fun _ _ r => r.zw zz
  refine ⟨fun i m H' => m = ds.length - i ∧ i ≤ ds.length ∧ ∃ S' vs acc, Ext H1 S1 H' S' ∧ S' D = none ∧ H' D = some (.lst vs) ∧ Reps K (D :: Z) H' S' vs acc ∧ acc.length ≤ i ∧ StOk K T (D :: Z) H' S' ∧ compD tg C A (wipeD τ ws) (ds.drop i) acc S' G, ?_, ?_⟩
  · exact ⟨ds.length, by simp, Nat.zero_le _, S1, [], [], xD, nD, upd_same, .nil, Nat.zero_le _, ok1.zn hD, by simpa using q⟩
  · rintro i m H' ⟨rfl, hi, S', vs, acc, x2, n2, e2, r2, l2, ok2, q2⟩
    by_cases hlt : i < ds.length
    · rw [drop_at hlt] at q2
      refine .inr ⟨wk.go i H' S' x2 hlt, fun H3 => ∃ S3 vs3 acc3, Ext H1 S1 H3 S3 ∧ S3 D = none ∧ H3 D = some (.lst vs3) ∧ Reps K (D :: Z) H3 S3 vs3 acc3 ∧ acc3.length ≤ i + 1 ∧ StOk K T (D :: Z) H3 S3 ∧ compD tg C A (wipeD τ ws) (ds.drop (i + 1)) acc3 S3 G, fun H3 ⟨S3, vs3, acc3, a1, a2, a3, a4, a5, a6, a7⟩ => ⟨ds.length - (i + 1), by omega, rfl, hlt, S3, vs3, acc3, a1, a2, a3, a4, a5, a6, a7⟩, fun v H3 y => ?_⟩
      obtain ⟨x3, ok3, r3⟩ := wk.yld (D :: Z) i ds[i] H' S' v H3 zz x2 ok2 (by simp [hlt]) y
      unfold compD at q2
      cases et : tg.d (wipeD τ ws) ds[i] with
      | none => rw [et] at q2; exact q2.elim
      | some τ' =>
        rw [et] at q2
        have slw : Slots K (D :: Z) H3 S' (L2.wipe σ ws) (wipeD τ ws) := ((sl1.ext (x2.trans x3)).wipe ws)
        refine Tg.of r3 slw et fun σ3 sl3 hw => ⟨?_, ?_⟩
        · rw [hw ws hws]
          exact wipe_idem ws
        · refine ⟨D :: Z, τ', S', _, sl3, ok3, q2, fun b H4 S4 x4 ok4 q4 => ?_⟩
          have x34 := x3.trans x4
          have e4 : H4 D = some (.lst vs) := x34.eq D _ n2 e2 fun ps z => (by cases z)
          have n4 := x34.hid D _ n2 e2 fun ps z => (by cases z)
          cases b with
          | false => exact ⟨S4, vs, acc, x2.trans x34, n4, e4, r2.ext x34, by omega, ok4, q4⟩
          | true =>
            refine ⟨D :: Z, τ', S4, _, sl3.ext x4, ok4, q4, fun w H5 d5 S5 x5 r5 ok5 q5 => ?_⟩
            have x35 := x34.trans x5
            have e5 : H5 D = some (.lst vs) := x5.eq D _ n4 e4 fun ps z => (by cases z)
            have n5 := x5.hid D _ n4 e4 fun ps z => (by cases z)
            have inD : D ∈ D :: Z := List.mem_cons_self
            refine ⟨vs, e5, ?_, S5, vs ++ [w], acc ++ [d5], ?_, n5, upd_same, ?_, by simp; omega, ?_, q5⟩
            · rw [r2.length]; omega
            · exact (x2.trans x35).hset hD
            · exact ((r2.ext x35).append (.cons r5 .nil)).hset e5 inD
            · exact ok5.hset e5 inD
    · have e : i = ds.length := by omega
      subst e
      rw [List.drop_length] at q2
      exact .inl ⟨wk.stop _ H' S' x2 (Nat.le_refl _), k D H' vs acc S' (x1.trans x2) e2 n2 nZ hDH r2 ok2 q2⟩
abbrev Blk (X : Cx) (scope : Scope) (P : Cx → Prop) : Prop := ∀ (s : Shared) (H : Hp) (C : Addr) (cl : List (Str × Addr)) (fp : List Addr), P (X.blk s H scope (compEnvC scope cl C X.env) fp)
section
variable {elt tgt iter : Expr} {ifs : List Expr} {scope : Scope} {own : List (Str × Nat)} {I : DI} {tg : Tg} {C : DT} {A : DE}
theorem Ext.toRef {H H1 : Hp} {S S1 : Store} {p : Addr} {o : MO} (x : Ext H S H1 S1) (f : ∀ a o, S a = none → H a = some o → (∀ ps, o ≠ .tbl ps) → a ≠ p) : Ext H S H1 (ups S1 p o) :=
  ⟨fun a u n e nt => ⟨by rw [ups_ne (f a u n e nt)]; exact x.hid a u n e nt, x.eq a u n e nt⟩⟩
theorem x_lc (hc : X.calm = true) (hN : X.N.Nodup) (hi : XI X T tg tgt iter I) (ok : BlkOk X.N X.env.scope scope own) (hg : Blk X scope fun Y => PG Y tgt (tg.g Y.K)) (ht : Blk X scope fun Y => XTs Y T ifs C) (he : Blk X scope fun Y => XE Y T elt A)
    (hws : ∀ i ∈ tg.sl, i ∈ own.map (·.2)) (hs : ∀ x, foldedSetIterable iter X.env x = pure x := by intro _; rfl) : XE X T (.ListComp elt [⟨tgt, iter, ifs, 0⟩] scope pos) (dLc I tg C A (own.map (·.2))) :=
  (pe_lc (g := tg.g X.K) (tt := lfT X.K T C) (te := lf X.K T A) hc hN hi ok hg ht he hs).imp fun σ H Q ⟨Z, τ, S, R, sl, ok, h, k⟩ => lf_comp hws sl ok h fun p H1 vs ds S1 x1 e1 n1 nz _ r1 ok1 g => k _ H1 _ S1 x1 (.lst e1 n1 nz (r1.zs fun z h => List.mem_cons_of_mem _ h)) (ok1.zs fun z h => List.mem_cons_of_mem _ h) g
theorem s_setLc {i : Nat} {y : Str} {py : Pos} {spos : Pos} (hc : X.calm = true) (hN : X.N.Nodup) (hy : X.N[i]? = some y) (hyl : X.env.scope.names.lookup y = some .local)
    (hsw : swapsWith (.ListComp elt [⟨tgt, iter, ifs, 0⟩] scope pos) (some (.Name y py)) spos.line X.env = pure true) (hi : XI X T tg tgt iter I) (ok : BlkOk X.N X.env.scope scope own) (hg : Blk X scope fun Y => PG Y tgt (tg.g Y.K)) (ht : Blk X scope fun Y => XTs Y T ifs C)
    (he : Blk X scope fun Y => XE Y T elt A) (hws : ∀ i ∈ tg.sl, i ∈ own.map (·.2)) (hs : ∀ x, foldedSetIterable iter X.env x = pure x := by intro _; rfl) :
    XS X T (.Assign [.Name y py] (.ListComp elt [⟨tgt, iter, ifs, 0⟩] scope pos) spos) (dSet i (dLc I tg C A (own.map (·.2)))) := by
  refine (ps_setLc (g := tg.g X.K) (tt := lfT X.K T C) (te := lf X.K T A) hc hN hy hyl hsw hi ok hg ht he hs).imp fun D σ H ⟨Z, τ, S, E, sl, ok, h, k⟩ => ?_
  refine lf_comp hws sl ok h fun p H1 vs ds S1 x1 e1 n1 nz _ r1 ok1 g => ?_
  exact k.nx _ H1 _ S1 x1 ((sl.ext x1).set i (.lst e1 n1 nz (r1.zs fun z h => List.mem_cons_of_mem _ h))) (ok1.zs fun z h => List.mem_cons_of_mem _ h) g
mutual
/-- a list, hidden so far, comes into the store -/
theorem Rep.show {K : PySem.W.Frag} {Z : List Addr} {H : Hp} {S : Store} {p : Addr} {xs : List V} {o : MO} (e : H p = some (.lst xs)) : ∀ {v : V} {d : D}, Rep K (p :: Z) H S v d → Rep K Z H (ups S p o) v d
  | _, _, .non => .non
  | _, _, .bl b => .bl b
  | _, _, .int i => .int i
  | _, _, .str z => .str z
  | _, _, .ref a => .ref a
  | _, _, .tup (a := a) h r => .tup (h.imp (fun z => ⟨z.1, by
      have ne : a ≠ p := fun q => by
        rcases z.1 with w | ⟨o, w⟩
        · rw [q, e] at w; cases w
        · rw [q, e] at w; cases w
      rw [ups_ne ne]; exact z.2⟩) id) (Reps.show e r)
  | _, _, .ptp (a := a) h r => .ptp (h.imp (fun ⟨o, w, z2, z3⟩ => by
      have ne : a ≠ p := fun q => by rw [q, e] at w; cases w
      exact ⟨o, w, z2, by rw [ups_ne ne]; exact z3⟩) id) (Reps.show e r)
  | _, _, .lst (a := a) h z nz r => by
      have ne : a ≠ p := fun q => nz (by rw [q]; exact List.mem_cons_self)
      exact .lst h (by rw [ups_ne ne]; exact z) (fun q => nz (List.mem_cons_of_mem _ q)) (Reps.show e r)
  | _, _, .scr (a := a) h => .scr (h.imp (fun z => by
      have ne : a ≠ p := fun q => z.2.2 (by rw [q]; exact List.mem_cons_self)
      exact ⟨z.1, by rw [ups_ne ne]; exact z.2.1, fun q => z.2.2 (List.mem_cons_of_mem _ q)⟩) id)
  | _, _, .fn h r => .fn (h.mv fun b o' n q _ l _ => ⟨by rw [ups_ne (fun z => l xs (by rw [z, e] at q; exact (Option.some.inj q).symm))]; exact n, q⟩) (Reps.show e r)
  | _, _, .exc0 => .exc0
  | _, _, .exc1 h n r => .exc1 h (by rw [ups_ne (fun z => by rw [z, e] at h; cases h)]; exact n) (Rep.show e r)
theorem Reps.show {K : PySem.W.Frag} {Z : List Addr} {H : Hp} {S : Store} {p : Addr} {xs : List V} {o : MO} (e : H p = some (.lst xs)) : ∀ {vs : List V} {ds : List D}, Reps K (p :: Z) H S vs ds → Reps K Z H (ups S p o) vs ds
  | _, _, .nil => .nil
  | _, _, .cons r t => .cons (Rep.show e r) (Reps.show e t)
end
theorem StOk.show {K : PySem.W.Frag} {Z : List Addr} {H : Hp} {S : Store} {p : Addr} {xs : List V} {ds : List D} (ok : StOk K T (p :: Z) H S) (e : H p = some (.lst xs)) (nz : p ∉ Z) (r : Reps K (p :: Z) H S xs ds) : StOk K T Z H (ups S p (.lst ds)) := by
  refine ⟨ok.tabs, fun z hz => ?_, fun b o' eb => ?_⟩
  · obtain ⟨q1, q2⟩ := ok.rsv z (List.mem_cons_of_mem _ hz)
    have ne : z ≠ p := fun q => nz (by rw [← q]; exact hz)
    exact ⟨by rw [ups_ne ne]; exact q1, q2⟩
  · by_cases hb : b = p
    · subst hb; rw [ups_same] at eb; cases eb; exact ⟨xs, e, r.show e⟩
    · rw [ups_ne hb] at eb
      exact (ok.obj b o' eb).map (fun _ _ r => r.show e) (fun _ _ r => r.show e) rfl
theorem x_lcR (hc : X.calm = true) (hN : X.N.Nodup) (hi : XI X T tg tgt iter I) (ok : BlkOk X.N X.env.scope scope own) (hg : Blk X scope fun Y => PG Y tgt (tg.g Y.K)) (ht : Blk X scope fun Y => XTs Y T ifs C) (he : Blk X scope fun Y => XE Y T elt A)
    (hws : ∀ i ∈ tg.sl, i ∈ own.map (·.2)) (hs : ∀ x, foldedSetIterable iter X.env x = pure x := by intro _; rfl) : XE X T (.ListComp elt [⟨tgt, iter, ifs, 0⟩] scope pos) (dLcR I tg C A (own.map (·.2))) :=
  (pe_lc (g := tg.g X.K) (tt := lfT X.K T C) (te := lf X.K T A) hc hN hi ok hg ht he hs).imp fun σ H Q ⟨Z, τ, S, R, sl, ok, h, k⟩ => lf_comp hws sl ok h fun p H1 vs ds S1 x1 e1 n1 nz f r1 ok1 g => k _ H1 _ _ (x1.toRef f) (.ref p) (ok1.show e1 nz r1) (g p n1)
theorem s_setLcR {i : Nat} {y : Str} {py : Pos} {spos : Pos} (hc : X.calm = true) (hN : X.N.Nodup) (hy : X.N[i]? = some y) (hyl : X.env.scope.names.lookup y = some .local)
    (hsw : swapsWith (.ListComp elt [⟨tgt, iter, ifs, 0⟩] scope pos) (some (.Name y py)) spos.line X.env = pure true) (hi : XI X T tg tgt iter I) (ok : BlkOk X.N X.env.scope scope own) (hg : Blk X scope fun Y => PG Y tgt (tg.g Y.K)) (ht : Blk X scope fun Y => XTs Y T ifs C)
    (he : Blk X scope fun Y => XE Y T elt A) (hws : ∀ i ∈ tg.sl, i ∈ own.map (·.2)) (hs : ∀ x, foldedSetIterable iter X.env x = pure x := by intro _; rfl) :
    XS X T (.Assign [.Name y py] (.ListComp elt [⟨tgt, iter, ifs, 0⟩] scope pos) spos) (dSet i (dLcR I tg C A (own.map (·.2)))) := by
  refine (ps_setLc (g := tg.g X.K) (tt := lfT X.K T C) (te := lf X.K T A) hc hN hy hyl hsw hi ok hg ht he hs).imp fun D σ H ⟨Z, τ, S, E, sl, ok, h, k⟩ => ?_
  refine lf_comp hws sl ok h fun p H1 vs ds S1 x1 e1 n1 nz f r1 ok1 g => ?_
  have x2 : Ext H S H1 (ups S1 p (.lst ds)) := x1.toRef f
  exact k.nx _ H1 _ _ x2 ((sl.ext x2).set i (.ref p)) (ok1.show e1 nz r1) (g p n1)
end
end
end Dl

set_option Elab.async false
set_option linter.all false
set_option maxRecDepth 100000
namespace Dl
open PySem PySem.Spec PyProof.Rows L2 LamX

/-! ### data as the library tells them; equality -/
mutual
def py : D → PyData
  | .non => .none
  | .bl b => .bool b
  | .int i => .int i
  | .str x => .str x
  | .tup ds => .tuple (pys ds)
  | .ptp ds => .tuple (pys ds)
  | .lst ds => .list (pys ds)
  | .scr _ => .none
  | .fn .. => .none
  | .exc .. => .none
  | .ref _ => .none
def pys : List D → List PyData
  | [] => []
  | d :: ds => py d :: pys ds
end
mutual
/-- data of a depth below n -/
def okd : Nat → D → Bool
  | _, .non => true
  | _, .bl _ => true
  | _, .int _ => true
  | _, .str x => PyData.strOk x
  | n, .tup ds => match n with | 0 => false | n + 1 => okds n ds
  | n, .ptp ds => match n with | 0 => false | n + 1 => okds n ds
  | n, .lst ds => match n with | 0 => false | n + 1 => okds n ds
  | _, .scr _ => false
  | _, .fn .. => false
  | _, .exc .. => false
  | _, .ref _ => false
def okds : Nat → List D → Bool
  | _, [] => true
  | n, d :: ds => okd n d && okds n ds
end
mutual
def deq : D → D → Bool
  | .non, .non => true
  | .bl a, .bl b => a == b
  | .bl a, .int j => (if a then 1 else 0) == j
  | .int i, .bl b => i == (if b then 1 else 0)
  | .int i, .int j => i == j
  | .str x, .str y => x == y
  | .tup a, .tup b => deqs a b
  | .tup a, .ptp b => deqs a b
  | .ptp a, .tup b => deqs a b
  | .ptp a, .ptp b => deqs a b
  | .lst a, .lst b => deqs a b
  | _, _ => false
def deqs : List D → List D → Bool
  | [], [] => true
  | x :: xs, y :: ys => deq x y && deqs xs ys
  | _, _ => false
end
mutual
theorem eqv_py : ∀ {n m : Nat} (x y : D), okd n x = true → okd m y = true → PyData.eqv (py x) (py y) = deq x y := by
  intro n m x y hx hy
  cases x <;> cases y <;> first
    | rfl
    | (simp only [py, PyData.eqv, deq]; done)
    | (exfalso; simp [okd] at hx; done)
    | (exfalso; simp [okd] at hy; done)
    | (simp only [py, PyData.eqv, deq]
       cases n with
       | zero => simp [okd] at hx
       | succ n =>
         cases m with
         | zero => simp [okd] at hy
         | succ m => exact eqv_pys _ _ (by simpa [okd] using hx) (by simpa [okd] using hy))
theorem eqv_pys : ∀ {n m : Nat} (x y : List D), okds n x = true → okds m y = true → PyData.eqvAll (pys x) (pys y) = deqs x y
  | _, _, [], [], _, _ => by simp [pys, PyData.eqvAll, deqs]
  | _, _, [], _ :: _, _, _ => by simp [pys, PyData.eqvAll, deqs]
  | _, _, _ :: _, [], _, _ => by simp [pys, PyData.eqvAll, deqs]
  | n, m, x :: xs, y :: ys, hx, hy => by
    simp only [okds, Bool.and_eq_true] at hx hy
    simp only [pys, PyData.eqvAll, deqs]
    rw [eqv_py x y hx.1 hy.1, eqv_pys xs ys hx.2 hy.2]
end
mutual
theorem shaped_py : ∀ {n : Nat} (x : D), okd n x = true → (py x).canLay0 = true ∧ (py x).depth ≤ n + 1
  | _, .non, _ => by simp [py, PyData.canLay0, PyData.depth]
  | _, .bl _, _ => by simp [py, PyData.canLay0, PyData.depth]
  | _, .int _, _ => by simp [py, PyData.canLay0, PyData.depth]
  | _, .str z, h => by
    have h' : PyData.strOk z = true := by simpa [okd] using h
    simp [py, PyData.canLay0, PyData.depth, h']
  | n, .tup ds, h => by
    cases n with
    | zero => simp [okd] at h
    | succ n =>
      obtain ⟨a, b⟩ := shaped_pys (n := n) ds (by simpa [okd] using h)
      refine ⟨by simpa [py, PyData.canLay0] using a, ?_⟩
      simp only [py, PyData.depth]
      omega
  | n, .ptp ds, h => by
    cases n with
    | zero => simp [okd] at h
    | succ n =>
      obtain ⟨a, b⟩ := shaped_pys (n := n) ds (by simpa [okd] using h)
      refine ⟨by simpa [py, PyData.canLay0] using a, ?_⟩
      simp only [py, PyData.depth]
      omega
  | n, .lst ds, h => by
    cases n with
    | zero => simp [okd] at h
    | succ n =>
      obtain ⟨a, b⟩ := shaped_pys (n := n) ds (by simpa [okd] using h)
      refine ⟨by simpa [py, PyData.canLay0] using a, ?_⟩
      simp only [py, PyData.depth]
      omega
  | _, .scr _, h => by simp [okd] at h
  | _, .fn .., h => by simp [okd] at h
  | _, .exc .., h => by simp [okd] at h
  | _, .ref _, h => by simp [okd] at h
theorem shaped_pys : ∀ {n : Nat} (x : List D), okds n x = true → PyData.canLayAll0 (pys x) = true ∧ PyData.depthAll (pys x) ≤ n + 1
  | _, [], _ => by simp [pys, PyData.canLayAll0, PyData.depthAll]
  | n, d :: ds, h => by
    simp only [okds, Bool.and_eq_true] at h
    obtain ⟨a, b⟩ := shaped_py d h.1
    obtain ⟨a', b'⟩ := shaped_pys ds h.2
    refine ⟨by simp [pys, PyData.canLayAll0, a, a'], ?_⟩
    simp only [pys, PyData.depthAll]
    omega
end
theorem shaped_of {d : D} (h : okd 60 d = true) : SeqAt.shaped (py d) = true := by
  obtain ⟨a, b⟩ := shaped_py d h
  unfold SeqAt.shaped
  rw [a]
  simp
  omega
section
variable {K : PySem.W.Frag} {Z : List Addr} {H : Hp} {S : Store}
mutual
theorem Rep.dp : ∀ {n : Nat} {v : V} {d : D}, Rep K Z H S v d → okd n d = true → Dp K H v (py d)
  | _, _, _, .non, _ => by simp only [py]; exact .non
  | _, _, _, .bl b, _ => by simp only [py]; exact .bl b
  | _, _, _, .int i, _ => by simp only [py]; exact .int i
  | _, _, _, .str z, _ => by simp only [py]; exact .str z
  | _, _, _, .ref a, h => by simp [okd] at h
  | n, _, _, .tup h r, q => by
    simp only [py]
    cases n with
    | zero => simp [okd] at q
    | succ n => exact .tup h.sq (Reps.dp (n := n) r (by simpa [okd] using q))
  | n, _, _, .ptp h r, q => by
    simp only [py]
    cases n with
    | zero => simp [okd] at q
    | succ n => exact .tup h.sq (Reps.dp (n := n) r (by simpa [okd] using q))
  | n, _, _, .lst h _ _ r, q => by
    simp only [py]
    cases n with
    | zero => simp [okd] at q
    | succ n => exact .lst (SqL.of h) (Reps.dp (n := n) r (by simpa [okd] using q))
  | _, _, _, .scr h, q => by simp [okd] at q
  | _, _, _, .fn h _, q => by simp [okd] at q
  | _, _, _, .exc0, q => by simp [okd] at q
  | _, _, _, .exc1 _ _ _, q => by simp [okd] at q
theorem Reps.dp : ∀ {n : Nat} {vs : List V} {ds : List D}, Reps K Z H S vs ds → okds n ds = true → DpAll K H vs (pys ds)
  | _, _, _, .nil, _ => by simp only [pys]; exact .nil
  | _, _, _, .cons r t, h => by
    simp only [okds, Bool.and_eq_true] at h
    simp only [pys]
    exact .cons (Rep.dp r h.1) (Reps.dp t h.2)
end
/-- a list of the store, as what it holds -/
def deref (S : Store) (d : D) : D := match d with
  | .ref a => match S a with
    | some (.lst ds) => .lst ds
    | _ => d
  | _ => d
theorem Rep.dp_deref {T : Tb} {n : Nat} {v : V} {d : D} (ok : StOk K T Z H S) (r : Rep K Z H S v d) (h : okd n (deref S d) = true) : Dp K H v (py (deref S d)) := by
  cases d with
  | ref a =>
    unfold deref at h ⊢
    simp only at h ⊢
    cases e : S a with
    | none => rw [e] at h; simp [okd] at h
    | some o =>
      rw [e] at h
      cases o with
      | lst ds =>
        simp only at h ⊢
        cases r
        obtain ⟨vs, hv, rr⟩ := ok.obj a _ e
        simp only [py]
        cases n with
        | zero => simp [okd] at h
        | succ n => exact .lst (SqL.of hv) (rr.dp (n := n) (by simpa [okd] using h))
      | _ => simp [okd] at h
  | _ => exact r.dp h
end

/-! ### operations -/
section
variable {X : Cx} {K : PySem.W.Frag} {T : Tb}
theorem Op2.or {r r' : R2} {R R' : DR2} (h : Op2 K T r R) (h' : Op2 K T r' R') : Op2 K T (fun x y H Q => r x y H Q ∨ r' x y H Q) (fun x y S Q => R x y S Q ∨ R' x y S Q) := by
  intro Z H S vx vy x y Qd Q ok rx ry q k
  rcases q with q | q
  · exact .inl (h Z H S vx vy x y Qd Q ok rx ry q k)
  · exact .inr (h' Z H S vx vy x y Qd Q ok rx ry q k)
theorem Op2.imp {r : R2} {R R' : DR2} (h : Op2 K T r R) (w : ∀ x y S Q, R' x y S Q → R x y S Q) : Op2 K T r R' := fun Z H S vx vy x y Qd Q ok rx ry q k => h Z H S vx vy x y Qd Q ok rx ry (w _ _ _ _ q) k
theorem o_int {C : Int → Int → Prop} {g : Int → Int → Int} : Op2 K T (rI C fun i j => .int (g i j)) (fun x y S Q => ∃ i j, x = .int i ∧ y = .int j ∧ C i j ∧ Q (.int (g i j)) S) := by
  intro Z H S vx vy x y Qd Q ok rx ry ⟨i, j, ex, ey, c, q⟩ k
  subst ex; subst ey
  exact ⟨i, j, rx.int', ry.int', c, k _ H _ S (.refl _ _) (.int _) ok q⟩
theorem o_int0 {g : Int → Int → Int} : Op2 K T (rI0 fun i j => .int (g i j)) (fun x y S Q => ∃ i j, x = .int i ∧ y = .int j ∧ Q (.int (g i j)) S) := by
  intro Z H S vx vy x y Qd Q ok rx ry ⟨i, j, ex, ey, q⟩ k
  subst ex; subst ey
  exact ⟨i, j, rx.int', ry.int', k _ H _ S (.refl _ _) (.int _) ok q⟩
theorem o_bl0 {g : Int → Int → Bool} : Op2 K T (rI0 fun i j => .bl (g i j)) (fun x y S Q => ∃ i j, x = .int i ∧ y = .int j ∧ Q (.bl (g i j)) S) := by
  intro Z H S vx vy x y Qd Q ok rx ry ⟨i, j, ex, ey, q⟩ k
  subst ex; subst ey
  exact ⟨i, j, rx.int', ry.int', k _ H _ S (.refl _ _) (.bl _) ok q⟩
/-- two ints -/
def rII (C : Int → Int → Prop) (g : Int → Int → D) : DR2 := fun x y S Q => match x, y with
  | .int i, .int j => C i j ∧ Q (g i j) S
  | _, _ => False
theorem rII_ex {C : Int → Int → Prop} {g : Int → Int → D} {x y : D} {S : Store} {Q : DK} (h : rII C g x y S Q) : ∃ i j, x = .int i ∧ y = .int j ∧ C i j ∧ Q (g i j) S := by
  unfold rII at h
  split at h
  · exact ⟨_, _, rfl, rfl, h⟩
  · exact h.elim
theorem d_sub : Op2 K T (rI0 fun i j => .int (i - j)) (rII (fun _ _ => True) fun i j => .int (i - j)) := o_int0.imp fun x y S Q h => let ⟨i, j, a, b, _, c⟩ := rII_ex h; ⟨i, j, a, b, c⟩
theorem d_mod : Op2 K T (rI (fun _ j => 0 < j) fun i j => .int (i % j)) (rII (fun _ j => 0 < j) fun i j => .int (i % j)) := o_int.imp fun x y S Q h => let ⟨i, j, a, b, d, c⟩ := rII_ex h; ⟨i, j, a, b, d, c⟩
theorem d_fdiv : Op2 K T (rI CDiv fun i j => .int (i / j)) (rII CDiv fun i j => .int (i / j)) := o_int.imp fun x y S Q h => let ⟨i, j, a, b, d, c⟩ := rII_ex h; ⟨i, j, a, b, d, c⟩
theorem d_pow : Op2 K T (rI CPow fun i j => .int (i ^ j.toNat)) (rII CPow fun i j => .int (i ^ j.toNat)) := o_int.imp fun x y S Q h => let ⟨i, j, a, b, d, c⟩ := rII_ex h; ⟨i, j, a, b, d, c⟩
theorem d_lt : Op2 K T (rI0 fun i j => .bl (decide (i < j))) (rII (fun _ _ => True) fun i j => .bl (decide (i < j))) := o_bl0.imp fun x y S Q h => let ⟨i, j, a, b, _, c⟩ := rII_ex h; ⟨i, j, a, b, c⟩
theorem d_le : Op2 K T (rI0 fun i j => .bl (decide (i ≤ j))) (rII (fun _ _ => True) fun i j => .bl (decide (i ≤ j))) := o_bl0.imp fun x y S Q h => let ⟨i, j, a, b, _, c⟩ := rII_ex h; ⟨i, j, a, b, c⟩
theorem d_gt : Op2 K T (rI0 fun i j => .bl (decide (j < i))) (rII (fun _ _ => True) fun i j => .bl (decide (j < i))) := o_bl0.imp fun x y S Q h => let ⟨i, j, a, b, _, c⟩ := rII_ex h; ⟨i, j, a, b, c⟩
theorem d_ge : Op2 K T (rI0 fun i j => .bl (decide (j ≤ i))) (rII (fun _ _ => True) fun i j => .bl (decide (j ≤ i))) := o_bl0.imp fun x y S Q h => let ⟨i, j, a, b, _, c⟩ := rII_ex h; ⟨i, j, a, b, c⟩
/-! + -/
theorem o_catT : Op2 K T (rCatT K) (fun x y S Q => ∃ a b, x = .tup a ∧ y = .tup b ∧ a ≠ [] ∧ a.length + b.length ≤ sizeLine ∧ Q (.tup (a ++ b)) S) := by
  intro Z H S vx vy x y Qd Q ok rx ry ⟨a, b, ex, ey, ne, hz, q⟩ k
  subst ex; subst ey
  cases rx with
  | tup h1 r1 =>
    cases ry with
    | tup h2 r2 =>
      refine ⟨_, _, _, _, rfl, rfl, h1.sq, h2.sq, fun e => ne ?_, by rw [r1.length, r2.length]; exact hz, fun e => ?_, fun e p hp => ?_⟩
      · subst e; cases r1; rfl
      · subst e
        cases r2
        rw [List.append_nil] at q
        exact k _ H _ S (.refl _ _) (.tup h1 r1) ok q
      · exact k _ _ _ S (.new hp) (.newTup (r1.append r2) hp (ok.fresh hp)) (ok.new hp) q
theorem o_cat : Op2 K T rCat (fun x y S Q => ∃ a b, x = .lst a ∧ y = .lst b ∧ a.length + b.length ≤ sizeLine ∧ Q (.lst (a ++ b)) S) := by
  intro Z H S vx vy x y Qd Q ok rx ry ⟨a, b, ex, ey, hz, q⟩ k
  subst ex; subst ey
  cases rx with
  | lst h1 n1 z1 r1 =>
    cases ry with
    | lst h2 n2 z2 r2 => exact ⟨_, _, _, _, rfl, rfl, h1, h2, by rw [r1.length, r2.length]; exact hz, fun p hp => k _ _ _ S (.new hp) (.newLst (r1.append r2) hp (ok.fresh hp) (ok.nz hp)) (ok.new hp) q⟩
def rAddD : DR2 := fun x y S Q => match x, y with
  | .int i, .int j => Q (.int (i + j)) S
  | .tup a, .tup b => a ≠ [] ∧ a.length + b.length ≤ sizeLine ∧ Q (.tup (a ++ b)) S
  | .lst a, .lst b => a.length + b.length ≤ sizeLine ∧ Q (.lst (a ++ b)) S
  | _, _ => False
abbrev rAddV (K : PySem.W.Frag) : R2 := fun x y H Q => (rI0 (fun i j => .int (i + j)) x y H Q ∨ rCatT K x y H Q) ∨ rCat x y H Q
theorem op_addV : OpR X (binaryOp .Add) (rAddV X.K) := (op_add.or op_catT).or op_cat
theorem d_add : Op2 K T (rAddV K) rAddD := ((o_int0.or o_catT).or o_cat).imp fun x y S Q h => by
  unfold rAddD at h
  split at h
  · exact .inl (.inl ⟨_, _, rfl, rfl, h⟩)
  · exact .inl (.inr ⟨_, _, rfl, rfl, h⟩)
  · exact .inr ⟨_, _, rfl, rfl, h⟩
  · exact h.elim
/-! * -/
theorem reps_rep {Z : List Addr} {H : Hp} {S : Store} {vs : List V} {ds : List D} (r : Reps K Z H S vs ds) : ∀ k : Nat, Reps K Z H S (List.replicate k vs).flatten (List.replicate k ds).flatten
  | 0 => .nil
  | k + 1 => by
    rw [List.replicate_succ, List.flatten_cons, List.replicate_succ, List.flatten_cons]
    exact r.append (reps_rep r k)
theorem o_rep : Op2 K T rRep (fun x y S Q => ∃ a k, x = .lst a ∧ y = .int k ∧ -(2 ^ 63) ≤ k ∧ k < 2 ^ 63 ∧ a.length * k.toNat ≤ sizeLine ∧ Q (.lst (List.replicate k.toNat a).flatten) S) := by
  intro Z H S vx vy x y Qd Q ok rx ry ⟨a, b, ex, ey, h1, h2, hz, q⟩ k
  subst ex; subst ey
  cases rx with
  | lst e1 n1 z1 r1 => exact ⟨_, _, _, rfl, ry.int', e1, h1, h2, by rw [r1.length]; exact hz, fun p hp => k _ _ _ S (.new hp) (.newLst (reps_rep r1 _) hp (ok.fresh hp) (ok.nz hp)) (ok.new hp) q⟩
def rMulD : DR2 := fun x y S Q => match x, y with
  | .int i, .int j => CMul i j ∧ Q (.int (i * j)) S
  | .lst a, .int k => -(2 ^ 63) ≤ k ∧ k < 2 ^ 63 ∧ a.length * k.toNat ≤ sizeLine ∧ Q (.lst (List.replicate k.toNat a).flatten) S
  | _, _ => False
abbrev rMulV : R2 := fun x y H Q => rI CMul (fun i j => .int (i * j)) x y H Q ∨ rRep x y H Q
theorem op_mulV : OpR X (binaryOp .Mult) rMulV := op_mul.or op_rep
theorem d_mul : Op2 K T rMulV rMulD := (o_int.or o_rep).imp fun x y S Q h => by
  unfold rMulD at h
  split at h
  · exact .inl ⟨_, _, rfl, rfl, h⟩
  · exact .inr ⟨_, _, rfl, rfl, h⟩
  · exact h.elim
/-! ==, != -/
def rEqG (neg : Bool) : DR2 := fun x y S Q => okd 60 (deref S x) = true ∧ okd 60 (deref S y) = true ∧ Q (.bl (if neg then !deq (deref S x) (deref S y) else deq (deref S x) (deref S y))) S
theorem d_eq : Op2 K T (rEqD K) (rEqG false) := by
  intro Z H S vx vy x y Qd Q ok rx ry ⟨hx, hy, q⟩ k
  refine ⟨_, _, rx.dp_deref ok hx, ry.dp_deref ok hy, shaped_of hx, shaped_of hy, ?_⟩
  rw [eqv_py _ _ hx hy]
  exact k _ H _ S (.refl _ _) (.bl _) ok q
theorem d_ne : Op2 K T (rNeD K) (rEqG true) := by
  intro Z H S vx vy x y Qd Q ok rx ry ⟨hx, hy, q⟩ k
  refine ⟨_, _, rx.dp_deref ok hx, ry.dp_deref ok hy, shaped_of hx, shaped_of hy, ?_⟩
  rw [eqv_py _ _ hx hy]
  exact k _ H _ S (.refl _ _) (.bl _) ok q
/-! is None -/
def rIsN (neg : Bool) : DR2 := fun x y S Q => match y with
  | .non => Q (.bl (match x with | .non => !neg | _ => neg)) S
  | _ => False
theorem Rep.isNon {Z : List Addr} {H : Hp} {S : Store} {v : V} {d : D} (r : Rep K Z H S v d) : decide (v = .non) = (match d with | .non => true | _ => false) := by cases r <;> simp
theorem d_isN : Op2 K T (fun x y H Q => y = .non ∧ Q (.bl (decide (x = .non))) H) (rIsN false) := by
  intro Z H S vx vy x y Qd Q ok rx ry q k
  unfold rIsN at q
  split at q
  · refine ⟨ry.non', k _ H _ S (.refl _ _) (.bl _) ok ?_⟩
    rw [rx.isNon]
    cases x <;> exact q
  · exact q.elim
theorem d_notN : Op2 K T (fun x y H Q => y = .non ∧ Q (.bl (!decide (x = .non))) H) (rIsN true) := by
  intro Z H S vx vy x y Qd Q ok rx ry q k
  unfold rIsN at q
  split at q
  · refine ⟨ry.non', k _ H _ S (.refl _ _) (.bl _) ok ?_⟩
    rw [rx.isNon]
    cases x <;> exact q
  · exact q.elim
/-! in, not in: flat things -/
def flat : D → Bool
  | .non => true
  | .bl _ => true
  | .int _ => true
  | .str _ => true
  | _ => false
def items (S : Store) (d : D) : Option (List D) := match deref S d with
  | .tup ds => some ds
  | .ptp ds => some ds
  | .lst ds => some ds
  | _ => none
theorem items_at {Z : List Addr} {H : Hp} {S : Store} {v : V} {d : D} {ds : List D} (ok : StOk K T Z H S) (r : Rep K Z H S v d) (e : items S d = some ds) : ∃ p vs, v = .ref p ∧ (SqL K H p vs ∨ SqT K H p vs) ∧ Reps K Z H S vs ds := by
  unfold items at e
  cases d with
  | ref a =>
    unfold deref at e
    simp only at e
    cases q : S a with
    | none => rw [q] at e; cases e
    | some o =>
      rw [q] at e
      cases o with
      | lst es =>
        simp only [Option.some.injEq] at e
        subst e
        obtain ⟨vs, hv, rr⟩ := ok.obj a _ q
        cases r
        exact ⟨a, vs, rfl, .inl (SqL.of hv), rr⟩
      | _ => cases e
  | tup es =>
    cases e
    obtain ⟨a, vs, rfl, h, rr⟩ := r.tupW
    exact ⟨a, vs, rfl, .inr h, rr⟩
  | ptp es =>
    cases e
    obtain ⟨a, vs, rfl, h, rr⟩ := r.ptpW
    exact ⟨a, vs, rfl, .inr h, rr⟩
  | lst es =>
    cases e
    cases r with
    | lst h n z rr => exact ⟨_, _, rfl, .inl (SqL.of h), rr⟩
  | _ => cases e
theorem Rep.flat {Z : List Addr} {H : Hp} {S : Store} {v : V} {d : D} (r : Rep K Z H S v d) (h : Dl.flat d = true) : flatV v = true := by cases r <;> first | rfl | (simp [Dl.flat] at h)
theorem Rep.eqV {Z : List Addr} {H : Hp} {S : Store} {v u : V} {d e : D} (r : Rep K Z H S v d) (q : Rep K Z H S u e) (h : Dl.flat d = true) (h' : Dl.flat e = true) : L2.eqV v u = deq d e := by
  cases r <;> cases q <;> first | rfl | (simp [L2.eqV, deq]; done) | (simp [Dl.flat] at h; done) | (simp [Dl.flat] at h'; done)
theorem Reps.flats {Z : List Addr} {H : Hp} {S : Store} : ∀ {vs : List V} {ds : List D}, Reps K Z H S vs ds → ds.all flat = true → vs.all flatV = true
  | _, _, .nil, _ => rfl
  | _, _, .cons r t, h => by
    rw [List.all_cons, Bool.and_eq_true] at h ⊢
    exact ⟨r.flat h.1, Reps.flats t h.2⟩
theorem Reps.inV {Z : List Addr} {H : Hp} {S : Store} {x : V} {dx : D} (rx : Rep K Z H S x dx) (hx : flat dx = true) : ∀ {vs : List V} {ds : List D}, Reps K Z H S vs ds → ds.all flat = true → L2.inV x vs = ds.any fun y => deq y dx
  | _, _, .nil, _ => rfl
  | _, _, .cons r t, h => by
    rw [List.all_cons, Bool.and_eq_true] at h
    have ih := Reps.inV rx hx t h.2
    unfold L2.inV at ih ⊢
    rw [List.any_cons, List.any_cons, ih, r.eqV rx h.1 hx]
def rInD (neg : Bool) : DR2 := fun x y S Q => match items S y with
  | some ds => flat x = true ∧ ds.all flat = true ∧ Q (.bl (if neg then !(ds.any fun y => deq y x) else ds.any fun y => deq y x)) S
  | none => False
theorem d_in (neg : Bool) : Op2 K T (rIn K neg) (rInD neg) := by
  intro Z H S vx vy x y Qd Q ok rx ry q k
  unfold rInD at q
  split at q
  · rename_i ds e
    obtain ⟨p, vs, rfl, hs, rr⟩ := items_at ok ry e
    obtain ⟨hx, hd, q⟩ := q
    refine ⟨p, vs, rfl, hs, rx.flat hx, rr.flats hd, ?_⟩
    rw [rr.inV rx hx hd]
    exact k _ H _ S (.refl _ _) (.bl _) ok q
  · exact q.elim
end

/-! ### subscripts -/
section
variable {X : Cx} {K : PySem.W.Frag} {T : Tb} {a b e : Expr} {pos p2 : Pos}
theorem Reps.atI {Z : List Addr} {H : Hp} {S : Store} {vs : List V} {ds : List D} {i : Int} {d : D} (r : Reps K Z H S vs ds) (h : L2.atI ds i = some d) : ∃ v, L2.atI vs i = some v ∧ Rep K Z H S v d := by
  unfold L2.atI at h ⊢
  rw [r.length]
  cases e : ixN ds.length i with
  | none => rw [e] at h; cases h
  | some j =>
    rw [e] at h
    exact r.get h
/-- keys of dicts -/
def valD {κ : Type} [DecidableEq κ] (kvs : List (κ × D)) (k : κ) : Option D := (kvs.find? fun kv => decide (kv.1 = k)).map (·.2)
def putD {κ : Type} [DecidableEq κ] (kvs : List (κ × D)) (k : κ) (v : D) : List (κ × D) :=
  if (kvs.any fun kv => decide (kv.1 = k)) = true then kvs.map fun kv => if kv.1 = k then (kv.1, v) else kv else kvs ++ [(k, v)]
def dropD {κ : Type} [DecidableEq κ] (kvs : List (κ × D)) (k : κ) : List (κ × D) := kvs.filter fun kv => decide (kv.1 ≠ k)
def keyOf : D → Option L2.Key
  | .int i => some (.inl i)
  | .str x => some (.inr x)
  | _ => none
def keysOf : List D → Option (List L2.Key)
  | [] => some []
  | d :: ds => match keyOf d, keysOf ds with
    | some k, some ks => some (k :: ks)
    | _, _ => none
theorem Rep.key {Z : List Addr} {H : Hp} {S : Store} {v : V} {d : D} {k : L2.Key} (r : Rep K Z H S v d) (e : keyOf d = some k) : v = kV k := by
  cases r <;> first | (cases e; rfl) | cases e
theorem Reps.keys {Z : List Addr} {H : Hp} {S : Store} : ∀ {vs : List V} {ds : List D} {ks : List L2.Key}, Reps K Z H S vs ds → keysOf ds = some ks → vs = ks.map kV
  | _, _, _, .nil, e => by cases e; rfl
  | _, _, _, .cons (d := d) (ds := ds) r t, e => by
    unfold keysOf at e
    split at e
    · rename_i k ks e1 e2
      cases e
      rw [List.map_cons, ← r.key e1, ← Reps.keys t e2]
    · cases e
theorem RKV.val {κ : Type} [DecidableEq κ] {Z : List Addr} {H : Hp} {S : Store} {k : κ} : ∀ {kvs : List (κ × V)} {kds : List (κ × D)}, RKV K Z H S kvs kds → (valV kvs k = none ∧ valD kds k = none) ∨ ∃ v d, valV kvs k = some v ∧ valD kds k = some d ∧ Rep K Z H S v d
  | _, _, .nil => .inl ⟨rfl, rfl⟩
  | _, _, .cons (a := p) (b := q) r t => by
    have ih := RKV.val (k := k) t
    obtain ⟨e, r⟩ := r
    by_cases h : p.1 = k
    · refine .inr ⟨p.2, q.2, valV_pos h, ?_, r⟩
      simp [valD, List.find?_cons, ← e, h]
    · have h1 : ∀ rr, valV (p :: rr) k = valV rr k := fun rr => valV_neg h
      have h2 : ¬ q.1 = k := by rw [← e]; exact h
      have e2 : ∀ rr, valD (q :: rr) k = valD rr k := fun rr => by simp [valD, List.find?_cons, h2]
      rw [h1, e2]
      exact ih
end
end Dl

set_option Elab.async false
set_option linter.all false
set_option maxRecDepth 100000
namespace Dl
open PySem PySem.Spec PyProof.Rows L2 LamX
section
variable {X : Cx} {K : PySem.W.Frag} {T : Tb} {a b e : Expr} {es : List Expr} {pos p2 : Pos}

/-! ### subscripts -/
theorem ix_dictV (hu : X.A.units + 1 < cLine) : IxR X (fun x y H Q => ∃ a v, x = .ref a ∧ DGet H a y (some v) ∧ Q v H) := by
  intro value slice pins s σ H x y v u Q I rx ry h hs
  obtain ⟨a, w', ex, g, q⟩ := h
  subst ex
  obtain rfl : v = Value.ref a := rx
  refine tail_any (dict_typeIs I g) PySem.F.slot_dict_getitem.lookup ?_ hs
  exact d_getItem hu I g ry fun z s' I' rz => ⟨w', H, I', rz, q⟩
abbrev rIxV (K : PySem.W.Frag) : R2 := fun x y H Q => rIx K x y H Q ∨ ∃ a v, x = .ref a ∧ DGet H a y (some v) ∧ Q v H
def rItem (ds : List D) : D → Store → DK → Prop := fun y S Q => match y with
  | .int i => match atI ds i with
    | some d => Q d S
    | none => False
  | _ => False
/-- the item at y of x -/
def rIxD : DR2 := fun x y S Q => match deref S x with
  | .tup ds => rItem ds y S Q
  | .ptp ds => rItem ds y S Q
  | .lst ds => rItem ds y S Q
  | .str z => match y with
    | .int i => z.length ≤ sizeLine ∧ match atI z.cps.toList i with
      | some c => Q (.str ⟨#[c]⟩) S
      | none => False
    | _ => False
  | .ref a => match S a with
    | some (.dK kvs) => match keyOf y with
      | some k => match valD kvs k with
        | some d => Q d S
        | none => False
      | none => False
    | _ => False
  | _ => False
theorem deref_cases (S : Store) (d : D) : deref S d = d ∨ ∃ a ds, d = .ref a ∧ S a = some (.lst ds) ∧ deref S d = .lst ds := by
  unfold deref
  split
  · split
    · exact .inr ⟨_, _, rfl, by assumption, rfl⟩
    · exact .inl rfl
  · exact .inl rfl
theorem d_ix : Op2 K T (rIx K) (fun x y S Q => ∃ ds i d, items S x = some ds ∧ y = .int i ∧ atI ds i = some d ∧ Q d S) := by
  intro Z H S vx vy x y Qd Q ok rx ry ⟨ds, i, d, e, ey, ei, q⟩ k
  subst ey
  obtain ⟨p, vs, ev, hs, rr⟩ := items_at ok rx e
  obtain ⟨v, h1, r1⟩ := rr.atI ei
  rcases hs with hs | hs
  · exact .inl ⟨p, vs, i, v, ev, ry.int', hs, h1, k v H d S (.refl _ _) r1 ok q⟩
  · exact .inr (.inl ⟨p, vs, i, v, ev, ry.int', hs, h1, k v H d S (.refl _ _) r1 ok q⟩)
theorem d_ixS : Op2 K T (rIx K) (fun x y S Q => ∃ z i c, x = .str z ∧ y = .int i ∧ z.length ≤ sizeLine ∧ atI z.cps.toList i = some c ∧ Q (.str ⟨#[c]⟩) S) := by
  intro Z H S vx vy x y Qd Q ok rx ry ⟨z, i, c, ex, ey, hz, e, q⟩ k
  subst ex; subst ey
  exact .inr (.inr ⟨z, i, c, rx.str', ry.int', hz, e, k _ H _ S (.refl _ _) (.str _) ok q⟩)
theorem d_ixK : Op2 K T (fun x y H Q => ∃ a v, x = .ref a ∧ DGet H a y (some v) ∧ Q v H) (fun x y S Q => ∃ a kvs key d, x = .ref a ∧ S a = some (.dK kvs) ∧ keyOf y = some key ∧ valD kvs key = some d ∧ Q d S) := by
  intro Z H S vx vy x y Qd Q ok rx ry ⟨a, kvs, key, d, ex, e, ek, ev, q⟩ k
  subst ex
  obtain ⟨ws, hv, rr⟩ := ok.obj a _ e
  rcases rr.val (k := key) with ⟨_, z⟩ | ⟨v, d', h1, h2, r1⟩
  · rw [z] at ev; cases ev
  · rw [h2] at ev
    have ev : d' = d := Option.some.inj ev
    subst ev
    cases rx
    exact ⟨a, v, rfl, by rw [ry.key ek, ← h1]; exact DGet.k hv, k v H _ S (.refl _ _) r1 ok q⟩
theorem d_ixV : Op2 K T (rIxV K) rIxD := by
  intro Z H S vx vy x y Qd Q ok rx ry h k
  have seq : ∀ ds, items S x = some ds → rItem ds y S Qd → rIxV K vx vy H Q := by
    intro ds e q
    unfold rItem at q
    split at q
    · split at q
      · rename_i d ed
        exact .inl (d_ix Z H S vx vy x _ Qd Q ok rx ry ⟨ds, _, d, e, rfl, ed, q⟩ k)
      · exact q.elim
    · exact q.elim
  unfold rIxD at h
  split at h
  · rename_i ds e
    exact seq ds (by unfold items; rw [e]) h
  · rename_i ds e
    exact seq ds (by unfold items; rw [e]) h
  · rename_i ds e
    exact seq ds (by unfold items; rw [e]) h
  · rename_i z e
    rcases deref_cases S x with q | ⟨a, ds, _, _, q⟩
    · rw [q] at e
      subst e
      split at h
      · obtain ⟨hz, h⟩ := h
        split at h
        · rename_i c ec
          exact .inl (d_ixS Z H S vx vy _ _ Qd Q ok rx ry ⟨z, _, c, rfl, rfl, hz, ec, h⟩ k)
        · exact h.elim
      · exact h.elim
    · rw [q] at e; cases e
  · rename_i a e
    rcases deref_cases S x with q | ⟨b, ds, _, _, q⟩
    · rw [q] at e
      subst e
      split at h
      · rename_i kvs es
        split at h
        · rename_i key ek
          split at h
          · rename_i d ed
            exact .inr (d_ixK Z H S vx vy _ _ Qd Q ok rx ry ⟨a, kvs, key, d, rfl, es, ek, ed, h⟩ k)
          · exact h.elim
        · exact h.elim
      · exact h.elim
    · rw [q] at e; cases e
  · exact h.elim
theorem x_ix {A B : DE} (hu : X.A.units + 1 < cLine) (ha : XE X T a A) (hb : XE X T b B) (hs : PlainIx b) : XE X T (.Subscript a b pos) (d2 rIxD A B) :=
  (pe_ix (ix_seq.or (ix_dictV hu)) ha hb hs).imp fun σ H Q h => lf_two d_ixV σ H Q h
/-! ### slices -/
def cutD (ds : List D) (lo hi : Option Int) : List D := (ds.drop (HT.sIx ds.length 0 lo)).take (HT.sIx ds.length ds.length hi - HT.sIx ds.length 0 lo)
theorem Reps.cut {Z : List Addr} {H : Hp} {S : Store} {vs : List V} {ds : List D} (r : Reps K Z H S vs ds) (lo hi : Option Int) : Reps K Z H S (cutV vs lo hi) (cutD ds lo hi) := by
  unfold cutV cutD
  rw [r.length]
  exact (r.drop _).take _
theorem lst_at {Z : List Addr} {H : Hp} {S : Store} {v : V} {d : D} {ds : List D} (ok : StOk K T Z H S) (r : Rep K Z H S v d) (e : deref S d = .lst ds) : ∃ p vs, v = .ref p ∧ SqL K H p vs ∧ Reps K Z H S vs ds := by
  rcases deref_cases S d with e2 | ⟨a, ds', ex, ea, e2⟩
  · rw [e2] at e
    subst e
    cases r with
    | lst h n z rr => exact ⟨_, _, rfl, SqL.of h, rr⟩
  · subst ex
    rw [e2] at e
    cases e
    cases r
    obtain ⟨ws, hw, rr⟩ := ok.obj _ _ ea
    exact ⟨a, ws, rfl, SqL.of hw, rr⟩
abbrev DO := DSt → Store → (Option Int → Store → Prop) → Prop
def lfO (K : PySem.W.Frag) (T : Tb) (Ψ : DO) : L2.TO := fun σ H Q => ∃ Z τ S R, Slots K Z H S σ τ ∧ StOk K T Z H S ∧ Ψ τ S R ∧ ∀ o H' S', Ext H S H' S' → StOk K T Z H' S' → R o S' → Q o H'
abbrev XO (X : Cx) (T : Tb) (e : Option Expr) (Ψ : DO) : Prop := PO X e (lfO X.K T Ψ)
def dNoPart : DO := fun _ S Q => Q none S
def dPart (A : DE) : DO := fun τ S Q => A τ S fun d S1 => match d with
  | .int i => Q (some i) S1
  | _ => False
theorem _root_.L2.PO.imp {o : Option Expr} {t t' : L2.TO} (h : PO X o t) (w : ∀ σ H Q, t' σ H Q → t σ H Q) : PO X o t' := ⟨fun pins s σ H Q I q => h.run pins s σ H Q I (w σ H Q q)⟩
theorem o_none : XO X T none dNoPart := po_none.imp fun σ H Q ⟨Z, τ, S, R, sl, ok, h, k⟩ => k none H S (.refl _ _) ok h
theorem o_some {A : DE} (h : XE X T e A) : XO X T (some e) (dPart A) := (po_some h).imp fun σ H Q ⟨Z, τ, S, R, sl, ok, h, k⟩ => ⟨Z, τ, S, _, sl, ok, h, fun v H1 d S1 x1 r1 ok1 h1 => by
  cases d with
  | int i => exact ⟨i, r1.int', k (some i) H1 S1 x1 ok1 h1⟩
  | _ => exact h1.elim⟩
/-- x[lo:hi], of a tuple (not the whole of it), a list -/
def rSlD : D → Option Int → Option Int → Store → DK → Prop := fun x lo hi S Q => match deref S x with
  | .tup ds => ¬ (HT.sIx ds.length 0 lo = 0 ∧ HT.sIx ds.length ds.length hi = ds.length) ∧ Q (.tup (cutD ds lo hi)) S
  | .lst ds => Q (.lst (cutD ds lo hi)) S
  | _ => False
def dSl (A : DE) (L U : DO) : DE := fun τ S Q => A τ S fun x S1 => L τ S1 fun lo S2 => U τ S2 fun hi S3 => rSlD x lo hi S3 Q
theorem x_slice {A : DE} {L U : DO} {lo hi : Option Expr} (ha : XE X T e A) (hl : XO X T lo L) (hu : XO X T hi U) : XE X T (.Subscript e (.Slice lo hi none p2) pos) (dSl A L U) := by
  refine (pe_slice (sl_tup.or sl_list) ha hl hu).imp fun σ H Q ⟨Z, τ, S, R, sl, ok, h, k⟩ => ?_
  refine ⟨Z, τ, S, _, sl, ok, h, fun vx H1 x S1 x1 rx ok1 h1 => ?_⟩
  refine ⟨Z, τ, S1, _, sl.ext x1, ok1, h1, fun lo H2 S2 x2 ok2 h2 => ?_⟩
  refine ⟨Z, τ, S2, _, sl.ext (x1.trans x2), ok2, h2, fun hi H3 S3 x3 ok3 h3 => ?_⟩
  have rx3 := rx.ext (x2.trans x3)
  have xx := x1.trans (x2.trans x3)
  unfold rSlD at h3
  split at h3
  · rename_i ds e
    obtain ⟨hn, q⟩ := h3
    rcases deref_cases S3 x with e2 | ⟨a, ds', _, _, e2⟩
    · rw [e2] at e
      subst e
      obtain ⟨a, vs, ev, ht, rr⟩ := rx3.tupW
      exact .inl ⟨a, vs, ev, ht, by rw [rr.length]; exact hn, fun p hp => k _ _ _ S3 (xx.trans (.new hp)) (.newTup (rr.cut lo hi) hp (ok3.fresh hp)) (ok3.new hp) q⟩
    · rw [e2] at e; cases e
  · rename_i ds e
    obtain ⟨p, vs, ev, hl, rr⟩ := lst_at ok3 rx3 e
    exact .inr ⟨p, vs, ev, hl, fun q hq => k _ _ _ S3 (xx.trans (.new hq)) (.newLst (rr.cut lo hi) hq (ok3.fresh hq) (ok3.nz hq)) (ok3.new hq) h3⟩
  · exact h3.elim
end
end Dl

set_option Elab.async false
set_option linter.all false
set_option maxRecDepth 100000
set_option maxHeartbeats 2000000
namespace Dl
open PySem PySem.Spec PyProof.Rows L2 LamX
/-! ### sorted(xs, key=lambda row: row[0]) -/
/-- the lambda's words: one name, its item at 0 -/
structure LamK (params : Arguments) (body : Expr) (scope : Scope) (x : Str) : Prop where
  kind : scope.kind = .function
  co : scope.isCoroutine = false
  gen : scope.isGenerator = false
  names : scope.names = [(x, .local)]
  bod : ∃ p1 j p2 p3, body = .Subscript (.Name x p1) (.Constant (.int 0) j p2) p3
  bind : ∀ (name qual : Str) (pm cdv ct : Value) (v : Value), bindArgs (PySem.W.kla_fn name qual params body scope [] pm cdv ct) ⟨[v], []⟩ = pure [(x, v)]
  dbg : (x == ("__debug__" : Str)) = false
section
variable {prog : Program} {w : World} {A : Around} {s : Shared}
theorem key_call {params : Arguments} {body : Expr} {scope : Scope} {x : Str} (L : LamK params body scope x) {name qual : Str} {pm ctv : Value} {c' f t : Addr} {items : Array Value} {n : Int} {tok : Tok} {E : Value → Shared → Prop} {Q : Value → Shared → Prop}
    (hroom : A.depth < recursionLimit) (ho : s.heap.get? f = some (PySem.W.kla_obj name qual params body scope [] pm c' ctv)) (hcd : s.heap.CodeRec (.ref c') qual) (lim : s.heap.NoLimit) (ht : IsTup s.heap t items) (h0 : items[0]? = some (.int n tok))
    (hq : ∀ h' tk, (∀ b o, s.heap.get? b = some o → h'.get? b = some o) → Q (.int n tok) { s with heap := h', toks := tk }) : wpAny (model prog w) A (call (.ref f) [.ref t]) Q E s := by
  obtain ⟨p1, j, p2, p3, eb⟩ := L.bod
  refine wpAny_call (PySem.W.kla_callFunE (body := body) hroom ho rfl L.co L.gen rfl hcd ?_)
  rw [L.bind]
  refine wpAny_pure (wpAny_newFunctionEnv (fun y hy => ?_) (fun y hy => ?_) (fun h₁ hns hsb => ⟨lim.fresh _ hsb, ?_⟩) L.kind)
  · have hy : y ∈ scope.names := hy
    rw [L.names] at hy
    rw [List.mem_singleton.mp hy]
    intro z; cases z
  · rw [List.mem_singleton.mp hy]
    show scope.names.lookup x = some .local
    rw [L.names]
    simp [List.lookup]
  · have kp : ∀ b o, s.heap.get? b = some o → h₁.get? b = some o := fun b o e => hsb.extBut b o (Nat.ne_of_lt (Heap.lt_size e)) (Heap.get?_push_of_some _ e)
    refine PySem.W.kla_codeExpr ?_
    rw [eb]
    have hl : scope.names.lookup x = some .local := by rw [L.names]; simp [List.lookup]
    refine Subscript_ (wpAny_Name (wpAny_loadName_local (v := .ref t) L.kind hl hns (by simp [List.lookup]) ?_) L.dbg)
    refine wpAny_Constant_int ?_
    have ht1 : IsTup h₁ t items := ht.keeps kp
    have hpos : 0 < items.size := by
      rcases Nat.lt_or_ge 0 items.size with z | z
      · exact z
      · rw [Array.getElem?_eq_none (by omega)] at h0; cases h0
    refine subscriptTail_builtinR (x := .int n tok) ht1.typeIs slot_tuple_getitem.lookup (getItem_tuple (j := 0) (x := .int n tok) ht1 (by decide) (by decide) ?_ h0 ⟨rfl, ?_⟩) (by with_unfolding_all rfl)
    · have q : 0 < (items.size : Int) := by omega
      have q2 : (decide ((0 : Int) ≤ 0) && decide ((0 : Int) < (items.size : Int))) = true := by rw [decide_eq_true q]; rfl
      exact if_pos q2
    · exact hq h₁ _ kp
end
/-- a permutation of one list carried over to another that is like it -/
theorem perm_along {α β : Type} {R : α → β → Prop} : ∀ {l l' : List α}, l'.Perm l → ∀ {m : List β}, Paired R l m → ∃ m', m'.Perm m ∧ Paired R l' m' := by
  intro l l' p
  induction p with
  | nil => intro m h; cases h; exact ⟨[], .nil, .nil⟩
  | cons x _ ih =>
    intro m h
    cases h with
    | cons r t =>
      obtain ⟨m', p', q⟩ := ih t
      exact ⟨_ :: m', p'.cons _, .cons r q⟩
  | swap x y l =>
    intro m h
    cases h with
    | cons r t =>
      cases t with
      | cons r' t' => exact ⟨_, .swap _ _ _, .cons r' (.cons r t')⟩
  | trans _ _ ih1 ih2 =>
    intro m h
    obtain ⟨m1, p1, q1⟩ := ih2 h
    obtain ⟨m2, p2, q2⟩ := ih1 q1
    exact ⟨m2, p2.trans p1, q2⟩
theorem vals_rep {K : PySem.W.Frag} {Z : List Addr} {H : Hp} {S : Store} : ∀ {xs : List V} {us : List Value} {kds : List (Int × D)}, Vals xs us → Reps K Z H S xs (kds.map (·.2)) →
    Paired (fun (p : Int × Value) (q : Int × D) => p.1 = q.1 ∧ ∃ v, RelV v p.2 ∧ Rep K Z H S v q.2) ((kds.map (·.1)).zip us) kds
  | _, _, [], .nil, .nil => .nil
  | _, _, p :: r, .cons a t, .cons b u => .cons ⟨rfl, _, a, b⟩ (vals_rep t u)
theorem rep_vals {K : PySem.W.Frag} {Z : List Addr} {H : Hp} {S : Store} : ∀ {ps : List (Int × Value)} {kds : List (Int × D)}, Paired (fun (p : Int × Value) (q : Int × D) => p.1 = q.1 ∧ ∃ v, RelV v p.2 ∧ Rep K Z H S v q.2) ps kds →
    ∃ xs, Vals xs (ps.map (·.2)) ∧ Reps K Z H S xs (kds.map (·.2)) ∧ ps.map (·.1) = kds.map (·.1)
  | _, _, .nil => ⟨[], .nil, .nil, rfl⟩
  | _, _, .cons ⟨e, v, a, b⟩ t => by
    obtain ⟨xs, h1, h2, h3⟩ := rep_vals t
    exact ⟨v :: xs, .cons a h1, .cons b h2, by simp [e, h3]⟩
/-- what an item must be: a tuple with the key ahead -/
def Keyed0 (p : Int × D) : Prop := ∃ ds, p.2 = .tup (.int p.1 :: ds)
def dSortKey (A : DE) : DE := fun τ S Q => A τ S fun d S1 => ∃ kds : List (Int × D), deref S1 d = .lst (kds.map (·.2)) ∧ (∀ p ∈ kds, Keyed0 p) ∧
  ∀ out : List (Int × D), out.Perm kds → out.Pairwise (fun p q => p.1 ≤ q.1) → Q (.lst (out.map (·.2))) S1
section
variable {X : Cx} {T : Tb} {e : Expr}
/-- the frame's map is kept, all else too; a new thing at L2 is tracked -/
theorem inv_fr {pins : List (Addr × Obj)} {σ : L2.St} {H : Hp} {s : Shared} {h' : Heap} {tk : Nat} {m : Str → Option Value} {B : Addr} {o : HO} (I : Inv X pins σ H s) (F : s.heap.Ns X.env.locals m) (F' : h'.Ns X.env.locals m)
    (keep : ∀ b o, b ≠ X.env.locals → s.heap.get? b = some o → h'.get? b = some o) (hB : s.heap.get? B = none) (new : ObjOk X.prog X.w (upd H B o) h' B o) : Inv X pins σ (upd H B o) { s with heap := h', toks := tk } := by
  have hn : H B = none := I.hok.gone hB
  have nb : ∀ b u, s.heap.get? b = some u → b ≠ B := fun b u e z => by rw [z, hB] at e; cases e
  have nl : ∀ b u, H b = some u → b ≠ X.env.locals := fun b u e z => by rw [z, I.free] at e; cases e
  refine I.step (g' := s.gens) (d' := s.drawn) (ch := []) (fun _ z => nomatch z) (fun b u h1 _ _ e _ => keep b u h1 e) (fun b u h1 _ _ e _ => ⟨u.slots, keep b u h1 e⟩) (fun b u _ e n => by rw [upd_ne (nb b u e)]; exact n) (fun b u _ e => ?_)
    (fun b xs e => by rw [upd_ne (ne_of_none e hn)]; exact e) (fun b u xs e => by rw [upd_ne (ne_of_none e hn)]; exact e) (fun b ps e => ⟨#[], by rw [upd_ne (ne_of_none e hn), e]; simp⟩) (fun m' hm => ?_) (fun a u e => ?_) I.bare
  · by_cases z : b = X.env.locals
    · obtain ⟨oL, _, _, hL, _⟩ := F'
      exact ⟨oL, by rw [z]; exact hL⟩
    · exact ⟨u, keep b u z e⟩
  · rw [SlX.ns_only hm F]
    exact F'
  · by_cases hb : a = B
    · subst hb; rw [upd_same] at e; cases e; exact new
    · rw [upd_ne hb] at e
      refine (I.hok a u e).stay (fun c v hc q => keep c v ?_ q) (fun c q => by rw [upd_ne (ne_of_none q hn)]; exact q) fun c xs q => by rw [upd_ne (ne_of_none q hn)]; exact q
      rcases hc with z | z
      · rw [z]; exact nl a u e
      · exact nl c _ z
theorem x_sortKey {A : DE} {params : Arguments} {body : Expr} {scope : Scope} {y : Str} {c P : Addr} {p pos lpos kpos : Pos} (ha : XA X T [e] (dCons A dNil)) (L : LamK params body scope y) (hg : Gl X "sorted") (hm : X.mg "sorted" = none)
    (TB : TabB X.base X.mg c P) (hcode : X.env.code = .ref c) (hT : (P, X.env.qual ++ "<lambda>") ∈ T) (hu : ∀ p ∈ T, p.1 = P → p.2 = X.env.qual ++ "<lambda>") (hdef : defaultsOf params X.env = ([], [])) (hd : X.A.depth + 1 < recursionLimit)
    (he : backTo pos (starEach [e] X.env) = (false, eval e X.env) :: backTo pos (starEach [] X.env) := by rfl) (hpl : (backTo pos (starEach [e] X.env)).any (·.1) = false := by rfl)
    (hall : (backToKw pos (keywordEach [⟨some "key", .Lambda params body scope lpos, kpos⟩] X.env)).all (·.1.isSome) = true := by rfl) (hnone : (backToKw pos (keywordEach [⟨some "key", .Lambda params body scope lpos, kpos⟩] X.env)).any (·.1.isNone) = false := by rfl)
    (hks : (backToKw pos (keywordEach [⟨some "key", .Lambda params body scope lpos, kpos⟩] X.env)).filterMap (·.1) = (["key"] : List Str) := by rfl)
    (hkw : (backToKw pos (keywordEach [⟨some "key", .Lambda params body scope lpos, kpos⟩] X.env)).map (·.2) = [do let v ← eval (.Lambda params body scope lpos) X.env; standAt pos; pure v] := by rfl) :
    XE X T (.Call (.Name "sorted" p) [e] [⟨some "key", .Lambda params body scope lpos, kpos⟩] pos) (dSortKey A) := by
  refine ⟨fun pins s σ H Q I h => ?_⟩
  obtain ⟨Z, τ, S, R, sl, ok, h, k⟩ := h
  refine wpAny_Call_Name_kw (ld_blt I hg hm boot_sorted ?_)
  have hA := ha.run pos pins s σ H (fun vs H1 => ∃ v d S1, vs = [v] ∧ Ext H S H1 S1 ∧ Rep X.K Z H1 S1 v d ∧ StOk X.K T Z H1 S1 ∧ ∃ kds : List (Int × D), deref S1 d = .lst (kds.map (·.2)) ∧ (∀ p ∈ kds, Keyed0 p) ∧
    ∀ out : List (Int × D), out.Perm kds → out.Pairwise (fun p q => p.1 ≤ q.1) → R (.lst (out.map (·.2))) S1) I ⟨Z, τ, S, fun ds S1 => ∃ d, ds = [d] ∧ ∃ kds : List (Int × D), deref S1 d = .lst (kds.map (·.2)) ∧ (∀ p ∈ kds, Keyed0 p) ∧
    ∀ out : List (Int × D), out.Perm kds → out.Pairwise (fun p q => p.1 ≤ q.1) → R (.lst (out.map (·.2))) S1, sl, ok, ?_, fun vs H' ds S' x r ok' q => ?_⟩
  rotate_left
  · show A τ S _
    exact ha_mono h
  · obtain ⟨d, e, q⟩ := q
    subst e
    cases r with
    | cons r1 r2 =>
      cases r2
      exact ⟨_, d, S', rfl, x, r1, ok', q⟩
  refine PyProof.Rows.callWith_kw (thn hA fun us s1 ⟨vs, H1, I1, r1, v, d, S1, ev, x1, rd, ok1, kds, ed, hk, hq⟩ => ?_) he hpl hall hnone
  rw [hks, hkw]
  subst ev
  obtain ⟨u, eu, ru⟩ := Vals.one r1
  subst eu
  obtain ⟨ps0, hP0, _⟩ := ok1.tabs _ hT
  refine wpAny_evalAll_cons (wpAny_bind ?_)
  refine lam_make2 I1 TB hcode hT hu ok1.tabs hdef (fun z hz ez => by rw [L.names] at hz; rw [List.mem_singleton.mp hz] at ez; cases ez) fun f c' pm ctv H2 s2 I2 xn t2 hf hfn hfr hc => ?_
  refine wpAny_bind (wpAny_standAt (wpAny_pure (wpAny_evalAll_nil ?_)))
  -- the list
  obtain ⟨l, xs, ev, hl, rr⟩ := lst_at ok1 rd ed
  subst ev
  obtain rfl : u = Value.ref l := ru
  have x2 : Ext H1 S1 H2 S1 := ⟨fun a o n e nt => ⟨n, xn a o e nt⟩⟩
  have hl2 : SqL X.K H2 l xs := by
    rcases hl with (hl | ⟨o, hl⟩) | hl
    · exact .inl (.inl (xn _ _ hl fun ps z => (by cases z)))
    · exact .inl (.inr ⟨o, xn _ _ hl fun ps z => (by cases z)⟩)
    · exact .inr hl
  have rr2 : Reps X.K Z H2 S1 xs (kds.map (·.2)) := rr.ext x2
  have ok2 : StOk X.K T Z H2 S1 := by
    refine ⟨t2, fun z hz => ⟨(ok1.rsv z hz).1, (ok1.rsv z hz).2.imp fun vs e => xn _ _ e fun ps q => (by cases q)⟩, fun a o e => ?_⟩
    obtain ⟨u, hu, nt⟩ := ok1.get e
    exact (ok1.obj a o e).other (p := a) (u := u) x2 ((xn a u hu nt).trans hu.symm)
  obtain ⟨its, rv, hpl, hz⟩ := I2.list hl2
  obtain ⟨m, F⟩ := I2.fr
  have hnames : cloFrom X.env.cells scope.names [] = [] := by rw [L.names]; rfl
  rw [hnames] at hf
  have hfL : f ≠ X.env.locals := fun z => by
    obtain ⟨oL, es, ep, hL, hdL, _⟩ := F.ns
    rw [z, hL] at hf
    have q := congrArg Obj.data (Option.some.inj hf)
    rw [hdL] at q
    cases q
  have hrec : s2.heap.CodeRec (.ref c') (X.env.qual ++ "<lambda>") := by
    obtain ⟨⟨oc, vs, t, h1, h2, h3⟩, _, _⟩ := I2.hok c' _ hc
    exact ⟨c', oc, vs, t, rfl, h1, h2, h3⟩
  have hcL : c' ≠ X.env.locals := fun z => by rw [z, I2.free] at hc; cases hc
  have kept : ∀ {h : Heap} {own : List (Addr × Obj)}, Fr X.base X.env.locals h m → News X.base X.env.locals h (allNews X.base s2.heap X.env.locals ++ own) → ∀ b o, b ≠ X.env.locals → s2.heap.get? b = some o → h.get? b = some o := by
    intro h own F1 N1 b o hb e
    cases q : X.base.get? b with
    | some u =>
      have e2 := I2.bk b u q
      rw [e] at e2
      cases e2
      exact F1.keep b o q
    | none => exact (N1 (b, o) (List.mem_append_left _ (mem_allNews hb q e))).1
  have xl : its.length = (kds.map (·.1)).length := by
    have h1 := rv.length
    have h2 := rr2.length
    simp at h2 ⊢
    omega
  refine ksk_sortedSt (kz := kds.map (·.1)) (b := false) (f := .ref f) (news := allNews X.base s2.heap X.env.locals) F news_all hpl.isList xl.symm (by rw [← rv.length]; exact hz) (ksk_s1 _ _) (fun _ => ksk_l1 _ _) (fun x => ksk_t1 f x) ?_ ?_
  · intro i v kk hv hkk h tk own F1 N1
    have kp := kept F1 N1
    obtain ⟨p, hp, ep⟩ : ∃ p, kds[i]? = some p ∧ p.1 = kk := by
      rw [List.getElem?_map] at hkk
      cases e : kds[i]? with
      | none => rw [e] at hkk; cases hkk
      | some p => rw [e] at hkk; exact ⟨p, rfl, Option.some.inj hkk⟩
    obtain ⟨ds, ed⟩ := hk p (List.mem_of_getElem? hp)
    obtain ⟨x, hx, rx⟩ := rr2.get (i := i) (d := p.2) (by rw [List.getElem?_map, hp]; rfl)
    rw [ed] at rx
    obtain ⟨t, ws, ex, ht, rw'⟩ := rx.tupW
    subst ex
    obtain ⟨u', hu', ru'⟩ := rv.get hx
    rw [hv] at hu'
    have hu' := Option.some.inj hu'
    subst hu'
    obtain rfl : v = Value.ref t := ru'
    cases rw' with
    | cons r0 rw' =>
      have e0 := r0.int'
      subst e0
      obtain ⟨itt, rt, pt, _⟩ := I2.tuple ht
      cases rt with
      | cons r1 rt =>
        obtain ⟨tok, rfl⟩ := r1
        have tL : t ≠ X.env.locals := fun z => by
          obtain ⟨oL, es, ep2, hL, hdL, _⟩ := F.ns
          obtain ⟨ot, hot, _, n, hdt⟩ := pt
          rw [z, hL] at hot
          cases hot
          rw [hdL] at hdt
          cases hdt
        have pt1 : IsTup h t _ := let ⟨ot, hot, q⟩ := pt; ⟨ot, kp t ot tL hot, q⟩
        refine key_call (s := { s2 with heap := h, toks := tk }) L (items := _) (n := p.1) (tok := tok) ?_ (kp f _ hfL hf) ?_ (I2.ok.mod.nolimit.keeps F1.keep) pt1 (by simp) fun h' tk' k' => ?_
        · show X.A.in1.in1.depth < recursionLimit
          show X.A.depth < recursionLimit
          omega
        · obtain ⟨c2, oc, vs, tq, e1, e2, e3, e4⟩ := hrec
          cases e1
          exact ⟨c', oc, vs, tq, rfl, kp c' oc hcL e2, e3, e4⟩
        · rw [ep]
          refine KskEnd.intro (h₀ := X.base) (news' := allNews X.base s2.heap X.env.locals ++ own) ⟨?_, fun b o e => k' b o (F1.keep b o e), F1.above⟩ (fun q hq => ⟨k' _ _ (N1 q hq).1, (N1 q hq).2⟩) fun q hq => hq
          obtain ⟨oL, es, ep2, hL, r⟩ := F1.ns
          exact ⟨oL, es, ep2, k' _ _ hL, r⟩
  · intro B h' tk out c F' N' lt ko
    have hB : s2.heap.get? B = none := by
      cases ho : s2.heap.get? B with
      | none => rfl
      | some o =>
        have nB := (N' _ List.mem_cons_self).2
        exact absurd (lt _ (mem_allNews nB.1 nB.2 ho)) (Nat.lt_irrefl _)
    obtain ⟨ps, pp, eo, pw, _⟩ := ko
    obtain ⟨kds', pk, pr⟩ := perm_along pp (vals_rep rv rr2)
    obtain ⟨xs', v1, r1, e1⟩ := rep_vals pr
    have hB2 : H2 B = none := I2.hok.gone hB
    have keep2 : ∀ b o, b ≠ X.env.locals → s2.heap.get? b = some o → h'.get? b = some o := by
      intro b o hb e
      cases q : X.base.get? b with
      | some u =>
        have e2 := I2.bk b u q
        rw [e] at e2
        cases e2
        exact F'.keep b o q
      | none => exact (N' (b, o) (List.mem_cons_of_mem _ (mem_allNews hb q e))).1
    have len' : xs'.length ≤ sizeLine := by
      have q1 := r1.length
      have q2 := pk.length_eq
      have q3 := rr2.length
      simp at q1 q3
      omega
    have I3 := inv_fr (tk := tk) (B := B) (o := .lst xs') I2 F.ns F'.ns keep2 hB ⟨len', out.toList, c, by rw [eo]; exact v1, by
      have q := (N' _ List.mem_cons_self).1
      simpa [seqObj] using q⟩
    refine ⟨.ref B, _, I3, rfl, ?_⟩
    have nz := ok2.nz hB2
    exact k _ _ (.lst (kds'.map (·.2))) S1 ((x1.trans x2).trans (.new hB2)) (.newLst r1 hB2 (ok2.fresh hB2) nz) (ok2.new hB2) (hq kds' pk (by
      have q : (ps.map (·.1)).Pairwise (· ≤ ·) := List.pairwise_map.mpr (by simpa using pw)
      rw [e1] at q
      exact List.pairwise_map.mp q))
where
  ha_mono {A : DE} {τ : DSt} {S : Store} {R : DK} (h : dSortKey A τ S R) : A τ S fun d S1 => ∃ d', [d] = [d'] ∧ ∃ kds : List (Int × D), deref S1 d' = .lst (kds.map (·.2)) ∧ (∀ p ∈ kds, Keyed0 p) ∧
    ∀ out : List (Int × D), out.Perm kds → out.Pairwise (fun p q => p.1 ≤ q.1) → R (.lst (out.map (·.2))) S1 := by
    have e : (fun d S1 => ∃ d', [d] = [d'] ∧ ∃ kds : List (Int × D), deref S1 d' = .lst (kds.map (·.2)) ∧ (∀ p ∈ kds, Keyed0 p) ∧ ∀ out : List (Int × D), out.Perm kds → out.Pairwise (fun p q => p.1 ≤ q.1) → R (.lst (out.map (·.2))) S1) =
      fun d S1 => ∃ kds : List (Int × D), deref S1 d = .lst (kds.map (·.2)) ∧ (∀ p ∈ kds, Keyed0 p) ∧ ∀ out : List (Int × D), out.Perm kds → out.Pairwise (fun p q => p.1 ≤ q.1) → R (.lst (out.map (·.2))) S1 := by
      funext d S1
      apply propext
      constructor
      · rintro ⟨d', e, q⟩
        cases e
        exact q
      · exact fun q => ⟨d, rfl, q⟩
    rw [e]
    exact h
end
end Dl

set_option Elab.async false
set_option linter.all false
set_option maxRecDepth 100000
set_option maxHeartbeats 2000000
namespace Dl
open PySem PySem.Spec PyProof.Rows L2 LamX
section
variable {X : Cx} {K : PySem.W.Frag} {T : Tb} {a b c e : Expr} {es : List Expr} {pos p2 : Pos}

/-! ### a < b < c < d -/
def dChain3 (R R' R'' : DR2) (A B C E : DE) : DE := fun τ S Q => A τ S fun x S1 => B τ S1 fun y S2 => R x y S2 fun z S3 => match z with
  | .bl k => if k = true then (C τ S3 fun w S4 => R' y w S4 fun z2 S5 => match z2 with
      | .bl k2 => if k2 = true then (E τ S5 fun v S6 => R'' w v S6 Q) else Q (.bl false) S5
      | _ => False) else Q (.bl false) S3
  | _ => False
/-- an expression's end, told over the data -/
def GP (X : Cx) (T : Tb) (pins : List (Addr × Obj)) (σ : L2.St) (Z : List Addr) (H : Hp) (S : Store) (R : DK) (u : Value) (s' : Shared) : Prop :=
  ∃ v H' d S', Inv X pins σ H' s' ∧ RelV v u ∧ Ext H S H' S' ∧ Rep X.K Z H' S' v d ∧ StOk X.K T Z H' S' ∧ R d S'
theorem XE.go {A : DE} (h : XE X T e A) {pins : List (Addr × Obj)} {s : Shared} {σ : L2.St} {H : Hp} {Z : List Addr} {τ : DSt} {S : Store} {R : DK} (I : Inv X pins σ H s) (sl : Slots X.K Z H S σ τ) (ok : StOk X.K T Z H S) (q : A τ S R) :
    wpAny (model X.prog X.w) X.A (eval e X.env) (GP X T pins σ Z H S R) X.xe s :=
  thn (h.run pins s σ H (fun v H' => ∃ d S', Ext H S H' S' ∧ Rep X.K Z H' S' v d ∧ StOk X.K T Z H' S' ∧ R d S') I ⟨Z, τ, S, R, sl, ok, q, fun v H' d S' a b c d' => ⟨d, S', a, b, c, d'⟩⟩) fun u s' ⟨v, H', I', r, d, S', a, b, c, e⟩ => ⟨v, H', d, S', I', r, a, b, c, e⟩
theorem Op2.go {f : Value → Value → Sem Value} {r : R2} {R : DR2} (ho : OpR X f r) (hr : Op2 X.K T r R) {pins : List (Addr × Obj)} {s : Shared} {σ : L2.St} {H : Hp} {Z : List Addr} {S : Store} {G : DK} {vx vy : V} {x y : D} {u w : Value} (I : Inv X pins σ H s) (ok : StOk X.K T Z H S)
    (r1 : RelV vx u) (r2 : RelV vy w) (rx : Rep X.K Z H S vx x) (ry : Rep X.K Z H S vy y) (q : R x y S G) : wpAny (model X.prog X.w) X.A (f u w) (GP X T pins σ Z H S G) X.xe s :=
  thn (ho pins s σ H vx vy u w (fun v H' => ∃ d S', Ext H S H' S' ∧ Rep X.K Z H' S' v d ∧ StOk X.K T Z H' S' ∧ G d S') I r1 r2 (hr Z H S vx vy x y G _ ok rx ry q fun v H' d S' a b c d' => ⟨d, S', a, b, c, d'⟩)) fun u s' ⟨v, H', I', r, d, S', a, b, c, e⟩ => ⟨v, H', d, S', I', r, a, b, c, e⟩
theorem GP.bool {pins : List (Addr × Obj)} {σ : L2.St} {Z : List Addr} {H : Hp} {S : Store} {F : Bool → Store → Prop} {u : Value} {s' : Shared} (g : GP X T pins σ Z H S (fun d S' => match d with | .bl b => F b S' | _ => False) u s') :
    ∃ b H' S', u = .bool b ∧ Inv X pins σ H' s' ∧ Ext H S H' S' ∧ StOk X.K T Z H' S' ∧ F b S' := by
  obtain ⟨v, H', d, S', I', r, x, rd, ok', q⟩ := g
  cases d with
  | bl b =>
    have e := rd.bool
    subst e
    cases r
    exact ⟨b, H', S', rfl, I', x, ok', q⟩
  | _ => exact q.elim
theorem t_chain3 {d : Expr} {op op' op'' : CmpOp} {r r' r'' : R2} {R R' R'' : DR2} {A B C E : DE} (ho : OpR X (compareOp op) r) (hr : Op2 X.K T r R) (ho' : OpR X (compareOp op') r') (hr' : Op2 X.K T r' R') (ho'' : OpR X (compareOp op'') r'') (hr'' : Op2 X.K T r'' R'')
    (ha : XE X T a A) (hb : XE X T b B) (hc : XE X T c C) (hd : XE X T d E) (hm : lastMarks [op, op', op''] [b, c, d] = false := by with_unfolding_all rfl) : XT X T (.Compare a [op, op', op''] [b, c, d] pos) (dTest (dChain3 R R' R'' A B C E)) := by
  refine ⟨fun pins s σ H Q I ⟨Z, τ, S, G, sl, ok, h, k⟩ => ?_⟩
  refine isTrue_chain (thn (ha.go I sl ok h) fun v s1 ⟨vx, H1, x, S1, I1, r1, x1, rx, ok1, h1⟩ => ?_) hm
  refine test_link (thn (hb.go I1 (sl.ext x1) ok1 h1) fun u s2 ⟨vy, H2, y, S2, I2, r2, x2, ry, ok2, h2⟩ => ?_)
  refine thn (Op2.go ho hr I2 ok2 r1 r2 (rx.ext x2) ry h2) fun cv s3 g3 => ?_
  obtain ⟨k1, H3, S3, rfl, I3, x3, ok3, h3⟩ := g3.bool
  refine wpAny_truthy_bool ?_
  have x13 := x1.trans (x2.trans x3)
  cases k1 with
  | false => exact ⟨H3, I3, k false H3 S3 x13 ok3 h3⟩
  | true =>
    show wpAny _ _ (testChain _ _ _ _) _ _ _
    refine test_link (thn (hc.go I3 (sl.ext x13) ok3 h3) fun u2 s4 ⟨vw, H4, w, S4, I4, r4, x4, rw', ok4, h4⟩ => ?_)
    refine thn (Op2.go ho' hr' I4 ok4 r2 r4 (ry.ext (x3.trans x4)) rw' h4) fun cv s5 g5 => ?_
    obtain ⟨k2, H5, S5, rfl, I5, x5, ok5, h5⟩ := g5.bool
    refine wpAny_truthy_bool ?_
    have x15 := x13.trans (x4.trans x5)
    cases k2 with
    | false => exact ⟨H5, I5, k false H5 S5 x15 ok5 h5⟩
    | true =>
      show wpAny _ _ (testChain _ _ _ _) _ _ _
      refine test_last (thn (hd.go I5 (sl.ext x15) ok5 h5) fun u3 s6 ⟨vv, H6, v6, S6, I6, r6, x6, r6', ok6, h6⟩ => ?_)
      refine thn (Op2.go ho'' hr'' I6 ok6 r4 r6 (rw'.ext (x5.trans x6)) r6' h6) fun cv s7 g7 => ?_
      obtain ⟨k3, H7, S7, rfl, I7, x7, ok7, h7⟩ := g7.bool
      exact wpAny_truthy_bool ⟨H7, I7, k k3 H7 S7 (x15.trans (x6.trans x7)) ok7 h7⟩
/-! ### calls of built-ins -/
abbrev DRL := List D → Store → DK → Prop
def CallD (K : PySem.W.Frag) (T : Tb) (r : List V → Hp → VK → Prop) (R : DRL) : Prop := ∀ (Z : List Addr) (H : Hp) (S : Store) (vs : List V) (ds : List D) (Qd : DK) (Q : VK), StOk K T Z H S → Reps K Z H S vs ds → R ds S Qd →
  (∀ v H' d S', Ext H S H' S' → Rep K Z H' S' v d → StOk K T Z H' S' → Qd d S' → Q v H') → r vs H Q
def dCB (R : DRL) (A : DA) : DE := fun τ S Q => A τ S fun ds S1 => R ds S1 Q
theorem lf_cb {r : List V → Hp → VK → Prop} {R : DRL} {A : DA} (hr : CallD K T r R) (σ : L2.St) (H : Hp) (Q : VK) (h : lf K T (dCB R A) σ H Q) : tCB r (lfA K T A) σ H Q := by
  obtain ⟨Z, τ, S, G, sl, ok, h, k⟩ := h
  exact ⟨Z, τ, S, _, sl, ok, h, fun vs H1 ds S1 x1 r1 ok1 h1 => hr Z H1 S1 vs ds G Q ok1 r1 h1 fun v H' d S' x => k v H' d S' (x1.trans x)⟩
theorem x_callB {x : Str} {p : Pos} {id : String} {r : List V → Hp → VK → Prop} {R : DRL} {A : DA} (hc : CallR X (.builtin id) r) (hr : CallD X.K T r R) (hg : Gl X x) (hm : X.mg x = none) (hv : bootBuiltins x = some (.builtin id)) (ha : XA X T (e :: es) A) (hn : x ≠ "__name__" := by decide)
    (hdb : (x == ("__debug__" : Str)) = false := by decide) (he : starEach (e :: es) X.env = (false, eval e X.env) :: starEach es X.env := by rfl) (hpl : (backTo pos (starEach es X.env)).any (·.1) = false := by rfl) :
    XE X T (.Call (.Name x p) (e :: es) [] pos) (dCB R A) := (pe_callB hc hg hm hv ha hn hdb he hpl).imp fun σ H Q h => lf_cb hr σ H Q h
theorem x_callTy {x : Str} {p : Pos} {id : String} {r : List V → Hp → VK → Prop} {R : DRL} {A : DA} (hc : CallR X (.type id) r) (hr : CallD X.K T r R) (hg : Gl X x) (hm : X.mg x = none) (hv : bootBuiltins x = some (.type id)) (ha : XA X T (e :: es) A) (hn : x ≠ "__name__" := by decide)
    (hdb : (x == ("__debug__" : Str)) = false := by decide) (he : starEach (e :: es) X.env = (false, eval e X.env) :: starEach es X.env := by rfl) (hpl : (backTo pos (starEach es X.env)).any (·.1) = false := by rfl) :
    XE X T (.Call (.Name x p) (e :: es) [] pos) (dCB R A) := (pe_callTy hc hg hm hv ha hn hdb he hpl).imp fun σ H Q h => lf_cb hr σ H Q h
/-- len -/
def rLenD : DRL := fun ds S Q => match ds with
  | [.str z] => z.length ≤ sizeLine ∧ Q (.int z.length) S
  | [d] => match items S d with
    | some es => Q (.int es.length) S
    | none => False
  | _ => False
theorem d_len : CallD K T (fun xs H Q => ∃ x n, xs = [x] ∧ LenV K x H n ∧ Q (.int n) H) rLenD := by
  intro Z H S vs ds Qd Q ok rs h k
  unfold rLenD at h
  split at h
  · cases rs with
    | cons r t =>
      cases t
      exact ⟨_, _, rfl, by rw [r.str']; exact ⟨h.1, rfl⟩, k _ H _ S (.refl _ _) (.int _) ok h.2⟩
  · split at h
    · rename_i es' e
      cases rs with
      | cons r t =>
        cases t
        obtain ⟨p, ws, rfl, hs, rr⟩ := items_at ok r e
        refine ⟨_, es'.length, rfl, ?_, k _ H _ S (.refl _ _) (.int _) ok h⟩
        rcases hs with hs | hs
        · exact .inl ⟨ws, hs, rr.length.symm⟩
        · exact .inr ⟨ws, hs, rr.length.symm⟩
    · exact h.elim
  · exact h.elim
/-- int of an int, of a bool -/
def rIntD : DRL := fun ds S Q => match ds with
  | [.int i] => Q (.int i) S
  | [.bl b] => Q (.int (if b then 1 else 0)) S
  | _ => False
theorem d_int : CallD K T (fun xs H Q => (∃ i, xs = [.int i] ∧ Q (.int i) H) ∨ ∃ k, xs = [.bl k] ∧ Q (.int (if k then 1 else 0)) H) rIntD := by
  intro Z H S vs ds Qd Q ok rs h k
  unfold rIntD at h
  split at h
  · cases rs with
    | cons r t => cases t; exact .inl ⟨_, by rw [r.int'], k _ H _ S (.refl _ _) (.int _) ok h⟩
  · cases rs with
    | cons r t => cases t; exact .inr ⟨_, by rw [r.bool], k _ H _ S (.refl _ _) (.int _) ok h⟩
  · exact h.elim
/-- abs -/
def rAbsD : DRL := fun ds S Q => match ds with
  | [.int i] => Q (.int (if i < 0 then -i else i)) S
  | _ => False
theorem d_abs : CallD K T (fun xs H Q => ∃ i, xs = [.int i] ∧ Q (.int (if i < 0 then -i else i)) H) rAbsD := by
  intro Z H S vs ds Qd Q ok rs h k
  unfold rAbsD at h
  split at h
  · cases rs with
    | cons r t => cases t; exact ⟨_, by rw [r.int'], k _ H _ S (.refl _ _) (.int _) ok h⟩
  · exact h.elim
/-- max, min of two ints -/
def rM2D (f : Int → Int → Int) : DRL := fun ds S Q => match ds with
  | [.int i, .int j] => Q (.int (f i j)) S
  | _ => False
theorem d_m2 {f : Int → Int → Int} : CallD K T (fun xs H Q => ∃ i j, xs = [.int i, .int j] ∧ Q (.int (f i j)) H) (rM2D f) := by
  intro Z H S vs ds Qd Q ok rs h k
  unfold rM2D at h
  split at h
  · cases rs with
    | cons r t =>
      cases t with
      | cons r' t' => cases t'; exact ⟨_, _, by rw [r.int', r'.int'], k _ H _ S (.refl _ _) (.int _) ok h⟩
  · exact h.elim
/-- tuple(list) -/
def rTupD : DRL := fun ds S Q => match ds with
  | [d] => match deref S d with
    | .lst es => Q (.tup es) S
    | .tup es => Q (.tup es) S
    | _ => False
  | _ => False
theorem deref_tup {S : Store} {d : D} {es : List D} (e : deref S d = .tup es) : d = .tup es := by
  rcases deref_cases S d with q | ⟨a, ds, _, _, q⟩
  · rw [q] at e; exact e
  · rw [q] at e; cases e
theorem d_tup : CallD K T (fun xs H Q => ∃ p ys, xs = [.ref p] ∧ ((SqL K H p ys ∧ ∀ l, H l = none → Q (.ref l) (upd H l (.tup ys))) ∨ (SqT K H p ys ∧ Q (.ref p) H))) rTupD := by
  intro Z H S vs ds Qd Q ok rs h k
  unfold rTupD at h
  split at h
  · cases rs with
    | cons r t =>
      cases t
      split at h
      · rename_i es' e
        obtain ⟨p, ws, rfl, hs, rr⟩ := lst_at ok r e
        exact ⟨p, ws, rfl, .inl ⟨hs, fun l hl => k _ _ _ S (.new hl) (.newTup rr hl (ok.fresh hl)) (ok.new hl) h⟩⟩
      · rename_i es' e
        have ed := deref_tup e
        subst ed
        cases r with
        | tup ht rr => exact ⟨_, _, rfl, .inr ⟨ht.sq, k _ H _ S (.refl _ _) (.tup ht rr) ok h⟩⟩
      · exact h.elim
  · exact h.elim
/-- tuple(list), whose object is known -/
theorem call_tupleP : CallR X (.type "tuple") (fun xs H Q => ∃ p ys, xs = [.ref p] ∧ SqL X.K H p ys ∧ ∀ l (o : Obj), H l = none → o.dict = none → Q (.ref l) (upd H l (.frz o (.tup ys)))) := by
  intro pins s σ H xs us Q I r h
  obtain ⟨p, ys, rfl, hq, q⟩ := h
  obtain ⟨u, rfl, rx⟩ := vals1 r
  cases rx
  obtain ⟨its, r', pl, hz⟩ := I.list hq
  have hlen := r'.length
  refine call_tuple_list pl.isList (fun h' kp => ?_) (by rw [List.size_toArray]; omega)
  have I1 : Inv X pins σ H { s with heap := h' } := I.kept (t' := s.toks) kp
  have ob : (h'.push { cls := .type "tuple", data := .seq its.toArray }).get? h'.objs.size = some { cls := .type "tuple", data := .seq its.toArray } := Heap.get?_push_size _ rfl
  exact ⟨.ref h'.objs.size, _, I1.laid (a := h'.objs.size) (o := .frz { cls := .type "tuple", data := .seq its.toArray } (.tup ys)) (t' := s.toks) (fun b o e => Heap.get?_push_of_some _ e) (Nat.le_refl _) ⟨ob, hz, its, r', IsTup.new _ _⟩, rfl, q _ _ (I1.hok.fresh (Nat.le_refl _)) rfl⟩
def rTupPD : DRL := fun ds S Q => match ds with
  | [d] => match deref S d with
    | .lst es => Q (.ptp es) S
    | _ => False
  | _ => False
theorem Rep.newPtp {Z : List Addr} {H : Hp} {S : Store} {vs : List V} {ds : List D} (r : Reps K Z H S vs ds) {p : Addr} {o : Obj} (hp : H p = none) (hs : S p = none) (ho : o.dict = none) : Rep K Z (upd H p (.frz o (.tup vs))) S (.ref p) (.ptp ds) :=
  .ptp (.inl ⟨o, upd_same, ho, hs⟩) (r.ext (.new hp))
theorem d_tupP : CallD K T (fun xs H Q => ∃ p ys, xs = [.ref p] ∧ SqL K H p ys ∧ ∀ l (o : Obj), H l = none → o.dict = none → Q (.ref l) (upd H l (.frz o (.tup ys)))) rTupPD := by
  intro Z H S vs ds Qd Q ok rs h k
  unfold rTupPD at h
  split at h
  · cases rs with
    | cons r t =>
      cases t
      split at h
      · rename_i es' e
        obtain ⟨p, ws, rfl, hs, rr⟩ := lst_at ok r e
        exact ⟨p, ws, rfl, hs, fun l o hl ho => k _ _ _ S (.new hl) (.newPtp rr hl (ok.fresh hl) ho) (ok.new hl) h⟩
      · exact h.elim
  · exact h.elim
/-- (), whose object is known -/
theorem x_tupP0 {k} : XE X T (.Tuple [] k pos) (dC (.ptp [])) := by
  refine ⟨fun pins s σ H Q I ⟨Z, τ, S, R, sl, ok, h, k⟩ => ?_⟩
  refine wpAny_Tuple_spliced (thn (pa_nil.run pos pins s σ H (fun vs H1 => vs = [] ∧ H1 = H) I ⟨rfl, rfl⟩) fun us s1 ⟨xs, H1, I1, r, e1, e2⟩ => ?_)
  subst e1; subst e2
  cases r
  refine ⟨by rw [sizeLine_eq]; decide, ?_⟩
  have hf : H1 s1.heap.objs.size = none := I1.hok.fresh (Nat.le_refl _)
  have ob : (s1.heap.push { cls := .type "tuple", data := .seq ([] : List Value).toArray }).get? s1.heap.objs.size = some { cls := .type "tuple", data := .seq ([] : List Value).toArray } := Heap.get?_push_size _ rfl
  have hz : ([] : List V).length ≤ sizeLine := by rw [sizeLine_eq]; decide
  exact ⟨.ref s1.heap.objs.size, _, I1.laid (a := s1.heap.objs.size) (o := .frz { cls := .type "tuple", data := .seq ([] : List Value).toArray } (.tup [])) (t' := s1.toks) (fun b u e => Heap.get?_push_of_some _ e) (Nat.le_refl _) ⟨ob, hz, [], .nil, ⟨_, ob, rfl, _, rfl⟩⟩, rfl,
    k _ _ _ S (.new hf) (.newPtp .nil hf (ok.fresh hf) rfl) (ok.new hf) h⟩
/-- list(x) -/
def rListD : DRL := fun ds S Q => match ds with
  | [d] => match items S d with
    | some es => Q (.lst es) S
    | none => False
  | _ => False
def rListRD : DRL := fun ds S Q => match ds with
  | [d] => match items S d with
    | some es => ∀ p, S p = none → Q (.ref p) (ups S p (.lst es))
    | none => False
  | _ => False
abbrev rListV (K : PySem.W.Frag) : List V → Hp → VK → Prop := fun xs H Q => ∃ p ys, xs = [.ref p] ∧ (SqL K H p ys ∨ SqT K H p ys) ∧ ∀ l, H l = none → Q (.ref l) (upd H l (.lst ys))
theorem d_list : CallD K T (rListV K) rListD := by
  intro Z H S vs ds Qd Q ok rs h k
  unfold rListD at h
  split at h
  · split at h
    · rename_i es' e
      cases rs with
      | cons r t =>
        cases t
        obtain ⟨p, ws, rfl, hs, rr⟩ := items_at ok r e
        exact ⟨p, ws, rfl, hs, fun l hl => k _ _ _ S (.new hl) (.newLst rr hl (ok.fresh hl) (ok.nz hl)) (ok.new hl) h⟩
    · exact h.elim
  · exact h.elim
theorem d_listR : CallD K T (rListV K) rListRD := by
  intro Z H S vs ds Qd Q ok rs h k
  unfold rListRD at h
  split at h
  · split at h
    · rename_i es' e
      cases rs with
      | cons r t =>
        cases t
        obtain ⟨p, ws, rfl, hs, rr⟩ := items_at ok r e
        exact ⟨p, ws, rfl, hs, fun l hl => k _ _ _ _ (.newS hl) (.ref l) (ok.newS hl (.newLst rr hl)) (h l (ok.fresh hl))⟩
    · exact h.elim
  · exact h.elim
/-- all of bools -/
def blsOf : List D → Option (List Bool)
  | [] => some []
  | .bl b :: ds => (blsOf ds).map (b :: ·)
  | _ :: _ => none
theorem Reps.bls {Z : List Addr} {H : Hp} {S : Store} : ∀ {vs : List V} {ds : List D} {bs : List Bool}, Reps K Z H S vs ds → blsOf ds = some bs → vs = bs.map V.bl
  | _, _, _, .nil, e => by cases e; rfl
  | _, _, _, .cons (d := d) (ds := ds) r t, e => by
    cases d with
    | bl b =>
      unfold blsOf at e
      cases q : blsOf ds with
      | none => rw [q] at e; cases e
      | some cs =>
        rw [q] at e
        cases e
        rw [List.map_cons, ← r.bool, ← Reps.bls t q]
    | _ => cases e
def rAllD : DRL := fun ds S Q => match ds with
  | [d] => match deref S d with
    | .lst es => match blsOf es with
      | some bs => Q (.bl (bs.all id)) S
      | none => False
    | _ => False
  | _ => False
theorem d_all : CallD K T (rAll K) rAllD := by
  intro Z H S vs ds Qd Q ok rs h k
  unfold rAllD at h
  split at h
  · split at h
    · rename_i es' e
      split at h
      · rename_i bs eb
        cases rs with
        | cons r t =>
          cases t
          obtain ⟨p, ws, rfl, hs, rr⟩ := lst_at ok r e
          exact ⟨p, bs, rfl, by rw [← rr.bls eb]; exact hs, k _ H _ S (.refl _ _) (.bl _) ok h⟩
      · exact h.elim
    · exact h.elim
  · exact h.elim
end
end Dl

set_option Elab.async false
set_option linter.all false
set_option maxRecDepth 100000
set_option maxHeartbeats 2000000
namespace Dl
open PySem PySem.Spec PyProof.Rows L2 LamX
section
variable {X : Cx} {K : PySem.W.Frag} {T : Tb} {a b c e : Expr} {es : List Expr} {pos p2 : Pos}

/-! ### what is walked -/
/-- the items of a value -/
def itemsI (A : DE) : DI := fun τ S Q => A τ S fun d S1 => match d with
  | .tup ds => Q ds S1
  | .ptp ds => Q ds S1
  | .lst ds => Q ds S1
  | .scr ns => Q (ns.map D.int) S1
  | _ => False
theorem wk_list {Z : List Addr} {tg : Tg} {H : Hp} {S : Store} {p : Addr} {ws : List V} {ds : List D} (hs : ∀ H' S', Ext H S H' S' → SqL K H' p ws) (rr : Reps K Z H S ws ds) : Wk K T Z tg (Itl K p) H S ds where
  go := fun i H2 S2 x h => by
    obtain ⟨v, hv, _⟩ := (rr.ext x).get (i := i) (d := ds[i]) (by simp [h])
    exact ⟨ws, v, hs H2 S2 x, hv⟩
  yld := fun Z2 i d H2 S2 v H3 hz x ok hd ⟨e, y⟩ => by
    subst e
    have q := y ws (hs H3 S2 x)
    obtain ⟨v', hv, r⟩ := (rr.zw (Z' := Z2) hz).get hd
    rw [q] at hv; cases hv
    exact ⟨.refl _ _, ok, Tg.rep_of (r.ext x)⟩
  stop := fun i H2 S2 x h => ⟨ws, hs H2 S2 x, by rw [rr.length]; exact h⟩
theorem wk_tup {Z : List Addr} {tg : Tg} {H : Hp} {S : Store} {p : Addr} {ws : List V} {ds : List D} (hs : ∀ H' S', Ext H S H' S' → SqT K H' p ws) (rr : Reps K Z H S ws ds) : Wk K T Z tg (Itt K p) H S ds where
  go := fun i H2 S2 x h => by
    obtain ⟨v, hv, _⟩ := (rr.ext x).get (i := i) (d := ds[i]) (by simp [h])
    exact ⟨ws, v, hs H2 S2 x, hv⟩
  yld := fun Z2 i d H2 S2 v H3 hz x ok hd ⟨e, y⟩ => by
    subst e
    have q := y ws (hs H3 S2 x)
    obtain ⟨v', hv, r⟩ := (rr.zw (Z' := Z2) hz).get hd
    rw [q] at hv; cases hv
    exact ⟨.refl _ _, ok, Tg.rep_of (r.ext x)⟩
  stop := fun i H2 S2 x h => ⟨ws, hs H2 S2 x, by rw [rr.length]; exact h⟩
theorem it_list {tgt : Expr} {pins : List (Addr × Obj)} {σ : L2.St} {H : Hp} {s : Shared} {p : Addr} {ws : List V} {R : It → Hp → Prop} (I : Inv X pins σ H s) (hs : SqL X.K H p ws) (q : R (Itl X.K p) H) :
    wpAny (model X.prog X.w) X.A (pyIter (.ref p)) (PIE X pins σ tgt R) X.xe s := by
  obtain ⟨its, rv, pl, hz⟩ := I.list hs
  have fr : H s.heap.objs.size = none := I.hok.fresh (Nat.le_refl _)
  refine wpAny_pyIter_list pl.isList ⟨s.heap.objs.size, [s.heap.objs.size], _, _, H, rfl, I.kept (t' := s.toks) fun b o e => Heap.get?_push_of_some _ e, turn_list p _, ⟨_, Heap.get?_push_size _ rfl, rfl, rfl⟩, fun b hb => ?_, q⟩
  rw [List.mem_singleton.mp hb]
  exact I.fpOk (Nat.le_refl _) fr
theorem it_tup {tgt : Expr} {pins : List (Addr × Obj)} {σ : L2.St} {H : Hp} {s : Shared} {p : Addr} {ws : List V} {R : It → Hp → Prop} (I : Inv X pins σ H s) (hs : SqT X.K H p ws) (q : R (Itt X.K p) H) :
    wpAny (model X.prog X.w) X.A (pyIter (.ref p)) (PIE X pins σ tgt R) X.xe s := by
  obtain ⟨its, rv, pl, hz⟩ := I.tuple hs
  have fr : H s.heap.objs.size = none := I.hok.fresh (Nat.le_refl _)
  refine wpAny_pyIter_tuple (show s.heap.IsTuple p its.toArray from pl) ⟨s.heap.objs.size, [s.heap.objs.size], _, _, H, rfl, I.kept (t' := s.toks) fun b o e => Heap.get?_push_of_some _ e, turn_tuple p _, ⟨_, Heap.get?_push_size _ rfl, rfl, rfl⟩, fun b hb => ?_, q⟩
  rw [List.mem_singleton.mp hb]
  exact I.fpOk (Nat.le_refl _) fr
theorem i_seq {tg : Tg} {tgt : Expr} {A : DE} (h : XE X T e A) : XI X T tg tgt e (itemsI A) := by
  refine ⟨fun pins s σ H R I ⟨Z, τ, S, G, sl, ok, h1, k⟩ => ?_⟩
  refine thn (h.go I sl ok h1) fun u s1 ⟨v, H1, d, S1, I1, rv, x1, rd, ok1, q⟩ => ?_
  cases d with
  | tup ds =>
    cases rd with
    | tup ht rr =>
      cases rv
      exact it_tup I1 ht.sq (k _ H1 ds S1 x1 ok1 (wk_tup (fun H' S' x => (ht.ext x).sq) rr) q)
  | ptp ds =>
    cases rd with
    | ptp ht rr =>
      cases rv
      exact it_tup I1 ht.sq (k _ H1 ds S1 x1 ok1 (wk_tup (fun H' S' x => (ht.ext x).sq) rr) q)
  | lst ds =>
    cases rd with
    | lst ht hn hz rr =>
      cases rv
      exact it_list I1 (SqL.of ht) (k _ H1 ds S1 x1 ok1 (wk_list (fun H' S' x => SqL.of (x.eq _ _ hn ht fun ps z => (by cases z))) rr) q)
  | scr ns =>
    cases rd with
    | scr ht =>
      cases rv
      exact it_list I1 ht.sq (k _ H1 _ S1 x1 ok1 (wk_list (fun H' S' x => (ht.ext x).sq) (Reps.ints ns)) q)
  | _ => exact q.elim
/-- lo, lo + 1, .. -/
def intsFrom (lo : Int) : Nat → List D
  | 0 => []
  | n + 1 => .int lo :: intsFrom (lo + 1) n
theorem intsFrom_length (lo : Int) (n : Nat) : (intsFrom lo n).length = n := by
  induction n generalizing lo with
  | zero => rfl
  | succ n ih => simp [intsFrom, ih]
theorem intsFrom_get (lo : Int) (n i : Nat) (d : D) (h : (intsFrom lo n)[i]? = some d) : d = .int (lo + i) := by
  induction n generalizing lo i with
  | zero => simp [intsFrom] at h
  | succ n ih =>
    cases i with
    | zero => simp [intsFrom] at h; rw [← h]; simp
    | succ i =>
      have q := ih (lo + 1) i (by simpa [intsFrom] using h)
      rw [q]
      congr 1
      omega
theorem wk_range {Z : List Addr} {tg : Tg} {H : Hp} {S : Store} {lo : Int} {n : Nat} : Wk K T Z tg (Itr lo n) H S (intsFrom lo n) where
  go := fun i H2 S2 x h => by rw [intsFrom_length] at h; exact h
  yld := fun Z2 i d H2 S2 v H3 hz x ok hd ⟨e, y⟩ => by
    subst e y
    rw [intsFrom_get lo n i d hd]
    exact ⟨.refl _ _, ok, Tg.rep_of (.int _)⟩
  stop := fun i H2 S2 x h => by rw [intsFrom_length] at h; exact h
def rangeI1 (A : DA) : DI := fun τ S Q => A τ S fun ds S1 => match ds with
  | [.int j] => -(2 ^ 62) ≤ j ∧ j < 2 ^ 62 ∧ Q (intsFrom 0 j.toNat) S1
  | _ => False
def rangeI2 (A : DA) : DI := fun τ S Q => A τ S fun ds S1 => match ds with
  | [.int i, .int j] => (-(2 ^ 62) ≤ i ∧ i < 2 ^ 62 ∧ -(2 ^ 62) ≤ j ∧ j < 2 ^ 62) ∧ Q (intsFrom i (j - i).toNat) S1
  | _ => False
theorem i_range1 {tg : Tg} {tgt : Expr} {A : DA} {p : Pos} (hg : Gl X "range") (hm : X.mg "range" = none) (ha : XA X T [a] A) (hs : starEach [a] X.env = [(false, eval a X.env)] := by rfl) : XI X T tg tgt (.Call (.Name "range" p) [a] [] pos) (rangeI1 A) :=
  (pi_range1 hg hm ha hs).imp fun σ H R ⟨Z, τ, S, G, sl, ok, h, k⟩ => ⟨Z, τ, S, _, sl, ok, h, fun vs H1 ds S1 x1 r1 ok1 q => by
    split at q
    · cases r1 with
      | cons r t => cases t; exact ⟨_, by rw [r.int'], q.1, q.2.1, k _ H1 _ S1 x1 ok1 wk_range q.2.2⟩
    · exact q.elim⟩
theorem i_range2 {tg : Tg} {tgt : Expr} {A : DA} {p : Pos} (hg : Gl X "range") (hm : X.mg "range" = none) (ha : XA X T [a, b] A) (hs : starEach [a, b] X.env = [(false, eval a X.env), (false, eval b X.env)] := by rfl) (hs2 : starEach [b] X.env = [(false, eval b X.env)] := by rfl) :
    XI X T tg tgt (.Call (.Name "range" p) [a, b] [] pos) (rangeI2 A) :=
  (pi_range2 hg hm ha hs hs2).imp fun σ H R ⟨Z, τ, S, G, sl, ok, h, k⟩ => ⟨Z, τ, S, _, sl, ok, h, fun vs H1 ds S1 x1 r1 ok1 q => by
    split at q
    · cases r1 with
      | cons r t =>
        cases t with
        | cons r' t => cases t; exact ⟨_, _, by rw [r.int', r'.int'], q.1, k _ H1 _ S1 x1 ok1 wk_range q.2⟩
    · exact q.elim⟩
/-- enumerate(list) -/
def pairsFrom : Int → List D → List D
  | _, [] => []
  | i, d :: ds => .tup [.int i, d] :: pairsFrom (i + 1) ds
theorem pairsFrom_length : ∀ (i : Int) (ds : List D), (pairsFrom i ds).length = ds.length
  | _, [] => rfl
  | i, d :: ds => by simp [pairsFrom, pairsFrom_length (i + 1) ds]
theorem pairsFrom_get : ∀ (i : Int) (ds : List D) (j : Nat) (d : D), (pairsFrom i ds)[j]? = some d → ∃ x, ds[j]? = some x ∧ d = .tup [.int (i + j), x]
  | _, [], j, d, h => by simp [pairsFrom] at h
  | i, y :: ds, 0, d, h => by
    simp [pairsFrom] at h
    exact ⟨y, rfl, by rw [← h]; simp⟩
  | i, y :: ds, j + 1, d, h => by
    obtain ⟨x, h1, h2⟩ := pairsFrom_get (i + 1) ds j d (by simpa [pairsFrom] using h)
    refine ⟨x, by simpa using h1, ?_⟩
    have e : i + 1 + (j : Int) = i + ((j + 1 : Nat) : Int) := by omega
    rw [h2, e]
theorem wk_enum {Z : List Addr} {is : List Nat} {H : Hp} {S : Store} {p : Addr} {ws : List V} {ds : List D} (hs : ∀ H' S', Ext H S H' S' → SqL K H' p ws) (rr : Reps K Z H S ws ds) : Wk K T Z (.tp is) (Ite K p) H S (pairsFrom 0 ds) where
  go := fun i H2 S2 x h => by
    rw [pairsFrom_length] at h
    obtain ⟨v, hv, _⟩ := (rr.ext x).get (i := i) (d := ds[i]) (by simp [h])
    exact ⟨ws, v, hs H2 S2 x, hv⟩
  yld := fun Z2 i d H2 S2 v H3 hz x ok hd ⟨p', y, ev, hp, e3, q⟩ => by
    subst e3 ev
    have q := q ws (hs H2 S2 x)
    obtain ⟨z, hz', ed⟩ := pairsFrom_get 0 ds i d hd
    obtain ⟨v', hv, r⟩ := (rr.zw (Z' := Z2) hz).get hz'
    rw [q] at hv; cases hv
    subst ed
    refine ⟨.new hp, ok.new hp, .inl ?_⟩
    rw [Int.zero_add]
    exact .newTup (.cons (.int _) (.cons (r.ext x) .nil)) hp (ok.fresh hp)
  stop := fun i H2 S2 x h => ⟨ws, hs H2 S2 x, by rw [rr.length]; rw [pairsFrom_length] at h; exact h⟩
def enumI (A : DA) : DI := fun τ S Q => A τ S fun ds S1 => match ds with
  | [.lst es] => Q (pairsFrom 0 es) S1
  | _ => False
theorem i_enum {is : List Nat} {elts : List Expr} {kk : Nat} {tpos p : Pos} {A : DA} (hg : Gl X "enumerate") (hm : X.mg "enumerate" = none) (ha : XA X T [e] A) (hs : starEach [e] X.env = [(false, eval e X.env)] := by rfl) :
    XI X T (.tp is) (.Tuple elts kk tpos) (.Call (.Name "enumerate" p) [e] [] pos) (enumI A) :=
  (pi_enum hg hm ha hs).imp fun σ H R ⟨Z, τ, S, G, sl, ok, h, k⟩ => ⟨Z, τ, S, _, sl, ok, h, fun vs H1 ds S1 x1 r1 ok1 q => by
    split at q
    · cases r1 with
      | cons r t =>
        cases t
        cases r with
        | lst ht hn hz rr => exact ⟨_, _, rfl, SqL.of ht, k _ H1 _ S1 x1 ok1 (wk_enum (fun H' S' x => SqL.of (x.eq _ _ hn ht fun ps z => (by cases z))) rr) q⟩
    · exact q.elim⟩

/-! ### lists of the store: methods, items -/
/-- o.m(..), o a list of the store -/
abbrev DRM := D → List D → Store → DK → Prop
def MtD (K : PySem.W.Frag) (T : Tb) (r : V → List V → Hp → VK → Prop) (R : DRM) : Prop := ∀ (Z : List Addr) (H : Hp) (S : Store) (vx : V) (vs : List V) (x : D) (ds : List D) (Qd : DK) (Q : VK), StOk K T Z H S → Rep K Z H S vx x → Reps K Z H S vs ds → R x ds S Qd →
  (∀ v H' d S', Ext H S H' S' → Rep K Z H' S' v d → StOk K T Z H' S' → Qd d S' → Q v H') → r vx vs H Q
def isLst (S : Store) (d : D) : Prop := match deref S d with
  | .lst _ => True
  | _ => False
def dML (R : DRM) (A : DE) (B : DA) : DE := fun τ S Q => A τ S fun x S1 => isLst S1 x ∧ B τ S1 fun ds S2 => R x ds S2 Q
theorem tyV_lst {Z : List Addr} {H : Hp} {S : Store} {v : V} {d : D} (ok : StOk K T Z H S) (r : Rep K Z H S v d) (h : isLst S d) : tyV K "list" v H := by
  unfold isLst at h
  split at h
  · rename_i ds e
    obtain ⟨p, ws, rfl, hs, _⟩ := lst_at ok r e
    exact .inl ⟨rfl, ws, hs⟩
  · exact h.elim
theorem x_ml {o : Expr} {name : Str} {apos cpos : Pos} {id : String} {r : V → List V → Hp → VK → Prop} {R : DRM} {A : DE} {B : DA} (slot : Slot "list" name id) (hty : typeOf (.builtin id) = pure (.type "method_descriptor")) (hm : MtR X id r) (hr : MtD X.K T r R) (ho : XE X T o A) (ha : XA X T (e :: es) B)
    (hbase : attributeBase o name X.env (eval o X.env) = eval o X.env := by rfl)
    (hfew : ((backTo cpos (starEach (e :: es) X.env)).all (fun x => !x.1) && (backToKw cpos (keywordEach [] X.env)).all (fun x => x.1.isSome)
      && decide ((e :: es).length + ([] : List Keyword).length + (if ([] : List Keyword).isEmpty then 0 else 1) < 30)) = true := by rfl)
    (hline : (apos.endLine == cpos.line) = true := by rfl) (hs : starEach (e :: es) X.env = (false, eval e X.env) :: starEach es X.env := by rfl) (hplain : (backTo cpos (starEach es X.env)).any (·.1) = false := by rfl) :
    XE X T (.Call (.Attribute o name apos) (e :: es) [] cpos) (dML R A B) :=
  (pe_bm PySem.F.plainAttrs_list slot hty hm ho ha hbase hfew hline hs hplain).imp fun σ H Q ⟨Z, τ, S, G, sl, ok, h, k⟩ => ⟨Z, τ, S, _, sl, ok, h, fun v H1 d S1 x1 r1 ok1 ⟨ty, q⟩ => ⟨tyV_lst ok1 r1 ty,
    Z, τ, S1, _, sl.ext x1, ok1, q, fun vs H2 ds S2 x2 r2 ok2 q2 => hr Z H2 S2 v vs d ds G Q ok2 (r1.ext x2) r2 q2 fun v H' d S' x => k v H' d S' (x1.trans (x2.trans x))⟩⟩
theorem x_ml0 {o : Expr} {name : Str} {apos cpos : Pos} {id : String} {r : V → List V → Hp → VK → Prop} {R : DRM} {A : DE} (slot : Slot "list" name id) (hty : typeOf (.builtin id) = pure (.type "method_descriptor")) (hm : MtR X id r) (hr : MtD X.K T r R) (ho : XE X T o A)
    (hbase : attributeBase o name X.env (eval o X.env) = eval o X.env := by rfl) (hline : (apos.endLine == cpos.line) = true := by rfl) : XE X T (.Call (.Attribute o name apos) [] [] cpos) (dML R A dNil) :=
  (pe_bm0 PySem.F.plainAttrs_list slot hty hm ho hbase hline).imp fun σ H Q ⟨Z, τ, S, G, sl, ok, h, k⟩ => ⟨Z, τ, S, _, sl, ok, h, fun v H1 d S1 x1 r1 ok1 ⟨ty, q⟩ => ⟨tyV_lst ok1 r1 ty,
    hr Z H1 S1 v [] d [] G Q ok1 r1 .nil q fun v H' d S' x => k v H' d S' (x1.trans x)⟩⟩
/-- a list of the store gets other items -/
theorem put_lst {Z : List Addr} {H : Hp} {S : Store} {p : Addr} {ds es : List D} {ws : List V} (ok : StOk K T Z H S) (e : S p = some (.lst ds)) (rr : Reps K Z H S ws es) :
    Ext H S (upd H p (.lst ws)) (ups S p (.lst es)) ∧ StOk K T Z (upd H p (.lst ws)) (ups S p (.lst es)) :=
  ⟨.put e, ok.put e ⟨ws, upd_same, rr.ext (.put e)⟩⟩
def rAppendD : DRM := fun x ds S Q => match x, ds with
  | .ref p, [d] => match S p with
    | some (.lst es) => es.length < sizeLine ∧ Q .non (ups S p (.lst (es ++ [d])))
    | _ => False
  | _, _ => False
theorem d_append : MtD K T rAppend rAppendD := by
  intro Z H S vx vs x ds Qd Q ok rx rs h k
  unfold rAppendD at h
  split at h
  · rename_i p d
    split at h
    · rename_i es' e
      cases rx
      cases rs with
      | cons r t =>
        cases t
        obtain ⟨ws, hw, rr⟩ := ok.obj p _ e
        obtain ⟨x1, ok1⟩ := put_lst ok e (rr.append (.cons r .nil))
        exact ⟨p, ws, _, rfl, rfl, hw, by rw [rr.length]; exact h.1, k _ _ _ _ x1 .non ok1 h.2⟩
    · exact h.elim
  · exact h.elim
def rPopAtD : DRM := fun x ds S Q => match x, ds with
  | .ref p, [.int i] => match S p with
    | some (.lst es) => -(2 ^ 63) ≤ i ∧ i < 2 ^ 63 ∧ match seqIndex? i es.length with
      | some j => match es[j]? with
        | some d => Q d (ups S p (.lst (es.eraseIdx j)))
        | none => False
      | none => False
    | _ => False
  | _, _ => False
theorem d_popAt : MtD K T rPopAt rPopAtD := by
  intro Z H S vx vs x ds Qd Q ok rx rs h k
  unfold rPopAtD at h
  split at h
  · rename_i p i
    split at h
    · rename_i es' e
      obtain ⟨h1, h2, h⟩ := h
      split at h
      · rename_i j ej
        split at h
        · rename_i d ed
          cases rx
          cases rs with
          | cons r t =>
            cases t
            obtain ⟨ws, hw, rr⟩ := ok.obj p _ e
            obtain ⟨v, hv, rv⟩ := rr.get ed
            obtain ⟨x1, ok1⟩ := put_lst ok e (rr.eraseIdx j)
            exact ⟨p, ws, i, j, v, rfl, by rw [r.int'], hw, h1, h2, by rw [rr.length]; exact ej, hv, k _ _ _ _ x1 (rv.ext x1) ok1 h⟩
        · exact h.elim
      · exact h.elim
    · exact h.elim
  · exact h.elim
/-- xs[i] = e -/
def dSetIx (A O I : DE) : DS := fun E τ S => A τ S fun d S1 => O τ S1 fun o S2 => I τ S2 fun i S3 => match o, i with
  | .ref p, .int i => match S3 p with
    | some (.lst es) => match ixN es.length i with
      | some j => E.nx τ (ups S3 p (.lst (es.set j d)))
      | none => False
    | _ => False
  | _, _ => False
theorem s_setIx {o i : Expr} {A O J : DE} {tpos : Pos} (ho : XE X T o O) (hi : XE X T i J) (he : XE X T e A) (hs : swapsWithSole [.Subscript o i tpos] e pos.line X.env = pure false := by rfl) (hw : swappedStores [.Subscript o i tpos] e X.env = pure none := by rfl)
    (h1 : (assignEach [.Subscript o i tpos] X.env).map (·.2) = [assign (.Subscript o i tpos) X.env] := by rfl)
    (ha : ∀ v, assign (.Subscript o i tpos) X.env v = (do
      let ov ← holding [v] (eval o X.env)
      let iv ← holding [v, ov] (eval i X.env)
      standAt tpos
      holding [v, ov, iv] (setItem ov iv v)
      release [v, ov, iv] []) := by intro _; rfl) : XS X T (.Assign [.Subscript o i tpos] e pos) (dSetIx A O J) := by
  refine (ps_asg he (pg_sub ho hi set_list ha) hs hw h1).imp fun D σ H ⟨Z, τ, S, E, sl, ok, h, k⟩ => ?_
  refine ⟨Z, τ, S, _, sl, ok, h, fun v H1 d S1 x1 r1 ok1 q1 => ?_⟩
  refine ⟨Z, τ, S1, _, sl.ext x1, ok1, q1, fun vo H2 dd S2 x2 r2 ok2 q2 => ?_⟩
  refine ⟨Z, τ, S2, _, sl.ext (x1.trans x2), ok2, q2, fun vi H3 di S3 x3 r3 ok3 q3 => ?_⟩
  split at q3
  · rename_i p i'
    split at q3
    · rename_i es' e'
      split at q3
      · rename_i j ej
        cases r2
        obtain ⟨ws, hw', rr⟩ := ok3.obj p _ e'
        obtain ⟨x4, ok4⟩ := put_lst ok3 e' (rr.set j (r1.ext (x2.trans x3)))
        exact ⟨p, ws, i', j, rfl, r3.int', hw', by rw [rr.length]; exact ej, k.nx σ _ τ _ (x1.trans (x2.trans (x3.trans x4))) (sl.ext (x1.trans (x2.trans (x3.trans x4)))) ok4 q3⟩
      · exact q3.elim
    · exact q3.elim
  · exact q3.elim
end
end Dl

set_option Elab.async false
set_option linter.all false
set_option maxRecDepth 100000
set_option maxHeartbeats 2000000
namespace Dl
open PySem PySem.Spec PyProof.Rows L2 LamX
section
variable {X : Cx} {K : PySem.W.Frag} {T : Tb} {a b c e f : Expr} {es : List Expr} {pos p2 : Pos}

/-! ### isinstance -/
def tyD (S : Store) : D → Option String
  | .non => some "NoneType"
  | .bl _ => some "bool"
  | .int _ => some "int"
  | .str _ => some "str"
  | .tup _ => some "tuple"
  | .ptp _ => some "tuple"
  | .lst _ => some "list"
  | .scr _ => none
  | .fn .. => none
  | .exc .. => none
  | .ref a => match S a with
    | some (.lst _) => some "list"
    | some (.dK _) => some "dict"
    | some (.dT _) => some "dict"
    | _ => none
theorem tyX_of {Z : List Addr} {H : Hp} {S : Store} {v : V} {d : D} {t : String} (ok : StOk K T Z H S) (r : Rep K Z H S v d) (e : tyD S d = some t) : TyX K H v (.type t) := by
  cases r with
  | non => cases e; exact .base .non
  | bl b => cases e; exact .base (.bl b)
  | int b => cases e; exact .base (.int b)
  | str b => cases e; exact .base (.str b)
  | ref p =>
    unfold tyD at e
    simp only at e
    split at e
    · rename_i ds es'
      cases e
      obtain ⟨vs, h, _⟩ := ok.obj p _ es'
      exact .base (.lst h)
    · rename_i ds es'
      cases e
      obtain ⟨vs, h, _⟩ := ok.obj p _ es'
      exact .base (.dK h)
    · rename_i ds es'
      cases e
      obtain ⟨vs, h, _⟩ := ok.obj p _ es'
      exact .base (.dT h)
    · cases e
  | tup h _ =>
    cases e
    rcases h with ⟨h | ⟨o, h⟩, _⟩ | ⟨o, its, n, h1, h2, _⟩
    · exact .base (.tup h)
    · exact .fTuple h
    · exact .kTuple h1 h2
  | ptp h _ =>
    cases e
    rcases h with ⟨o, h, _⟩ | ⟨o, its, n, h1, h2, _⟩
    · exact .fTuple h
    · exact .kTuple h1 h2
  | lst h _ _ _ => cases e; exact .base (.lst h)
  | scr h => cases e
  | fn _ _ => cases e
  | exc0 => cases e
  | exc1 _ _ _ => cases e
/-- the answer of isinstance: not to be computed by unfolding -/
def isiK (t : Option String) (C : String) (G : Bool → Prop) : Prop := ∃ t' b, t = some t' ∧ kitB t' C = some b ∧ G b
theorem isiK_eq {t C : String} {b : Bool} (h : kitB t C = some b) (G : Bool → Prop) : isiK (some t) C G = G b :=
  propext ⟨fun ⟨t', b', e1, e2, g⟩ => by cases e1; rw [h] at e2; cases e2; exact g, fun g => ⟨t, b, rfl, h, g⟩⟩
def dIsi (C : String) (A : DE) : DE := fun τ S Q => A τ S fun d S1 => isiK (tyD S1 d) C fun b => Q (.bl b) S1
theorem x_isi {C : String} {x : Str} {A : DE} {p q : Pos} (he : XE X T e A) (hg : Gl X "isinstance") (hm : X.mg "isinstance" = none) (hg2 : Gl X x) (hm2 : X.mg x = none) (hv2 : bootBuiltins x = some (.type C)) (hn : x ≠ "__name__" := by decide) (hd : (x == ("__debug__" : Str)) = false := by decide)
    (s1 : starEach [e, .Name x q] X.env = (false, eval e X.env) :: starEach [.Name x q] X.env := by rfl) (hpl : (backTo pos (starEach [.Name x q] X.env)).any (·.1) = false := by rfl) : XE X T (.Call (.Name "isinstance" p) [e, .Name x q] [] pos) (dIsi C A) := by
  refine (pe_callB call_isi hg hm (by decide +kernel) (pa_cons he (pa_cons (pe_bltn (v := .ty C) hg2 hm2 hv2 rfl hn hd) pa_nil) s1) (by decide) (by decide) s1 hpl).imp fun σ H Q ⟨Z, τ, S, G, sl, ok, h, k⟩ => ?_
  refine ⟨Z, τ, S, _, sl, ok, h, fun v H1 d S1 x1 r1 ok1 q => ?_⟩
  show rIsi X.K [v, .ty C] H1 Q
  obtain ⟨t, b, et, eb, q⟩ := q
  exact ⟨v, .ty C, .type t, .type C, b, rfl, .ty C, tyX_of ok1 r1 et, kit_ty eb, k _ H1 _ S1 x1 (.bl b) ok1 q⟩

/-! ### sorted -/
abbrev encP (p : Int × Int) : D := .tup [.int p.1, .int p.2]
/-- pairs of ints -/
def rSortPD : DRL := fun ds S Q => match ds with
  | [d] => ∃ ps : List (Int × Int), deref S d = .lst (ps.map encP) ∧ ∀ out : List (Int × Int), out.Perm ps → out.Pairwise (fun p q => SrtO.lexB q p = false) → Q (.lst (out.map encP)) S
  | _ => False
/-- of values that stand for such pairs -/
def PairV (K : PySem.W.Frag) (H : Hp) (v : V) (p : Int × Int) : Prop := ∃ t, v = .ref t ∧ SqT K H t [.int p.1, .int p.2]
theorem rep_pair {Z : List Addr} {H : Hp} {S : Store} {v : V} {p : Int × Int} (r : Rep K Z H S v (encP p)) : PairV K H v p := by
  obtain ⟨a, vs, rfl, ht, rr⟩ := r.tupW
  cases rr with
  | cons r1 rr =>
    cases rr with
    | cons r2 rr =>
      cases rr
      rw [r1.int', r2.int'] at ht
      exact ⟨a, rfl, ht⟩
noncomputable def keyP (K : PySem.W.Frag) (H : Hp) (v : Value) : Int × Int := by
  classical
  exact if h : ∃ p, PairV K H (backV v) p then h.choose else (0, 0)
theorem keyP_of {pins : List (Addr × Obj)} {σ : L2.St} {H : Hp} {s : Shared} {t : Addr} {p : Int × Int} (I : Inv X pins σ H s) (h : PairV X.K H (.ref t) p) : keyP X.K H (.ref t) = p := by
  classical
  have hx : ∃ p, PairV X.K H (backV (.ref t)) p := ⟨p, h⟩
  have e : keyP X.K H (.ref t) = hx.choose := by unfold keyP; rw [dif_pos hx]
  rw [e]
  obtain ⟨t1, e1, h1⟩ := hx.choose_spec
  obtain ⟨t2, e2, h2⟩ := h
  cases e1
  cases e2
  have q := I.tuple_inj h1 h2
  injection q with q1 q2
  injection q2 with q2 _
  exact Prod.ext (V.int.inj q1) (V.int.inj q2)
theorem Paired.get {α β : Type} {R : α → β → Prop} : ∀ {l : List α} {m : List β} {x : α}, Paired R l m → x ∈ l → ∃ y, y ∈ m ∧ R x y
  | _, _, _, .nil, h => absurd h (by simp)
  | _, _, x, .cons r t, h => by
    rcases List.mem_cons.mp h with e | h
    · rw [e]; exact ⟨_, List.mem_cons_self, r⟩
    · obtain ⟨y, h1, h2⟩ := Paired.get t h
      exact ⟨y, List.mem_cons_of_mem _ h1, h2⟩
theorem pairs_val {Z : List Addr} {H : Hp} {S : Store} : ∀ {xs : List V} {us : List Value} {ps : List (Int × Int)}, Vals xs us → Reps K Z H S xs (ps.map encP) →
    Paired (fun (u : Value) (p : Int × Int) => ∃ t, u = .ref t ∧ Rep K Z H S (.ref t) (encP p)) us ps
  | _, _, [], .nil, .nil => .nil
  | _, _, p :: r, .cons a t, .cons b u => by
    refine .cons ?_ (pairs_val t u)
    obtain ⟨q, vs, e, _, _⟩ := b.tupW
    subst e
    exact ⟨q, a, b⟩
theorem val_pairs {Z : List Addr} {H : Hp} {S : Store} : ∀ {us : List Value} {ps : List (Int × Int)}, Paired (fun (u : Value) (p : Int × Int) => ∃ t, u = .ref t ∧ Rep K Z H S (.ref t) (encP p)) us ps → ∃ xs, Vals xs us ∧ Reps K Z H S xs (ps.map encP)
  | _, _, .nil => ⟨[], .nil, .nil⟩
  | _, _, .cons ⟨q, e, r⟩ t => by
    obtain ⟨xs, h1, h2⟩ := val_pairs t
    exact ⟨.ref q :: xs, .cons e h1, .cons r h2⟩
def rSortPV (K : PySem.W.Frag) (T : Tb) : List V → Hp → VK → Prop := fun vs H Q => ∃ (Z : List Addr) (S : Store) (x : V) (ps : List (Int × Int)), vs = [x] ∧ StOk K T Z H S ∧ (∃ d, Rep K Z H S x d ∧ deref S d = .lst (ps.map encP)) ∧
  ∀ (out : List (Int × Int)) p ws, out.Perm ps → out.Pairwise (fun p q => SrtO.lexB q p = false) → H p = none → Reps K Z H S ws (out.map encP) → Q (.ref p) (upd H p (.lst ws))
theorem cr_sortPV : CallR X (.builtin "sorted") (rSortPV X.K T) := by
  intro pins s σ H vs us Q I r ⟨Z, S, x, ps, ev, ok, ⟨d, rd, ed⟩, q⟩
  subst ev
  obtain ⟨u, rfl, ru⟩ := vals1 r
  obtain ⟨a, xs, rfl, hs, rr⟩ := lst_at ok rd ed
  obtain rfl : u = Value.ref a := ru
  obtain ⟨its, rv, hl, hz⟩ := I.list hs
  have pv := pairs_val rv rr
  refine SrtO.sorted_pairsO (k := keyP X.K H) hl.isList (by rw [← rv.length]; exact hz) (fun v hv => ?_) fun h' dd out h1 h2 kp hd hn => ?_
  · obtain ⟨p, hp, t, rfl, rt⟩ := Paired.get pv hv
    have pt := rep_pair rt
    rw [keyP_of I pt]
    obtain ⟨t', e, ht⟩ := pt
    cases e
    obtain ⟨its2, r2, ⟨o, ho, hc, n, hd⟩, _⟩ := I.tuple ht
    obtain ⟨u1, u2, rfl, ri, rj⟩ := vals2 r2
    obtain ⟨t1, rfl⟩ := ri
    obtain ⟨t2, rfl⟩ := rj
    exact ⟨t, o, t1, t2, n, rfl, ho, hc, hd⟩
  · obtain ⟨out', p', pr⟩ := perm_along h2.perm pv
    obtain ⟨ws, w1, w2⟩ := val_pairs pr
    obtain ⟨n, hn⟩ := hn
    have ek : ∀ {us : List Value} {ps : List (Int × Int)}, Paired (fun (u : Value) (p : Int × Int) => ∃ t, u = .ref t ∧ Rep X.K Z H S (.ref t) (encP p)) us ps → us.map (keyP X.K H) = ps := by
      intro us ps h
      induction h with
      | nil => rfl
      | cons r _ ih =>
        obtain ⟨t, e, rt⟩ := r
        rw [List.map_cons, ih, e, keyP_of I (rep_pair rt)]
    have eo := ek pr
    have pw : out'.Pairwise (fun p q => SrtO.lexB q p = false) := by
      rw [← eo]
      exact List.pairwise_map.mpr h1
    refine ⟨.ref dd, upd H dd (.lst ws), I.laid (t' := s.toks) kp hd ⟨?_, out, n, w1, hn⟩, rfl, q out' dd ws p' pw (I.hok.fresh hd) w2⟩
    rw [w2.length, List.length_map, p'.length_eq]
    have := rr.length
    rw [List.length_map] at this
    omega
theorem d_sortP : CallD K T (rSortPV K T) rSortPD := by
  intro Z H S vs ds Qd Q ok rs h k
  unfold rSortPD at h
  split at h
  · obtain ⟨ps, e, h⟩ := h
    cases rs with
    | cons r t =>
      cases t
      exact ⟨Z, S, _, ps, rfl, ok, ⟨_, r, e⟩, fun out p ws hp hw hn rr => k _ _ _ S (.new hn) (.newLst rr hn (ok.fresh hn) (ok.nz hn)) (ok.new hn) (h out hp hw)⟩
  · exact h.elim
/-- ints -/
def rSortID : DRL := fun ds S Q => match ds with
  | [d] => ∃ ns : List Int, deref S d = .lst (ns.map D.int) ∧ ∀ out : List Int, out.Perm ns → out.Pairwise (· ≤ ·) → Q (.lst (out.map D.int)) S
  | _ => False
theorem d_sortI : CallD K T (rSortedI K) rSortID := by
  intro Z H S vs ds Qd Q ok rs h k
  unfold rSortID at h
  split at h
  · obtain ⟨ns, e, h⟩ := h
    cases rs with
    | cons r t =>
      cases t
      obtain ⟨a, xs, rfl, hs, rr⟩ := lst_at ok r e
      rw [rr.ints_of] at hs
      exact ⟨a, ns, rfl, hs, fun out p hp hw hn => k _ _ _ S (.new hn) (.newLst (Reps.ints out) hn (ok.fresh hn) (ok.nz hn)) (ok.new hn) (h out hp hw)⟩
  · exact h.elim
/-- the keys of a dict of the store, ints, few -/
def rSortKD : DRL := fun ds S Q => match ds with
  | [.ref p] => match S p with
    | some (.dK kvs) => ∃ ns : List Int, kvs.map (·.1) = ns.map Sum.inl ∧ ns.length < 64 ∧ ∀ out : List Int, out.Perm ns → out.Pairwise (· ≤ ·) → Q (.lst (out.map D.int)) S
    | _ => False
  | _ => False
theorem RKV.keys {κ : Type} {Z : List Addr} {H : Hp} {S : Store} : ∀ {kvs : List (κ × V)} {kds : List (κ × D)}, RKV K Z H S kvs kds → kvs.map (·.1) = kds.map (·.1)
  | _, _, .nil => rfl
  | _, _, .cons r t => by rw [List.map_cons, List.map_cons, r.1, RKV.keys t]
theorem d_sortK : CallD K T (fun xs H Q => ∃ (a : Addr) (kvs : List (L2.Key × V)) (ks : List Int), xs = [.ref a] ∧ Rd H a (.dK kvs) ∧ kvs.map (·.1) = ks.map Sum.inl ∧ ks.length < 64 ∧
    ∀ (ys : List Int) (p : Addr), ys.Perm ks → ys.Pairwise (· ≤ ·) → H p = none → Q (.ref p) (upd H p (.lst (ys.map V.int)))) rSortKD := by
  intro Z H S vs ds Qd Q ok rs h k
  unfold rSortKD at h
  split at h
  · split at h
    · rename_i kvs e
      obtain ⟨ns, e1, e2, h⟩ := h
      cases rs with
      | cons r t =>
        cases t
        cases r
        obtain ⟨ws, hw, rr⟩ := ok.obj _ _ e
        exact ⟨_, ws, ns, rfl, .inl hw, by rw [RKV.keys rr]; exact e1, e2, fun out p hp hw' hn => k _ _ _ S (.new hn) (.newLst (Reps.ints out) hn (ok.fresh hn) (ok.nz hn)) (ok.new hn) (h out hp hw')⟩
    · exact h.elim
  · exact h.elim

/-! ### dicts of the store -/
theorem RKV.any {κ : Type} [DecidableEq κ] {Z : List Addr} {H : Hp} {S : Store} (k : κ) : ∀ {kvs : List (κ × V)} {kds : List (κ × D)}, RKV K Z H S kvs kds → (kvs.any fun kv => decide (kv.1 = k)) = kds.any fun kv => decide (kv.1 = k)
  | _, _, .nil => rfl
  | _, _, .cons r t => by rw [List.any_cons, List.any_cons, r.1, RKV.any k t]
theorem RKV.repl {κ : Type} [DecidableEq κ] {Z : List Addr} {H : Hp} {S : Store} (k : κ) {y : V} {d : D} (ry : Rep K Z H S y d) : ∀ {kvs : List (κ × V)} {kds : List (κ × D)}, RKV K Z H S kvs kds →
    RKV K Z H S (kvs.map fun kv => if kv.1 = k then (kv.1, y) else kv) (kds.map fun kv => if kv.1 = k then (kv.1, d) else kv)
  | _, _, .nil => .nil
  | _, _, .cons (a := p) (b := q) r t => by
    refine .cons ?_ (RKV.repl k ry t)
    by_cases e : p.1 = k
    · have e' : q.1 = k := by rw [← r.1]; exact e
      show (if p.1 = k then (p.1, y) else p).1 = (if q.1 = k then (q.1, d) else q).1 ∧ Rep K Z H S (if p.1 = k then (p.1, y) else p).2 (if q.1 = k then (q.1, d) else q).2
      rw [if_pos e, if_pos e']
      exact ⟨r.1, ry⟩
    · have e' : ¬ q.1 = k := by rw [← r.1]; exact e
      show (if p.1 = k then (p.1, y) else p).1 = (if q.1 = k then (q.1, d) else q).1 ∧ Rep K Z H S (if p.1 = k then (p.1, y) else p).2 (if q.1 = k then (q.1, d) else q).2
      rw [if_neg e, if_neg e']
      exact r
theorem RKV.app {κ : Type} {Z : List Addr} {H : Hp} {S : Store} : ∀ {kvs : List (κ × V)} {kds : List (κ × D)} {kvs' : List (κ × V)} {kds' : List (κ × D)}, RKV K Z H S kvs kds → RKV K Z H S kvs' kds' → RKV K Z H S (kvs ++ kvs') (kds ++ kds')
  | _, _, _, _, .nil, h => h
  | _, _, _, _, .cons r t, h => .cons r (RKV.app t h)
theorem RKV.put {κ : Type} [DecidableEq κ] {Z : List Addr} {H : Hp} {S : Store} {k : κ} {y : V} {d : D} {kvs : List (κ × V)} {kds : List (κ × D)} (r : RKV K Z H S kvs kds) (ry : Rep K Z H S y d) : RKV K Z H S (putK kvs k y) (putD kds k d) := by
  unfold putK putD
  rw [RKV.any k r]
  split
  · exact RKV.repl k ry r
  · exact RKV.app r (.cons ⟨rfl, ry⟩ .nil)
theorem RKV.length {κ : Type} {Z : List Addr} {H : Hp} {S : Store} {kvs : List (κ × V)} {kds : List (κ × D)} (r : RKV K Z H S kvs kds) : kvs.length = kds.length := Paired.length r
def mergeD (kvs more : List (L2.Key × D)) : List (L2.Key × D) := more.foldl (fun acc kv => putD acc kv.1 kv.2) kvs
theorem RKV.merge {Z : List Addr} {H : Hp} {S : Store} : ∀ {more : List (L2.Key × V)} {moreD : List (L2.Key × D)} {kvs : List (L2.Key × V)} {kds : List (L2.Key × D)}, RKV K Z H S more moreD → RKV K Z H S kvs kds → RKV K Z H S (mergeK kvs more) (mergeD kds moreD)
  | _, _, _, _, .nil, h => h
  | _, _, _, _, .cons (a := p) (b := q) r t, h => by
    unfold mergeK mergeD
    rw [List.foldl_cons, List.foldl_cons]
    refine RKV.merge t ?_
    rw [r.1]
    exact h.put r.2
/-- d[k] = v -/
def dPut (A O I : DE) : DS := fun E τ S => A τ S fun d S1 => O τ S1 fun o S2 => I τ S2 fun i S3 => match o, keyOf i with
  | .ref p, some k => match S3 p with
    | some (.dK kvs) => kvs.length < sizeLine ∧ E.nx τ (ups S3 p (.dK (putD kvs k d)))
    | _ => False
  | _, _ => False
theorem s_dput {o i : Expr} {A O J : DE} {tpos : Pos} (hu : X.A.units + 1 < cLine) (ho : XE X T o O) (hi : XE X T i J) (he : XE X T e A) (hs : swapsWith e (some (.Subscript o i tpos)) pos.line X.env = pure false := by rfl) : XS X T (.Assign [.Subscript o i tpos] e pos) (dPut A O J) := by
  refine (ps_dput hu ho hi he hs).imp fun D σ H ⟨Z, τ, S, E, sl, ok, h, k⟩ => ?_
  refine ⟨Z, τ, S, _, sl, ok, h, fun v H1 d S1 x1 r1 ok1 q1 => ?_⟩
  refine ⟨Z, τ, S1, _, sl.ext x1, ok1, q1, fun vo H2 dd S2 x2 r2 ok2 q2 => ?_⟩
  refine ⟨Z, τ, S2, _, sl.ext (x1.trans x2), ok2, q2, fun vi H3 di S3 x3 r3 ok3 q3 => ?_⟩
  split at q3
  · rename_i p key ek
    split at q3
    · rename_i kvs e'
      cases r2
      obtain ⟨ws, hw', rr⟩ := ok3.obj p _ e'
      have x4 : Ext H3 S3 (upd H3 p (.dK (putK ws key v))) (ups S3 p (.dK (putD kvs key d))) := .put e'
      have ok4 : StOk X.K T Z (upd H3 p (.dK (putK ws key v))) (ups S3 p (.dK (putD kvs key d))) := ok3.put e' ⟨_, upd_same, (rr.put (r1.ext (x2.trans x3))).ext x4⟩
      have xx := x1.trans (x2.trans (x3.trans x4))
      exact ⟨p, _, rfl, by rw [r3.key ek]; exact DPut.k hw' (by rw [rr.length]; exact q3.1), k.nx σ _ τ _ xx (sl.ext xx) ok4 q3.2⟩
    · exact q3.elim
  · exact q3.elim
/-- d.get(k, x) -/
def dGet2 (A B C : DE) : DE := fun τ S Q => A τ S fun x S1 => match x with
  | .ref p => (match S1 p with
      | some (.dK _) => True
      | _ => False) ∧ B τ S1 fun y S2 => C τ S2 fun z S3 => match S3 p, keyOf y with
    | some (.dK kvs), some k => Q ((valD kvs k).getD z) S3
    | _, _ => False
  | _ => False
theorem x_get2 {o : Expr} {A B C : DE} {apos cpos : Pos} (hu : X.A.units + 1 < cLine) (ho : XE X T o A) (he : XE X T e B) (hf : XE X T f C) (m : M2 X o "get" apos e f cpos) : XE X T (.Call (.Attribute o "get" apos) [e, f] [] cpos) (dGet2 A B C) := by
  refine (pe_dget2 hu ho he hf m).imp fun σ H Q ⟨Z, τ, S, G, sl, ok, h, k⟩ => ?_
  refine ⟨Z, τ, S, _, sl, ok, h, fun v H1 d S1 x1 r1 ok1 q1 => ?_⟩
  cases d with
  | ref p =>
    cases r1
    obtain ⟨h0, q1⟩ := q1
    have isd : IsD H1 p := by
      split at h0
      · rename_i kvs e'
        obtain ⟨ws, hw, _⟩ := ok1.obj p _ e'
        exact .inl ⟨ws, .inl hw⟩
      · exact h0.elim
    refine ⟨p, rfl, isd, Z, τ, S1, _, sl.ext x1, ok1, q1, fun vy H2 y S2 x2 r2 ok2 q2 => ?_⟩
    refine ⟨Z, τ, S2, _, sl.ext (x1.trans x2), ok2, q2, fun vz H3 z S3 x3 r3 ok3 q3 => ?_⟩
    split at q3
    · rename_i kvs key e' ek
      obtain ⟨ws, hw, rr⟩ := ok3.obj p _ e'
      have xx := x1.trans (x2.trans x3)
      refine ⟨valV ws key, by rw [(r2.ext x3).key ek]; exact DGet.k hw, ?_⟩
      rcases rr.val (k := key) with ⟨h1, h2⟩ | ⟨v, d', h1, h2, rv⟩
      · rw [h2] at q3
        rw [h1]
        exact k _ H3 _ S3 xx r3 ok3 q3
      · rw [h2] at q3
        rw [h1]
        exact k _ H3 _ S3 xx rv ok3 q3
    · exact q3.elim
  | _ => exact q1.elim
/-- dict(t), t a tuple of pairs whose object is known -/
def pairsD : List D → Option (List (L2.Key × D))
  | [] => some []
  | .tup [k, v] :: ds => match keyOf k, pairsD ds with
    | some k, some r => some ((k, v) :: r)
    | _, _ => none
  | _ :: _ => none
theorem reps_pairs {Z : List Addr} {H : Hp} {S : Store} : ∀ {vs : List V} {ds : List D} {kds : List (L2.Key × D)}, Reps K Z H S vs ds → pairsD ds = some kds → ∃ (ps : List Addr) (kvs : List (L2.Key × V)), vs = ps.map V.ref ∧ Paired (fun p kv => SqT K H p [kV kv.1, kv.2]) ps kvs ∧ RKV K Z H S kvs kds
  | _, _, _, .nil, e => by cases e; exact ⟨[], [], rfl, .nil, .nil⟩
  | _, _, _, .cons (d := d) (ds := ds) r t, e => by
    unfold pairsD at e
    split at e
    · rename_i e0; cases e0
    · rename_i k v ds' e0
      cases e0
      split at e
      · rename_i k' r' e1 e2
        cases e
        obtain ⟨ps, kvs, h1, h2, h3⟩ := reps_pairs t e2
        obtain ⟨a, ws, rfl, ht, rr⟩ := r.tupW
        cases rr with
        | cons ra rr =>
          cases rr with
          | cons rb rr =>
            cases rr
            rw [ra.key e1] at ht
            exact ⟨a :: ps, _ :: kvs, by rw [h1]; rfl, .cons (b := (k', _)) ht h2, .cons ⟨rfl, rb⟩ h3⟩
      · cases e
    · cases e
theorem pairs_at {pins : List (Addr × Obj)} {σ : L2.St} {H : Hp} {s : Shared} (I : Inv X pins σ H s) : ∀ {ps : List Addr} {kvs : List (L2.Key × V)}, Paired (fun p kv => SqT X.K H p [kV kv.1, kv.2]) ps kvs →
    ∃ (prs : List (L2.Key × Value)) (ks : List (Value × Value)), KV kvs prs ∧ prs.length = ps.length ∧ ks.length = ps.length ∧
      ∀ (j : Nat) (b : Addr), ps[j]? = some b → ∃ (u v : Value) (k : L2.Key), ks[j]? = some (u, v) ∧ prs[j]? = some (k, v) ∧ IsTup s.heap b #[u, v] ∧ keyIs k u = true
  | _, _, .nil => ⟨[], [], .nil, rfl, rfl, fun j b e => by simp at e⟩
  | _, _, .cons (a := p) (b := kv) h t => by
    obtain ⟨prs, ks, r, h1, h2, h3⟩ := pairs_at I t
    obtain ⟨its, rv, ht, _⟩ := I.tuple h
    obtain ⟨u, y, ei, ru, ry⟩ := vals2 rv
    subst ei
    refine ⟨(kv.1, y) :: prs, (u, y) :: ks, .cons ⟨rfl, ry⟩ r, by simp [h1], by simp [h2], fun j b e => ?_⟩
    cases j with
    | zero =>
      have e' : p = b := by simpa using e
      subst e'
      exact ⟨u, y, kv.1, rfl, rfl, ht, kV_is (P := X.prog) (w := X.w) ru⟩
    | succ j =>
      obtain ⟨u', v', k', q1, q2, q3, q4⟩ := h3 j b (by simpa using e)
      exact ⟨u', v', k', by simpa using q1, by simpa using q2, q3, q4⟩
theorem ptp_obj {pins : List (Addr × Obj)} {σ : L2.St} {H : Hp} {s : Shared} {S : Store} {a : Addr} {vs : List V} (I : Inv X pins σ H s) (h : PtpAt X.K H S a vs) :
    ∃ (o : Obj) (its : List Value) (n : Nat), s.heap.get? a = some o ∧ o.cls = .type "tuple" ∧ o.dict = none ∧ o.data = .seq its.toArray n ∧ Vals vs its ∧ vs.length ≤ sizeLine := by
  rcases h with ⟨o, hq, hod, _⟩ | ⟨o, its, n, h1, h2, h3, h4, h5, h6⟩
  · obtain ⟨ho, hz, its, rv, o', ho', hc, n, hdat⟩ := (show ObjOk X.prog X.w H s.heap a (.frz o (.tup vs)) from I.hok a _ hq)
    rw [ho] at ho'
    cases ho'
    exact ⟨o, its, n, ho, hc, hod, hdat, rv, hz⟩
  · refine ⟨o, its.toList, n, I.kIn a o h1, h2, h6, by simpa using h3, h5, ?_⟩
    have q := h5.length
    simp only [Array.length_toList] at q
    omega
theorem call_dictT (hcalm : X.calm = true) : CallR X (.type "dict") (fun xs H Q => ∃ (a : Addr) (S : Store) (ps : List Addr) (kvs : List (L2.Key × V)), xs = [.ref a] ∧ PtpAt X.K H S a (ps.map V.ref) ∧ Paired (fun p kv => SqT X.K H p [kV kv.1, kv.2]) ps kvs ∧
    ∀ p, H p = none → Q (.ref p) (upd H p (.dK (mergeK [] kvs)))) := by
  intro pins s σ H xs us Q I r ⟨a, S, ps, kvs, ex, hq, hp, q⟩
  subst ex
  obtain ⟨u, eu, rx⟩ := vals1 r
  subst eu
  cases rx
  obtain ⟨o, its, n, ho, hc, hod, hdat, rv, hz⟩ := ptp_obj I hq
  have ei := refs_at rv
  subst ei
  rw [List.length_map] at hz
  obtain ⟨prs, ks, rel, hl, kl, hx⟩ := pairs_at I hp
  have at_ : ∀ (j : Nat) (u v : Value), ks[j]? = some (u, v) → ∃ b k, ps[j]? = some b ∧ prs[j]? = some (k, v) ∧ IsTup s.heap b #[u, v] ∧ keyIs k u = true := by
    intro j u v e
    have hj : j < ps.length := by rw [← kl]; exact (List.getElem?_eq_some_iff.mp e).1
    obtain ⟨u', v', k, e1, e2, e3, e4⟩ := hx j ps[j] (by simp [hj])
    rw [e] at e1
    cases e1
    exact ⟨ps[j], k, by simp [hj], e2, e3, e4⟩
  have P := PairArg.tuple (prog := X.prog) (w := X.w) a (ps.map Value.ref).toArray (fun j => ps.getD j 0) ks
  refine PySem.call_dict_pairs (knd := mixKind X.prog X.w) (kvs := prs) P (I.ok.hd hcalm) ⟨⟨o, n, ho, hc, hod, by simpa using hdat⟩, by simp [kl], fun j u v e => ?_⟩ ⟨by rw [hl, kl], fun j u v e => ?_⟩ (by rw [kl]; exact hz) fun h' tk hd' kk => ?_
  · obtain ⟨b, k, e1, e2, e3, _⟩ := at_ j u v e
    refine ⟨by simp [e1], .inl ?_⟩
    show IsTup s.heap (ps.getD j 0) _
    rw [List.getD_eq_getElem?_getD, e1]
    exact e3
  · obtain ⟨b, k, e1, e2, e3, e4⟩ := at_ j u v e
    exact ⟨k, e2, e4⟩
  · have hm : (s.heap.objs.size == sysModules) = false := beq_eq_false_iff_ne.mpr (Nat.ne_of_gt I.big)
    have hlen : (mergeK [] kvs).length ≤ sizeLine := by
      have h1 := length_mergeK kvs []
      rw [List.length_nil, Nat.zero_add, rel.length, hl] at h1
      exact Nat.le_trans h1 hz
    have ob : ObjOk X.prog X.w (upd H s.heap.objs.size (.dK (mergeK [] kvs))) h' s.heap.objs.size (.dK (mergeK [] kvs)) := ⟨hlen, hm, merged [] prs, KV.merge rel .nil, hd'⟩
    exact ⟨.ref s.heap.objs.size, _, I.laid (t' := tk) (fun b o e => kk b o (by simp) e) (Nat.le_refl _) ob, rfl, q _ (I.hok.fresh (Nat.le_refl _))⟩
def rDictD : DRL := fun ds S Q => match ds with
  | [.ptp es] => match pairsD es with
    | some kds => ∀ p, S p = none → Q (.ref p) (ups S p (.dK (mergeD [] kds)))
    | none => False
  | _ => False
theorem d_dict : CallD K T (fun xs H Q => ∃ (a : Addr) (S : Store) (ps : List Addr) (kvs : List (L2.Key × V)), xs = [.ref a] ∧ PtpAt K H S a (ps.map V.ref) ∧ Paired (fun p kv => SqT K H p [kV kv.1, kv.2]) ps kvs ∧
    ∀ p, H p = none → Q (.ref p) (upd H p (.dK (mergeK [] kvs)))) rDictD := by
  intro Z H S vs ds Qd Q ok rs h k
  unfold rDictD at h
  split at h
  · split at h
    · rename_i kds e
      cases rs with
      | cons r t =>
        cases t
        cases r with
        | ptp ht rr =>
          obtain ⟨ps, kvs, e1, e2, e3⟩ := reps_pairs rr e
          subst e1
          refine ⟨_, S, ps, kvs, rfl, ht, e2, fun p hp => ?_⟩
          have m : RKV K Z H S (mergeK [] kvs) (mergeD [] kds) := RKV.merge e3 .nil
          exact k _ _ _ _ (.newS hp) (.ref p) (ok.newS (o := .dK (mergeD [] kds)) hp ⟨_, upd_same, m.ext (.newS hp)⟩) (h p (ok.fresh hp))
    · exact h.elim
  · exact h.elim
end
end Dl

set_option Elab.async false
set_option linter.all false
set_option maxRecDepth 100000
set_option maxHeartbeats 2000000
namespace Dl
open PySem PySem.Spec PyProof.Rows L2 LamX
section
variable {X : Cx} {K : PySem.W.Frag} {T : Tb} {a b c e f : Expr} {es : List Expr} {pos p2 : Pos}

/-! ### a written dict with text keys: get -/
def KAns (K : PySem.W.Frag) (d : Addr) (z : Str) : Option D → Prop
  | some dd => ∃ (u : Value) (v : V), PySem.W.nsIn K d z = some (some u) ∧ RelV v u ∧ ∀ Z H S, Rep K Z H S v dd
  | none => PySem.W.nsIn K d z = some none
/-- G.get(k, x), G a written dict at d: its known answers tb -/
def dKGet (tb : List (Str × Option D)) (B C : DE) : DE := fun τ S Q => B τ S fun y S1 => C τ S1 fun z S2 => match y with
  | .str k => match tb.lookup k with
    | some (some dd) => Q dd S2
    | some none => Q z S2
    | none => False
  | _ => False
theorem x_kget {x : Str} {B C : DE} {d : Addr} {ee : Array DictEntry} {n : Nat} {tb : List (Str × Option D)} {p apos cpos : Pos} (hg : Gl X x) (hm : X.mg x = some (.ref d)) (KD : KDict X.K X.w d ee n) (hb : ∀ p ∈ tb, KAns X.K d p.1 p.2) (he : XE X T e B) (hf : XE X T f C)
    (m : M2 X (.Name x p) "get" apos e f cpos) (hdb : (x == ("__debug__" : Str)) = false := by decide) : XE X T (.Call (.Attribute (.Name x p) "get" apos) [e, f] [] cpos) (dKGet tb B C) := by
  refine ⟨fun pins s σ H Q I ⟨Z, τ, S, G, sl, ok, h, k⟩ => ?_⟩
  have mo : s.heap.MapOf (PySem.strKind X.prog X.w) d (fun k => PySem.findBy Value.isStrOf ee k) := PySem.W.mapOf_K I.kIn KD.at_ KD.lit
  refine wpAny_Call_method m.base m.few m.line PySem.F.plainAttrs_dict PySem.F.slot_dict_get PySem.F.type_dict_get (ld_glob I hg hm ⟨mo.typeIs, fun y ey => ?_, ?_⟩ hdb)
  · cases ey
    exact ⟨_, I.kIn _ _ KD.at_, rfl⟩
  rw [m.trees]
  refine Calls.callWith_builtin rfl (Calls.evalArgs_plain (Calls.spliced_cons (thn (he.go I sl ok h) fun iv s2 ⟨v2, H2, d2, S2, I2, r2, x2, rd2, ok2, q2⟩ =>
    Calls.spliced_cons (thn (hf.go I2 (sl.ext x2) ok2 q2) fun fv s3 ⟨v3, H3, d3, S3, I3, r3, x3, rd3, ok3, q3⟩ => Calls.spliced_nil ?_))))
  have mo3 : s3.heap.MapOf (PySem.strKind X.prog X.w) d (fun k => PySem.findBy Value.isStrOf ee k) := PySem.W.mapOf_K I3.kIn KD.at_ KD.lit
  cases d2 with
  | str kk =>
    have ek := rd2.str'
    subst ek
    obtain ⟨t, rfl⟩ := r2
    refine call_meetsIn PySem.F.slot_dict_get mo3.typeIs PySem.F.entry_dict_get (PySem.F.args_dict_get_3 _ _ _) (meets_dict_get_default (PySem.strKind X.prog X.w) d (PySem.strKind_is X.prog X.w kk t) KD.low fv) ⟨_, mo3, ?_⟩
    have q3 : (match tb.lookup kk with | some (some dd) => G dd S3 | some none => G d3 S3 | none => False) := q3
    split at q3
    · rename_i dd el
      obtain ⟨u, v, e1, e2, e3⟩ := hb _ (PySem.mem_of_lookup el)
      rw [PySem.W.find_K KD.at_ e1]
      exact ⟨v, H3, I3.tok _, e2, k v H3 dd S3 (x2.trans x3) (e3 Z H3 S3) ok3 q3⟩
    · rename_i el
      have e1 := hb _ (PySem.mem_of_lookup el)
      rw [PySem.W.find_K KD.at_ e1]
      exact ⟨v3, H3, I3.tok _, r3, k v3 H3 d3 S3 (x2.trans x3) rd3 ok3 q3⟩
    · exact q3.elim
  | _ => exact q3.elim

/-! ### {k: v, ..} -/
def dPairs : List (DE × DE) → DSt → Store → (List (D × D) → Store → Prop) → Prop
  | [], _, S, Q => Q [] S
  | (A, B) :: r, τ, S, Q => A τ S fun k S1 => B τ S1 fun v S2 => dPairs r τ S2 fun ps S3 => Q ((k, v) :: ps) S3
def lfPs (K : PySem.W.Frag) (T : Tb) : List (DE × DE) → List (TE × TE)
  | [] => []
  | (A, B) :: r => (lf K T A, lf K T B) :: lfPs K T r
abbrev XPs (X : Cx) (T : Tb) (pos : Pos) (keys : List (Option Expr)) (values : List Expr) (trs : List (DE × DE)) : Prop := PPs X pos keys values (lfPs X.K T trs)
theorem xp_nil : XPs X T pos [] [] [] := pps_nil
theorem xp_cons {A B : DE} {trs : List (DE × DE)} {ks : List (Option Expr)} {vs : List Expr} (ha : XE X T a A) (hb : XE X T b B) (hr : XPs X T pos ks vs trs) : XPs X T pos (some a :: ks) (b :: vs) ((A, B) :: trs) := pps_cons ha hb hr
def keyPairs : List (D × D) → Option (List (L2.Key × D))
  | [] => some []
  | (k, v) :: r => match keyOf k, keyPairs r with
    | some k, some r => some ((k, v) :: r)
    | _, _ => none
abbrev RVV (K : PySem.W.Frag) (Z : List Addr) (H : Hp) (S : Store) : List (V × V) → List (D × D) → Prop := Paired fun p q => Rep K Z H S p.1 q.1 ∧ Rep K Z H S p.2 q.2
theorem lf_pairs {Z : List Addr} {Q : List (V × V) → Hp → Prop} : ∀ {trs : List (DE × DE)} {σ : L2.St} {H : Hp} {τ : DSt} {S : Store} {G : List (D × D) → Store → Prop}, Slots K Z H S σ τ → StOk K T Z H S → dPairs trs τ S G →
    (∀ ps H' pds S', Ext H S H' S' → RVV K Z H' S' ps pds → StOk K T Z H' S' → G pds S' → Q ps H') → tPairs (lfPs K T trs) σ H Q
  | [], σ, H, τ, S, G, sl, ok, h, k => k [] H [] S (.refl _ _) .nil ok h
  | (A, B) :: r, σ, H, τ, S, G, sl, ok, h, k => ⟨Z, τ, S, _, sl, ok, h, fun v1 H1 d1 S1 x1 r1 ok1 h1 => ⟨Z, τ, S1, _, sl.ext x1, ok1, h1, fun v2 H2 d2 S2 x2 r2 ok2 h2 =>
      lf_pairs (trs := r) (G := fun ps S3 => G ((d1, d2) :: ps) S3) (sl.ext (x1.trans x2)) ok2 h2 fun ps H3 pds S3 x3 r3 ok3 h3 => k _ H3 _ S3 (x1.trans (x2.trans x3)) (.cons ⟨r1.ext (x2.trans x3), r2.ext x3⟩ r3) ok3 h3⟩⟩
theorem key_pairs {Z : List Addr} {H : Hp} {S : Store} : ∀ {ps : List (V × V)} {pds : List (D × D)} {kds : List (L2.Key × D)}, RVV K Z H S ps pds → keyPairs pds = some kds → ∃ kvs : List (L2.Key × V), ps = kvs.map (fun kv => (kV kv.1, kv.2)) ∧ RKV K Z H S kvs kds ∧ kvs.length = kds.length
  | _, _, _, .nil, e => by cases e; exact ⟨[], rfl, .nil, rfl⟩
  | _, _, _, .cons (a := p) (b := q) r t, e => by
    obtain ⟨qk, qv⟩ := q
    unfold keyPairs at e
    split at e
    · rename_i k' r' e1 e2
      cases e
      obtain ⟨kvs, h1, h2, h3⟩ := key_pairs t e2
      refine ⟨(k', p.2) :: kvs, ?_, .cons ⟨rfl, r.2⟩ h2, by simp [h3]⟩
      rw [h1, List.map_cons]
      have z := r.1.key e1
      show p :: _ = (kV k', p.2) :: _
      rw [← z]
    · cases e
def dDisp (trs : List (DE × DE)) : DE := fun τ S Q => dPairs trs τ S fun pds S1 => match keyPairs pds with
  | some kds => kds.length ≤ 15 ∧ ∀ p, S1 p = none → Q (.ref p) (ups S1 p (.dK (mergeD [] kds)))
  | none => False
theorem x_disp {keys : List (Option Expr)} {values : List Expr} {trs : List (DE × DE)} (h : XPs X T pos keys values trs) (hall : keys.all (·.isSome) = true) (hl : keys.length = values.length) (h0 : keys ≠ []) (h15 : keys.length ≤ 15) : XE X T (.Dict keys values pos) (dDisp trs) := by
  refine (pe_disp h hall hl h0 h15).imp fun σ H Q ⟨Z, τ, S, G, sl, ok, h, k⟩ => ?_
  intro p hp
  have xp : Ext H S (upd H p (.dK [])) S := .new hp
  refine lf_pairs (Z := Z) (sl.ext xp) (ok.new hp) h fun ps H1 pds S1 x1 r1 ok1 q => ?_
  have e1 : H1 p = some (.dK []) := x1.eq p _ (ok.fresh hp) upd_same fun ps z => (by cases z)
  have n1 : S1 p = none := x1.hid p _ (ok.fresh hp) upd_same fun ps z => (by cases z)
  split at q
  · rename_i kds ek
    obtain ⟨kvs, h1, h2, h3⟩ := key_pairs r1 ek
    refine ⟨e1, kvs, h1, by rw [h3]; exact q.1, ?_⟩
    have m : RKV X.K Z H1 S1 (mergeK [] kvs) (mergeD [] kds) := RKV.merge h2 .nil
    have nz : p ∉ Z := fun z => by
      obtain ⟨_, vs, e⟩ := ok1.rsv p z
      rw [e1] at e; cases e
    -- the dict, hidden so far, comes into the store
    have x2 : Ext H S (upd H1 p (.dK (mergeK [] kvs))) (ups S1 p (.dK (mergeD [] kds))) := by
      refine ⟨fun a o n e nt => ?_⟩
      have ne : a ≠ p := ne_of_none e hp
      obtain ⟨q1, q2⟩ := (xp.trans x1).st a o n e nt
      exact ⟨by rw [ups_ne ne]; exact q1, by rw [upd_ne ne]; exact q2⟩
    obtain ⟨xx, ok2⟩ := show_new (u := .dK (mergeK [] kvs)) (o := .dK (mergeD [] kds)) ok1 e1 n1 nz ⟨fun ps z => (by cases z), fun c q => codeO_not.2.1 _⟩
    exact k _ _ _ _ x2 (.ref p) (ok2 fun f fs => ⟨_, upd_same, RKV.map f m⟩) (q.2 p n1)
  · exact q.elim
where
  show_new {Z : List Addr} {H : Hp} {S : Store} {p : Addr} {u : HO} {o : MO} (ok : StOk X.K T Z H S) (e : H p = some (.dK [])) (n : S p = none) (nz : p ∉ Z) (nt : (∀ ps, HO.dK [] ≠ .tbl ps) ∧ ∀ c q, HO.dK [] ≠ CodeO c q) :
      True ∧ (((∀ v d, Rep X.K Z H S v d → Rep X.K Z (upd H p u) (ups S p o) v d) → (∀ vs ds, Reps X.K Z H S vs ds → Reps X.K Z (upd H p u) (ups S p o) vs ds) → MOk X.K Z (upd H p u) (ups S p o) p o) → StOk X.K T Z (upd H p u) (ups S p o)) := by
    refine ⟨trivial, fun m => ?_⟩
    have r1 : ∀ v d, Rep X.K Z H S v d → Rep X.K Z (upd H p u) (ups S p o) v d := fun v d r => rep_move e n r
    have r2 : ∀ vs ds, Reps X.K Z H S vs ds → Reps X.K Z (upd H p u) (ups S p o) vs ds := fun v d r => reps_move e n r
    refine ⟨tabs_upd ok.tabs (.inr ⟨_, e, nt⟩), fun z hz => ?_, fun b o' eb => ?_⟩
    · obtain ⟨q1, vs, q2⟩ := ok.rsv z hz
      have ne : z ≠ p := fun q => nz (by rw [← q]; exact hz)
      exact ⟨by rw [ups_ne ne]; exact q1, vs, by rw [upd_ne ne]; exact q2⟩
    · by_cases hb : b = p
      · subst hb; rw [ups_same] at eb; cases eb; exact m r1 r2
      · rw [ups_ne hb] at eb
        exact (ok.obj b o' eb).map r1 r2 (upd_ne hb)
  rep_move {Z : List Addr} {H : Hp} {S : Store} {p : Addr} {u : HO} {o : MO} (e : H p = some (.dK [])) (n : S p = none) : ∀ {v : V} {d : D}, Rep X.K Z H S v d → Rep X.K Z (upd H p u) (ups S p o) v d
    | _, _, .non => .non
    | _, _, .bl b => .bl b
    | _, _, .int i => .int i
    | _, _, .str z => .str z
    | _, _, .ref a => .ref a
    | _, _, .tup (a := a) h r => .tup (h.imp (fun z => by
        have ne : a ≠ p := fun q => by
          rcases z.1 with w | ⟨o, w⟩
          · rw [q, e] at w; cases w
          · rw [q, e] at w; cases w
        refine ⟨?_, by rw [ups_ne ne]; exact z.2⟩
        rcases z.1 with w | ⟨o, w⟩
        · exact .inl (by rw [upd_ne ne]; exact w)
        · exact .inr ⟨o, by rw [upd_ne ne]; exact w⟩) id) (reps_move e n r)
    | _, _, .ptp (a := a) h r => .ptp (h.imp (fun ⟨o, w, z2, z3⟩ => by
        have ne : a ≠ p := fun q => by rw [q, e] at w; cases w
        exact ⟨o, by rw [upd_ne ne]; exact w, z2, by rw [ups_ne ne]; exact z3⟩) id) (reps_move e n r)
    | _, _, .lst (a := a) h z nz r => by
        have ne : a ≠ p := fun q => by rw [q, e] at h; cases h
        exact .lst (by rw [upd_ne ne]; exact h) (by rw [ups_ne ne]; exact z) nz (reps_move e n r)
    | _, _, .scr (a := a) h => .scr (h.imp (fun z => by
        have ne : a ≠ p := fun q => by
          rcases z.1 with w | ⟨o, w⟩
          · rw [q, e] at w; cases w
          · rw [q, e] at w; cases w
        refine ⟨?_, by rw [ups_ne ne]; exact z.2.1, z.2.2⟩
        rcases z.1 with w | ⟨o, w⟩
        · exact .inl (by rw [upd_ne ne]; exact w)
        · exact .inr ⟨o, by rw [upd_ne ne]; exact w⟩) id)
    | _, _, .fn h r => .fn (h.mv fun b o' n q _ _ l => by
        have ne : b ≠ p := fun z => l (by rw [z, e] at q; exact (Option.some.inj q).symm)
        exact ⟨by rw [ups_ne ne]; exact n, by rw [upd_ne ne]; exact q⟩) (reps_move e n r)
    | _, _, .exc0 => .exc0
    | _, _, .exc1 (b := b) h z r => by
        have ne : b ≠ p := fun q => by rw [q, e] at h; cases h
        exact .exc1 (by rw [upd_ne ne]; exact h) (by rw [ups_ne ne]; exact z) (rep_move e n r)
  reps_move {Z : List Addr} {H : Hp} {S : Store} {p : Addr} {u : HO} {o : MO} (e : H p = some (.dK [])) (n : S p = none) : ∀ {vs : List V} {ds : List D}, Reps X.K Z H S vs ds → Reps X.K Z (upd H p u) (ups S p o) vs ds
    | _, _, .nil => .nil
    | _, _, .cons r t => .cons (rep_move e n r) (reps_move e n t)

/-! ### a list of the store, from now on by what it holds -/
def hide (S : Store) (p : Addr) : Store := fun a => if a = p then none else S a
theorem hide_sub (S : Store) (p : Addr) : Sub (hide S p) S := fun a o e => by
  unfold hide at e
  split at e
  · cases e
  · exact e
theorem hide_ups {S : Store} {p : Addr} {o : MO} (h : S p = none) : hide (ups S p o) p = S := by
  funext a
  unfold hide ups
  by_cases e : a = p
  · rw [if_pos e, e, h]
  · rw [if_neg e, if_neg e]
def dFrz (A : DE) : DE := fun τ S Q => A τ S fun d S1 => match d with
  | .ref p => match S1 p with
    | some (.lst es) => Q (.lst es) (hide S1 p)
    | _ => False
  | d => Q d S1
theorem x_frz {A : DE} (h : XE X T e A) : XE X T e (dFrz A) := by
  refine h.imp fun σ H Q ⟨Z, τ, S, G, sl, ok, h, k⟩ => ⟨Z, τ, S, _, sl, ok, h, fun v H1 d S1 x1 r1 ok1 q => ?_⟩
  split at q
  · rename_i p
    split at q
    · rename_i es' e1
      cases r1
      obtain ⟨ws, hw, rr⟩ := ok1.obj p _ e1
      have sb := hide_sub S1 p
      have nz : p ∉ Z := fun z => by
        rw [(ok1.rsv p z).1] at e1; cases e1
      exact k _ H1 _ _ (x1.sub sb) (.lst hw (by unfold hide; rw [if_pos rfl]) nz (rr.sub sb)) (ok1.sub sb) q
    · exact q.elim
  · exact k v H1 _ S1 x1 r1 ok1 q
end

/-! ### defs -/
/-- a def's promise over the data -/
abbrev DSp := List D → Store → DK → Prop
def lsp (K : PySem.W.Frag) (T : Tb) (dsp : DSp) : Sp := fun vs H Q _ => ∃ Z ds S R, Reps K Z H S vs ds ∧ StOk K T Z H S ∧ dsp ds S R ∧ ∀ v H' d S', Ext H S H' S' → Rep K Z H' S' v d → StOk K T Z H' S' → R d S' → Q v H'
def startD (N : List Str) (ds : List D) : DSt := ds.map some ++ List.replicate (N.length - ds.length) none
theorem slots_start {K : PySem.W.Frag} {Z : List Addr} {H : Hp} {S : Store} {N : List Str} {vs : List V} {ds : List D} (r : Reps K Z H S vs ds) : Slots K Z H S (start N vs) (startD N ds) := by
  unfold L2.start startD
  refine ⟨by simp [r.length], fun i d h => ?_⟩
  by_cases hi : i < ds.length
  · rw [List.getElem?_append_left (by simpa using hi), List.getElem?_map] at h
    cases e : ds[i]? with
    | none => rw [e] at h; cases h
    | some d' =>
      rw [e] at h
      have h := Option.some.inj (Option.some.inj h)
      subst h
      obtain ⟨v, hv, rv⟩ := r.get e
      exact ⟨v, by rw [List.getElem?_append_left (by simp [r.length]; exact hi), List.getElem?_map, hv]; rfl, rv⟩
  · rw [List.getElem?_append_right (by simpa using hi), List.getElem?_replicate] at h
    split at h <;> cases h
/-- what a body is to reach -/
abbrev ends (R : DK) : DEnds := { nx := fun _ S' => ∃ S'', Sub S'' S' ∧ R .non S'', rt := fun d S' => ∃ S'', Sub S'' S' ∧ R d S'' }
theorem eok_ends {K : PySem.W.Frag} {T : Tb} {Z : List Addr} {H : Hp} {S : Store} {Q : VK} {R : DK} (k : ∀ v H' d S', Ext H S H' S' → Rep K Z H' S' v d → StOk K T Z H' S' → R d S' → Q v H') : EOk K T Z H S { nx := fun _ H' => Q .non H', rt := Q } (ends R) :=
  ⟨fun σ H' τ S' x sl ok ⟨S'', sb, q⟩ => k _ H' _ S'' (x.sub sb) .non (ok.sub sb) q, fun v H' d S' x r ok ⟨S'', sb, q⟩ => k v H' d S'' (x.sub sb) (r.sub sb) (ok.sub sb) q, fun _ _ _ _ _ _ _ q => q.elim, fun _ _ _ _ _ _ _ q => q.elim⟩
section
variable {P : Program} {w : World} {K : PySem.W.Frag} {mg : Str → Option Value} {base : Heap} {T : Tb}
/-- a def as it stands: its name, its promise -/
structure DFn (P : Program) (w : World) (K : PySem.W.Frag) (mg : Str → Option Value) (base : Heap) (T : Tb) (k : Nat) (x : Str) (dsp : DSp) : Prop where
  ex : ∃ (fa : Addr) (fd : FuncData) (ps : List Str), mg x = some (.ref fa) ∧ PySem.W.keepIn K (.ref fa) = true ∧ Binds K fd ps [] ∧ FnOk P w K mg base CX0 k fa fd ps (lsp K T dsp)
theorem DFn.mono {j k : Nat} {x : Str} {dsp : DSp} (F : DFn P w K mg base T j x dsp) (h : j ≤ k) : DFn P w K mg base T k x dsp := let ⟨a, b, c, d, e, f, g⟩ := F.ex; ⟨a, b, c, d, e, f, g.mono h⟩
/-- THE RULE: a def by its body -/
theorem fn_d {x qual : Str} {st : Stmt} {fa : Addr} {fd : FuncData} {N ps : List Str} {k : Nat} {dsp : DSp} (F : Fun K x qual st fa fd) (S : FnScope N ps (defScope st)) (len : ∀ ds S Q, dsp ds S Q → ds.length = ps.length)
    (hbody : ∀ (cdv : Value) (A : Around) (outer : List Env) (s : Shared) (H : Hp) (E : XK), Room k (A.deeper (envOfC qual (defScope st) s.heap.objs.size fa cdv)) →
      ∃ Θ : DS, XSs (cxOf CX0 P w K mg base N qual (defScope st) fa cdv A outer s H E).nox T (defBody st) Θ ∧ ∀ ds S R, dsp ds S R → Θ (ends R) (startD N ds) S) : FnOk P w K mg base CX0 (k + 1) fa fd ps (lsp K T dsp) := by
  refine F.ok S (fun vs H Q E ⟨Z, ds, S, R, r, ok, h, _⟩ => by rw [r.length]; exact len ds S R h) fun cdv A outer s H vs Q E hr ⟨Z, ds, S0, R, r, ok, h, kk⟩ => ?_
  obtain ⟨Θ, h1, h2⟩ := hbody cdv A outer s H E hr
  exact ⟨_, h1, Z, startD N ds, S0, ends R, slots_start r, ok, h2 ds S0 R h, eok_ends kk⟩
/-- .. whose code object is known (a lambda is made in it) -/
theorem fn_dc {x qual : Str} {st : Stmt} {fa c : Addr} {oc : Value} {od an : Option Addr} {osl : Array (Option Value)} {kV doc pm ct : Value} {N ps : List Str} {k : Nat} {dsp : DSp}
    (lk : K.lookup fa = some ⟨oc, od, .func (PySem.W.fnOf x qual (defArgs st) (defBody st) (defScope st) .none kV doc pm an (.ref c) ct), osl⟩) (hcd : PySem.W.codeIn K (.ref c) qual = true) (S : FnScope N ps (defScope st)) (len : ∀ ds S Q, dsp ds S Q → ds.length = ps.length)
    (hbody : ∀ (A : Around) (outer : List Env) (s : Shared) (H : Hp) (E : XK), Room k (A.deeper (envOfC qual (defScope st) s.heap.objs.size fa (.ref c))) →
      ∃ Θ : DS, XSs (cxOf CX0 P w K mg base N qual (defScope st) fa (.ref c) A outer s H E).nox T (defBody st) Θ ∧ ∀ ds S R, dsp ds S R → Θ (ends R) (startD N ds) S) :
    FnOk P w K mg base CX0 (k + 1) fa (PySem.W.fnOf x qual (defArgs st) (defBody st) (defScope st) .none kV doc pm an (.ref c) ct) ps (lsp K T dsp) := by
  refine fn_of lk hcd S (fun vs H Q E ⟨Z, ds, S, R, r, ok, h, _⟩ => by rw [r.length]; exact len ds S R h) fun A outer s H vs Q E hr ⟨Z, ds, S0, R, r, ok, h, kk⟩ => ?_
  obtain ⟨Θ, h1, h2⟩ := hbody A outer s H E hr
  exact ⟨_, h1.nox, Z, startD N ds, S0, ends R, slots_start r, ok, h2 ds S0 R h, eok_ends kk⟩
end
section
variable {X : Cx} {T : Tb} {e : Expr} {es : List Expr} {p pos : Pos} {x : Str} {k : Nat} {dsp : DSp}
def dCall (dsp : DSp) (A : DA) : DE := fun τ S Q => A τ S fun ds S1 => dsp ds S1 Q
theorem lf_call {A : DA} (σ : L2.St) (H : Hp) (Q : VK) (h : lf X.K T (dCall dsp A) σ H Q) : tCall (lsp X.K T dsp) [] E0 (lfA X.K T A) σ H Q := by
  obtain ⟨Z, τ, S, G, sl, ok, h, kk⟩ := h
  refine ⟨Z, τ, S, _, sl, ok, h, fun vs H1 ds S1 x1 r1 ok1 h1 => ?_⟩
  show lsp X.K T dsp (vs ++ []) H1 Q E0
  rw [List.append_nil]
  exact ⟨Z, ds, S1, G, r1, ok1, h1, fun v H' d S' x => kk v H' d S' (x1.trans x)⟩
theorem x_call {A : DA} (F : DFn X.prog X.w X.K X.mg X.base T k x dsp) (hr : Room k X.A) (hg : Gl X x) (ha : XA X T (e :: es) A) (hdb : (x == ("__debug__" : Str)) = false := by decide) (he : starEach (e :: es) X.env = (false, eval e X.env) :: starEach es X.env := by rfl)
    (hpl : (backTo pos (starEach es X.env)).any (·.1) = false := by rfl) : XE X T (.Call (.Name x p) (e :: es) [] pos) (dCall dsp A) := by
  obtain ⟨fa, fd, ps, hm, hk, hb, F⟩ := F.ex
  exact (pe_call F hr hg hm hk hb .nil pass0 ha hdb he hpl).imp fun σ H Q h => lf_call σ H Q h
end

/-! ### the end of a law's row -/
def spLaw : DSp := fun ds S R => ∃ ns : List Int, ds = [.scr ns] ∧ ns.length ≤ 63 ∧ (∀ z ∈ ns, Builtin.Int.intBits z ≤ 1048576) ∧ ∀ S', R (.bl true) S'
theorem walk_d {l : PySem.W.OpenLaw} {k : Nat} {q : Program} {loose : List Str} {XP : (Str → Option Value) → Heap → Prop} {YP : World → Heap → Prop} {d : DefRec} {K : Params → PySem.W.Frag} {x : Str}
    (hn : l.most = some 63) (hdf : d.params.defaults = []) (hr : Room k callerA) (hY : ∀ (w : World) (h : Heap), YP w h → (K w.params).In h)
    (F : ∀ (w : World) (mg : Str → Option Value) (fa : Addr) (h : Heap), (K w.params).In h → h.Ns mainGlobals mg → mg d.name = some (.ref fa) →
      (∀ (y : Str) (c P : Addr), ((PyProof.Rows.recsOf q).find? (fun e => e.name == y)).isSome = true → PySem.W.tabIn (K w.params) y = some (c, P) → PySem.W.CodeHd h c P ∧ h.get? P = some { cls := .none, data := .fields #[] }) →
      ∃ (fd : FuncData) (cs : List (Addr × Addr × Str)), (∀ p ∈ cs, h.get? p.2.1 = some { cls := .none, data := .fields #[] }) ∧ (∀ p ∈ cs, (K w.params).lookup p.2.1 = none) ∧ (∀ p ∈ cs, PySem.W.CodeHd h p.1 p.2.1) ∧
        (∀ (s : Shared) (u : Value), BindsTo s fd ⟨[u], []⟩ [(x, u)]) ∧ ∀ base : Heap, (K w.params).In base → base.Ns mainGlobals mg → (∀ p ∈ cs, TabB base mg p.1 p.2.1) → FnOk l.prog w (K w.params) mg base CX0 k fa fd [x] (lsp (K w.params) (cs.map fun p => p.2) spLaw)) :
    PySem.W.WalkO q loose XP YP l.row.toRowW d [] (fun f vs => PySem.call f vs) := by
  refine Att.attach_callB hn hdf fun w s₀ s₁ mg mb fa o pm cd doc a vs ns G Y ho hd hcd hmg hobj hints hlen hbits hg => ?_
  have KX := hY w _ Y
  obtain ⟨fd, cs, hT, nT, C, hb, hF⟩ := F w mg fa _ KX G.T.g hmg fun y c P hy ht => by
    obtain ⟨dd, hdd⟩ := Option.isSome_iff_exists.mp hy
    exact PySem.W.tab_of G.T KX hdd ht
  have i : ∀ p ∈ cs.map (fun p => (p.1, p.2.1)), ∃ z ∈ cs, p = (z.1, z.2.1) := fun p hp => let ⟨z, hz, e⟩ := List.mem_map.mp hp; ⟨z, hz, e.symm⟩
  refine law_callTs (cs := cs.map fun p => (p.1, p.2.1)) (CX := CX0) KX G.T.g G.T.b G.T.builtins G.T.nolimit hg (fun p hp => ?_) (fun p hp => ?_) (fun p hp => ?_) G.T.bmain hobj hints (Nat.le_trans hlen (by rw [sizeLine_eq]; decide)) hr
    (fun base h1 h2 h3 => hF base h1 h2 fun p hp => h3 (p.1, p.2.1) (List.mem_map.mpr ⟨p, hp, rfl⟩)) hb (fun H hH hS => ?_) fun H e s' z => z
  · obtain ⟨z, hz, e⟩ := i p hp; rw [e]; exact hT z hz
  · obtain ⟨z, hz, e⟩ := i p hp; rw [e]; exact nT z hz
  · obtain ⟨z, hz, e⟩ := i p hp; rw [e]; exact C z hz
  · refine ⟨[], [.scr ns], fun _ => none, fun d _ => d = .bl true, .cons (.scr ?_) .nil, ⟨fun p hp => ?_, fun z hz => (by cases hz), fun a o e => (by cases e)⟩, ⟨ns, rfl, hlen, hbits, fun _ => rfl⟩, fun v H' d S' _ r _ e => ?_⟩
    · rcases hS with h | h
      · exact .inl ⟨h, rfl, by simp⟩
      · exact .inr h
    · obtain ⟨z, hz, e⟩ := List.mem_map.mp hp
      subst e
      exact TabS.nil (hH (z.1, z.2.1) (List.mem_map.mpr ⟨z, hz, rfl⟩))
    · subst e; exact r.bool
end Dl

set_option Elab.async false
set_option linter.all false
set_option maxRecDepth 100000
namespace Dl
open PySem PySem.Spec PyProof.Rows L2 LamX
/-! ### readings by name -/
abbrev rLtD : DR2 := rII (fun _ _ => True) fun i j => .bl (decide (i < j))
abbrev rLeD : DR2 := rII (fun _ _ => True) fun i j => .bl (decide (i ≤ j))
abbrev rGtD : DR2 := rII (fun _ _ => True) fun i j => .bl (decide (j < i))
abbrev rGeD : DR2 := rII (fun _ _ => True) fun i j => .bl (decide (j ≤ i))
abbrev rSubD : DR2 := rII (fun _ _ => True) fun i j => .int (i - j)
abbrev rModD : DR2 := rII (fun _ j => 0 < j) fun i j => .int (i % j)
abbrev rDivD : DR2 := rII CDiv fun i j => .int (i / j)
abbrev rPowD : DR2 := rII CPow fun i j => .int (i ^ j.toNat)
section
variable {X : Cx} {K : PySem.W.Frag} {T : Tb} {a b e : Expr} {pos : Pos}
/-- a name of the module and what it stands for -/
def GV (X : Cx) (x : Str) (d : D) : Prop := ∃ v u, X.mg x = some u ∧ RelV v u ∧ ∀ Z H S, Rep X.K Z H S v d
theorem x_glob {x : Str} {d : D} (hg : Gl X x) (h : GV X x d) (hd : (x == ("__debug__" : Str)) = false := by decide) : XE X T (.Name x pos) (dC d) := by
  obtain ⟨v, u, hm, r, q⟩ := h
  exact xc (pe_glob hg hm r hd) q
def dNeg (A : DE) : DE := fun τ S Q => A τ S fun d S1 => match d with
  | .int i => Q (.int (-i)) S1
  | _ => False
theorem x_neg {A : DE} (ha : XE X T a A) : XE X T (.UnaryOp .USub a pos) (dNeg A) :=
  (pe_un un_neg ha).imp fun σ H Q ⟨Z, τ, S, R, sl, ok, h, k⟩ => ⟨Z, τ, S, _, sl, ok, h, fun v H1 d S1 x1 r1 ok1 h1 => by
    cases d with
    | int i => exact ⟨i, r1.int', k _ H1 _ S1 x1 (.int _) ok1 h1⟩
    | _ => exact h1.elim⟩
/-- [x] * n, by ref -/
def rMulDR : DR2 := fun x y S Q => match x, y with
  | .lst a, .int k => -(2 ^ 63) ≤ k ∧ k < 2 ^ 63 ∧ a.length * k.toNat ≤ sizeLine ∧ ∀ p, S p = none → Q (.ref p) (ups S p (.lst (List.replicate k.toNat a).flatten))
  | _, _ => False
theorem d_mulR : Op2 K T rMulV rMulDR := by
  intro Z H S vx vy x y Qd Q ok rx ry h k
  unfold rMulDR at h
  split at h
  · obtain ⟨h1, h2, hz, q⟩ := h
    cases rx with
    | lst e1 n1 z1 r1 => exact .inr ⟨_, _, _, rfl, ry.int', e1, h1, h2, by rw [r1.length]; exact hz, fun p hp => k _ _ _ _ (.newS hp) (.ref p) (ok.newS hp (.newLst (reps_rep r1 _) hp)) (q p (ok.fresh hp))⟩
  · exact h.elim
end
abbrev rMaxD : DRL := rM2D fun i j => if j > i then j else i
abbrev rMinD : DRL := rM2D fun i j => if j < i then j else i
end Dl

set_option Elab.async false
set_option linter.all false
set_option maxRecDepth 100000
set_option maxHeartbeats 2000000
namespace Dl
open PySem PySem.Spec PyProof.Rows L2 LamX
/-! ### set(xs) of a list of ints -/
/-- an empty set's object -/
def setO0 (w : World) : Obj := { cls := .type "set", dict := none, data := .set #[] 0 (.fresh 0 0 (!w.params.followText "set-order")) }
section
variable {P : Program} {w : World} {A : Around} {E : Value → Shared → Prop} {s : Shared}
set_option maxHeartbeats 3200000 in
theorem call_setL {l : Addr} {its : Array Value} (ns : List Int) {Q : Value → Shared → Prop} (hh : A.handled = none) (hl : s.heap.IsList l its) (hi : IntsAre its.toList ns) (hb : ns.length + 1 < scanBound)
    (h : ∀ (h' : Heap) (tk c : Nat), SetR w h' s.heap.objs.size (fun j => decide (j ∈ ns)) c → c ≤ ns.length → (∀ b o, s.heap.get? b = some o → h'.get? b = some o) → Q (.ref s.heap.objs.size) { s with heap := h', toks := tk }) :
    wpAny (model P w) A (call (.type "set") [.ref l]) Q E s := by
  have zn : its.size = ns.length := (Array.length_toList ▸ IntsAre.length hi :)
  obtain ⟨c, tl, q0⟩ := PySem.F.called_set.mro
  have q1 := PySem.F.called_set.made
  have q2 := PySem.F.called_set.sub
  refine wpAny_call (codeAny_of_tree ?_); show wpAny _ _ (callAny (.type "set") _) _ _ _
  refine wpAny_pure ⟨Code.quiet_builtin _ (by decide +kernel), codeAny_builtin PySem.F.entry_type_call ?_⟩
  rw [Around.under_plain (weight_type_call_type "set" [.ref l] []) rfl]
  have q3 := PySem.F.called_set.notType
  have q4 := PySem.F.called_set.canCreate
  have q5 := PySem.F.typeCall_set_1 (.ref l)
  repeat (any_goals (first | assumption | wp_step))

  refine codeAny_mono (L2.code_set_led1 (.ref l) (E := E) (Q₁ := fun u t => u = .ref s.heap.objs.size ∧ t = { s with heap := s.heap.push (setO0 w) }) ⟨rfl, rfl⟩) fun r t hr => ?_
  rcases r with e | fl
  · exact hr
  rcases fl with obj | _ | _ | _
  all_goals first | exact hr.elim | skip
  obtain ⟨rfl, rfl⟩ := hr
  have at0 : (s.heap.push (setO0 w)).get? s.heap.objs.size = some (setO0 w) := Heap.get?_push_size _ rfl
  have ty0 : Shared.TypeIs { s with heap := s.heap.push (setO0 w) } (.ref s.heap.objs.size) "set" := ⟨_, at0, rfl⟩
  have q6 := PySem.F.called_set.init.lookup
  have q7 := PySem.F.called_set.init.bind (.ref s.heap.objs.size)
  repeat (any_goals (first | assumption | wp_step))

  refine codeAny_mono (codeAny_call_builtin (R := wants (fun u t => u = .none ∧ ∃ h' tk c, t = { s with heap := h', toks := tk } ∧ SetR w h' s.heap.objs.size (fun j => decide (j ∈ ns)) c ∧ c ≤ ns.length ∧
      ∀ b o, s.heap.get? b = some o → h'.get? b = some o) E) PySem.F.called_set.init.plain PySem.F.entry_set_init (check_set_init_1 ty0 ?_)) fun r2 t2 hr2 => ?_
  · obtain ⟨⟨ocls, odict, odata, oslots⟩, ol, cl, nl, dl⟩ := hl
    simp only at cl dl
    subst cl; subst dl
    have ol1 : (s.heap.push (setO0 w)).get? l = some { cls := .type "list", dict := odict, data := .seq its nl, slots := oslots } := Heap.get?_push_of_some _ ol
    have r1 := PySem.F.sub_list_set
    have r2 := PySem.F.sub_list_frozenset
    have r3 : (Value.type "list" == Value.type "dict") = false := by decide
    have il : (s.heap.push (setO0 w)).IsList l its := ⟨_, ol1, rfl, nl, rfl⟩
    unfold Builtin.«set.__init__» noKeywords Builtin.Frozenset.updateFrom; generalize hPI : pyIter = PI
    wp_walk
    subst hPI
    refine wpAny_pyIter_list il (wpAny_bind (wpAny_runValue ?_))
    have ls : l < s.heap.objs.size := Heap.lt_size ol
    have hh3 : A.in1.in1.in1.handled = none := by simp [hh]
    have z1 : (s.heap.push (setO0 w)).objs.size = s.heap.objs.size + 1 := Heap.size_push ..
    have ni : l ≠ (s.heap.push (setO0 w)).objs.size := by rw [z1]; exact Nat.ne_of_lt (Nat.lt_succ_of_lt ls)
    have nf : s.heap.objs.size ∉ [(s.heap.push (setO0 w)).objs.size, l] := by
      rw [z1]; simp only [List.mem_cons, List.not_mem_nil, or_false, not_or]; exact ⟨Nat.ne_of_lt (Nat.lt_succ_self _), Nat.ne_of_gt ls⟩
    have val : ∀ (i : Nat) (v : Value), its[i]? = some v → ∃ k t, ns[i]? = some k ∧ v = .int k t := fun i v hv => by
      have lt : i < ns.length := zn ▸ (Array.getElem?_eq_some_iff.mp hv).1
      obtain ⟨t, e⟩ := PyProof.Rows.IntsAre.int_at hi i v (Array.getElem?_toList ▸ hv :)
      exact ⟨ns[i], t, List.getElem?_eq_getElem lt, by rw [e, List.getD_eq_getElem?_getD, List.getElem?_eq_getElem lt] <;> rfl⟩
    refine L2.set_update_ints (Walks.list hh3 _ l ni its).toS s.heap.objs.size nf ns zn hb val (its.size - 0) 0 _ (by omega) (Nat.zero_le _) ⟨⟨_, Heap.get?_push_size _ rfl, rfl, rfl⟩, il.push _⟩ ?a0 ?a1
    case a0 => exact ⟨0, Nat.le_refl 0, L2.setR_new_at (Heap.get?_push_of_some _ at0)⟩
    case a1 =>
      rintro ⟨h', g2, d2, tk, o2⟩ c' hm lc hS
      obtain rfl : g2 = s.gens := hm.gens
      obtain rfl : d2 = s.drawn := hm.drawn
      obtain rfl : o2 = s.os := hm.os
      refine wpAny_pure ?_
      show wpAny _ _ (ret Value.none) _ _ _
      refine wpAny_pure ⟨rfl, h', tk, c', rfl, hS, by omega, fun b o e => ?_⟩
      have lb : b < s.heap.objs.size := Heap.lt_size e
      exact hm.heap b o (by rw [z1]; simp only [List.mem_cons, List.not_mem_nil, or_false, not_or]; exact ⟨Nat.ne_of_lt lb, Nat.ne_of_lt (Nat.lt_succ_of_lt lb)⟩) (Heap.get?_push_of_some _ (Heap.get?_push_of_some _ e))

  rcases r2 with e | fl
  · exact hr2
  rcases fl with obj | _ | _ | _
  all_goals first | exact hr2.elim | skip
  obtain ⟨rfl, h', tk, c', rfl, hS, lc, kp⟩ := hr2
  repeat (any_goals (first | assumption | wp_step))
  exact h _ _ _ hS lc kp
end
section
variable {X : Cx} {K : PySem.W.Frag} {T : Tb} {a b c e f : Expr} {es : List Expr} {pos p2 : Pos}
/-- set of a list, or a tuple, of ints -/
def rSetSq (K : PySem.W.Frag) (w : World) : List V → Hp → VK → Prop := fun xs H Q => ∃ (l : Addr) (ns : List Int), xs = [.ref l] ∧ (SqL K H l (ns.map V.int) ∨ SqT K H l (ns.map V.int)) ∧ ns.length ≤ 1000 ∧
  ∀ p c, H p = none → c ≤ ns.length → Q (.ref p) (upd H p (SetO w p (fun j => decide (j ∈ ns)) c))
theorem cr_setSq (hc : X.calm = true) : CallR X (.type "set") (rSetSq X.K X.w) := by
  intro pins s σ H xs us Q I r h
  obtain ⟨l, ns, rfl, hs, hl, q⟩ := h
  rw [Vals.ref1 r]
  have fin : ∀ (h' : Heap) (tk c : Nat), SetR X.w h' s.heap.objs.size (fun j => decide (j ∈ ns)) c → c ≤ ns.length → (∀ b o, s.heap.get? b = some o → h'.get? b = some o) → EP X pins σ Q (.ref s.heap.objs.size) { s with heap := h', toks := tk } := fun h' tk c R lc k =>
    ⟨.ref _, upd H s.heap.objs.size (SetO X.w s.heap.objs.size (fun j => decide (j ∈ ns)) c), I.laid (t' := tk) k (Nat.le_refl _) (setO_new R), rfl, q _ c (I.hok.fresh (Nat.le_refl _)) lc⟩
  have sb : ns.length + 1 < scanBound := by unfold scanBound; omega
  rcases hs with hs | hs
  · obtain ⟨its, rv, il, _⟩ := I.list hs
    exact call_setL ns (I.ok.hd hc) il.isList rv.ints sb fin
  · obtain ⟨its, rv, il, _⟩ := I.tuple hs
    exact L2.call_set_tupI ns (I.ok.hd hc) il rv.ints sb fin
end
end Dl

set_option Elab.async false
set_option linter.all false
set_option maxRecDepth 100000
set_option maxHeartbeats 2000000
namespace Dl
open PySem PySem.Spec PyProof.Rows L2 LamX
section
variable {X : Cx} {K : PySem.W.Frag} {T : Tb} {a b c e f : Expr} {es : List Expr} {pos p2 : Pos}
/-- sorted(set(e)): e a list, a tuple, of few ints -/
def dSortSet (A : DE) : DE := fun τ S Q => A τ S fun d S1 => ∃ ns : List Int, items S1 d = some (ns.map D.int) ∧ ns.length < 64 ∧ ∀ out : List Int, out.Pairwise (· < ·) → (∀ k, k ∈ out ↔ k ∈ ns) → Q (.lst (out.map D.int)) S1
theorem x_sortSet {A : DE} {p q p3 : Pos} (hc : X.calm = true) (hg : Gl X "sorted") (hm : X.mg "sorted" = none) (hg2 : Gl X "set") (hm2 : X.mg "set" = none) (ha : XE X T e A)
    (he : starEach [e] X.env = [(false, eval e X.env)] := by rfl) (he2 : starEach [Expr.Call (.Name "set" p) [e] [] q] X.env = [(false, eval (.Call (.Name "set" p) [e] [] q) X.env)] := by rfl) :
    XE X T (.Call (.Name "sorted" p3) [.Call (.Name "set" p) [e] [] q] [] pos) (dSortSet A) := by
  refine (pe_callB (cr_sortedSet hc) hg hm (by decide +kernel) (pa_cons (pe_callTy (cr_setSq hc) hg2 hm2 (by decide +kernel) (pa_cons ha pa_nil he) (he := he) (hpl := rfl)) pa_nil he2) (he := he2) (hpl := rfl)).imp fun σ H Q h => ?_
  obtain ⟨Z, τ, S, R, sl, ok, h, k⟩ := h
  refine ⟨Z, τ, S, _, sl, ok, h, fun v H1 d S1 x1 r1 ok1 q1 => ?_⟩
  obtain ⟨ns, ei, l64, q1⟩ := q1
  obtain ⟨p, vs, rfl, hs, rr⟩ := items_at ok1 r1 ei
  rw [rr.ints_of] at hs
  refine ⟨p, ns, rfl, hs, by omega, fun p c hp lc => ?_⟩
  refine ⟨p, _, c, rfl, upd_same, by omega, fun out p' so hmem hl hp' => ?_⟩
  have ok2 : StOk X.K T Z (upd H1 p (SetO X.w p (fun j => decide (j ∈ ns)) c)) S1 := ok1.new hp
  have x2 := x1.trans (.new (u := SetO X.w p (fun j => decide (j ∈ ns)) c) hp)
  exact k _ _ _ S1 (x2.trans (.new hp')) (.newLst (Reps.ints out) hp' (ok2.fresh hp') (ok2.nz hp')) (ok2.new hp') (q1 out so fun k => by rw [hmem k]; simp)
/-- max of a list of ints -/
def rMaxLD : DRL := fun ds S Q => match ds with
  | [d] => ∃ ns : List Int, deref S d = .lst (ns.map D.int) ∧ 0 < ns.length ∧ ∀ m, m ∈ ns → (∀ y, y ∈ ns → y ≤ m) → Q (.int m) S
  | _ => False
theorem d_maxL : CallD K T (L2.rMax K) rMaxLD := by
  intro Z H S vs ds Qd Q ok rs h k
  unfold rMaxLD at h
  split at h
  · obtain ⟨ns, e, l0, h⟩ := h
    cases rs with
    | cons r t =>
      cases t
      obtain ⟨a, xs, rfl, hs, rr⟩ := lst_at ok r e
      rw [rr.ints_of] at hs
      exact ⟨a, ns, rfl, hs, l0, fun m h1 h2 => k _ H _ S (.refl _ _) (.int _) ok (h m h1 h2)⟩
  · exact h.elim
/-- min of a list of ints -/
def rMinLD : DRL := fun ds S Q => match ds with
  | [d] => ∃ ns : List Int, deref S d = .lst (ns.map D.int) ∧ 0 < ns.length ∧ ∀ m, m ∈ ns → (∀ y, y ∈ ns → m ≤ y) → Q (.int m) S
  | _ => False
theorem d_minL : CallD K T (L2.rMin K) rMinLD := by
  intro Z H S vs ds Qd Q ok rs h k
  unfold rMinLD at h
  split at h
  · obtain ⟨ns, e, l0, h⟩ := h
    cases rs with
    | cons r t =>
      cases t
      obtain ⟨a, xs, rfl, hs, rr⟩ := lst_at ok r e
      rw [rr.ints_of] at hs
      exact ⟨a, ns, rfl, hs, l0, fun m h1 h2 => k _ H _ S (.refl _ _) (.int _) ok (h m h1 h2)⟩
  · exact h.elim
/-- x, xs[i] = e -/
def dAsgNS (A : DE) (i : Nat) (O J : DE) : DS := fun E τ S => A τ S fun d S1 => match d with
  | .tup [d1, d2] => O (τ.set i (some d1)) S1 fun o S2 => J (τ.set i (some d1)) S2 fun j S3 => match o, j with
    | .ref p, .int n => match S3 p with
      | some (.lst es) => match ixN es.length n with
        | some m => E.nx (τ.set i (some d1)) (ups S3 p (.lst (es.set m d2)))
        | none => False
      | _ => False
    | _, _ => False
  | _ => False
theorem s_asgNS {A O J : DE} {i : Nat} {x : Str} {o j : Expr} {px tpos pt : Pos} {kt : Nat} (hc : X.calm = true) (hN : X.N.Nodup) (hi : X.N[i]? = some x) (hx : Loc X.env.scope x) (he : XE X T e A) (ho : XE X T o O) (hj : XE X T j J)
    (hs : swapsWithSole [.Tuple [.Name x px, .Subscript o j tpos] kt pt] e pos.line X.env = pure false := by rfl) (hw : swappedStores [.Tuple [.Name x px, .Subscript o j tpos] kt pt] e X.env = pure none := by rfl)
    (h1 : (assignEach [.Tuple [.Name x px, .Subscript o j tpos] kt pt] X.env).map (·.2) = [assign (.Tuple [.Name x px, .Subscript o j tpos] kt pt) X.env] := by rfl)
    (hf : X.fn x = true ∨ X.env.scope.names.lookup x = some .local := by first | exact .inl rfl | exact .inr rfl | assumption)
    (ha : ∀ v, assign (.Subscript o j tpos) X.env v = (do
      let ov ← holding [v] (eval o X.env)
      let iv ← holding [v, ov] (eval j X.env)
      standAt tpos
      holding [v, ov, iv] (setItem ov iv v)
      release [v, ov, iv] []) := by intro _; rfl)
    (hs1 : (assignEach [.Name x px, .Subscript o j tpos] X.env).map (·.2) = assign (.Name x px) X.env :: (assignEach [.Subscript o j tpos] X.env).map (·.2) := by rfl)
    (hs2 : (assignEach [.Subscript o j tpos] X.env).map (·.2) = [assign (.Subscript o j tpos) X.env] := by rfl)
    (hn : (assignEach [.Name x px, .Subscript o j tpos] X.env).length = 2 := by rfl) (hst : (assignEach [.Name x px, .Subscript o j tpos] X.env).findIdx? (·.1) = none := by rfl) :
    XS X T (.Assign [.Tuple [.Name x px, .Subscript o j tpos] kt pt] e pos) (dAsgNS A i O J) := by
  refine (ps_asg he (pg_tup (n := 2) hc (pgs_cons (pg_name hN hi hx hf) (pgs_cons (pg_sub ho hj set_list ha) pgs_nil hs2) hs1) hn hst) hs hw h1).imp fun D σ H ⟨Z, τ, S, E, sl, ok, h, k⟩ => ?_
  refine ⟨Z, τ, S, _, sl, ok, h, fun v H1 d S1 x1 r1 ok1 q1 => ?_⟩
  split at q1
  · rename_i d1 d2
    obtain ⟨a, vs, rfl, ht, rr⟩ := r1.tupW
    cases rr with
    | cons rv1 rr =>
      cases rr with
      | cons rv2 rr =>
        cases rr
        rename_i v1 v2
        refine ⟨a, [v1, v2], rfl, ht, rfl, v1, [v2], rfl, v2, [], rfl, ?_⟩
        have sl1 := (sl.ext x1).set i rv1
        refine ⟨Z, _, S1, _, sl1, ok1, q1, fun vo H2 dd S2 x2 r2 ok2 q2 => ?_⟩
        refine ⟨Z, _, S2, _, sl1.ext x2, ok2, q2, fun vi H3 di S3 x3 r3 ok3 q3 => ?_⟩
        split at q3
        · rename_i p n
          split at q3
          · rename_i es' e'
            split at q3
            · rename_i m em
              cases r2
              obtain ⟨ws, hw', rr⟩ := ok3.obj p _ e'
              obtain ⟨x4, ok4⟩ := put_lst ok3 e' (rr.set m (rv2.ext (x2.trans x3)))
              have x14 := x2.trans (x3.trans x4)
              exact ⟨p, ws, n, m, rfl, r3.int', hw', by rw [rr.length]; exact em, rfl, k.nx _ _ _ _ (x1.trans x14) (sl1.ext x14) ok4 q3⟩
            · exact q3.elim
          · exact q3.elim
        · exact q3.elim
  · exact q1.elim
/-- x, y = e, f -/
def dPar (i j : Nat) (A : DA) : DS := fun E τ S => A τ S fun ds S1 => match ds with
  | [d1, d2] => E.nx ((τ.set i (some d1)).set j (some d2)) S1
  | _ => False
theorem s_par {A : DA} {i j : Nat} {x y : Str} {a b : Expr} {px py pt : Pos} {kt k2 pt2} (hc : X.calm = true) (hN : X.N.Nodup) (hi : X.N[i]? = some x) (hj : X.N[j]? = some y) (hij : i ≠ j)
    (hx : X.env.scope.names.lookup x = some .local) (hy : X.env.scope.names.lookup y = some .local) (ha : XA X T [a, b] A)
    (hw : swappedStores [.Tuple [.Name x px, .Name y py] kt pt] (.Tuple [a, b] k2 pt2) X.env = pure (some [x, y]))
    (hs : swapsWithSole [.Tuple [.Name x px, .Name y py] kt pt] (.Tuple [a, b] k2 pt2) pos.line X.env = pure false := by rfl) :
    XS X T (.Assign [.Tuple [.Name x px, .Name y py] kt pt] (.Tuple [a, b] k2 pt2) pos) (dPar i j A) := by
  refine (ps_par hc hN hi hj hij hx hy ha hw hs).imp fun D σ H ⟨Z, τ, S, E, sl, ok, h, k⟩ => ?_
  refine ⟨Z, τ, S, _, sl, ok, h, fun vs H1 ds S1 x1 rs ok1 q1 => ?_⟩
  split at q1
  · rename_i d1 d2
    cases rs with
    | cons r1 rs =>
      cases rs with
      | cons r2 rs =>
        cases rs
        exact ⟨_, _, rfl, k.nx _ _ _ _ x1 (((sl.ext x1).set i r1).set j r2) ok1 q1⟩
  · exact q1.elim

/-! ### + of tuples of any kind -/
def rCatX (K : PySem.W.Frag) : R2 := fun x y H Q => ∃ a b xs ys, x = .ref a ∧ y = .ref b ∧ SqT K H a xs ∧ SqT K H b ys ∧ xs.length + ys.length ≤ sizeLine ∧
  (xs = [] → Q (.ref b) H) ∧ (xs ≠ [] → ys = [] → Q (.ref a) H) ∧ (xs ≠ [] → ys ≠ [] → ∀ p (o : Obj), H p = none → o.dict = none → Q (.ref p) (upd H p (.frz o (.tup (xs ++ ys)))))
theorem op_catX : OpR X (binaryOp .Add) (rCatX X.K) := by
  intro pins s σ H x y v u Q I rx ry ⟨a, b, xs, ys, ex, ey, ha, hb, hz, q0, q1, q2⟩
  subst ex; subst ey
  cases rx; cases ry
  obtain ⟨its, r1, p1, _⟩ := I.tuple ha
  obtain ⟨its2, r2, p2, _⟩ := I.tuple hb
  by_cases hx : xs = []
  · subst hx
    cases r1
    exact L2.cat_tup0 p1 p2 ⟨.ref b, H, I, rfl, q0 rfl⟩
  · refine HT.cat_tup p1 p2 (fun z => hx (r1.nil_iff.mp z)) (fun z => ⟨.ref a, H, I, rfl, q1 hx (r2.nil_iff.mp z)⟩) (fun z => ?_) (by rw [← r1.length, ← r2.length]; exact hz)
    have ob : (s.heap.push { cls := .type "tuple", data := .seq (its ++ its2).toArray }).get? s.heap.objs.size = some { cls := .type "tuple", data := .seq (its ++ its2).toArray } := Heap.get?_push_size _ rfl
    exact ⟨.ref s.heap.objs.size, _, I.laid (a := s.heap.objs.size) (o := .frz { cls := .type "tuple", data := .seq (its ++ its2).toArray } (.tup (xs ++ ys))) (t' := s.toks) (fun b o e => Heap.get?_push_of_some _ e) (Nat.le_refl _)
      ⟨ob, by rw [List.length_append]; exact hz, _, r1.append r2, IsTup.new _ _⟩, rfl, q2 hx (fun w => z (r2.nil_iff.mpr w)) _ _ (I.hok.fresh (Nat.le_refl _)) rfl⟩
theorem o_catX : Op2 K T (rCatX K) (fun x y S Q => ∃ a b, ((x = .tup a ∧ y = .tup b ∧ Q (.tup (a ++ b)) S) ∨ (x = .ptp a ∧ y = .ptp b ∧ Q (.ptp (a ++ b)) S)) ∧ a.length + b.length ≤ sizeLine) := by
  intro Z H S vx vy x y Qd Q ok rx ry ⟨a, b, h, hz⟩ k
  rcases h with ⟨rfl, rfl, q⟩ | ⟨rfl, rfl, q⟩
  · cases rx with
    | tup h1 r1 =>
      cases ry with
      | tup h2 r2 =>
        refine ⟨_, _, _, _, rfl, rfl, h1.sq, h2.sq, by rw [r1.length, r2.length]; exact hz, fun e => ?_, fun _ e => ?_, fun _ _ p o hp ho => ?_⟩
        · subst e; cases r1
          exact k _ H _ S (.refl _ _) (.tup h2 r2) ok q
        · subst e; cases r2
          rw [List.append_nil] at q
          exact k _ H _ S (.refl _ _) (.tup h1 r1) ok q
        · exact k _ _ _ S (.new hp) (.tup (.inl ⟨.inr ⟨o, upd_same⟩, ok.fresh hp⟩) ((r1.append r2).ext (.new hp))) (ok.new hp) q
  · cases rx with
    | ptp h1 r1 =>
      cases ry with
      | ptp h2 r2 =>
        refine ⟨_, _, _, _, rfl, rfl, h1.sq, h2.sq, by rw [r1.length, r2.length]; exact hz, fun e => ?_, fun _ e => ?_, fun _ _ p o hp ho => ?_⟩
        · subst e; cases r1
          exact k _ H _ S (.refl _ _) (.ptp h2 r2) ok q
        · subst e; cases r2
          rw [List.append_nil] at q
          exact k _ H _ S (.refl _ _) (.ptp h1 r1) ok q
        · exact k _ _ _ S (.new hp) (.newPtp (r1.append r2) hp (ok.fresh hp) ho) (ok.new hp) q
def rAddXD : DR2 := fun x y S Q => match x, y with
  | .int i, .int j => Q (.int (i + j)) S
  | .tup a, .tup b => a.length + b.length ≤ sizeLine ∧ Q (.tup (a ++ b)) S
  | .ptp a, .ptp b => a.length + b.length ≤ sizeLine ∧ Q (.ptp (a ++ b)) S
  | .lst a, .lst b => a.length + b.length ≤ sizeLine ∧ Q (.lst (a ++ b)) S
  | _, _ => False
abbrev rAddXV (K : PySem.W.Frag) : R2 := fun x y H Q => (rI0 (fun i j => .int (i + j)) x y H Q ∨ rCatX K x y H Q) ∨ rCat x y H Q
theorem op_addX : OpR X (binaryOp .Add) (rAddXV X.K) := (op_add.or op_catX).or op_cat
theorem d_addX : Op2 K T (rAddXV K) rAddXD := ((o_int0.or o_catX).or o_cat).imp fun x y S Q h => by
  unfold rAddXD at h
  split at h
  · exact .inl (.inl ⟨_, _, rfl, rfl, h⟩)
  · exact .inl (.inr ⟨_, _, .inl ⟨rfl, rfl, h.2⟩, h.1⟩)
  · exact .inl (.inr ⟨_, _, .inr ⟨rfl, rfl, h.2⟩, h.1⟩)
  · exact .inr ⟨_, _, rfl, rfl, h.1, h.2⟩
  · exact h.elim
/-! ### {} -/
def dNewK : DE := fun _ S Q => ∀ p, S p = none → Q (.ref p) (ups S p (.dK []))
def dNewT : DE := fun _ S Q => ∀ p, S p = none → Q (.ref p) (ups S p (.dT []))
theorem x_newK : XE X T (.Dict [] [] pos) dNewK :=
  pe_dnewK.imp fun σ H Q ⟨Z, τ, S, R, sl, ok, h, k⟩ => fun p hp => k _ _ _ _ (.newS hp) (.ref p) (ok.newS (o := .dK []) hp ⟨[], upd_same, .nil⟩) (h p (ok.fresh hp))
theorem x_newT : XE X T (.Dict [] [] pos) dNewT :=
  pe_dnewT.imp fun σ H Q ⟨Z, τ, S, R, sl, ok, h, k⟩ => fun p hp => k _ _ _ _ (.newS hp) (.ref p) (ok.newS (o := .dT []) hp ⟨[], upd_same, .nil⟩) (h p (ok.fresh hp))

/-! ### x in d -/
def rInKV (neg : Bool) : R2 := fun x y H Q => ∃ a o, y = .ref a ∧ DGet H a x o ∧ Q (.bl (if neg then !o.isSome else o.isSome)) H
theorem op_inK (hu : X.A.units + 1 < cLine) : OpR X (compareOp .In) (rInKV false) := by
  intro pins s σ H x y v u Q I rx ry ⟨a, o, e, g, q⟩
  subst e
  obtain rfl : u = Value.ref a := ry
  exact L2.d_in hu I g rx fun s3 I3 => ⟨.bl o.isSome, H, I3, rfl, q⟩
theorem op_notInK (hu : X.A.units + 1 < cLine) : OpR X (compareOp .NotIn) (rInKV true) := by
  intro pins s σ H x y v u Q I rx ry ⟨a, o, e, g, q⟩
  subst e
  obtain rfl : u = Value.ref a := ry
  exact L2.d_notIn hu I g rx fun s3 I3 => ⟨.bl (!o.isSome), H, I3, rfl, q⟩
def rInKD (neg : Bool) : DR2 := fun x y S Q => match y with
  | .ref p => match S p with
    | some (.dK kvs) => match keyOf x with
      | some k => Q (.bl (if neg then !(valD kvs k).isSome else (valD kvs k).isSome)) S
      | none => False
    | _ => False
  | _ => False
theorem d_inK (neg : Bool) : Op2 K T (rInKV neg) (rInKD neg) := by
  intro Z H S vx vy x y Qd Q ok rx ry h k
  unfold rInKD at h
  split at h
  · rename_i p
    cases ry
    split at h
    · rename_i kvs e
      split at h
      · rename_i key ek
        obtain ⟨vs, hv, rr⟩ := ok.obj p _ e
        rw [rx.key ek]
        have fin : ∀ o : Option V, o.isSome = (valD kvs key).isSome → Q (.bl (if neg then !o.isSome else o.isSome)) H := fun o eo => by
          rw [eo]
          exact k _ H _ S (.refl _ _) (.bl _) ok h
        refine ⟨p, valV vs key, rfl, .k hv, fin _ ?_⟩
        rcases rr.val (k := key) with ⟨h1, h2⟩ | ⟨v, d, h1, h2, _⟩
        · rw [h1, h2]; rfl
        · rw [h1, h2]; rfl
      · exact h.elim
    · exact h.elim
  · exact h.elim
end
end Dl

set_option Elab.async false
set_option linter.all false
set_option maxRecDepth 100000
set_option maxHeartbeats 2000000
namespace Dl
open PySem PySem.Spec PyProof.Rows L2 LamX
/-! ### statements that may raise own errors (classes without fields) -/
/-- what the ends give, the wish of errors too -/
structure EOkx (K : PySem.W.Frag) (T : Tb) (Z : List Addr) (H : Hp) (S : Store) (W : WX) (D : Ends) (E : DEnds) : Prop extends EOk K T Z H S D E where
  xx : ∀ C σ H' τ S', Ext H S H' S' → Slots K Z H' S' σ τ → StOk K T Z H' S' → E.ex C τ S' → W (.ref C) none σ H'
theorem EOkx.later {K : PySem.W.Frag} {T : Tb} {Z : List Addr} {H H' : Hp} {S S' : Store} {W : WX} {D : Ends} {E : DEnds} (e : EOkx K T Z H S W D E) (x : Ext H S H' S') : EOkx K T Z H' S' W D E :=
  ⟨e.toEOk.later x, fun C σ H2 τ S2 y => e.xx C σ H2 τ S2 (x.trans y)⟩
def lfSx (K : PySem.W.Frag) (T : Tb) (W : WX) (Θ : DS) : TS := fun D σ H => ∃ Z τ S E, Slots K Z H S σ τ ∧ StOk K T Z H S ∧ Θ E τ S ∧ EOkx K T Z H S W D E
abbrev XSx (X : Cx) (T : Tb) (W : WX) (st : Stmt) (Θ : DS) : Prop := PS X st (lfSx X.K T W Θ)
abbrev XSsx (X : Cx) (T : Tb) (W : WX) (st : List Stmt) (Θ : DS) : Prop := PSs X st (lfSx X.K T W Θ)
theorem EOkx.nxt {K : PySem.W.Frag} {T : Tb} {Z : List Addr} {H : Hp} {S : Store} {W : WX} {D : Ends} {E : DEnds} {B : DS} (e : EOkx K T Z H S W D E) : EOkx K T Z H S W { D with nx := lfSx K T W B D } { E with nx := B E } :=
  ⟨⟨fun σ H' τ S' x sl ok h => ⟨Z, τ, S', E, sl, ok, h, e.later x⟩, e.rt, e.bk, e.ct⟩, e.xx⟩
section
variable {X : Cx} {K : PySem.W.Frag} {T : Tb} {W : WX} {a b c e f : Expr} {es : List Expr} {st : Stmt} {sts : List Stmt} {pos p2 : Pos} {A B : DS}
theorem XS.x (h : XS X T st A) : XSx X T W st A := h.imp fun D σ H ⟨Z, τ, S, E, sl, ok, h, k⟩ => ⟨Z, τ, S, E, sl, ok, h, k.toEOk⟩
theorem XSs.x (h : XSs X T sts A) : XSsx X T W sts A := h.imp fun D σ H ⟨Z, τ, S, E, sl, ok, h, k⟩ => ⟨Z, τ, S, E, sl, ok, h, k.toEOk⟩
theorem sx_nil : XSsx X T W [] dNext := XSs.x s_nil
theorem sx_cons (h1 : XSx X T W st A) (h2 : XSsx X T W sts B) : XSsx X T W (st :: sts) (dSeq A B) :=
  (pss_cons h1 h2).imp fun D σ H ⟨Z, τ, S, E, sl, ok, h, k⟩ => ⟨Z, τ, S, _, sl, ok, h, k.nxt⟩
theorem sx_one (h1 : XSx X T W st A) : XSsx X T W [st] A := pss_one h1
theorem sx_if {C : DT} {sa sb : List Stmt} (hc : XT X T c C) (ha : XSsx X T W sa A) (hb : XSsx X T W sb B) : XSx X T W (.If c sa sb pos) (dIfS C A B) :=
  (ps_if hc ha hb).imp fun D σ H ⟨Z, τ, S, E, sl, ok, h, k⟩ => ⟨Z, τ, S, _, sl, ok, h, fun x H1 S1 x1 ok1 h1 => by
    cases x with
    | true => exact ⟨Z, τ, S1, E, sl.ext x1, ok1, h1, k.later x1⟩
    | false => exact ⟨Z, τ, S1, E, sl.ext x1, ok1, h1, k.later x1⟩⟩
theorem sx_for {tgt iter : Expr} {body : List Stmt} {I : DI} {tg : Tg} (hp : PassesOwn (model X.prog X.w) X.A X.env X.xe) (hc : X.calm = true) (hi : XI X T tg tgt iter I) (hg : PG X tgt (tg.g X.K)) (hb : XSsx X T W body B)
    (hs : ∀ x, foldedSetIterable iter X.env x = pure x := by intro _; rfl) : XSx X T W (.For tgt iter body [] pos) (dFor I tg B) := by
  refine (ps_for hp hc hi hg hb hs).imp fun D σ H ⟨Z, τ, S, E, sl, ok, h, k⟩ => ?_
  refine ⟨Z, τ, S, _, sl, ok, h, fun J H1 ds S1 x1 ok1 wk q => ?_⟩
  have sl1 := sl.ext x1
  refine ⟨fun i m σ' H' => m = ds.length - i ∧ i ≤ ds.length ∧ ∃ τ' S', Ext H1 S1 H' S' ∧ Slots X.K Z H' S' σ' τ' ∧ StOk X.K T Z H' S' ∧ loopD tg B E (ds.drop i) τ' S', ⟨ds.length, by simp, Nat.zero_le _, τ, S1, .refl _ _, sl1, ok1, by simpa using q⟩, ?_⟩
  rintro i m σ' H' ⟨rfl, hi', τ', S', x2, sl2, ok2, q2⟩
  by_cases hlt : i < ds.length
  · rw [drop_at hlt] at q2
    refine .inr ⟨wk.go i H' S' x2 hlt, fun σ2 H2 => ∃ τ2 S2, Ext H1 S1 H2 S2 ∧ Slots X.K Z H2 S2 σ2 τ2 ∧ StOk X.K T Z H2 S2 ∧ loopD tg B E (ds.drop (i + 1)) τ2 S2, fun σ2 H2 ⟨τ2, S2, a1, a2, a3, a4⟩ => ⟨ds.length - (i + 1), by omega, rfl, hlt, τ2, S2, a1, a2, a3, a4⟩, fun v H2 y => ?_⟩
    obtain ⟨x3, ok3, r3⟩ := wk.yld Z i ds[i] H' S' v H2 (fun _ h => .inl h) x2 ok2 (by simp [hlt]) y
    unfold loopD at q2
    cases et : tg.d τ' ds[i] with
    | none => rw [et] at q2; exact q2.elim
    | some τ'' =>
      rw [et] at q2
      refine Tg.of r3 (sl2.ext x3) et fun σ3 sl3 _ => ⟨Z, τ'', S', _, sl3, ok3, q2, ?_⟩
      have kl := k.later (x1.trans (x2.trans x3))
      exact ⟨⟨fun σ4 H4 τ4 S4 x4 s4 o4 h4 => ⟨τ4, S4, x2.trans (x3.trans x4), s4, o4, h4⟩, kl.rt, fun σ4 H4 τ4 S4 x4 s4 o4 h4 => kl.nx σ4 H4 τ4 S4 x4 s4 o4 h4, fun σ4 H4 τ4 S4 x4 s4 o4 h4 => ⟨τ4, S4, x2.trans (x3.trans x4), s4, o4, h4⟩⟩, kl.xx⟩
  · have e : i = ds.length := by omega
    subst e
    rw [List.drop_length] at q2
    exact .inl ⟨wk.stop _ H' S' x2 (Nat.le_refl _), (k.later (x1.trans x2)).nx σ' H' τ' S' (.refl _ _) sl2 ok2 q2⟩
/-- raise C('..') -/
def dRaise (C : Addr) : DS := fun E τ S => E.ex C τ S
theorem sx_raise {C : Addr} {bmB : List Value} {B newId initId : String} {x m : Str} {j : Nat} {p p2 pos pos2 : Pos} (hc : X.calm = true) (tk : Takes X W) (F : ExcBaseFacts B newId initId bmB) (q : PySem.W.excIn X.K C bmB newId = true) (gC : X.mg x = some (.ref C)) (kC : PySem.W.keepIn X.K (.ref C) = true)
    (b1 : PySem.W.subIn X.K (.ref C) (.type "BaseException") = some true) (t1 : PySem.W.typeIn X.K (.ref C) = some (.type "type")) (hg : Gl X x) (hdb : (x == ("__debug__" : Str)) = false := by decide) : XSx X T W (.Raise (some (.Call (.Name x p) [.Constant (.str m) j p2] [] pos)) none pos2) (dRaise C) :=
  (ps_raise hc tk (pmk_own F q gC kC (raises_own b1 t1) hg hdb)).imp fun D σ H ⟨Z, τ, S, E, sl, ok, h, k⟩ => k.xx C σ H τ S (.refl _ _) sl ok h
/-! ### defs that may raise -/
abbrev DSx := List D → Store → DK → (Addr → Store → Prop) → Prop
def lspx (K : PySem.W.Frag) (T : Tb) (dsp : DSx) : Sp := fun vs H Q E => ∃ Z ds S R RE, Reps K Z H S vs ds ∧ StOk K T Z H S ∧ dsp ds S R RE ∧ (∀ v H' d S', Ext H S H' S' → Rep K Z H' S' v d → StOk K T Z H' S' → R d S' → Q v H') ∧
  ∀ C H' S', Ext H S H' S' → StOk K T Z H' S' → RE C S' → E (.ref C) none H'
abbrev endsx (R : DK) (RE : Addr → Store → Prop) : DEnds := { nx := fun _ S' => ∃ S'', Sub S'' S' ∧ R .non S'', rt := fun d S' => ∃ S'', Sub S'' S' ∧ R d S'', ex := fun C _ S' => ∃ S'', Sub S'' S' ∧ RE C S'' }
end
section
variable {P : Program} {w : World} {K : PySem.W.Frag} {mg : Str → Option Value} {base : Heap} {T : Tb}
structure DFx (P : Program) (w : World) (K : PySem.W.Frag) (mg : Str → Option Value) (base : Heap) (T : Tb) (k : Nat) (x : Str) (dsp : DSx) : Prop where
  ex : ∃ (fa : Addr) (fd : FuncData) (ps : List Str), mg x = some (.ref fa) ∧ PySem.W.keepIn K (.ref fa) = true ∧ Binds K fd ps [] ∧ FnOk P w K mg base (L2.CX P w) k fa fd ps (lspx K T dsp)
theorem DFx.mono {j k : Nat} {x : Str} {dsp : DSx} (F : DFx P w K mg base T j x dsp) (h : j ≤ k) : DFx P w K mg base T k x dsp := let ⟨a, b, c, d, e, f, g⟩ := F.ex; ⟨a, b, c, d, e, f, g.mono h⟩
/-- a def that may raise, by its body -/
theorem fn_dx {x qual : Str} {st : Stmt} {fa : Addr} {fd : FuncData} {N ps : List Str} {k : Nat} {dsp : DSx} (F : Fun K x qual st fa fd) (S : FnScope N ps (defScope st)) (len : ∀ ds S Q E, dsp ds S Q E → ds.length = ps.length)
    (hbody : ∀ (cdv : Value) (A : Around) (outer : List Env) (s : Shared) (H : Hp) (E : XK), Room k (A.deeper (envOfC qual (defScope st) s.heap.objs.size fa cdv)) →
      ∃ Θ : DS, XSsx (cxOf (L2.CX P w) P w K mg base N qual (defScope st) fa cdv A outer s H E) T (fun cls d _ H => E cls d H) (defBody st) Θ ∧ ∀ ds S R RE, dsp ds S R RE → Θ (endsx R RE) (startD N ds) S) : FnOk P w K mg base (L2.CX P w) (k + 1) fa fd ps (lspx K T dsp) := by
  refine F.okX S (fun vs H Q E ⟨Z, ds, S, R, RE, r, ok, h, _⟩ => by rw [r.length]; exact len ds S R RE h) fun cdv A outer s H vs Q E hr ⟨Z, ds, S0, R, RE, r, ok, h, kk, kx⟩ => ?_
  obtain ⟨Θ, h1, h2⟩ := hbody cdv A outer s H E hr
  refine ⟨_, h1, Z, startD N ds, S0, endsx R RE, slots_start r, ok, h2 ds S0 R RE h, ⟨fun σ H' τ S' x sl ok ⟨S'', sb, q⟩ => kk _ H' _ S'' (x.sub sb) .non (ok.sub sb) q, fun v H' d S' x r ok ⟨S'', sb, q⟩ => kk v H' d S'' (x.sub sb) (r.sub sb) (ok.sub sb) q, fun _ _ _ _ _ _ _ q => q.elim, fun _ _ _ _ _ _ _ q => q.elim⟩, fun C σ H' τ S' x sl ok ⟨S'', sb, q⟩ => kx C H' S'' (x.sub sb) (ok.sub sb) q⟩
end
section
variable {X : Cx} {T : Tb} {W : WX} {e : Expr} {es : List Expr} {p pos pos2 : Pos} {x : Str} {k : Nat} {dsp : DSx}
/-- called where nothing is to be let out -/
def dCallN (dsp : DSx) (A : DA) : DE := fun τ S Q => A τ S fun ds S1 => dsp ds S1 Q fun _ _ => False
theorem x_callN {A : DA} (F : DFx X.prog X.w X.K X.mg X.base T k x dsp) (hr : Room k X.A) (hg : Gl X x) (ha : XA X T (e :: es) A) (hdb : (x == ("__debug__" : Str)) = false := by decide) (he : starEach (e :: es) X.env = (false, eval e X.env) :: starEach es X.env := by rfl)
    (hpl : (backTo pos (starEach es X.env)).any (·.1) = false := by rfl) : XE X T (.Call (.Name x p) (e :: es) [] pos) (dCallN dsp A) := by
  obtain ⟨fa, fd, ps, hm, hk, hb, F⟩ := F.ex
  refine (pe_call F hr hg hm hk hb .nil L2.passL ha hdb he hpl).imp fun σ H Q ⟨Z, τ, S, G, sl, ok, h, kk⟩ => ?_
  refine ⟨Z, τ, S, _, sl, ok, h, fun vs H1 ds S1 x1 r1 ok1 h1 => ?_⟩
  show lspx X.K T dsp (vs ++ []) H1 Q E0
  rw [List.append_nil]
  exact ⟨Z, ds, S1, G, _, r1, ok1, h1, fun v H' d S' x => kk v H' d S' (x1.trans x), fun _ _ _ _ _ z => z.elim⟩
/-- a call that may raise, its value dropped -/
def dDropX (dsp : DSx) (A : DA) : DS := fun E τ S => A τ S fun ds S1 => dsp ds S1 (fun _ S2 => E.nx τ S2) fun C S2 => E.ex C τ S2
theorem sx_callX {A : DA} (tk : Takes X W) (F : DFx X.prog X.w X.K X.mg X.base T k x dsp) (hr : Room k X.A) (hg : Gl X x) (ha : XA X T (e :: es) A) (hdb : (x == ("__debug__" : Str)) = false := by decide) (he : starEach (e :: es) X.env = (false, eval e X.env) :: starEach es X.env := by rfl)
    (hpl : (backTo pos (starEach es X.env)).any (·.1) = false := by rfl) (hs : swapsWith (.Call (.Name x p) (e :: es) [] pos) none pos2.line X.env = pure false := by rfl) : XSx X T W (.Expr (.Call (.Name x p) (e :: es) [] pos) pos2) (dDropX dsp A) := by
  obtain ⟨fa, fd, ps, hm, hk, hb, F⟩ := F.ex
  refine (ps_expr (pe_callS F hr hg hm hk hb (fun σ => passAt tk σ) ha hdb he hpl) hs).imp fun D σ H ⟨Z, τ, S, E, sl, ok, h, kk⟩ => ?_
  refine ⟨Z, τ, S, _, sl, ok, h, fun vs H1 ds S1 x1 r1 ok1 h1 => ?_⟩
  exact ⟨Z, ds, S1, _, _, r1, ok1, h1, fun v H' d S' x r ok' q => kk.nx σ H' τ S' (x1.trans x) (sl.ext (x1.trans x)) ok' q, fun C H' S' x ok' q => kk.xx C σ H' τ S' (x1.trans x) (sl.ext (x1.trans x)) ok' q⟩
/-- return f(..), f may raise -/
def dRetX (dsp : DSx) (A : DA) : DS := fun E τ S => A τ S fun ds S1 => dsp ds S1 E.rt fun C S2 => E.ex C τ S2
theorem sx_retX {A : DA} (tk : Takes X W) (F : DFx X.prog X.w X.K X.mg X.base T k x dsp) (hr : Room k X.A) (hg : Gl X x) (ha : XA X T (e :: es) A) (hdb : (x == ("__debug__" : Str)) = false := by decide) (he : starEach (e :: es) X.env = (false, eval e X.env) :: starEach es X.env := by rfl)
    (hpl : (backTo pos (starEach es X.env)).any (·.1) = false := by rfl) : XSx X T W (.Return (some (.Call (.Name x p) (e :: es) [] pos)) pos2) (dRetX dsp A) := by
  obtain ⟨fa, fd, ps, hm, hk, hb, F⟩ := F.ex
  refine (ps_ret (pe_callS F hr hg hm hk hb (fun σ => passAt tk σ) ha hdb he hpl)).imp fun D σ H ⟨Z, τ, S, E, sl, ok, h, kk⟩ => ?_
  refine ⟨Z, τ, S, _, sl, ok, h, fun vs H1 ds S1 x1 r1 ok1 h1 => ?_⟩
  exact ⟨Z, ds, S1, _, _, r1, ok1, h1, fun v H' d S' x r ok' q => kk.rt v H' d S' (x1.trans x) r ok' q, fun C H' S' x ok' q => kk.xx C σ H' τ S' (x1.trans x) (sl.ext (x1.trans x)) ok' q⟩
/-! ### try .. except X -/
/-- the body's errors: those of the clause's class go to the suite, the others out -/
def dTry (K : PySem.W.Frag) (c : Value) (A B : DS) : DS := fun E τ S => A { E with ex := fun C τ' S' => ∃ b, PySem.W.exmOne K (.ref C) c = some b ∧ if b = true then B E τ' S' else E.ex C τ' S' } τ S
theorem sx_try {A B : DS} {xn : Str} {c : Value} {body suite : List Stmt} {b₀ : Stmt} {np pos' : Pos} (hs : X.stack = X.env :: X.outer) (hf : X.env.frame = some X.env.locals) (hc : Names X xn c) (tk : Takes X W)
    (hb : ∀ (W' : WX) (pn : List (Addr × Obj)) (xe : Value → Shared → Prop), Takes (X.tr pn xe) W' → PassesOwn (model X.prog X.w) X.A X.env xe → XSsx (X.tr pn xe) T W' body A)
    (hsu : ∀ (a : Addr) (oe : Obj) (cls : Value) (d : Option Addr) (pn : List (Addr × Obj)), Zc cls d oe → (∃ vs, oe.data = .fields vs) → XSs (X.suite a ((a, oe) :: pn)) T (b₀ :: suite) B) :
    XSx X T W (.Try body [.ExceptHandler (some (.Name xn np)) none (b₀ :: suite) pos'] [] [] pos) (dTry X.K c A B) := by
  refine (ps_try_only (tb := fun W2 => lfSx X.K T W2 A) (ts := fun _ _ _ => lfS X.K T B) hs hf hc tk hb hsu).imp fun D σ H ⟨Z, τ, S, E, sl, ok, h, k⟩ => ?_
  refine ⟨Z, τ, S, _, sl, ok, h, ⟨k.nx, k.rt, k.bk, k.ct⟩, fun C σ' H' τ' S' x sl' ok' ⟨b, e1, q⟩ => ?_⟩
  refine ⟨b, e1, fun eb a na => ?_, fun eb => ?_⟩
  · rw [if_pos eb] at q
    exact ⟨Z, τ', S', E, sl', ok', q, k.toEOk.later x⟩
  · rw [if_neg (by rw [eb]; decide)] at q
    exact k.xx C σ' H' τ' S' x sl' ok' q
/-- in a def that lets nothing out -/
theorem s_try {A B : DS} {xn : Str} {c : Value} {body suite : List Stmt} {b₀ : Stmt} {np pos' : Pos} (hs : X.stack = X.env :: X.outer) (hf : X.env.frame = some X.env.locals) (hc : Names X xn c)
    (hb : ∀ (W' : WX) (pn : List (Addr × Obj)) (xe : Value → Shared → Prop), Takes (X.tr pn xe) W' → PassesOwn (model X.prog X.w) X.A X.env xe → XSsx (X.tr pn xe) T W' body A)
    (hsu : ∀ (a : Addr) (oe : Obj) (cls : Value) (d : Option Addr) (pn : List (Addr × Obj)), Zc cls d oe → (∃ vs, oe.data = .fields vs) → XSs (X.suite a ((a, oe) :: pn)) T (b₀ :: suite) B) :
    XS X T (.Try body [.ExceptHandler (some (.Name xn np)) none (b₀ :: suite) pos'] [] [] pos) (fun E τ S => dTry X.K c A B { E with ex := fun _ _ _ => False } τ S) :=
  (sx_try (W := fun _ _ _ _ => False) hs hf hc L2.takes0 hb hsu).imp fun D σ H ⟨Z, τ, S, E, sl, ok, h, k⟩ => ⟨Z, τ, S, _, sl, ok, h, ⟨k.nx, k.rt, k.bk, k.ct⟩, fun _ _ _ _ _ _ _ _ z => z.elim⟩
end
/-- an own error class, as the top left it -/
structure Ecl (K : PySem.W.Frag) (mg : Str → Option Value) (x : Str) (C : Addr) : Prop where
  q : PySem.W.excIn K C [.type "ValueError", .type "Exception", .type "BaseException", .type "object"] "ValueError.__new__" = true
  g : mg x = some (.ref C)
  k : PySem.W.keepIn K (.ref C) = true
  b : PySem.W.subIn K (.ref C) (.type "BaseException") = some true
  t : PySem.W.typeIn K (.ref C) = some (.type "type")
  m : PySem.W.exmOne K (.ref C) (.ref C) = some true
theorem exm_sub {K : PySem.W.Frag} {S C : Addr} {v : Bool} (h1 : PySem.W.subIn K (.ref S) (.type "BaseException") = some true) (h2 : PySem.W.isClsIn K S = true) (h3 : PySem.W.typeIn K (.ref S) = some (.type "type")) (h4 : PySem.W.subIn K (.ref C) (.ref S) = some v) :
    PySem.W.exmOne K (.ref C) (.ref S) = some v := by
  unfold PySem.W.exmOne
  rw [h1, if_pos (by decide)]
  show (if ((PySem.W.clsIn K S).isSome && PySem.W.typeIn K (.ref S) == some (.type "type")) = true then PySem.W.subIn K (.ref C) (.ref S) else none) = some v
  have h2' : (PySem.W.clsIn K S).isSome = true := h2
  rw [h2', h3]
  exact (if_pos (by decide)).trans h4
end Dl

set_option Elab.async false
set_option linter.all false
set_option maxRecDepth 100000
set_option maxHeartbeats 2000000
namespace Dl
open PySem PySem.Spec PyProof.Rows L2 LamX
section
variable {X : Cx} {K : PySem.W.Frag} {T : Tb} {a b c e f : Expr} {es : List Expr} {pos p2 : Pos}
/-! ### dicts with nested keys -/
mutual
theorem Rep.kvr {Z : List Addr} {H : Hp} {S : Store} : ∀ {d : D} {v : V} {k : Kt}, Rep K Z H S v d → ktOf d = some k → KVr K H k v
  | .int i, _, _, .int _, e => by simp only [ktOf] at e; cases e; exact .int i
  | .tup ds, _, k, .tup h r, e => by
    simp only [ktOf, Option.map_eq_some_iff] at e
    obtain ⟨ks, e, rfl⟩ := e
    exact .tup h.sq (Reps.kvrs r e)
  | .ptp ds, _, k, .ptp h r, e => by
    simp only [ktOf, Option.map_eq_some_iff] at e
    obtain ⟨ks, e, rfl⟩ := e
    exact .tup h.sq (Reps.kvrs r e)
  | .non, _, _, _, e => by simp [ktOf] at e
  | .bl b, _, _, _, e => by simp [ktOf] at e
  | .str b, _, _, _, e => by simp [ktOf] at e
  | .lst b, _, _, _, e => by simp [ktOf] at e
  | .scr b, _, _, _, e => by simp [ktOf] at e
  | .fn .., _, _, _, e => by simp [ktOf] at e
  | .exc .., _, _, _, e => by simp [ktOf] at e
  | .ref b, _, _, _, e => by simp [ktOf] at e
theorem Reps.kvrs {Z : List Addr} {H : Hp} {S : Store} : ∀ {ds : List D} {vs : List V} {ks : List Kt}, Reps K Z H S vs ds → ktsOf ds = some ks → KVrs K H ks vs
  | [], _, _, .nil, e => by simp only [ktsOf] at e; cases e; exact .nil
  | d :: ds, _, ks, .cons r t, e => by
    simp only [ktsOf] at e
    split at e
    · rename_i k ks' e1 e2
      cases e
      exact .cons (Rep.kvr r e1) (Reps.kvrs t e2)
    · cases e
end
theorem kt_tup {d : D} {k : Kt} {v : V} {Z : List Addr} {H : Hp} {S : Store} (r : Rep K Z H S v d) (e : ktOf d = some k) (n : 1 ≤ dpK k) : ∃ b, v = .ref b := by
  cases r with
  | int i => simp only [ktOf] at e; cases e; simp [dpK] at n
  | tup _ _ => exact ⟨_, rfl⟩
  | ptp _ _ => exact ⟨_, rfl⟩
  | _ => simp [ktOf] at e
def dMemo0 : DE := fun _ S Q => ∀ p, S p = none → Q (.ref p) (ups S p (.memo []))
theorem x_memo0 : XE X T (.Dict [] [] pos) dMemo0 :=
  pe_memo0.imp fun σ H Q ⟨Z, τ, S, R, sl, ok, h, k⟩ => fun p hp => k _ _ _ _ (.newS hp) (.ref p) (ok.newS (o := .memo []) hp ⟨[], upd_same, rfl, fun x hx => by cases hx⟩) (h p (ok.fresh hp))
def rMemoInD (neg : Bool) : DR2 := fun x y S Q => match y with
  | .ref p => match S p with
    | some (.memo ks) => match ktOf x with
      | some k => 1 ≤ dpK k ∧ dpK k ≤ 5 ∧ Q (.bl (if neg then !ks.contains k else ks.contains k)) S
      | none => False
    | _ => False
  | _ => False
theorem d_memoIn (neg : Bool) : Op2 K T (rMemoIn K neg) (rMemoInD neg) := by
  intro Z H S vx vy x y Qd Q ok rx ry h k
  unfold rMemoInD at h
  split at h
  · rename_i p
    cases ry
    split at h
    · rename_i ks e
      split at h
      · rename_i key ek
        obtain ⟨d1, d5, h⟩ := h
        obtain ⟨b, rfl⟩ := kt_tup rx ek d1
        obtain ⟨xs, hx, rfl, hk⟩ := ok.obj p _ e
        exact ⟨p, b, key, xs, rfl, rfl, hx, fun q hq => let ⟨d, r, e2, l⟩ := hk q hq; ⟨r.kvr e2, l⟩, rx.kvr ek, d5, k _ H _ S (.refl _ _) (.bl _) ok h⟩
      · exact h.elim
    · exact h.elim
  · exact h.elim
/-- d[k] = v -/
def dMemoSet (A O J : DE) : DS := fun E τ S => A τ S fun _ S1 => O τ S1 fun o S2 => J τ S2 fun i S3 => match o with
  | .ref p => match S3 p with
    | some (.memo ks) => match ktOf i with
      | some k => 1 ≤ dpK k ∧ dpK k ≤ 5 ∧ ks.length < sizeLine ∧ E.nx τ (ups S3 p (.memo (if ks.contains k then ks else ks ++ [k])))
      | none => False
    | _ => False
  | _ => False
theorem stored_keys {xs : List (Kt × Addr × Value)} {k : Kt} {b : Addr} {u : Value} : (storedH xs k b u).map (·.1) = if (xs.map (·.1)).contains k then xs.map (·.1) else xs.map (·.1) ++ [k] := by
  unfold storedH
  rw [atKey_has]
  split
  · exact keys_map_putAt xs k u
  · rw [List.map_append]; rfl
theorem stored_mem {xs : List (Kt × Addr × Value)} {k : Kt} {b : Addr} {u : Value} {q : Kt × Addr × Value} (h : q ∈ storedH xs k b u) : (q.1 = k ∧ q.2.1 = b) ∨ ∃ p ∈ xs, q.1 = p.1 ∧ q.2.1 = p.2.1 := by
  unfold storedH at h
  split at h
  · obtain ⟨p, hp, rfl⟩ := List.mem_map.mp h
    refine .inr ⟨p, hp, ?_⟩
    unfold putAt
    split <;> exact ⟨rfl, rfl⟩
  · rcases List.mem_append.mp h with h | h
    · exact .inr ⟨q, h, rfl, rfl⟩
    · rw [List.mem_singleton.mp h]; exact .inl ⟨rfl, rfl⟩
theorem s_memoSet {o i : Expr} {A O J : DE} {tpos : Pos} (hu : X.A.units + 9 < cLine) (ho : XE X T o O) (hi : XE X T i J) (he : XE X T e A) (hs : swapsWithSole [.Subscript o i tpos] e pos.line X.env = pure false := by rfl) (hw : swappedStores [.Subscript o i tpos] e X.env = pure none := by rfl)
    (h1 : (assignEach [.Subscript o i tpos] X.env).map (·.2) = [assign (.Subscript o i tpos) X.env] := by rfl)
    (ha : ∀ v, assign (.Subscript o i tpos) X.env v = (do
      let ov ← holding [v] (eval o X.env)
      let iv ← holding [v, ov] (eval i X.env)
      standAt tpos
      holding [v, ov, iv] (setItem ov iv v)
      release [v, ov, iv] []) := by intro _; rfl) : XS X T (.Assign [.Subscript o i tpos] e pos) (dMemoSet A O J) := by
  refine (ps_asg he (pg_sub ho hi (set_memo hu) ha) hs hw h1).imp fun D σ H ⟨Z, τ, S, E, sl, ok, h, k⟩ => ?_
  refine ⟨Z, τ, S, _, sl, ok, h, fun v H1 d S1 x1 r1 ok1 q1 => ?_⟩
  refine ⟨Z, τ, S1, _, sl.ext x1, ok1, q1, fun vo H2 dd S2 x2 r2 ok2 q2 => ?_⟩
  refine ⟨Z, τ, S2, _, sl.ext (x1.trans x2), ok2, q2, fun vi H3 di S3 x3 r3 ok3 q3 => ?_⟩
  split at q3
  · rename_i p
    cases r2
    split at q3
    · rename_i ks e
      split at q3
      · rename_i key ek
        obtain ⟨d1, d5, hl, q3⟩ := q3
        obtain ⟨b, rfl⟩ := kt_tup r3 ek d1
        obtain ⟨xs, hx, rfl, hk⟩ := ok3.obj p _ e
        refine ⟨p, b, key, xs, rfl, rfl, hx, fun q hq => let ⟨d, r, e2, l⟩ := hk q hq; ⟨r.kvr e2, l⟩, r3.kvr ek, d5, by rw [List.length_map] at hl; exact hl, fun u => ?_⟩
        rw [← stored_keys (b := b) (u := u)] at q3
        have x4 : Ext H3 S3 (upd H3 p (MemoO p (storedH xs key b u))) (ups S3 p (.memo ((storedH xs key b u).map (·.1)))) := .put e
        refine k.nx _ _ _ _ (x1.trans (x2.trans (x3.trans x4))) (sl.ext (x1.trans (x2.trans (x3.trans x4)))) (ok3.put e ⟨_, upd_same, rfl, fun q hq => ?_⟩) q3
        rcases stored_mem hq with ⟨e1, e2⟩ | ⟨y, hy, e1, e2⟩
        · rw [e1, e2]; exact ⟨di, r3.ext x4, ek, d5⟩
        · obtain ⟨d, r, e3, l⟩ := hk y hy
          rw [e1, e2]; exact ⟨d, r.ext x4, e3, l⟩
      · exact q3.elim
    · exact q3.elim
  · exact q3.elim
/-! ### ranges as values -/
theorem reps_rg {Z : List Addr} {H : Hp} {S : Store} (n : Int) : Reps K Z H S (rgV 0 n) (intsFrom 0 n.toNat) := by
  have e : rgV 0 n = ((List.range n.toNat).map fun i => (0 + (i : Nat) : Int)).map V.int := by
    unfold rgV
    rw [List.map_map, Int.sub_zero]
    rfl
  have gen : ∀ (m : Nat) (lo : Int), intsFrom lo m = ((List.range m).map fun i => (lo + (i : Nat) : Int)).map D.int := by
    intro m
    induction m with
    | zero => intro lo; rfl
    | succ m ih =>
      intro lo
      rw [intsFrom, ih, List.range_succ_eq_map, List.map_cons, List.map_cons, List.map_map, List.map_map, List.map_map]
      refine congr (congrArg _ (by simp)) (List.map_congr_left fun i _ => ?_)
      simp only [Function.comp, Nat.succ_eq_add_one]
      congr 1
      omega
  rw [e, gen]
  exact Reps.ints _
def dTupRg (A : DE) : DE := fun τ S Q => A τ S fun d S1 => match d with
  | .int n => 0 ≤ n ∧ n ≤ 1000000 ∧ Q (.tup (intsFrom 0 n.toNat)) S1
  | _ => False
def dLstRg (A : DE) : DE := fun τ S Q => A τ S fun d S1 => match d with
  | .int n => 0 ≤ n ∧ n ≤ 1000000 ∧ Q (.lst (intsFrom 0 n.toNat)) S1
  | _ => False
def dLstRgR (A : DE) : DE := fun τ S Q => A τ S fun d S1 => match d with
  | .int n => 0 ≤ n ∧ n ≤ 1000000 ∧ ∀ p, S1 p = none → Q (.ref p) (ups S1 p (.lst (intsFrom 0 n.toNat)))
  | _ => False
theorem rg_ok {n : Int} (h0 : 0 ≤ n) (h1 : n ≤ 1000000) : RgOk 0 n := RgOk.of_le (by omega) (by omega) (by omega) h0
theorem x_tupRg {A : DE} {p q : Pos} (hc : X.calm = true) (hg : Gl X "tuple") (hm : X.mg "tuple" = none) (hg2 : Gl X "range") (hm2 : X.mg "range" = none) (ha : XE X T a A) (na : starEach [a] X.env = (false, eval a X.env) :: starEach [] X.env := by rfl)
    (nb : starEach [Expr.Call (.Name "range" q) [a] [] p2] X.env = (false, eval (.Call (.Name "range" q) [a] [] p2) X.env) :: starEach [] X.env := by rfl) : XE X T (.Call (.Name "tuple" p) [.Call (.Name "range" q) [a] [] p2] [] pos) (dTupRg A) :=
  (pe_tupRg hc hg hm (prg_1 hg2 hm2 ha na) nb).imp fun σ H Q ⟨Z, τ, S, R, sl, ok, h, k⟩ => ⟨Z, τ, S, _, sl, ok, h, fun v H1 d S1 x1 r1 ok1 q => by
    split at q
    · rename_i n
      exact ⟨n, r1.int', rg_ok q.1 q.2.1, fun l hl => k _ _ _ S1 (x1.trans (.new hl)) (.newTup (reps_rg n) hl (ok1.fresh hl)) (ok1.new hl) q.2.2⟩
    · exact q.elim⟩
theorem x_lstRg {A : DE} {p q : Pos} (hc : X.calm = true) (hg : Gl X "list") (hm : X.mg "list" = none) (hg2 : Gl X "range") (hm2 : X.mg "range" = none) (ha : XE X T a A) (na : starEach [a] X.env = (false, eval a X.env) :: starEach [] X.env := by rfl)
    (nb : starEach [Expr.Call (.Name "range" q) [a] [] p2] X.env = (false, eval (.Call (.Name "range" q) [a] [] p2) X.env) :: starEach [] X.env := by rfl) : XE X T (.Call (.Name "list" p) [.Call (.Name "range" q) [a] [] p2] [] pos) (dLstRg A) :=
  (pe_listRg hc hg hm (prg_1 hg2 hm2 ha na) nb).imp fun σ H Q ⟨Z, τ, S, R, sl, ok, h, k⟩ => ⟨Z, τ, S, _, sl, ok, h, fun v H1 d S1 x1 r1 ok1 q => by
    split at q
    · rename_i n
      exact ⟨n, r1.int', rg_ok q.1 q.2.1, fun l hl => k _ _ _ S1 (x1.trans (.new hl)) (.newLst (reps_rg n) hl (ok1.fresh hl) (ok1.nz hl)) (ok1.new hl) q.2.2⟩
    · exact q.elim⟩
theorem x_lstRgR {A : DE} {p q : Pos} (hc : X.calm = true) (hg : Gl X "list") (hm : X.mg "list" = none) (hg2 : Gl X "range") (hm2 : X.mg "range" = none) (ha : XE X T a A) (na : starEach [a] X.env = (false, eval a X.env) :: starEach [] X.env := by rfl)
    (nb : starEach [Expr.Call (.Name "range" q) [a] [] p2] X.env = (false, eval (.Call (.Name "range" q) [a] [] p2) X.env) :: starEach [] X.env := by rfl) : XE X T (.Call (.Name "list" p) [.Call (.Name "range" q) [a] [] p2] [] pos) (dLstRgR A) :=
  (pe_listRg hc hg hm (prg_1 hg2 hm2 ha na) nb).imp fun σ H Q ⟨Z, τ, S, R, sl, ok, h, k⟩ => ⟨Z, τ, S, _, sl, ok, h, fun v H1 d S1 x1 r1 ok1 q => by
    split at q
    · rename_i n
      exact ⟨n, r1.int', rg_ok q.1 q.2.1, fun l hl => k _ _ _ _ (x1.trans (.newS hl)) (.ref l) (ok1.newS hl (.newLst (reps_rg n) hl)) (q.2.2 l (ok1.fresh hl))⟩
    · exact q.elim⟩
/-- range(n) as an object -/
theorem pe_rng1 {ta : TE} {p : Pos} (hg : Gl X "range") (hm : X.mg "range" = none) (ha : PE X a ta) (na : starEach [a] X.env = (false, eval a X.env) :: starEach [] X.env := by rfl) :
    PE X (.Call (.Name "range" p) [a] [] pos) (fun σ H Q => ta σ H fun x H1 => ∃ n, x = .int n ∧ ∀ q, H1 q = none → Q (.ref q) (upd H1 q (.rng 0 n))) := by
  refine ⟨fun pins s σ H Q I h => ?_⟩
  refine Call_ (ld_blt I hg hm boot_range (PyProof.Rows.callWith_type1 (one_arg ha I h (fun v s2 x H2 I2 r q => ?_) na) na))
  obtain ⟨n, rfl, q⟩ := q
  obtain ⟨t, rfl⟩ := r
  exact call_range_1 ⟨.ref s2.heap.objs.size, upd H2 s2.heap.objs.size (.rng 0 n), I2.laid (t' := _) (fun b o e => Heap.get?_push_of_some _ e) (Nat.le_refl _) ⟨_, _, _, Heap.get?_push_size _ rfl⟩, rfl, q _ (I2.hok.fresh (Nat.le_refl _))⟩
theorem op_notin_rng : OpR X (compareOp .NotIn) (fun x y H Q => ∃ i p lo hi, x = V.int i ∧ y = V.ref p ∧ H p = some (.rng lo hi) ∧ Q (.bl (!decide (lo ≤ i ∧ i < hi))) H) := by
  intro pins s σ H x y v u Q I rx ry ⟨i, p, lo, hi, ex, ey, hp, q⟩
  subst ex; subst ey
  obtain ⟨k, rfl⟩ := rx
  obtain rfl : u = Value.ref p := ry
  obtain ⟨t1, t2, t3, ho⟩ := I.hok p _ hp
  show wpAny _ _ (do return Value.bool (!(← contains (Value.ref p) (Value.int i k)))) _ _ s
  refine wpAny_bind (wpAny_contains_slot (T := "range") ⟨_, ho, rfl⟩ PySem.F.slot_range_contains (call_meets PySem.F.slot_range_contains ⟨_, ho, rfl⟩ PySem.F.entry_range_contains (PySem.F.args_range_contains_2 _ _) (q_contains p lo hi i t1 t2 t3 k) ⟨ho, wpAny_truthy_bool (wpAny_pure ⟨.bl _, H, I, rfl, ?_⟩)⟩))
  rw [place1]
  exact q
def dInRg (neg : Bool) (A B : DE) : DT := fun τ S Q => A τ S fun x S1 => B τ S1 fun y S2 => match x, y with
  | .int i, .int n => Q (if neg then !decide (0 ≤ i ∧ i < n) else decide (0 ≤ i ∧ i < n)) S2
  | _, _ => False
theorem t_inRg {A B : DE} {p : Pos} (hg : Gl X "range") (hm : X.mg "range" = none) (ha : XE X T a A) (hb : XE X T b B) (nb : starEach [b] X.env = (false, eval b X.env) :: starEach [] X.env := by rfl) (hk : behindInMarks .In (.Call (.Name "range" p) [b] [] p2) = false := by rfl) :
    XT X T (.Compare a [.In] [.Call (.Name "range" p) [b] [] p2] pos) (dInRg false A B) := by
  refine (pt_cmpR op_in_rng ha (pe_rng1 hg hm hb nb) hk).imp fun σ H Q ⟨Z, τ, S, R, sl, ok, h, k⟩ => ?_
  refine ⟨Z, τ, S, _, sl, ok, h, fun v H1 x S1 x1 r1 ok1 q1 => ⟨Z, τ, S1, _, sl.ext x1, ok1, q1, fun u H2 y S2 x2 r2 ok2 q2 => ?_⟩⟩
  split at q2
  · rename_i i n
    refine ⟨n, r2.int', fun p hp => ⟨i, p, 0, n, (r1.ext x2).int', rfl, upd_same, _, rfl, ?_⟩⟩
    exact k _ _ S2 (x1.trans (x2.trans (.new hp))) (ok2.new hp) q2
  · exact q2.elim
theorem t_notInRg {A B : DE} {p : Pos} (hg : Gl X "range") (hm : X.mg "range" = none) (ha : XE X T a A) (hb : XE X T b B) (nb : starEach [b] X.env = (false, eval b X.env) :: starEach [] X.env := by rfl) (hk : behindInMarks .NotIn (.Call (.Name "range" p) [b] [] p2) = false := by rfl) :
    XT X T (.Compare a [.NotIn] [.Call (.Name "range" p) [b] [] p2] pos) (dInRg true A B) := by
  refine (pt_cmpR op_notin_rng ha (pe_rng1 hg hm hb nb) hk).imp fun σ H Q ⟨Z, τ, S, R, sl, ok, h, k⟩ => ?_
  refine ⟨Z, τ, S, _, sl, ok, h, fun v H1 x S1 x1 r1 ok1 q1 => ⟨Z, τ, S1, _, sl.ext x1, ok1, q1, fun u H2 y S2 x2 r2 ok2 q2 => ?_⟩⟩
  split at q2
  · rename_i i n
    refine ⟨n, r2.int', fun p hp => ⟨i, p, 0, n, (r1.ext x2).int', rfl, upd_same, _, rfl, ?_⟩⟩
    exact k _ _ S2 (x1.trans (x2.trans (.new hp))) (ok2.new hp) q2
  · exact q2.elim
/-- len(set(e)): e a list of few ints -/
def dLenSet (A : DE) : DE := fun τ S Q => A τ S fun d S1 => ∃ ns : List Int, deref S1 d = .lst (ns.map D.int) ∧ ns.Nodup ∧ ns.length < 64 ∧ Q (.int ns.length) S1
theorem x_lenSet {A : DE} {p q p3 : Pos} (hc : X.calm = true) (hg : Gl X "len") (hm : X.mg "len" = none) (hg2 : Gl X "set") (hm2 : X.mg "set" = none) (ha : XE X T a A) (na : starEach [a] X.env = (false, eval a X.env) :: starEach [] X.env := by rfl) :
    XE X T (.Call (.Name "len" p) [.Call (.Name "set" p3) [a] [] q] [] pos) (dLenSet A) :=
  (RZ.pe_lenSetI hg hm hg2 hm2 ha hc na).imp fun σ H Q ⟨Z, τ, S, R, sl, ok, h, k⟩ => ⟨Z, τ, S, _, sl, ok, h, fun v H1 d S1 x1 r1 ok1 ⟨ns, e, nd, hl, q⟩ => by
    obtain ⟨l, vs, rfl, hs, rr⟩ := lst_at ok1 r1 e
    rw [rr.ints_of] at hs
    exact ⟨l, ns, rfl, hs, nd, by omega, k _ H1 _ S1 x1 (.int _) ok1 q⟩⟩
end
/-- xs + ys, a new list of the store -/
def rCatRD : DR2 := fun x y S Q => match deref S x, deref S y with
  | .lst a, .lst b => a.length + b.length ≤ sizeLine ∧ ∀ p, S p = none → Q (.ref p) (ups S p (.lst (a ++ b)))
  | _, _ => False
theorem lst_trk {K : PySem.W.Frag} {T : Tb} {Z : List Addr} {H : Hp} {S : Store} {v : V} {d : D} {ds : List D} (ok : StOk K T Z H S) (r : Rep K Z H S v d) (e : deref S d = .lst ds) : ∃ p vs, v = .ref p ∧ H p = some (.lst vs) ∧ Reps K Z H S vs ds := by
  rcases deref_cases S d with q | ⟨a, es, rfl, q, q2⟩
  · rw [q] at e
    subst e
    cases r with
    | lst h n z rr => exact ⟨_, _, rfl, h, rr⟩
  · rw [q2] at e
    cases e
    cases r
    obtain ⟨vs, h, rr⟩ := ok.obj a _ q
    exact ⟨a, vs, rfl, h, rr⟩
theorem d_catR {K : PySem.W.Frag} {T : Tb} : Op2 K T (rAddXV K) rCatRD := by
  intro Z H S vx vy x y Qd Q ok rx ry h k
  unfold rCatRD at h
  split at h
  · rename_i a b e1 e2
    obtain ⟨p, vs, rfl, h1, r1⟩ := lst_trk ok rx e1
    obtain ⟨q, ws, rfl, h2, r2⟩ := lst_trk ok ry e2
    exact .inr ⟨p, q, vs, ws, rfl, rfl, h1, h2, by rw [r1.length, r2.length]; exact h.1, fun l hl => k _ _ _ _ (.newS hl) (.ref l) (ok.newS hl (.newLst (r1.append r2) hl)) (h.2 l (ok.fresh hl))⟩
  · exact h.elim
theorem hu9_of {k : Nat} {A : Around} (hr : Room k A) : A.units + 9 < cLine := by have := hr.un; omega
/-! ### while -/
def dWhile (C : DT) (B : DS) : DS := fun E τ S => ∃ W : Nat → DSt → Store → Prop, (∃ m, W m τ S) ∧ ∀ m τ S, W m τ S →
  C τ S fun b S1 => if b = true then ∃ N : DSt → Store → Prop, (∀ τ' S', N τ' S' → ∃ m', m' < m ∧ W m' τ' S') ∧ B { E with nx := N, ct := N, bk := E.nx } τ S1 else E.nx τ S1
theorem s_while {X : Cx} {T : Tb} {c : Expr} {body : List Stmt} {pos : Pos} {C : DT} {B : DS} (hp : PassesOwn (model X.prog X.w) X.A X.env X.xe) (hc : XT X T c C) (hb : XSs X T body B) : XS X T (.While c body [] pos) (dWhile C B) := by
  refine (ps_while hp hc hb).imp fun D σ H ⟨Z, τ, S, E, sl, ok, ⟨W, ⟨m0, w0⟩, turn⟩, k⟩ => ?_
  refine ⟨fun m σ' H' => ∃ τ' S', Ext H S H' S' ∧ Slots X.K Z H' S' σ' τ' ∧ StOk X.K T Z H' S' ∧ W m τ' S', ⟨m0, τ, S, .refl _ _, sl, ok, w0⟩, ?_⟩
  rintro m σ' H' ⟨τ', S', x, sl', ok', w⟩
  refine ⟨Z, τ', S', _, sl', ok', turn m τ' S' w, fun b H1 S1 x1 ok1 q => ?_⟩
  cases b with
  | true =>
    rw [if_pos rfl] at q ⊢
    obtain ⟨N, hN, q⟩ := q
    have xx := x.trans x1
    refine ⟨fun σ2 H2 => ∃ τ2 S2, Ext H S H2 S2 ∧ Slots X.K Z H2 S2 σ2 τ2 ∧ StOk X.K T Z H2 S2 ∧ N τ2 S2, fun σ2 H2 ⟨τ2, S2, a1, a2, a3, a4⟩ => ?_, Z, τ', S1, _, sl'.ext x1, ok1, q, ?_⟩
    · obtain ⟨m', l, w'⟩ := hN τ2 S2 a4
      exact ⟨m', l, τ2, S2, a1, a2, a3, w'⟩
    · exact ⟨fun σ4 H4 τ4 S4 x4 s4 o4 h4 => ⟨τ4, S4, xx.trans x4, s4, o4, h4⟩, (k.later xx).rt, fun σ4 H4 τ4 S4 x4 s4 o4 h4 => (k.later xx).nx σ4 H4 τ4 S4 x4 s4 o4 h4, fun σ4 H4 τ4 S4 x4 s4 o4 h4 => ⟨τ4, S4, xx.trans x4, s4, o4, h4⟩⟩
  | false =>
    rw [if_neg (by decide)] at q ⊢
    exact (k.later x).nx σ' H1 τ' S1 x1 (sl'.ext x1) ok1 q
end Dl

set_option Elab.async false
set_option linter.all false
set_option maxRecDepth 100000
set_option maxHeartbeats 2000000
namespace Dl
open PySem PySem.Spec PyProof.Rows L2 LamX
/-! ### walks over a list of the store -/
abbrev DIR := DSt → Store → (Addr → List D → Store → Prop) → Prop
def itR (A : DE) : DIR := fun τ S Q => A τ S fun d S1 => match d with
  | .ref p => match S1 p with
    | some (.lst ds) => Q p ds S1
    | _ => False
  | _ => False
def lfIR (K : PySem.W.Frag) (T : Tb) (Ψ : DIR) : TI := fun σ H R => ∃ Z τ S G, Slots K Z H S σ τ ∧ StOk K T Z H S ∧ Ψ τ S G ∧ ∀ p H' ds S', Ext H S H' S' → StOk K T Z H' S' → S' p = some (.lst ds) → G p ds S' → R (Itl K p) H'
theorem i_ref {X : Cx} {T : Tb} {e tgt : Expr} {A : DE} (h : XE X T e A) : PI X tgt e (lfIR X.K T (itR A)) := by
  refine ⟨fun pins s σ H R I ⟨Z, τ, S, G, sl, ok, h1, k⟩ => ?_⟩
  refine thn (h.go I sl ok h1) fun u s1 ⟨v, H1, d, S1, I1, rv, x1, rd, ok1, q⟩ => ?_
  cases d with
  | ref p =>
    cases rd
    cases e : S1 p with
    | none => simp only [e] at q
    | some o =>
      cases o with
      | lst ds =>
        simp only [e] at q
        obtain ⟨vs, hv, rr⟩ := ok1.obj p _ e
        obtain rfl : u = Value.ref p := rv
        exact it_list I1 (.inl (.inl hv)) (k p H1 ds S1 x1 ok1 e q)
      | _ => simp only [e] at q
  | _ => exact q.elim
section
variable {K : PySem.W.Frag} {T : Tb} {Z : List Addr} {H : Hp} {S : Store} {p : Addr} {ds : List D}
theorem ref_go (ok : StOk K T Z H S) (e : S p = some (.lst ds)) {i : Nat} (h : i < ds.length) : (Itl K p).go i H := by
  obtain ⟨vs, hv, rr⟩ := ok.obj p _ e
  obtain ⟨v, hx, _⟩ := rr.get (i := i) (d := ds[i]) (by simp [h])
  exact ⟨vs, v, .inl (.inl hv), hx⟩
theorem ref_yld {tg : Tg} (ok : StOk K T Z H S) (e : S p = some (.lst ds)) {i : Nat} {d : D} {v : V} {H3 : Hp} (hd : ds[i]? = some d) (y : (Itl K p).yld i H v H3) : H3 = H ∧ tg.rep K Z H S v d := by
  obtain ⟨vs, hv, rr⟩ := ok.obj p _ e
  obtain ⟨e2, y⟩ := y
  have q := y vs (.inl (.inl hv))
  obtain ⟨v', hx, r⟩ := rr.get hd
  rw [q] at hx; cases hx
  exact ⟨e2, Tg.rep_of r⟩
theorem ref_stop (ok : StOk K T Z H S) (e : S p = some (.lst ds)) {i : Nat} (h : ds.length ≤ i) : (Itl K p).stop i H := by
  obtain ⟨vs, hv, rr⟩ := ok.obj p _ e
  exact ⟨vs, .inl (.inl hv), by rw [rr.length]; exact h⟩
end
def loopR (p : Addr) (es : List D) (tg : Tg) (B : DS) (E : DEnds) : List D → DSt → Store → Prop
  | [], τ, S => S p = some (.lst es) ∧ E.nx τ S
  | d :: r, τ, S => S p = some (.lst es) ∧ match tg.d τ d with
    | some τ' => B { E with nx := loopR p es tg B E r, ct := loopR p es tg B E r, bk := E.nx } τ' S
    | none => False
def dForR (I : DIR) (tg : Tg) (B : DS) : DS := fun E τ S => I τ S fun p ds S1 => loopR p ds tg B E ds τ S1
theorem s_forR {X : Cx} {T : Tb} {pos : Pos} {tgt iter : Expr} {body : List Stmt} {I : DIR} {tg : Tg} {B : DS} (hp : PassesOwn (model X.prog X.w) X.A X.env X.xe) (hc : X.calm = true) (hi : PI X tgt iter (lfIR X.K T I)) (hg : PG X tgt (tg.g X.K)) (hb : XSs X T body B)
    (hs : ∀ x, foldedSetIterable iter X.env x = pure x := by intro _; rfl) : XS X T (.For tgt iter body [] pos) (dForR I tg B) := by
  refine (ps_for hp hc hi hg hb hs).imp fun D σ H ⟨Z, τ, S, E, sl, ok, h, k⟩ => ?_
  refine ⟨Z, τ, S, _, sl, ok, h, fun p H1 ds S1 x1 ok1 e1 q => ?_⟩
  have sl1 := sl.ext x1
  refine ⟨fun i m σ' H' => m = ds.length - i ∧ i ≤ ds.length ∧ ∃ τ' S', Ext H1 S1 H' S' ∧ Slots X.K Z H' S' σ' τ' ∧ StOk X.K T Z H' S' ∧ loopR p ds tg B E (ds.drop i) τ' S', ⟨ds.length, by simp, Nat.zero_le _, τ, S1, .refl _ _, sl1, ok1, by simpa using q⟩, ?_⟩
  rintro i m σ' H' ⟨rfl, hi', τ', S', x2, sl2, ok2, q2⟩
  by_cases hlt : i < ds.length
  · rw [drop_at hlt] at q2
    unfold loopR at q2
    obtain ⟨ep, q2⟩ := q2
    refine .inr ⟨ref_go ok2 ep hlt, fun σ2 H2 => ∃ τ2 S2, Ext H1 S1 H2 S2 ∧ Slots X.K Z H2 S2 σ2 τ2 ∧ StOk X.K T Z H2 S2 ∧ loopR p ds tg B E (ds.drop (i + 1)) τ2 S2, fun σ2 H2 ⟨τ2, S2, a1, a2, a3, a4⟩ => ⟨ds.length - (i + 1), by omega, rfl, hlt, τ2, S2, a1, a2, a3, a4⟩, fun v H2 y => ?_⟩
    obtain ⟨rfl, r3⟩ := ref_yld (tg := tg) ok2 ep (d := ds[i]) (by simp [hlt]) y
    cases et : tg.d τ' ds[i] with
    | none => rw [et] at q2; exact q2.elim
    | some τ'' =>
      rw [et] at q2
      refine Tg.of r3 sl2 et fun σ3 sl3 _ => ⟨Z, τ'', S', _, sl3, ok2, q2, ?_⟩
      have xx := x1.trans x2
      exact ⟨fun σ4 H4 τ4 S4 x4 s4 o4 h4 => ⟨τ4, S4, x2.trans x4, s4, o4, h4⟩, (k.later xx).rt, fun σ4 H4 τ4 S4 x4 s4 o4 h4 => (k.later xx).nx σ4 H4 τ4 S4 x4 s4 o4 h4, fun σ4 H4 τ4 S4 x4 s4 o4 h4 => ⟨τ4, S4, x2.trans x4, s4, o4, h4⟩⟩
  · have e : i = ds.length := by omega
    subst e
    rw [List.drop_length] at q2
    unfold loopR at q2
    exact .inl ⟨ref_stop ok2 q2.1 (Nat.le_refl _), (k.later (x1.trans x2)).nx σ' H' τ' S' (.refl _ _) sl2 ok2 q2.2⟩
/-! ### comprehensions over a list of the store -/
def compR (p : Addr) (es : List D) (tg : Tg) (C : DT) (A : DE) (τ : DSt) : List D → List D → Store → (List D → Store → Prop) → Prop
  | [], acc, S, Q => S p = some (.lst es) ∧ Q acc S
  | d :: r, acc, S, Q => S p = some (.lst es) ∧ match tg.d τ d with
    | some τ' => C τ' S fun b S1 => if b = true then A τ' S1 fun y S2 => compR p es tg C A τ r (acc ++ [y]) S2 Q else compR p es tg C A τ r acc S1 Q
    | none => False
def dCompR (I : DIR) (tg : Tg) (C : DT) (A : DE) (ws : List Nat) : DI := fun τ S Q => I τ S fun p ds S1 => ds.length ≤ sizeLine ∧ compR p ds tg C A (wipeD τ ws) ds [] S1 Q
def dLcX (I : DIR) (tg : Tg) (C : DT) (A : DE) (ws : List Nat) : DE := fun τ S Q => dCompR I tg C A ws τ S fun ds S1 => Q (.lst ds) S1
def dLcXR (I : DIR) (tg : Tg) (C : DT) (A : DE) (ws : List Nat) : DE := fun τ S Q => dCompR I tg C A ws τ S fun ds S1 => ∀ p, S1 p = none → Q (.ref p) (ups S1 p (.lst ds))
theorem lf_compR {K : PySem.W.Frag} {T : Tb} {Z : List Addr} {I : DIR} {tg : Tg} {C : DT} {A : DE} {ws : List Nat} (hws : ∀ i ∈ tg.sl, i ∈ ws) {σ : L2.St} {H : Hp} {Q : VK} {τ : DSt} {S : Store} {G : List D → Store → Prop} (sl : Slots K Z H S σ τ) (ok : StOk K T Z H S) (h : dCompR I tg C A ws τ S G)
    (k : ∀ p H1 vs ds S1, Ext H S H1 S1 → H1 p = some (.lst vs) → S1 p = none → p ∉ Z → (∀ a o, S a = none → H a = some o → (∀ ps, o ≠ .tbl ps) → a ≠ p) → Reps K (p :: Z) H1 S1 vs ds → StOk K T (p :: Z) H1 S1 → G ds S1 → Q (.ref p) H1) :
    tLc (lfIR K T I) (tg.g K) (lfT K T C) (lf K T A) ws σ H Q := by
  refine ⟨Z, τ, S, _, sl, ok, h, fun w H1 ds S1 x1 ok1 ew ⟨hz, q⟩ D hD => ?_⟩
  have nD : S1 D = none := ok1.fresh hD
  have xD : Ext H1 S1 (upd H1 D (.lst [])) S1 := .new hD
  have nZ : D ∉ Z := fun q => by
    obtain ⟨_, vs, e⟩ := ok1.rsv D q
    rw [hD] at e; cases e
  have hDH : ∀ a o, S a = none → H a = some o → (∀ ps, o ≠ .tbl ps) → a ≠ D := fun a o n e nt z => by
    have q := x1.eq a o n e nt
    rw [z, hD] at q; cases q
  have zz : ∀ z ∈ D :: Z, z ∈ Z ∨ H1 z = none := fun z h => (List.mem_cons.mp h).elim (fun e => .inr (by rw [e]; exact hD)) .inl
  have sl1 := (sl.ext x1).map fun _ _ r => r.zw zz
  refine ⟨fun i m H' => m = ds.length - i ∧ i ≤ ds.length ∧ ∃ S' vs acc, Ext H1 S1 H' S' ∧ S' D = none ∧ H' D = some (.lst vs) ∧ Reps K (D :: Z) H' S' vs acc ∧ acc.length ≤ i ∧ StOk K T (D :: Z) H' S' ∧ compR w ds tg C A (wipeD τ ws) (ds.drop i) acc S' G, ?_, ?_⟩
  · exact ⟨ds.length, by simp, Nat.zero_le _, S1, [], [], xD, nD, upd_same, .nil, Nat.zero_le _, ok1.zn hD, by simpa using q⟩
  · rintro i m H' ⟨rfl, hi, S', vs, acc, x2, n2, e2, r2, l2, ok2, q2⟩
    by_cases hlt : i < ds.length
    · rw [drop_at hlt] at q2
      unfold compR at q2
      obtain ⟨ep, q2⟩ := q2
      refine .inr ⟨ref_go ok2 ep hlt, fun H3 => ∃ S3 vs3 acc3, Ext H1 S1 H3 S3 ∧ S3 D = none ∧ H3 D = some (.lst vs3) ∧ Reps K (D :: Z) H3 S3 vs3 acc3 ∧ acc3.length ≤ i + 1 ∧ StOk K T (D :: Z) H3 S3 ∧ compR w ds tg C A (wipeD τ ws) (ds.drop (i + 1)) acc3 S3 G, fun H3 ⟨S3, vs3, acc3, a1, a2, a3, a4, a5, a6, a7⟩ => ⟨ds.length - (i + 1), by omega, rfl, hlt, S3, vs3, acc3, a1, a2, a3, a4, a5, a6, a7⟩, fun v H3 y => ?_⟩
      obtain ⟨rfl, r3⟩ := ref_yld (tg := tg) ok2 ep (d := ds[i]) (by simp [hlt]) y
      cases et : tg.d (wipeD τ ws) ds[i] with
      | none => rw [et] at q2; exact q2.elim
      | some τ' =>
        rw [et] at q2
        have slw : Slots K (D :: Z) H3 S' (L2.wipe σ ws) (wipeD τ ws) := ((sl1.ext x2).wipe ws)
        refine Tg.of r3 slw et fun σ3 sl3 hw => ⟨?_, ?_⟩
        · rw [hw ws hws]
          exact wipe_idem ws
        · refine ⟨D :: Z, τ', S', _, sl3, ok2, q2, fun b H4 S4 x4 ok4 q4 => ?_⟩
          have e4 : H4 D = some (.lst vs) := x4.eq D _ n2 e2 fun ps z => (by cases z)
          have n4 := x4.hid D _ n2 e2 fun ps z => (by cases z)
          cases b with
          | false => exact ⟨S4, vs, acc, x2.trans x4, n4, e4, r2.ext x4, by omega, ok4, q4⟩
          | true =>
            refine ⟨D :: Z, τ', S4, _, sl3.ext x4, ok4, q4, fun w H5 d5 S5 x5 r5 ok5 q5 => ?_⟩
            have x45 := x4.trans x5
            have e5 : H5 D = some (.lst vs) := x5.eq D _ n4 e4 fun ps z => (by cases z)
            have n5 := x5.hid D _ n4 e4 fun ps z => (by cases z)
            have inD : D ∈ D :: Z := List.mem_cons_self
            refine ⟨vs, e5, ?_, S5, vs ++ [w], acc ++ [d5], ?_, n5, upd_same, ?_, by simp; omega, ?_, q5⟩
            · rw [r2.length]; omega
            · exact (x2.trans x45).hset hD
            · exact ((r2.ext x45).append (.cons r5 .nil)).hset e5 inD
            · exact ok5.hset e5 inD
    · have e : i = ds.length := by omega
      subst e
      rw [List.drop_length] at q2
      unfold compR at q2
      exact .inl ⟨ref_stop ok2 q2.1 (Nat.le_refl _), k D H' vs acc S' (x1.trans x2) e2 n2 nZ hDH r2 ok2 q2.2⟩
section
variable {X : Cx} {T : Tb} {pos : Pos} {elt tgt iter : Expr} {ifs : List Expr} {scope : Scope} {own : List (Str × Nat)} {I : DIR} {tg : Tg} {C : DT} {A : DE}
theorem x_lcX (hc : X.calm = true) (hN : X.N.Nodup) (hi : PI X tgt iter (lfIR X.K T I)) (ok : BlkOk X.N X.env.scope scope own) (hg : Blk X scope fun Y => PG Y tgt (tg.g Y.K)) (ht : Blk X scope fun Y => XTs Y T ifs C) (he : Blk X scope fun Y => XE Y T elt A)
    (hws : ∀ i ∈ tg.sl, i ∈ own.map (·.2)) (hs : ∀ x, foldedSetIterable iter X.env x = pure x := by intro _; rfl) : XE X T (.ListComp elt [⟨tgt, iter, ifs, 0⟩] scope pos) (dLcX I tg C A (own.map (·.2))) :=
  (pe_lc (g := tg.g X.K) (tt := lfT X.K T C) (te := lf X.K T A) hc hN hi ok hg ht he hs).imp fun σ H Q ⟨Z, τ, S, R, sl, ok, h, k⟩ => lf_compR hws sl ok h fun p H1 vs ds S1 x1 e1 n1 nz _ r1 ok1 g => k _ H1 _ S1 x1 (.lst e1 n1 nz (r1.zs fun z h => List.mem_cons_of_mem _ h)) (ok1.zs fun z h => List.mem_cons_of_mem _ h) g
theorem x_lcXR (hc : X.calm = true) (hN : X.N.Nodup) (hi : PI X tgt iter (lfIR X.K T I)) (ok : BlkOk X.N X.env.scope scope own) (hg : Blk X scope fun Y => PG Y tgt (tg.g Y.K)) (ht : Blk X scope fun Y => XTs Y T ifs C) (he : Blk X scope fun Y => XE Y T elt A)
    (hws : ∀ i ∈ tg.sl, i ∈ own.map (·.2)) (hs : ∀ x, foldedSetIterable iter X.env x = pure x := by intro _; rfl) : XE X T (.ListComp elt [⟨tgt, iter, ifs, 0⟩] scope pos) (dLcXR I tg C A (own.map (·.2))) :=
  (pe_lc (g := tg.g X.K) (tt := lfT X.K T C) (te := lf X.K T A) hc hN hi ok hg ht he hs).imp fun σ H Q ⟨Z, τ, S, R, sl, ok, h, k⟩ => lf_compR hws sl ok h fun p H1 vs ds S1 x1 e1 n1 nz f r1 ok1 g => k _ H1 _ _ (x1.toRef f) (.ref p) (ok1.show e1 nz r1) (g p n1)
end
/-! what they ask -/
theorem loopR_ind {p : Addr} {es : List D} {tg : Tg} {B : DS} {E : DEnds} (P : List D → DSt → Store → Prop) (hk : ∀ ds τ S, P ds τ S → S p = some (.lst es)) (h0 : ∀ τ S, P [] τ S → E.nx τ S)
    (h1 : ∀ d r τ S (N : DSt → Store → Prop), P (d :: r) τ S → (∀ τ' S', P r τ' S' → N τ' S') → match tg.d τ d with
      | some τ' => B { nx := N, rt := E.rt, bk := E.nx, ct := N, ex := E.ex, ey := E.ey } τ' S
      | none => False) : ∀ (ds : List D) (τ : DSt) (S : Store), P ds τ S → loopR p es tg B E ds τ S
  | [], τ, S, q => ⟨hk _ τ S q, h0 τ S q⟩
  | d :: r, τ, S, q => by
    have w := h1 d r τ S (loopR p es tg B E r) q fun τ' S' q' => loopR_ind P hk h0 h1 r τ' S' q'
    unfold loopR
    exact ⟨hk _ τ S q, w⟩
theorem compR_of {p : Addr} {es : List D} {tg : Tg} {C : DT} {A : DE} {τ : DSt} {Q : List D → Store → Prop} {S : Store} (hp : S p = some (.lst es)) {α : Type} (enc : α → D) (c : α → Bool) (f : α → D) (xs : List α)
    (h : ∀ x ∈ xs, match tg.d τ (enc x) with
      | some τ' => ∀ (G : Bool → Store → Prop), (G (c x) S → C τ' S G) ∧ ∀ (G : DK), c x = true → G (f x) S → A τ' S G
      | none => False) (q : Q ((xs.filter c).map f) S) : compR p es tg C A τ (xs.map enc) [] S Q := by
  have main : ∀ (ys : List α) (acc : List D), (∀ y ∈ ys, y ∈ xs) → Q (acc ++ (ys.filter c).map f) S → compR p es tg C A τ (ys.map enc) acc S Q := by
    intro ys
    induction ys with
    | nil => intro acc _ q; exact ⟨hp, by simpa using q⟩
    | cons y r ih =>
      intro acc hm q
      have hy := h y (hm y List.mem_cons_self)
      rw [List.map_cons]
      unfold compR
      refine ⟨hp, ?_⟩
      cases e : tg.d τ (enc y) with
      | none => rw [e] at hy; exact hy.elim
      | some τ' =>
        rw [e] at hy
        refine (hy _).1 ?_
        cases ec : c y with
        | true =>
          simp only [if_true]
          refine (hy (fun _ _ => False)).2 _ ec (ih _ (fun z hz => hm z (List.mem_cons_of_mem _ hz)) ?_)
          rw [List.filter_cons_of_pos ec] at q
          simpa using q
        | false =>
          simp only [Bool.false_eq_true, if_false]
          refine ih _ (fun z hz => hm z (List.mem_cons_of_mem _ hz)) ?_
          rw [List.filter_cons_of_neg (by simp [ec])] at q
          exact q
  exact main xs [] (fun _ h => h) (by simpa using q)
/-! ### a comprehension within a comprehension -/
theorem lookup_rel (env : Env) (x : Str) : ∀ (names : List (Str × NameKind)), names.lookup x = some .cell ∨ names.lookup x = some .free →
    (names.map fun (n, k) => if (k == NameKind.free && env.scope.kind == .function && env.kindOf n == some .cell) then (n, NameKind.cell) else (n, k)).lookup x = some .cell ∨
      (names.map fun (n, k) => if (k == NameKind.free && env.scope.kind == .function && env.kindOf n == some .cell) then (n, NameKind.cell) else (n, k)).lookup x = some .free
  | [], h => by simp at h
  | (n, k) :: r, h => by
    have ih := lookup_rel env x r
    show List.lookup x ((if (k == NameKind.free && env.scope.kind == .function && env.kindOf n == some .cell) = true then (n, NameKind.cell) else (n, k)) :: _) = _ ∨ List.lookup x ((if (k == NameKind.free && env.scope.kind == .function && env.kindOf n == some .cell) = true then (n, NameKind.cell) else (n, k)) :: _) = _
    cases hx : x == n with
    | true =>
      simp only [List.lookup_cons, hx] at h
      by_cases hc : (k == NameKind.free && env.scope.kind == .function && env.kindOf n == some .cell) = true
      · rw [if_pos hc]; simp only [List.lookup_cons, hx]; exact .inl trivial
      · rw [if_neg hc]; simp only [List.lookup_cons, hx]; exact h
    | false =>
      simp only [List.lookup_cons, hx] at h
      by_cases hc : (k == NameKind.free && env.scope.kind == .function && env.kindOf n == some .cell) = true
      · rw [if_pos hc]; simp only [List.lookup_cons, hx]; exact ih h
      · rw [if_neg hc]; simp only [List.lookup_cons, hx]; exact ih h
theorem blkOk_rel {N : List Str} {sc scope : Scope} {own : List (Str × Nat)} {env : Env} (h : BlkOk N sc scope own) : BlkOk N (relabel sc env) scope own :=
  ⟨h.kind, h.uniq, h.ix, fun y hy e => lookup_rel env y.1 sc.names (h.free y hy e), h.own⟩
end Dl

set_option Elab.async false
set_option linter.all false
set_option maxRecDepth 100000
namespace Dl
open PySem PySem.Spec PyProof.Rows L2 LamX
/-! ### how readings compute -/
theorem atI0 {α : Type} (a : α) (l : List α) : atI (a :: l) 0 = some a := by
  unfold atI ixN
  rw [if_pos (by omega), if_pos (by simp)]
  rfl
theorem atI_n {α : Type} {l : List α} {n : Nat} (h : n < l.length) : atI l (n : Int) = l[n]? := by
  unfold atI ixN
  rw [if_pos (by omega), if_pos (by omega)]
  rfl
theorem atI1 {α : Type} (a b : α) (l : List α) : atI (a :: b :: l) 1 = some b := (atI_n (n := 1) (by simp)).trans rfl
theorem atI2 {α : Type} (a b c : α) (l : List α) : atI (a :: b :: c :: l) 2 = some c := (atI_n (n := 2) (by simp)).trans rfl
theorem atI3 {α : Type} (a b c d : α) (l : List α) : atI (a :: b :: c :: d :: l) 3 = some d := (atI_n (n := 3) (by simp)).trans rfl
theorem atI4 {α : Type} (a b c d e : α) (l : List α) : atI (a :: b :: c :: d :: e :: l) 4 = some e := (atI_n (n := 4) (by simp)).trans rfl
theorem atI5 {α : Type} (a b c d e f : α) (l : List α) : atI (a :: b :: c :: d :: e :: f :: l) 5 = some f := (atI_n (n := 5) (by simp)).trans rfl
theorem atIm2 {α : Type} (a b : α) : atI [a, b] (-1) = some b := rfl
theorem atIm3 {α : Type} (a b c : α) : atI [a, b, c] (-1) = some c := rfl
theorem atIm4 {α : Type} (a b c d : α) : atI [a, b, c, d] (-1) = some d := rfl
theorem ixN_n {n i : Nat} (h : i < n) : ixN n (i : Int) = some i := by
  unfold ixN
  rw [if_pos (by omega), if_pos (by omega)]
  rfl
theorem ixN3_0 : ixN 3 0 = some 0 := rfl
theorem ixN3_1 : ixN 3 1 = some 1 := rfl
theorem deref_non (S : Store) : deref S .non = .non := rfl
theorem deref_bl (S : Store) (b : Bool) : deref S (.bl b) = .bl b := rfl
theorem deref_int (S : Store) (b : Int) : deref S (.int b) = .int b := rfl
theorem deref_str (S : Store) (b : Str) : deref S (.str b) = .str b := rfl
theorem deref_tp (S : Store) (b : List D) : deref S (.tup b) = .tup b := rfl
theorem deref_ptp (S : Store) (b : List D) : deref S (.ptp b) = .ptp b := rfl
theorem deref_lst (S : Store) (b : List D) : deref S (.lst b) = .lst b := rfl
theorem deref_rf {S : Store} {p : Addr} {ds : List D} (h : S p = some (.lst ds)) : deref S (.ref p) = .lst ds := by unfold deref; simp [h]
theorem deref_rfK {S : Store} {p : Addr} {ds : List (L2.Key × D)} (h : S p = some (.dK ds)) : deref S (.ref p) = .ref p := by unfold deref; simp [h]
theorem items_tup (S : Store) (b : List D) : items S (.tup b) = some b := rfl
theorem items_ptp (S : Store) (b : List D) : items S (.ptp b) = some b := rfl
theorem items_lst (S : Store) (b : List D) : items S (.lst b) = some b := rfl
theorem items_rf {S : Store} {p : Addr} {ds : List D} (h : S p = some (.lst ds)) : items S (.ref p) = some ds := by unfold items; rw [deref_rf h]
theorem len6 : (6 : Nat) ≤ sizeLine := by rw [sizeLine_eq]; decide
theorem len_ok {n : Nat} (h : n ≤ 1000) : n ≤ sizeLine := by rw [sizeLine_eq]; omega
/-- what a def gives back may know less -/
theorem sub_ups {S : Store} {p : Addr} {o : MO} (h : S p = none) : Sub S (ups S p o) := fun a u e => by
  rw [ups_ne (fun z => by rw [z, h] at e; cases e)]; exact e
theorem fin_of {R : DK} {d : D} {S : Store} (h : R d S) : ∃ S'', Sub S'' S ∧ R d S'' := ⟨S, .refl S, h⟩
theorem fin_sub {R : DK} {d : D} {S S' : Store} (h : R d S) (s : Sub S S') : ∃ S'', Sub S'' S' ∧ R d S'' := ⟨S, s, h⟩
/-! loops, by what is left -/
theorem loop_ind {tg : Tg} {B : DS} {E : DEnds} (P : List D → DSt → Store → Prop) (h0 : ∀ τ S, P [] τ S → E.nx τ S)
    (h1 : ∀ d r τ S (N : DSt → Store → Prop), P (d :: r) τ S → (∀ τ' S', P r τ' S' → N τ' S') → match tg.d τ d with
      | some τ' => B { nx := N, rt := E.rt, bk := E.nx, ct := N, ex := E.ex, ey := E.ey } τ' S
      | none => False) : ∀ (ds : List D) (τ : DSt) (S : Store), P ds τ S → loopD tg B E ds τ S
  | [], τ, S, p => h0 τ S p
  | d :: r, τ, S, p => by
    have q := h1 d r τ S (loopD tg B E r) p fun τ' S' p' => loop_ind P h0 h1 r τ' S' p'
    unfold loopD
    exact q
theorem comp_ind {tg : Tg} {C : DT} {A : DE} {τ : DSt} {Q : List D → Store → Prop} (P : List D → List D → Store → Prop) (h0 : ∀ acc S, P [] acc S → Q acc S)
    (h1 : ∀ d r acc S (N : List D → Store → Prop), P (d :: r) acc S → (∀ acc' S', P r acc' S' → N acc' S') → match tg.d τ d with
      | some τ' => C τ' S fun b S1 => if b = true then A τ' S1 fun y S2 => N (acc ++ [y]) S2 else N acc S1
      | none => False) : ∀ (ds acc : List D) (S : Store), P ds acc S → compD tg C A τ ds acc S Q
  | [], acc, S, p => h0 acc S p
  | d :: r, acc, S, p => by
    have q := h1 d r acc S (fun a s => compD tg C A τ r a s Q) p fun a s p' => comp_ind P h0 h1 r a s p'
    unfold compD
    exact q
/-- [f x for x in xs if c x], plain -/
theorem comp_pure {α : Type} {tg : Tg} {C : DT} {A : DE} {τ : DSt} {Q : List D → Store → Prop} {S : Store} (enc : α → D) (c : α → Bool) (f : α → D) (xs : List α)
    (h : ∀ x ∈ xs, match tg.d τ (enc x) with
      | some τ' => ∀ (G : Bool → Store → Prop), (G (c x) S → C τ' S G) ∧ ∀ (G : DK), c x = true → G (f x) S → A τ' S G
      | none => False) (q : Q ((xs.filter c).map f) S) : compD tg C A τ (xs.map enc) [] S Q := by
  have main : ∀ (ys : List α) (acc : List D), (∀ y ∈ ys, y ∈ xs) → Q (acc ++ (ys.filter c).map f) S → compD tg C A τ (ys.map enc) acc S Q := by
    intro ys
    induction ys with
    | nil => intro acc _ q; simpa [compD] using q
    | cons y r ih =>
      intro acc hm q
      have hy := h y (hm y List.mem_cons_self)
      rw [List.map_cons]
      unfold compD
      cases e : tg.d τ (enc y) with
      | none => rw [e] at hy; exact hy.elim
      | some τ' =>
        rw [e] at hy
        refine (hy _).1 ?_
        cases ec : c y with
        | true =>
          simp only [if_true]
          refine (hy (fun _ _ => False)).2 _ ec (ih _ (fun z hz => hm z (List.mem_cons_of_mem _ hz)) ?_)
          rw [List.filter_cons_of_pos ec] at q
          simpa using q
        | false =>
          simp only [Bool.false_eq_true, if_false]
          refine ih _ (fun z hz => hm z (List.mem_cons_of_mem _ hz)) ?_
          rw [List.filter_cons_of_neg (by simp [ec])] at q
          exact q
  exact main xs [] (fun _ h => h) (by simpa using q)
/-- two strictly sorted lists with the same members -/
theorem sorted_ext {α : Type} (lt : α → α → Prop) (irr : ∀ a, ¬ lt a a) (tr : ∀ a b c, lt a b → lt b c → lt a c) : ∀ {l m : List α}, l.Pairwise lt → m.Pairwise lt → (∀ x, x ∈ l ↔ x ∈ m) → l = m
  | [], [], _, _, _ => rfl
  | [], y :: m, _, _, h => by have := (h y).mpr List.mem_cons_self; simp at this
  | x :: l, [], _, _, h => by have := (h x).mp List.mem_cons_self; simp at this
  | x :: l, y :: m, hl, hm, h => by
    rw [List.pairwise_cons] at hl hm
    have e : x = y := by
      rcases List.mem_cons.mp ((h x).mp List.mem_cons_self) with e | e
      · exact e
      · rcases List.mem_cons.mp ((h y).mpr List.mem_cons_self) with e' | e'
        · exact e'.symm
        · exact absurd (tr _ _ _ (hl.1 y e') (hm.1 x e)) (irr x)
    subst e
    rw [sorted_ext lt irr tr hl.2 hm.2 fun z => ?_]
    constructor
    · intro hz
      rcases List.mem_cons.mp ((h z).mp (List.mem_cons_of_mem _ hz)) with e | e
      · subst e; exact absurd (hl.1 z hz) (irr z)
      · exact e
    · intro hz
      rcases List.mem_cons.mp ((h z).mpr (List.mem_cons_of_mem _ hz)) with e | e
      · subst e; exact absurd (hm.1 z hz) (irr z)
      · exact e
theorem dq_ii (i j : Int) : deq (.int i) (.int j) = (i == j) := by simp only [deq]
theorem dq_bb (i j : Bool) : deq (.bl i) (.bl j) = (i == j) := by simp only [deq]
theorem dq_ss (i j : Str) : deq (.str i) (.str j) = (i == j) := by simp only [deq]
theorem dq_tt (i j : List D) : deq (.tup i) (.tup j) = deqs i j := by simp only [deq]
theorem dq_tp (i j : List D) : deq (.tup i) (.ptp j) = deqs i j := by simp only [deq]
theorem dq_pt (i j : List D) : deq (.ptp i) (.tup j) = deqs i j := by simp only [deq]
theorem dq_pp (i j : List D) : deq (.ptp i) (.ptp j) = deqs i j := by simp only [deq]
theorem dq_ll (i j : List D) : deq (.lst i) (.lst j) = deqs i j := by simp only [deq]
theorem dq_n0 : deqs [] [] = true := by simp only [deqs]
theorem dq_nc (x : D) (l : List D) : deqs [] (x :: l) = false := by simp only [deqs]
theorem dq_cn (x : D) (l : List D) : deqs (x :: l) [] = false := by simp only [deqs]
theorem dq_cc (x y : D) (l m : List D) : deqs (x :: l) (y :: m) = (deq x y && deqs l m) := by simp only [deqs]
theorem ok_non (n : Nat) : okd n .non = true := by simp only [okd]
theorem ok_bl (n : Nat) (b : Bool) : okd n (.bl b) = true := by simp only [okd]
theorem ok_int (n : Nat) (b : Int) : okd n (.int b) = true := by simp only [okd]
theorem ok_str (n : Nat) (b : Str) : okd n (.str b) = PyData.strOk b := by simp only [okd]
theorem ok_tp (ds : List D) : okd 60 (.tup ds) = okds 59 ds := by simp only [okd]
theorem ok_pp (ds : List D) : okd 60 (.ptp ds) = okds 59 ds := by simp only [okd]
theorem ok_ls (ds : List D) : okd 60 (.lst ds) = okds 59 ds := by simp only [okd]
theorem ok_n0 (n : Nat) : okds n [] = true := by simp only [okds]
theorem ok_cc (n : Nat) (d : D) (ds : List D) : okds n (d :: ds) = (okd n d && okds n ds) := by simp only [okds]
end Dl

set_option Elab.async false
set_option linter.all false
set_option maxRecDepth 100000
namespace Dl
open PySem PySem.Spec PyProof.Rows L2 LamX
theorem passN {X : Cx} : Passes (L2N.CX X.prog X.w) X E0 := fun _ _ _ _ _ _ _ ⟨_, _, _, _, _, _, _, _, _, _, _, _, z⟩ => z.elim
theorem takesN0 {X : Cx} : L2N.Takes X (fun _ _ _ _ => False) := fun _ _ ⟨_, _, _, _, _, _, _, _, _, _, _, _, _, _, _, _, z⟩ => z.elim
/-! ### own errors by name, perhaps with a value -/
abbrev MGm := Str → Option Value
def PayOk (K : PySem.W.Frag) (Z : List Addr) (H : Hp) (S : Store) (nm : Str) (ps : List D) (d : Option Addr) : Prop := Rep K Z H S (.ref 0) (.exc 0 d nm ps)
theorem PayOk.to {K : PySem.W.Frag} {Z : List Addr} {H : Hp} {S : Store} {nm : Str} {ps : List D} {d : Option Addr} (h : PayOk K Z H S nm ps d) (a : Addr) : Rep K Z H S (.ref a) (.exc a d nm ps) := by
  unfold PayOk at h
  cases h with
  | exc0 => exact .exc0
  | exc1 h n r => exact .exc1 h n r
theorem PayOk.none {K : PySem.W.Frag} {Z : List Addr} {H : Hp} {S : Store} {nm : Str} : PayOk K Z H S nm [] none := .exc0
structure EOky (K : PySem.W.Frag) (T : Tb) (mg : MGm) (Z : List Addr) (H : Hp) (S : Store) (W : WX) (D : Ends) (E : DEnds) : Prop extends EOk K T Z H S D E where
  yy : ∀ nm C ps d σ H' τ S', Ext H S H' S' → Slots K Z H' S' σ τ → StOk K T Z H' S' → mg nm = some (.ref C) → PayOk K Z H' S' nm ps d → E.ey nm ps τ S' → W (.ref C) d σ H'
theorem EOky.later {K : PySem.W.Frag} {T : Tb} {mg : MGm} {Z : List Addr} {H H' : Hp} {S S' : Store} {W : WX} {D : Ends} {E : DEnds} (e : EOky K T mg Z H S W D E) (x : Ext H S H' S') : EOky K T mg Z H' S' W D E :=
  { e.toEOk.later x with yy := fun nm C ps d σ H2 τ S2 y => e.yy nm C ps d σ H2 τ S2 (x.trans y) }
def lfSy (K : PySem.W.Frag) (T : Tb) (mg : MGm) (W : WX) (Θ : DS) : TS := fun D σ H => ∃ Z τ S E, Slots K Z H S σ τ ∧ StOk K T Z H S ∧ Θ E τ S ∧ EOky K T mg Z H S W D E
abbrev XSy (X : Cx) (T : Tb) (W : WX) (st : Stmt) (Θ : DS) : Prop := PS X st (lfSy X.K T X.mg W Θ)
abbrev XSsy (X : Cx) (T : Tb) (W : WX) (st : List Stmt) (Θ : DS) : Prop := PSs X st (lfSy X.K T X.mg W Θ)
theorem EOky.nxt {K : PySem.W.Frag} {T : Tb} {mg : MGm} {Z : List Addr} {H : Hp} {S : Store} {W : WX} {D : Ends} {E : DEnds} {B : DS} (e : EOky K T mg Z H S W D E) : EOky K T mg Z H S W { D with nx := lfSy K T mg W B D } { E with nx := B E } :=
  ⟨⟨fun σ H' τ S' x sl ok q => ⟨Z, τ, S', E, sl, ok, q, e.later x⟩, e.rt, e.bk, e.ct⟩, e.yy⟩
/-- an expression that may raise -/
abbrev DEy := DSt → Store → DK → (Str → List D → Store → Prop) → Prop
def lfy (K : PySem.W.Frag) (T : Tb) (mg : MGm) (W : WX) (Ψ : DEy) : TE := fun σ H Q => ∃ Z τ S R RE, Slots K Z H S σ τ ∧ StOk K T Z H S ∧ Ψ τ S R RE ∧ (∀ v H' d S', Ext H S H' S' → Rep K Z H' S' v d → StOk K T Z H' S' → R d S' → Q v H') ∧
  ∀ nm C ps d H' S', Ext H S H' S' → StOk K T Z H' S' → mg nm = some (.ref C) → PayOk K Z H' S' nm ps d → RE nm ps S' → W (.ref C) d σ H'
abbrev XEy (X : Cx) (T : Tb) (W : WX) (e : Expr) (Ψ : DEy) : Prop := PE X e (lfy X.K T X.mg W Ψ)
def dQ (A : DE) : DEy := fun τ S Q _ => A τ S Q
section
variable {X : Cx} {K : PySem.W.Frag} {T : Tb} {W : WX} {a b c e f : Expr} {es : List Expr} {st : Stmt} {sts : List Stmt} {pos p2 : Pos} {A B : DS}
theorem XS.y (h : XS X T st A) : XSy X T W st A := h.imp fun D σ H ⟨Z, τ, S, E, sl, ok, h, k⟩ => ⟨Z, τ, S, E, sl, ok, h, k.toEOk⟩
theorem XSs.y (h : XSs X T sts A) : XSsy X T W sts A := h.imp fun D σ H ⟨Z, τ, S, E, sl, ok, h, k⟩ => ⟨Z, τ, S, E, sl, ok, h, k.toEOk⟩
theorem sy_nil : XSsy X T W [] dNext := XSs.y s_nil
theorem sy_cons (h1 : XSy X T W st A) (h2 : XSsy X T W sts B) : XSsy X T W (st :: sts) (dSeq A B) :=
  (pss_cons h1 h2).imp fun D σ H ⟨Z, τ, S, E, sl, ok, h, k⟩ => ⟨Z, τ, S, _, sl, ok, h, k.nxt⟩
theorem sy_one (h1 : XSy X T W st A) : XSsy X T W [st] A := pss_one h1
theorem sy_if {C : DT} {sa sb : List Stmt} (hc : XT X T c C) (ha : XSsy X T W sa A) (hb : XSsy X T W sb B) : XSy X T W (.If c sa sb pos) (dIfS C A B) :=
  (ps_if hc ha hb).imp fun D σ H ⟨Z, τ, S, E, sl, ok, h, k⟩ => ⟨Z, τ, S, _, sl, ok, h, fun x H1 S1 x1 ok1 h1 => by
    cases x with
    | true => rw [if_pos rfl] at h1; exact ⟨Z, τ, S1, E, sl.ext x1, ok1, h1, k.later x1⟩
    | false => rw [if_neg (by decide)] at h1; exact ⟨Z, τ, S1, E, sl.ext x1, ok1, h1, k.later x1⟩⟩
end
end Dl

set_option Elab.async false
set_option linter.all false
set_option maxRecDepth 100000
namespace Dl
open PySem PySem.Spec PyProof.Rows L2 LamX
section
variable {X : Cx} {K : PySem.W.Frag} {T : Tb} {W : WX} {a b c e f : Expr} {es : List Expr} {st : Stmt} {sts : List Stmt} {pos p2 : Pos} {A B : DS}
theorem sy_for {tgt iter : Expr} {body : List Stmt} {I : DI} {tg : Tg} (hp : PassesOwn (model X.prog X.w) X.A X.env X.xe) (hc : X.calm = true) (hi : XI X T tg tgt iter I) (hg : PG X tgt (tg.g X.K)) (hb : XSsy X T W body B)
    (hs : ∀ x, foldedSetIterable iter X.env x = pure x := by intro _; rfl) : XSy X T W (.For tgt iter body [] pos) (dFor I tg B) := by
  refine (ps_for hp hc hi hg hb hs).imp fun D σ H ⟨Z, τ, S, E, sl, ok, h, k⟩ => ?_
  refine ⟨Z, τ, S, _, sl, ok, h, fun J H1 ds S1 x1 ok1 wk q => ?_⟩
  have sl1 := sl.ext x1
  refine ⟨fun i m σ' H' => m = ds.length - i ∧ i ≤ ds.length ∧ ∃ τ' S', Ext H1 S1 H' S' ∧ Slots X.K Z H' S' σ' τ' ∧ StOk X.K T Z H' S' ∧ loopD tg B E (ds.drop i) τ' S', ⟨ds.length, by simp, Nat.zero_le _, τ, S1, .refl _ _, sl1, ok1, by simpa using q⟩, ?_⟩
  rintro i m σ' H' ⟨rfl, hi', τ', S', x2, sl2, ok2, q2⟩
  by_cases hlt : i < ds.length
  · rw [drop_at hlt] at q2
    refine .inr ⟨wk.go i H' S' x2 hlt, fun σ2 H2 => ∃ τ2 S2, Ext H1 S1 H2 S2 ∧ Slots X.K Z H2 S2 σ2 τ2 ∧ StOk X.K T Z H2 S2 ∧ loopD tg B E (ds.drop (i + 1)) τ2 S2, fun σ2 H2 ⟨τ2, S2, a1, a2, a3, a4⟩ => ⟨ds.length - (i + 1), by omega, rfl, hlt, τ2, S2, a1, a2, a3, a4⟩, fun v H2 y => ?_⟩
    obtain ⟨x3, ok3, r3⟩ := wk.yld Z i ds[i] H' S' v H2 (fun _ h => .inl h) x2 ok2 (by simp [hlt]) y
    unfold loopD at q2
    cases et : tg.d τ' ds[i] with
    | none => rw [et] at q2; exact q2.elim
    | some τ'' =>
      rw [et] at q2
      refine Tg.of r3 (sl2.ext x3) et fun σ3 sl3 _ => ⟨Z, τ'', S', _, sl3, ok3, q2, ?_⟩
      have kl := k.later (x1.trans (x2.trans x3))
      exact ⟨⟨fun σ4 H4 τ4 S4 x4 s4 o4 h4 => ⟨τ4, S4, x2.trans (x3.trans x4), s4, o4, h4⟩, kl.rt, fun σ4 H4 τ4 S4 x4 s4 o4 h4 => kl.nx σ4 H4 τ4 S4 x4 s4 o4 h4, fun σ4 H4 τ4 S4 x4 s4 o4 h4 => ⟨τ4, S4, x2.trans (x3.trans x4), s4, o4, h4⟩⟩, kl.yy⟩
  · have e : i = ds.length := by omega
    subst e
    rw [List.drop_length] at q2
    exact .inl ⟨wk.stop _ H' S' x2 (Nat.le_refl _), (k.later (x1.trans x2)).nx σ' H' τ' S' (.refl _ _) sl2 ok2 q2⟩
/-! expressions that may raise -/
theorem XE.y {Ψ : DE} (h : XE X T e Ψ) : XEy X T W e (dQ Ψ) := h.imp fun σ H Q ⟨Z, τ, S, R, RE, sl, ok, h, k, _⟩ => ⟨Z, τ, S, R, sl, ok, h, k⟩
def dIfy (C : DT) (A B : DEy) : DEy := fun τ S Q RE => C τ S fun x S1 => if x = true then A τ S1 Q RE else B τ S1 Q RE
theorem xy_if {C : DT} {A B : DEy} (hc : XT X T c C) (ha : XEy X T W a A) (hb : XEy X T W b B) : XEy X T W (.IfExp c a b pos) (dIfy C A B) := by
  refine (pe_ifExp hc ha hb).imp fun σ H Q ⟨Z, τ, S, R, RE, sl, ok, h, k, ky⟩ => ?_
  refine ⟨Z, τ, S, _, sl, ok, h, fun x H1 S1 x1 ok1 h1 => ?_⟩
  cases x with
  | true =>
    rw [if_pos rfl] at h1
    rw [if_pos rfl]
    exact ⟨Z, τ, S1, R, RE, sl.ext x1, ok1, h1, fun v H' d S' x => k v H' d S' (x1.trans x), fun nm C ps d H' S' x => ky nm C ps d H' S' (x1.trans x)⟩
  | false =>
    rw [if_neg (by decide)] at h1
    rw [if_neg (by decide)]
    exact ⟨Z, τ, S1, R, RE, sl.ext x1, ok1, h1, fun v H' d S' x => k v H' d S' (x1.trans x), fun nm C ps d H' S' x => ky nm C ps d H' S' (x1.trans x)⟩
def dExpY (A : DEy) : DS := fun E τ S => A τ S (fun _ S1 => E.nx τ S1) fun nm ps S1 => E.ey nm ps τ S1
theorem sy_expr {A : DEy} (he : XEy X T W e A) (hs : swapsWith e none pos.line X.env = pure false := by rfl) : XSy X T W (.Expr e pos) (dExpY A) :=
  (ps_expr he hs).imp fun D σ H ⟨Z, τ, S, E, sl, ok, h, k⟩ => ⟨Z, τ, S, _, _, sl, ok, h, fun v H' d S' x r ok' q => k.nx σ H' τ S' x (sl.ext x) ok' q, fun nm C ps d H' S' x ok' g p q => k.yy nm C ps d σ H' τ S' x (sl.ext x) ok' g p q⟩
def dRetY (A : DEy) : DS := fun E τ S => A τ S E.rt fun nm ps S1 => E.ey nm ps τ S1
theorem sy_ret {A : DEy} (he : XEy X T W e A) : XSy X T W (.Return (some e) pos) (dRetY A) :=
  (ps_ret he).imp fun D σ H ⟨Z, τ, S, E, sl, ok, h, k⟩ => ⟨Z, τ, S, _, _, sl, ok, h, k.rt, fun nm C ps d H' S' x ok' g p q => k.yy nm C ps d σ H' τ S' x (sl.ext x) ok' g p q⟩
def dSetY (i : Nat) (A : DEy) : DS := fun E τ S => A τ S (fun d S1 => E.nx (τ.set i (some d)) S1) fun nm ps S1 => E.ey nm ps τ S1
theorem sy_set {i : Nat} {x : Str} {A : DEy} {pos' : Pos} (hN : X.N.Nodup) (hi : X.N[i]? = some x) (hx : Loc X.env.scope x) (he : XEy X T W e A) (hs : swapsWith e (some (.Name x pos')) pos.line X.env = pure false := by rfl)
    (hf : X.fn x = true ∨ X.env.scope.names.lookup x = some .local := by first | exact .inl rfl | exact .inr rfl | assumption) : XSy X T W (.Assign [.Name x pos'] e pos) (dSetY i A) :=
  (ps_set hN hi hx he hs hf).imp fun D σ H ⟨Z, τ, S, E, sl, ok, h, k⟩ => ⟨Z, τ, S, _, _, sl, ok, h, fun v H' d S' x r ok' q => k.nx _ H' _ S' x ((sl.ext x).set i r) ok' q, fun nm C ps d H' S' x ok' g p q => k.yy nm C ps d σ H' τ S' x (sl.ext x) ok' g p q⟩
/-! ### defs that may raise -/
abbrev DSy := List D → Store → DK → (Str → List D → Store → Prop) → Prop
def lspy (K : PySem.W.Frag) (T : Tb) (mg : MGm) (dsp : DSy) : Sp := fun vs H Q E => ∃ Z ds S R RE, Reps K Z H S vs ds ∧ StOk K T Z H S ∧ dsp ds S R RE ∧ (∀ v H' d S', Ext H S H' S' → Rep K Z H' S' v d → StOk K T Z H' S' → R d S' → Q v H') ∧
  ∀ nm C ps d H' S', Ext H S H' S' → StOk K T Z H' S' → mg nm = some (.ref C) → PayOk K Z H' S' nm ps d → RE nm ps S' → E (.ref C) d H'
abbrev endsy (R : DK) (RE : Str → List D → Store → Prop) : DEnds := { nx := fun _ S' => ∃ S'', Sub S'' S' ∧ R .non S'', rt := fun d S' => ∃ S'', Sub S'' S' ∧ R d S'', ey := fun nm ps _ S' => ∃ S'', Sub S'' S' ∧ RE nm ps S'' }
end
section
variable {P : Program} {w : World} {K : PySem.W.Frag} {mg : Str → Option Value} {base : Heap} {T : Tb}
structure DFy (P : Program) (w : World) (K : PySem.W.Frag) (mg : Str → Option Value) (base : Heap) (T : Tb) (k : Nat) (x : Str) (dsp : DSy) : Prop where
  ex : ∃ (fa : Addr) (fd : FuncData) (ps : List Str), mg x = some (.ref fa) ∧ PySem.W.keepIn K (.ref fa) = true ∧ Binds K fd ps [] ∧ FnOk P w K mg base (L2N.CX P w) k fa fd ps (lspy K T mg dsp)
theorem DFy.mono {j k : Nat} {x : Str} {dsp : DSy} (F : DFy P w K mg base T j x dsp) (h : j ≤ k) : DFy P w K mg base T k x dsp := let ⟨a, b, c, d, e, f, g⟩ := F.ex; ⟨a, b, c, d, e, f, g.mono h⟩
theorem PayOk.sub {Z : List Addr} {H : Hp} {S S' : Store} {nm : Str} {ps : List D} {d : Option Addr} (h : PayOk K Z H S nm ps d) (x : Sub S' S) : PayOk K Z H S' nm ps d := Rep.sub x h
/-- the end of a body that may raise -/
theorem eoky_ends {Z : List Addr} {H : Hp} {S : Store} {Q : VK} {E : XK} {R : DK} {RE : Str → List D → Store → Prop} (kk : ∀ v H' d S', Ext H S H' S' → Rep K Z H' S' v d → StOk K T Z H' S' → R d S' → Q v H')
    (ky : ∀ nm C ps d H' S', Ext H S H' S' → StOk K T Z H' S' → mg nm = some (.ref C) → PayOk K Z H' S' nm ps d → RE nm ps S' → E (.ref C) d H') : EOky K T mg Z H S (fun cls d _ H => E cls d H) { nx := fun _ H' => Q .non H', rt := Q } (endsy R RE) :=
  ⟨⟨fun σ H' τ S' x sl ok ⟨S'', sb, q⟩ => kk _ H' _ S'' (x.sub sb) .non (ok.sub sb) q, fun v H' d S' x r ok ⟨S'', sb, q⟩ => kk v H' d S'' (x.sub sb) (r.sub sb) (ok.sub sb) q, fun _ _ _ _ _ _ _ q => q.elim, fun _ _ _ _ _ _ _ q => q.elim⟩,
    fun nm C ps d σ H' τ S' x sl ok g p ⟨S'', sb, q⟩ => ky nm C ps d H' S'' (x.sub sb) (ok.sub sb) g (p.sub sb) q⟩
/-- a def that may raise, by its body -/
theorem fn_dy {x qual : Str} {st : Stmt} {fa : Addr} {fd : FuncData} {N ps : List Str} {k : Nat} {dsp : DSy} (F : Fun K x qual st fa fd) (S : FnScope N ps (defScope st)) (len : ∀ ds S Q E, dsp ds S Q E → ds.length = ps.length)
    (hbody : ∀ (cdv : Value) (A : Around) (outer : List Env) (s : Shared) (H : Hp) (E : XK), Room k (A.deeper (envOfC qual (defScope st) s.heap.objs.size fa cdv)) →
      ∃ Θ : DS, XSsy (cxOf (L2N.CX P w) P w K mg base N qual (defScope st) fa cdv A outer s H E) T (fun cls d _ H => E cls d H) (defBody st) Θ ∧ ∀ ds S R RE, dsp ds S R RE → Θ (endsy R RE) (startD N ds) S) : FnOk P w K mg base (L2N.CX P w) (k + 1) fa fd ps (lspy K T mg dsp) := by
  obtain ⟨oc, od, kV, doc, pm, an, cdv, ct, osl, rfl, lk, hcd⟩ := F.ex
  refine fn_of lk hcd S (fun vs H Q E ⟨Z, ds, S, R, RE, r, ok, h, _⟩ => by rw [r.length]; exact len ds S R RE h) fun A outer s H vs Q E hr ⟨Z, ds, S0, R, RE, r, ok, h, kk, ky⟩ => ?_
  obtain ⟨Θ, h1, h2⟩ := hbody cdv A outer s H E hr
  exact ⟨_, h1, Z, startD N ds, S0, endsy R RE, slots_start r, ok, h2 ds S0 R RE h, eoky_ends kk ky⟩
end
section
variable {X : Cx} {T : Tb} {W : WX} {e : Expr} {es : List Expr} {p pos pos2 : Pos} {x : Str} {k : Nat} {dsp : DSy}
/-- called where nothing is to be let out -/
def dCallN2 (dsp : DSy) (A : DA) : DE := fun τ S Q => A τ S fun ds S1 => dsp ds S1 Q fun _ _ _ => False
theorem x_callN2 {A : DA} (F : DFy X.prog X.w X.K X.mg X.base T k x dsp) (hr : Room k X.A) (hg : Gl X x) (ha : XA X T (e :: es) A) (hdb : (x == ("__debug__" : Str)) = false := by decide) (he : starEach (e :: es) X.env = (false, eval e X.env) :: starEach es X.env := by rfl)
    (hpl : (backTo pos (starEach es X.env)).any (·.1) = false := by rfl) : XE X T (.Call (.Name x p) (e :: es) [] pos) (dCallN2 dsp A) := by
  obtain ⟨fa, fd, ps, hm, hk, hb, F⟩ := F.ex
  refine (pe_call F hr hg hm hk hb .nil passN ha hdb he hpl).imp fun σ H Q ⟨Z, τ, S, G, sl, ok, h, kk⟩ => ?_
  refine ⟨Z, τ, S, _, sl, ok, h, fun vs H1 ds S1 x1 r1 ok1 h1 => ?_⟩
  show lspy X.K T X.mg dsp (vs ++ []) H1 Q E0
  rw [List.append_nil]
  exact ⟨Z, ds, S1, G, _, r1, ok1, h1, fun v H' d S' x => kk v H' d S' (x1.trans x), fun _ _ _ _ _ _ _ _ _ _ z => z.elim⟩
def dCallY (dsp : DSy) (A : DA) : DEy := fun τ S Q RE => A τ S fun ds S1 => dsp ds S1 Q RE
theorem xy_call {A : DA} (tk : L2N.Takes X W) (F : DFy X.prog X.w X.K X.mg X.base T k x dsp) (hr : Room k X.A) (hg : Gl X x) (ha : XA X T (e :: es) A) (hdb : (x == ("__debug__" : Str)) = false := by decide) (he : starEach (e :: es) X.env = (false, eval e X.env) :: starEach es X.env := by rfl)
    (hpl : (backTo pos (starEach es X.env)).any (·.1) = false := by rfl) : XEy X T W (.Call (.Name x p) (e :: es) [] pos) (dCallY dsp A) := by
  obtain ⟨fa, fd, ps, hm, hk, hb, F⟩ := F.ex
  refine (pe_callS F hr hg hm hk hb (fun σ => L2N.passAt tk σ) ha hdb he hpl).imp fun σ H Q ⟨Z, τ, S, R, RE, sl, ok, h, kk, ky⟩ => ?_
  refine ⟨Z, τ, S, _, sl, ok, h, fun vs H1 ds S1 x1 r1 ok1 h1 => ?_⟩
  exact ⟨Z, ds, S1, _, _, r1, ok1, h1, fun v H' d S' x r ok' q => kk v H' d S' (x1.trans x) r ok' q, fun nm C ps d H' S' x ok' g p q => ky nm C ps d H' S' (x1.trans x) ok' g p q⟩
/-- an own error class, as the top left it -/
structure Ecy (K : PySem.W.Frag) (mg : Str → Option Value) (x : Str) (C : Addr) : Prop where
  q : PySem.W.excIn K C [.type "ValueError", .type "Exception", .type "BaseException", .type "object"] "ValueError.__new__" = true
  g : mg x = some (.ref C)
  k : PySem.W.keepIn K (.ref C) = true
  b : PySem.W.subIn K (.ref C) (.type "BaseException") = some true
  t : PySem.W.typeIn K (.ref C) = some (.type "type")
/-- raise C('..') -/
def dRaiseY (x : Str) : DS := fun E τ S => E.ey x [] τ S
theorem sy_raise {C : Addr} {bmB : List Value} {B newId initId : String} {m : Str} {j : Nat} {p p2 pos pos2 : Pos} (hc : X.calm = true) (tk : L2N.Takes X W) (F : ExcBaseFacts B newId initId bmB) (q : PySem.W.excIn X.K C bmB newId = true) (gC : X.mg x = some (.ref C)) (kC : PySem.W.keepIn X.K (.ref C) = true)
    (b1 : PySem.W.subIn X.K (.ref C) (.type "BaseException") = some true) (t1 : PySem.W.typeIn X.K (.ref C) = some (.type "type")) (hg : Gl X x) (hdb : (x == ("__debug__" : Str)) = false := by decide) : XSy X T W (.Raise (some (.Call (.Name x p) [.Constant (.str m) j p2] [] pos)) none pos2) (dRaiseY x) :=
  (L2N.ps_raise hc tk (L2N.pmk_own F q gC kC (raises_own b1 t1) hg hdb)).imp fun D σ H ⟨Z, τ, S, E, sl, ok, h, k⟩ => k.yy x C [] none σ H τ S (.refl _ _) sl ok gC .none h
end
end Dl

set_option Elab.async false
set_option linter.all false
set_option maxRecDepth 100000
namespace Dl
open PySem PySem.Spec PyProof.Rows L2 LamX
/-! ### what a suite knows of its exception -/
/-- an own error that is raised -/
structure Erz (K : PySem.W.Frag) (mg : MGm) (nm : Str) (C : Addr) : Prop where
  g : mg nm = some (.ref C)
  cl : (PySem.W.clsIn K C).isSome = true
  ga : PySem.W.findIn K (.ref C) "__getattribute__" = some (some (.builtin "BaseException.__getattribute__"))
  gg : PySem.W.findIn K (.ref C) "__getattr__" = some none
  sb : PySem.W.subIn K (.ref C) (.type "BaseException") = some true
  ha : PySem.W.findIn K (.ref C) "__class__" = some (some (.builtin "object.__class__"))
  hn : PySem.W.specialIn K (.builtin "object.__class__") "__get__" = some (some (.builtin "getset_descriptor.__get__"))
  htk : PySem.W.takesIn K (.builtin "object.__class__") = some true
  hm : PySem.W.mroIn K C (.type "object") = some true
  hd : PySem.W.hasDictIn K C = true
def subE (nm c : Str) : Bool := nm == c || c == "SplitError" || c == "ValueError"
/-- try: A  except c as (slot i): B -/
def dTryAs (RN : List Str) (cn : Str) (i : Nat) (A : DS) (B : Addr → Option Addr → Str → DS) : DS := fun E τ S =>
  A { E with ey := fun nm ps τ' S' => nm ∈ RN ∧ if subE nm cn = true then ∀ a d, B a d nm { E with nx := fun τ2 S2 => E.nx (τ2.set i none) S2, bk := fun τ2 S2 => E.bk (τ2.set i none) S2, ct := fun τ2 S2 => E.ct (τ2.set i none) S2 } (τ'.set i (some (.exc a d nm ps))) S' else E.ey nm ps τ' S' } τ S
section
variable {X : Cx} {T : Tb} {W : WX} {pos : Pos}
theorem Slots.none {K : PySem.W.Frag} {Z : List Addr} {H : Hp} {S : Store} {σ : L2.St} {τ : DSt} (s : Slots K Z H S σ τ) (i : Nat) : Slots K Z H S (σ.set i none) (τ.set i none) := by
  refine ⟨by simp [s.len], fun j d e => ?_⟩
  by_cases h : i = j
  · subst h
    by_cases hl : i < τ.length
    · rw [List.getElem?_set_self hl] at e; cases e
    · rw [List.getElem?_eq_none (by simpa using hl)] at e; cases e
  · rw [List.getElem?_set_ne h] at e
    rw [List.getElem?_set_ne h]
    exact s.at_ j d e
theorem sy_tryAs {RN : List Str} {A : DS} {B : Addr → Option Addr → Str → DS} {xn n : Str} {c : Value} {i : Nat} {body suite : List Stmt} {b₀ : Stmt} {np pos' : Pos} (hs : X.stack = X.env :: X.outer) (hf : X.env.frame = some X.env.locals) (hN : X.N.Nodup) (hi : X.N[i]? = some n) (hln : X.env.kindOf n = some .local) (hc : Names X xn c)
    (hx : ∀ nm C, nm ∈ RN → X.mg nm = some (.ref C) → PySem.W.exmOne X.K (.ref C) c = some (subE nm xn)) (tk : L2N.Takes X W)
    (hb : ∀ (W' : WX) (pn : List (Addr × Obj)) (xe : Value → Shared → Prop), L2N.Takes (X.tr pn xe) W' → PassesOwn (model X.prog X.w) X.A X.env xe → XSsy (X.tr pn xe) T W' body A)
    (hsu : ∀ (a : Addr) (oe : Obj) (nm : Str) (C : Addr) (d : Option Addr) (pn : List (Addr × Obj)), nm ∈ RN → X.mg nm = some (.ref C) → L2N.Zn (.ref C) d oe → (∃ vs, oe.data = .fields vs) → XSs (X.suite a ((a, oe) :: pn)) T (b₀ :: suite) (B a d nm)) :
    XSy X T W (.Try body [.ExceptHandler (some (.Name xn np)) (some n) (b₀ :: suite) pos'] [] [] pos) (dTryAs RN xn i A B) := by
  refine (L2N.ps_try_as (i := i) (tb := fun W2 => lfSy X.K T X.mg W2 A) (ts := fun a cls d => fun D σ H => ∃ nm C, nm ∈ RN ∧ cls = .ref C ∧ X.mg nm = some (.ref C) ∧ lfS X.K T (B a d nm) D σ H) hs hf hN hi hln hc tk hb (fun a oe cls d pn hz hf => ⟨fun pins s σ H D I ⟨nm, C, hm, e, g, h⟩ => ?_⟩)).imp fun D σ H ⟨Z, τ, S, E, sl, ok, h, k⟩ => ?_
  · subst e
    exact (hsu a oe nm C d pn hm g hz hf).run pins s σ H D I h
  · refine ⟨Z, τ, S, _, sl, ok, h, ⟨k.nx, k.rt, k.bk, k.ct⟩, fun nm C ps d σ' H' τ' S' x sl' ok' g p ⟨hm, q⟩ => ?_⟩
    refine ⟨subE nm xn, hx nm C hm g, fun eb a na => ?_, fun eb => ?_⟩
    · rw [if_pos eb] at q
      refine ⟨nm, C, hm, rfl, g, Z, τ'.set i (some (.exc a d nm ps)), S', _, sl'.set i (p.to a), ok', q a d, ?_⟩
      have kl := k.toEOk.later x
      exact ⟨fun σ2 H2 τ2 S2 x2 s2 o2 q2 => kl.nx _ H2 _ S2 x2 (s2.none i) o2 q2, kl.rt, fun σ2 H2 τ2 S2 x2 s2 o2 q2 => kl.bk _ H2 _ S2 x2 (s2.none i) o2 q2, fun σ2 H2 τ2 S2 x2 s2 o2 q2 => kl.ct _ H2 _ S2 x2 (s2.none i) o2 q2⟩
    · rw [if_neg (by rw [eb]; decide)] at q
      exact k.yy nm C ps d σ' H' τ' S' x sl' ok' g p q
/-- in a def that lets nothing out -/
def dTryA0 (RN : List Str) (cn : Str) (i : Nat) (A : DS) (B : Addr → Option Addr → Str → DS) : DS := fun E τ S => dTryAs RN cn i A B { E with ey := fun _ _ _ _ => False } τ S
theorem s_tryAs {RN : List Str} {A : DS} {B : Addr → Option Addr → Str → DS} {xn n : Str} {c : Value} {i : Nat} {body suite : List Stmt} {b₀ : Stmt} {np pos' : Pos} (hs : X.stack = X.env :: X.outer) (hf : X.env.frame = some X.env.locals) (hN : X.N.Nodup) (hi : X.N[i]? = some n) (hln : X.env.kindOf n = some .local) (hc : Names X xn c)
    (hx : ∀ nm C, nm ∈ RN → X.mg nm = some (.ref C) → PySem.W.exmOne X.K (.ref C) c = some (subE nm xn))
    (hb : ∀ (W' : WX) (pn : List (Addr × Obj)) (xe : Value → Shared → Prop), L2N.Takes (X.tr pn xe) W' → PassesOwn (model X.prog X.w) X.A X.env xe → XSsy (X.tr pn xe) T W' body A)
    (hsu : ∀ (a : Addr) (oe : Obj) (nm : Str) (C : Addr) (d : Option Addr) (pn : List (Addr × Obj)), nm ∈ RN → X.mg nm = some (.ref C) → L2N.Zn (.ref C) d oe → (∃ vs, oe.data = .fields vs) → XSs (X.suite a ((a, oe) :: pn)) T (b₀ :: suite) (B a d nm)) :
    XS X T (.Try body [.ExceptHandler (some (.Name xn np)) (some n) (b₀ :: suite) pos'] [] [] pos) (dTryA0 RN xn i A B) :=
  (sy_tryAs (W := fun _ _ _ _ => False) hs hf hN hi hln hc hx takesN0 hb hsu).imp fun D σ H ⟨Z, τ, S, E, sl, ok, h, k⟩ => ⟨Z, τ, S, _, sl, ok, h, ⟨k.nx, k.rt, k.bk, k.ct⟩, fun _ _ _ _ _ _ _ _ _ _ _ _ _ z => z.elim⟩
/-- in the suite the exception is handled -/
theorem hot_suite {X : Cx} {a : Addr} {oe : Obj} {cls : Value} {d : Option Addr} {pn : List (Addr × Obj)} (hz : L2N.Zn cls d oe) (hf : ∃ vs, oe.data = .fields vs) : L2H.HotC (X.suite a ((a, oe) :: pn)) := by
  obtain ⟨vs, hv⟩ := hf
  exact ⟨(a, oe), ⟨rfl, vs, hv, hz.2.2 vs hv⟩, List.mem_cons_self⟩
/-! isinstance(e, C), e.f -/
def dIsiE (a : Addr) (d : Option Addr) (nm : Str) (i : Nat) (c : Str) : DE := fun τ S Q => (∃ ps, τ[i]? = some (some (.exc a d nm ps))) ∧ Q (.bl (subE nm c)) S
def rIsiE (a : Addr) (d : Option Addr) (cv : V) (b : Bool) : List V → Hp → VK → Prop := fun xs H Q => xs = [.ref a, cv] ∧ (d = none ∨ ∃ dd fs, d = some dd ∧ H dd = some (.xd fs)) ∧ Q (.bl b) H
theorem call_isiE {a C : Addr} {oe : Obj} {d : Option Addr} {nm : Str} {pn : List (Addr × Obj)} {cv : V} {u : Value} {b : Bool} (Ez : Erz X.K X.mg nm C) (hz : L2N.Zn (.ref C) d oe) (hf : ∃ vs, oe.data = .fields vs) (hc : ClsV cv u) (e : PySem.W.kitOne X.K (.ref C) u = some b) :
    CallR (X.suite a ((a, oe) :: pn)) (.builtin "isinstance") (rIsiE a d cv b) := by
  intro pins s σ H xs us Q I r h
  obtain ⟨rfl, hd, q⟩ := h
  obtain ⟨u1, u2, rfl, r1, r2⟩ := vals2 r
  have e2 := hc.eq r2
  subst e2
  obtain rfl : u1 = Value.ref a := r1
  obtain ⟨ha, _⟩ := I.pin (a, oe) (List.mem_append_left _ List.mem_cons_self)
  obtain ⟨vs, hv⟩ := hf
  have J : ∃ od, PySem.W.InstAt s.heap a oe C od := by
    rcases hd with rfl | ⟨dd, fs, rfl, hx⟩
    · exact ⟨none, ha, hz.1, by unfold PySem.W.notCls; rw [hv], by rw [hz.2.1]; trivial⟩
    · obtain ⟨mA, hns, _⟩ := (show ObjOk X.prog X.w H s.heap dd (.xd fs) from I.hok dd _ hx)
      obtain ⟨od, ho, _⟩ := lookIn_ns hns
      exact ⟨some od, ha, hz.1, by unfold PySem.W.notCls; rw [hv], by rw [hz.2.1]; exact ho⟩
  obtain ⟨od, J⟩ := J
  exact PySem.W.kia_one (PySem.W.kitx_exc (ox := oe) (od := od) Ez.cl Ez.ga Ez.gg Ez.sb Ez.ha Ez.hn Ez.htk Ez.hm) I.kIn J e (fun z => nomatch z) fun tk => ⟨.bl b, H, I.tok tk, rfl, q⟩
theorem exc_dict {K : PySem.W.Frag} {Z : List Addr} {H : Hp} {S : Store} {v : V} {a : Addr} {d : Option Addr} {nm : Str} {ps : List D} (r : Rep K Z H S v (.exc a d nm ps)) : v = .ref a ∧ (d = none ∨ ∃ dd fs, d = some dd ∧ H dd = some (.xd fs)) := by
  cases r with
  | exc0 => exact ⟨rfl, .inl rfl⟩
  | exc1 h _ _ => exact ⟨rfl, .inr ⟨_, _, rfl, h⟩⟩
theorem x_isiE {a C : Addr} {oe : Obj} {d : Option Addr} {nm c n : Str} {i : Nat} {pn : List (Addr × Obj)} {cv : V} {u : Value} {p p1 p2 : Pos} (Ez : Erz X.K X.mg nm C) (hz : L2N.Zn (.ref C) d oe) (hf : ∃ vs, oe.data = .fields vs) (hcl : ClsV cv u) (e : PySem.W.kitOne X.K (.ref C) u = some (subE nm c))
    (hg : Gl X "isinstance") (hm : X.mg "isinstance" = none) (hv : PE (X.suite a ((a, oe) :: pn)) (.Name n p1) (tVar i)) (hcv : PE (X.suite a ((a, oe) :: pn)) (.Name c p2) (tC cv)) (he : starEach [Expr.Name n p1, .Name c p2] X.env = (false, eval (.Name n p1) X.env) :: starEach [Expr.Name c p2] X.env := by rfl)
    (he2 : starEach [Expr.Name c p2] X.env = (false, eval (.Name c p2) X.env) :: starEach [] X.env := by rfl) (hpl : (backTo pos (starEach [Expr.Name c p2] X.env)).any (·.1) = false := by rfl) :
    XE (X.suite a ((a, oe) :: pn)) T (.Call (.Name "isinstance" p) [.Name n p1, .Name c p2] [] pos) (dIsiE a d nm i c) := by
  refine (pe_callB (X := X.suite a ((a, oe) :: pn)) (call_isiE Ez hz hf hcl e) hg hm (by decide +kernel) (pa_cons hv (pa_cons hcv pa_nil he2) he) (by decide) (by decide) he hpl).imp fun σ H Q ⟨Z, τ, S, R, sl, ok, ⟨⟨ps, et⟩, h⟩, k⟩ => ?_
  obtain ⟨v, ev, rv⟩ := sl.at_ i _ et
  obtain ⟨rfl, hd⟩ := exc_dict rv
  exact ⟨.ref a, ev, rfl, hd, k _ H _ S (.refl _ _) (.bl _) ok h⟩
def dExF (a : Addr) (d : Option Addr) (nm : Str) (i : Nat) (f : Str) : DE := fun τ S Q => ∃ dd, fieldOf nm = f ∧ τ[i]? = some (some (.exc a d nm [dd])) ∧ Q dd S
theorem x_exF {a C : Addr} {oe : Obj} {d : Option Addr} {nm n f : Str} {i : Nat} {pn : List (Addr × Obj)} {p1 pos : Pos} (Ez : Erz X.K X.mg nm C) (hno : fieldOf nm = f → PySem.W.findIn X.K (.ref C) f = some none) (hz : L2N.Zn (.ref C) d oe) (hf : ∃ vs, oe.data = .fields vs) (hv : PE (X.suite a ((a, oe) :: pn)) (.Name n p1) (tVar i))
    (hb : attributeBase (.Name n p1) f X.env (eval (.Name n p1) X.env) = eval (.Name n p1) X.env := by rfl) : XE (X.suite a ((a, oe) :: pn)) T (.Attribute (.Name n p1) f pos) (dExF a d nm i f) := by
  refine ⟨fun pins s σ H Q I ⟨Z, τ, S, R, sl, ok, ⟨dd, hff, et, h⟩, k⟩ => ?_⟩
  obtain ⟨v, ev, rv⟩ := sl.at_ i _ et
  obtain ⟨rfl, _⟩ := exc_dict rv
  refine attr_of hb (thn (hv.run pins s σ H (fun v H1 => v = .ref a ∧ H1 = H) I ⟨_, ev, rfl, rfl⟩) fun u s1 ⟨x, H1, I1, rx, q⟩ => ?_)
  obtain ⟨rfl, rfl⟩ := q
  obtain rfl : u = Value.ref a := rx
  cases rv with
  | @exc1 _ b _ w _ hx hn rw' =>
    rw [hff] at hx
    obtain ⟨ha, _⟩ := I1.pin (a, oe) (List.mem_append_left _ List.mem_cons_self)
    obtain ⟨vs, hd⟩ := hf
    obtain ⟨mA, hns, hr⟩ := (show ObjOk X.prog X.w H1 s1.heap b (.xd [(f, w)]) from I1.hok b _ hx)
    obtain ⟨od, ho, hl⟩ := lookIn_ns hns
    have l : List.lookup f [(f, w)] = some w := by simp [List.lookup]
    obtain ⟨u, hu, ru⟩ := RelO.some_of (v := w) (o := mA f) (by rw [← l]; exact hr f)
    have J : PySem.W.InstAt s1.heap a oe C (some od) := ⟨ha, hz.1, by unfold PySem.W.notCls; rw [hd] <;> rfl, by rw [hz.2.1]; exact ho⟩
    exact HandSPX.exc_get I1.kIn J Ez.ga Ez.gg Ez.sb (PySem.W.findObj_own Ez.hd (hno hff) rfl (by rw [hl, hu])) (handed_of ru) ⟨w, H1, I1.tok _, ru, k _ H1 _ S (.refl _ _) rw' ok h⟩
end
end Dl

set_option Elab.async false
set_option linter.all false
set_option maxRecDepth 100000
namespace Dl
open PySem PySem.Spec PyProof.Rows L2 LamX
/-! ### own errors with an own __init__ that hands on to its base's and keeps one value -/
section
variable {X : Cx} {o e : Expr} {es : List Expr} {ta : TA} {p p' p1 p2 pos : Pos}
theorem pe_sinit {pl : Sem Bool} {SC : Addr} (hg : Gl X "SplitError") (hm : X.mg "SplitError" = some (.ref SC)) (hsp : PySem.W.specialIn X.K (.ref SC) "__getattribute__" = some (some (.builtin "type.__getattribute__"))) (hr : PySem.W.readsIn X.K SC (.type "type") = true)
    (vV : PySem.W.findCls X.K (.ref SC) (.type "type") "__init__" = some (.val (.builtin "ValueError.__init__"))) (ha : PA X (e :: es) ta)
    (hc : eval (.Call (.Attribute (.Name "SplitError" p1) "__init__" p2) (e :: es) [] pos) X.env = (do
      let ov ← eval (.Name "SplitError" p1) X.env
      standAt p2.atName
      let (f, first) ← holding [ov] (getMethod ov "__init__" pl)
      callWith pos f first (backTo pos (starEach (e :: es) X.env)) (backToKw pos (keywordEach [] X.env))) := by rfl)
    (he : starEach (e :: es) X.env = (false, eval e X.env) :: starEach es X.env := by rfl) (hpl : (backTo pos (starEach es X.env)).any (·.1) = false := by rfl) :
    PE X (.Call (.Attribute (.Name "SplitError" p1) "__init__" p2) (e :: es) [] pos) (tVeI X.K ta) := by
  refine ⟨fun pins s σ H Q I h => ?_⟩
  refine PySem.W.methodCall_KW (ld_glob I hg hm ?_ (by decide)) hc
  obtain ⟨m, fr⟩ := I.fr
  refine PySem.W.method_of_cls fr I.ok.mod.kin hsp (PySem.W.cls_value I.kIn hr vV (by decide +kernel) ?_)
  show wpAny _ _ (callWith pos (Value.builtin "ValueError.__init__") [] (backTo pos (starEach (e :: es) X.env)) []) _ _ _
  refine PyProof.Rows.callWith_method1 (thn (ha.run pos pins _ σ H _ (I.tok _) h) fun us s1 ⟨vs, H1, I1, r1, a, C, ws, ev, hl, T, ea, q⟩ => ?_) he hpl
  subst ev
  cases r1 with
  | @cons _ u0 _ ur ra rw' =>
    obtain rfl : u0 = Value.ref a := ra
    have hlen : ur.length ≤ sizeLine := by
      rw [← Paired.length rw', sizeLine_eq]
      omega
    exact oinit_ok T I1 ea hlen fun s' J => ⟨.non, H1, J, rfl, q⟩
end
/-- the promise of such an __init__ -/
def spInit (K : PySem.W.Frag) (f : Str) : Sp := fun vs H Q _ => ∃ (a C : Addr) (v : V), vs = [.ref a, v] ∧ OexC K C ∧ PySem.W.findIn K (.ref C) f = some none ∧ H a = some (exo a C none) ∧ ∀ dx, H dx = none → dx ≠ a → Q .non (upd (upd H dx (exd dx [(f, v)])) a (exo a C (some dx)))
/-- what the written part says of such an error -/
structure Epay (P : Program) (w : World) (K : PySem.W.Frag) (mg : MGm) (base : Heap) (nm : Str) (C : Addr) : Prop where
  o : OexC K C
  g : mg nm = some (.ref C)
  no : PySem.W.findIn K (.ref C) (fieldOf nm) = some none
  ini : ∃ (fI : Addr) (fd : FuncData), PySem.W.findIn K (.ref C) "__init__" = some (some (.ref fI)) ∧ PySem.W.typeIn K (.ref fI) = some (.type "function") ∧ FnOk P w K mg base CX0 1 fI fd ["self", fieldOf nm] (spInit K (fieldOf nm)) ∧ Binds K fd ["self", fieldOf nm] []
section
variable {X : Cx} {x : Str} {C fI : Addr} {k : Nat} {fd : FuncData} {ps : List Str} {sp : Sp} {ta : TA} {e : Expr} {es : List Expr} {p pos : Pos}
/-- such an error is made: none stands behind it -/
theorem pmk_pay (T : OexC X.K C) (i1 : PySem.W.findIn X.K (.ref C) "__init__" = some (some (.ref fI))) (i2 : PySem.W.typeIn X.K (.ref fI) = some (.type "function")) (G : FnOk X.prog X.w X.K X.mg X.base CX0 k fI fd ps sp) (room : Room (k + 1) X.A) (bi : Binds X.K fd ps []) (hg : Gl X x) (hm : X.mg x = some (.ref C)) (args : PA X (e :: es) ta)
    (nd : (x == ("__debug__" : Str)) = false) (st : starEach (e :: es) X.env = (false, eval e X.env) :: starEach es X.env) (pl : (backTo pos (starEach es X.env)).any (·.1) = false) : L2N.PMk X (.Call (.Name x p) (e :: es) [] pos) (tMkO C sp [] ta) := fun pins s σ H Q I asks => by
  obtain ⟨_, _, _, _, bm, _, _, _, _, _, _, _, _, _, _, lC, rbm⟩ := T.cls
  refine wpAny_Call_Name_kw (ld_glob I hg hm (PySem.W.callWith_K (h₀ := X.base) I.ok.mod.kin T.kC (thn (args.run pos pins s σ H _ I asks) fun us ⟨h1, gs, dr, tk, os⟩ got => ⟨got.choose_spec.choose_spec.1.kIn, ?_⟩) st pl) nd)
  obtain ⟨vs, H1, J, rv, few, wants⟩ := got
  have free1 : H1 (h1.objs.size + 1) = none := J.hok.fresh (Nat.le_succ _)
  have wish := wants _ free1
  rw [List.append_nil] at wish
  -- the heap with the arguments' tuple and the bare error
  obtain ⟨g, eg⟩ : ∃ g, g = (h1.push (PySem.W.kdv_tup us)).push (PySem.HandSPX.excO C h1.objs.size) := ⟨_, rfl⟩
  have grow : ∀ b o, h1.get? b = some o → g.get? b = some o := fun b o q => by rw [eg]; exact Heap.get?_push_of_some _ (Heap.get?_push_of_some _ q)
  have bare : g.get? (h1.objs.size + 1) = some (PySem.HandSPX.excO C h1.objs.size) := by rw [eg]; heap_get
  have J2 : Inv X pins σ (upd H1 (h1.objs.size + 1) (exo (h1.objs.size + 1) C none)) ⟨g, gs, dr, tk, os⟩ := J.laid (t' := tk) grow (Nat.le_succ _) (exo_ok bare)
  have both : Vals (V.ref (h1.objs.size + 1) :: vs) (Value.ref (h1.objs.size + 1) :: us) := .cons rfl rv
  have as_many : (Value.ref (h1.objs.size + 1) :: us).length = ps.length := by rw [← both.length]; exact G.len _ _ _ _ wish
  have binds := bi ⟨g, gs, dr, tk, os⟩ (Value.ref (h1.objs.size + 1) :: us) J2.kIn (by rw [List.append_nil]; exact as_many)
  rw [List.append_nil] at binds
  have small : us.length ≤ sizeLine := by
    rw [← Paired.length rv, sizeLine_eq]
    omega
  have ran := G.run _ X.stack ⟨g, gs, dr, tk, os⟩ _ ⟨Value.ref (h1.objs.size + 1) :: us, []⟩ _ _ _ (fun _ _ _ => False) (room.make C us []) (J2.env0.make C us []) binds both wish
  rw [eg] at ran
  refine wpAny_call (PySem.HandSPX.call_own PySem.F.excBase_ValueError (fun Y => PySem.HandSPX.refsVE_contains Y bm rbm) (J.kIn _ _ lC) (PySem.W.looks_findIn J.kIn i1) (fun self => PySem.W.bind_fn J.kIn self i2) small (codeAny_mono ran fun r s' end_ => ?_))
  cases r with
  | error er => exact False.elim end_
  | ok fl =>
    cases fl with
    | ret u =>
      obtain ⟨h2, gs2, dr2, tk2, os'⟩ := s'
      obtain ⟨v, H2, osE, bareG, un, hok2, rv2, ev, d, fs, at1, at2, nd1, q2⟩ := end_
      subst ev
      refine ⟨rv2, ?_⟩
      rw [← eg] at un
      obtain ⟨t0, G0, J3, keep, gone, there, hid⟩ := mk_end0 (d2 := dr2) (t2 := tk2) J (Nat.le_succ _) grow un hok2 osE bareG at1 at2 nd1
      exact ⟨_, _, _, ⟨G0, gs2, dr2, tk2, os'⟩, _, .ref C, some d, rfl, J3, keep, gone, there, ⟨rfl, rfl, fun z ez => by cases ez; rfl⟩, rfl, rfl, hid, rfl, bareG, raises_own T.exC T.tyC, q2⟩
    | next => exact False.elim end_
    | brk => exact False.elim end_
    | cont => exact False.elim end_
end
section
variable {X : Cx} {T : Tb} {W : WX} {e : Expr} {x : Str} {A : DE} {p pos pos2 : Pos}
/-- raise C(e) -/
def dRaiseP (x : Str) (A : DE) : DS := fun E τ S => A τ S fun d S1 => E.ey x [d] τ S1
theorem sy_raiseP {C : Addr} (hc : X.calm = true) (tk : L2N.Takes X W) (Ep : Epay X.prog X.w X.K X.mg X.base x C) (hr : Room 2 X.A) (hg : Gl X x) (ha : XE X T e A) (hdb : (x == ("__debug__" : Str)) = false := by decide)
    (he : starEach [e] X.env = (false, eval e X.env) :: starEach [] X.env := by rfl) (hpl : (backTo pos (starEach [] X.env)).any (·.1) = false := by rfl) :
    XSy X T W (.Raise (some (.Call (.Name x p) [e] [] pos)) none pos2) (dRaiseP x A) := by
  obtain ⟨fI, fd, i1, i2, i3, i4⟩ := Ep.ini
  refine (L2N.ps_raise hc tk (pmk_pay Ep.o i1 i2 i3 hr i4 hg Ep.g (pa_cons ha pa_nil he) hdb he hpl)).imp fun D σ H ⟨Z, τ, S, E, sl, ok, h, k⟩ => ?_
  show lf X.K T A σ H fun v H1 => _
  refine ⟨Z, τ, S, _, sl, ok, h, fun v H1 d S1 x1 r1 ok1 h1 => ?_⟩
  refine ⟨by simp, fun a na => ⟨a, C, v, rfl, Ep.o, Ep.no, upd_same, fun dx hn ne => ⟨rfl, dx, [(fieldOf x, v)], upd_same, ?_, ?_, ?_⟩⟩⟩
  · rw [upd_ne ne, upd_same]
  · rwa [upd_ne ne] at hn
  · have hn1 : H1 dx = none := by rwa [upd_ne ne] at hn
    have eq : upd (del (upd (upd (upd H1 a (exo a C none)) dx (exd dx [(fieldOf x, v)])) a (exo a C (some dx))) a) dx (.xd [(fieldOf x, v)]) = upd H1 dx (.xd [(fieldOf x, v)]) := by
      funext b
      by_cases hb : b = dx
      · subst hb; rw [upd_same, upd_same]
      · rw [upd_ne hb, upd_ne hb]
        by_cases hba : b = a
        · subst hba; rw [del_same, na]
        · rw [del_ne hba, upd_ne hba, upd_ne hb, upd_ne hba]
    rw [eq]
    have x2 : Ext H1 S1 (upd H1 dx (.xd [(fieldOf x, v)])) S1 := Ext.new hn1
    exact k.yy x C [d] (some dx) σ _ τ S1 (x1.trans x2) (sl.ext (x1.trans x2)) (ok1.new hn1) Ep.g (.exc1 upd_same (ok1.fresh hn1) (r1.ext x2)) h1
end
section
variable {P : Program} {w : World} {K : PySem.W.Frag} {mg : Str → Option Value} {base : Heap}
/-- def __init__(self, f): SplitError.__init__(self, f); self.f = f -/
theorem fn_init {f qual : Str} {st : Stmt} {fa SC : Addr} {fd : FuncData} {p1 p2 p3 p4 p5 p6 p7 p8 p9 : Pos} (F : Fun K "__init__" qual st fa fd) (S : FnScope ["self", f] ["self", f] (defScope st))
    (hb : defBody st = [.Expr (.Call (.Attribute (.Name "SplitError" p1) "__init__" p2) [.Name "self" p3, .Name f p4] [] p5) p5, .Assign [.Attribute (.Name "self" p6) f p7] (.Name f p8) p9])
    (hc : ∃ pl : Env → Sem Bool, ∀ env : Env, eval (.Call (.Attribute (.Name "SplitError" p1) "__init__" p2) [.Name "self" p3, .Name f p4] [] p5) env = (do
      let ov ← eval (.Name "SplitError" p1) env
      standAt p2.atName
      let (g, first) ← holding [ov] (getMethod ov "__init__" (pl env))
      callWith p5 g first (backTo p5 (starEach [.Name "self" p3, .Name f p4] env)) (backToKw p5 (keywordEach [] env))))
    (hg : (defScope st).names.lookup ("SplitError" : Str) = some .globalImplicit) (h0 : (defScope st).names.lookup ("self" : Str) = some .local) (h1 : (defScope st).names.lookup f = some .local) (hdf : (f == ("__debug__" : Str)) = false) (hcf : (f == ("__classdict__" : Str)) = false)
    (hm : mg "SplitError" = some (.ref SC)) (hsp : PySem.W.specialIn K (.ref SC) "__getattribute__" = some (some (.builtin "type.__getattribute__"))) (hr : PySem.W.readsIn K SC (.type "type") = true)
    (vV : PySem.W.findCls K (.ref SC) (.type "type") "__init__" = some (.val (.builtin "ValueError.__init__"))) : FnOk P w K mg base CX0 1 fa fd ["self", f] (spInit K f) := by
  refine F.ok S (fun vs H Q E ⟨a, C, v, e, _⟩ => by rw [e]; rfl) fun cdv A outer s H vs Q E hr0 ⟨a, C, v, e, T, no, ea, k⟩ => ?_
  rw [hb]
  subst e
  obtain ⟨pl, hc⟩ := hc
  refine ⟨_, pss_cons (ps_expr (pe_sinit (hc := hc _) (show Gl _ _ from hg) hm hsp hr vV (pa_cons (pe_var (i := 0) rfl (.inl h0) (by decide) (by decide)) (pa_cons (pe_var (i := 1) rfl (.inl h1) hdf hcf) pa_nil)))) (pss_one (ps_ost (pe_var (i := 0) rfl (.inl h0) (by decide) (by decide)) (pe_var (i := 1) rfl (.inl h1) hdf hcf))), ?_⟩
  refine ⟨_, rfl, _, rfl, a, C, [v], rfl, by simp, T, ea, ?_⟩
  refine ⟨_, rfl, _, rfl, a, C, rfl, T, no, .inl ⟨ea, fun dx hn ne => k dx hn ne⟩⟩
end
end Dl

set_option Elab.async false
set_option linter.all false
set_option maxRecDepth 100000
namespace Dl
open PySem PySem.Spec PySem.Calls PyProof.Rows L2 LamX PySem.W
/-! ### lambdas with a default -/
abbrev klD (name qual : Str) (params : Arguments) (body : Expr) (scope : Scope) (cl : List (Str × Addr)) (pm cdv ct dV : Value) : FuncData :=
  { name, qualname := qual, params, body := .expr body, scope, globals := mainGlobals, closure := cl, defaults := dV, kwdefaults := .none, doc := .none, pyModule := pm, annotations := none, code := cdv, closureTuple := ct, builtins := builtinsNs }
section
variable {M : Model} {A : Around} {E : Value → Shared → Prop} {s : Shared} {name qual : Str} {params : Arguments} {body : Expr} {scope : Scope} {env : Env} {c P : Addr} {ps : Array Value} {pos : Pos} {firstLine : Nat} {mg : Str → Option Value}
  {clos : List (Str × Addr)} {Q : Value → Shared → Prop} {dV : Value}
/-- the tuple of the captured cells, if there are any -/
theorem clo_val {β : Type} {l : List (Str × Addr)} {jp : Value → Sem β} {G : β → Shared → Prop} (h : ∀ v h1, (∀ b o, s.heap.get? b = some o → h1.get? b = some o) → s.heap.objs.size ≤ h1.objs.size → wpAny M A (jp v) G E { s with heap := h1 }) :
    wpAny M A (if l.isEmpty = true then (pure Value.none >>= jp) else (newTextTuple ((l.mergeSort fun a b => a.1.cps.toList ≤ b.1.cps.toList).map fun q => Value.ref q.2) >>= jp)) G E s := by
  by_cases e : l.isEmpty = true
  · rw [if_pos e]
    exact wpAny_bind (wpAny_pure (h _ s.heap (fun _ _ q => q) (Nat.le_refl _)))
  · rw [if_neg e]
    exact wpAny_bind (wpAny_newTextTuple (h _ _ (fun b o q => Heap.get?_push_of_some _ q) (by rw [Heap.size_push]; omega)))
/-- the function's object, behind its code object cv -/
theorem fn_obj {s1 : Shared} {cv ct : Value} (gl : s1.heap.Ns mainGlobals mg) (bb : s1.heap.BuiltinsAt mg P) (h : Q (.ref s1.heap.objs.size) { s1 with heap := s1.heap.push { cls := .type "function", data := .func (klD name qual params body scope clos ((mg "__name__").getD .none) cv ct dV) } }) :
    wpAny M A (do
      let bs ← builtinsFor mainGlobals env.builtins
      let nm ← nsGet mainGlobals "__name__"
      let dc ← (pure Value.none : Sem Value)
      newObj (.type "function") (.func { name, qualname := qual, params, body := .expr body, scope, globals := mainGlobals, closure := clos, closureTuple := ct, code := cv, builtins := bs, defaults := dV, kwdefaults := .none, annotations := none, pyModule := nm.getD .none, doc := dc })) Q E s1 := by
  obtain ⟨bm, ob, b1, b2, _, _, b3, b4, b5, b6⟩ := bb
  exact wpAny_bind (wpAny_builtinsFor gl b1 b2 b3 b4 b5 b6 (wpAny_bind (wpAny_nsGet gl (wpAny_bind (wpAny_pure (wpAny_newObj_type h (by size_fits)))))))
theorem klD_tail (hcl : closureFor scope env = pure clos) (e0 : env.globals = mainGlobals) (gl : s.heap.Ns mainGlobals mg) (ec : env.code = .ref c) (C : CodeHd s.heap c P) (tb : s.heap.get? P = some (tabObj ps)) (ht : TriplesOk ps.toList) (hgP : mainGlobals ≠ P) (bb : s.heap.BuiltinsAt mg P)
    (new : codeAmong pos ps.toList = none → ∀ (c' : Addr) (ctv : Value) (h' : Heap) (tk : Nat), Heap.ExtBut P s.heap h' → s.heap.objs.size ≤ c' → c' < h'.objs.size → h'.CodeRec (.ref c') qual → h'.get? P = some (tabObj (ps ++ #[rawInt pos.line, rawInt pos.col, .ref c'])) →
      Q (.ref h'.objs.size) { s with heap := h'.push { cls := .type "function", data := .func (klD name qual params body scope clos ((mg "__name__").getD .none) (.ref c') ctv dV) }, toks := tk })
    (old : ∀ cv, codeAmong pos ps.toList = some cv → ∀ (ctv : Value) (h' : Heap) (tk : Nat), (∀ b o, s.heap.get? b = some o → h'.get? b = some o) → s.heap.objs.size ≤ h'.objs.size →
      Q (.ref h'.objs.size) { s with heap := h'.push { cls := .type "function", data := .func (klD name qual params body scope clos ((mg "__name__").getD .none) cv ctv dV) }, toks := tk }) :
    wpAny M A (makeTail name qual params (.expr body) scope env dV .none none pos firstLine) Q E s := by
  unfold makeTail
  rw [hcl, e0]
  refine wpAny_bind (wpAny_pure (clo_val fun ct h1 kp sz => ?_))
  have C1 := C.keeps kp
  have tb1 := kp _ _ tb
  have gl1 := gl.keeps kp
  cases hc : codeAmong pos ps.toList with
  | some cv =>
    refine wpAny_bind (wpAny_functionCode_hit ec (C1.code tb1 ht) hc ?_)
    exact fn_obj (s1 := { s with heap := h1 }) gl1 (bb.keeps kp) (old cv hc ct h1 s.toks kp sz)
  | none =>
    refine wpAny_bind (wpAny_functionCodeX ec (C1.code tb1 ht) (C1.tab tb1) hc fun c' h' tk hx lo hi _ rec' tb' _ => ?_)
    have kx : Heap.ExtBut P s.heap h' := fun b o nb q => hx b o nb (kp b o q)
    have bb' : h'.BuiltinsAt mg P := by
      obtain ⟨bm, ob, b1, b2, b7, b8, b3, b4⟩ := bb
      exact ⟨bm, ob, b1, b2, b7, b8, kx _ _ b8 b3, b4⟩
    exact fn_obj (s1 := { s with heap := h', toks := tk }) (gl.extBut kx hgP) bb' (new hc c' ct h' tk kx (Nat.le_trans sz lo) hi rec' tb'.2)
end
/-! ### a lambda is made -/
section
variable {X : Cx} {pins : List (Addr × Obj)} {σ : L2.St} {H : Hp} {s : Shared}
theorem inv_lam {F : LF} {o : Obj} {t' : Nat} {pm ctv : Value} (I : Inv X pins σ H s) (ho : o = { cls := .type "function", data := .func (F.fd pm ctv) }) :
    Inv X pins σ (upd H s.heap.objs.size (LamO s.heap.objs.size F)) { s with heap := s.heap.push o, toks := t' } := by
  subst ho
  refine I.laid (a := s.heap.objs.size) (fun b u e => Heap.get?_push_of_some _ e) (Nat.le_refl _) ?_
  have e : (s.heap.push ({ cls := .type "function", data := .func (F.fd pm ctv) } : Obj)).get? s.heap.objs.size = some ({ cls := .type "function", data := .func (F.fd pm ctv) } : Obj) := Heap.get?_push_size _ rfl
  exact ⟨⟨_, _, pm, ctv, e⟩, ⟨_, e⟩, fun h1 h2 ⟨od, sl, p, t, z⟩ st => ⟨od, sl, p, t, st _ z⟩⟩
theorem lam_tail {T : Tb} {c P : Addr} {params : Arguments} {body : Expr} {scope : Scope} {pos : Pos} {E : Value → Shared → Prop} {Q : Value → Shared → Prop} (dt : Option Addr) (I : Inv X pins σ H s) (TB : TabB X.base X.mg c P) (hcode : X.env.code = .ref c)
    (hm : (P, X.env.qual ++ "<lambda>") ∈ T) (hu : ∀ p ∈ T, p.1 = P → p.2 = X.env.qual ++ "<lambda>") (hT : Tabs T H) (hfree : ∀ y ∈ scope.names, y.2 = .free → ∃ c, X.env.cells.lookup y.1 = some c)
    (h : ∀ (f c' : Addr) (H1 : Hp) (s' : Shared), Inv X pins σ H1 s' → ExtN H H1 → Tabs T H1 → H f = none → H1 f = some (LamO f ⟨X.env.qual ++ "<lambda>", params, body, scope, cloFrom X.env.cells scope.names [], c', dt⟩) → (∀ S : Store, (∀ a, S a ≠ none → H a ≠ none) → (∀ a o, S a = some o → ∀ q, H a ≠ some (CodeO a q)) → S f = none ∧ S c' = none) →
      H1 c' = some (CodeO c' (X.env.qual ++ "<lambda>")) → Q (.ref f) s') :
    wpAny (model X.prog X.w) X.A (makeTail "<lambda>" (X.env.qual ++ "<lambda>") params (.expr body) scope X.env (dtV dt) .none none pos pos.line) Q E s := by
  obtain ⟨ps, hP, ht, ha⟩ := hT _ hm
  have bP : s.heap.BuiltinsAt X.mg P := TB.bm.keeps I.bk
  have hP' : s.heap.get? P = some { cls := .none, data := .fields ps } := I.hok P _ hP
  refine klD_tail (mg := X.mg) (c := c) (P := P) (ps := ps) (closure_ok hfree) I.ok.glob (I.mod.glob.keeps I.bk) hcode (TB.code.keeps I.bk) hP' ht TB.gP bP (fun hc c' ctv h' tk hx hge hlt hrec htb => ?_) fun cv hc ctv h' tk hx hsz => ?_
  ·
    obtain ⟨c2, oc, vs, t, e2, hoc, hd, hv⟩ := hrec
    cases e2
    have nC : H c' = none := I.hok.fresh hge
    have I1 := inv_table (t' := tk) (more := #[rawInt pos.line, rawInt pos.col, .ref c']) (h' := h') I hP (fun b o hb e => hx b o hb e) htb hge ⟨oc, vs, t, hoc, hd, hv⟩
    have hE : ExtN H (upd (upd H P (.tbl (ps ++ #[rawInt pos.line, rawInt pos.col, .ref c']))) c' (CodeO c' (X.env.qual ++ "<lambda>"))) := fun b o e n => by
      rw [upd_ne (ne_of_none e nC), upd_ne (fun z => n ps (Option.some.inj (e.symm.trans (by rw [z]; exact hP))))]
      exact e
    have eL : (ps ++ #[rawInt pos.line, rawInt pos.col, .ref c']).toList = ps.toList ++ [rawInt pos.line, rawInt pos.col, .ref c'] := by simp
    have T1 : Tabs T (upd (upd H P (.tbl (ps ++ #[rawInt pos.line, rawInt pos.col, .ref c']))) c' (CodeO c' (X.env.qual ++ "<lambda>"))) := fun p hp => by
      by_cases hb : p.1 = P
      · rw [hu p hp hb, hb]
        refine ⟨_, by rw [upd_ne (ne_of_none hP nC), upd_same], by rw [eL]; exact PySem.TriplesOk_snoc _ _ _ _ ht, fun p' cv hcv => ?_⟩
        rw [eL] at hcv
        rcases among_app _ ht hcv with z | z
        · obtain ⟨c0, e1, e2⟩ := ha p' cv z
          exact ⟨c0, e1, hE _ _ e2 codeO_ne⟩
        · exact ⟨c', z, upd_same⟩
      · obtain ⟨ps', a1, a2, a3⟩ := hT p hp
        refine ⟨ps', by rw [upd_ne (ne_of_none a1 nC), upd_ne hb]; exact a1, a2, fun p' cv hcv => ?_⟩
        obtain ⟨c0, e1, e2⟩ := a3 p' cv hcv
        exact ⟨c0, e1, hE _ _ e2 codeO_ne⟩
    have nF := I1.hok.fresh (Nat.le_refl _)
    have I2 := inv_lam (F := ⟨X.env.qual ++ "<lambda>", params, body, scope, cloFrom X.env.cells scope.names [], c', dt⟩) (t' := tk) (pm := (X.mg "__name__").getD .none) (ctv := ctv) I1 rfl
    have hnf : H h'.objs.size = none := I.hok.fresh (Nat.le_trans hge (Nat.le_of_lt hlt))
    refine h h'.objs.size c' _ _ I2 (fun b o e n => ?_) (T1.ext fun b o e => ?_) hnf upd_same (fun S hS _ => ⟨Classical.byContradiction fun z => hS _ z hnf, Classical.byContradiction fun z => hS _ z nC⟩) ?_
    · have e1 := hE b o e n
      exact (upd_ne (ne_of_none e1 nF)).trans e1
    · exact (upd_ne (ne_of_none e nF)).trans e
    · exact (upd_ne (Nat.ne_of_lt hlt)).trans upd_same
  · obtain ⟨c', e, hco⟩ := ha pos cv hc
    subst e
    have I1 : Inv X pins σ H { s with heap := h', toks := tk } := I.kept hx
    have nF : H h'.objs.size = none := I1.hok.fresh (Nat.le_refl _)
    have I2 := inv_lam (F := ⟨X.env.qual ++ "<lambda>", params, body, scope, cloFrom X.env.cells scope.names [], c', dt⟩) (t' := tk) (pm := (X.mg "__name__").getD .none) (ctv := ctv) I1 rfl
    refine h h'.objs.size c' _ _ I2 (fun b o e n => ?_) (hT.ext fun b o e => ?_) nF upd_same (fun S hS hS2 => ⟨Classical.byContradiction fun z => hS _ z nF, ?_⟩) ?_
    · exact (upd_ne (ne_of_none e nF)).trans e
    · exact (upd_ne (ne_of_none e nF)).trans e
    · cases q : S c' with
      | none => rfl
      | some o => exact absurd hco (hS2 _ o q _)
    · exact (upd_ne (ne_of_none hco nF)).trans hco
end
end Dl

set_option Elab.async false
set_option linter.all false
set_option maxRecDepth 100000
namespace Dl
open PySem PySem.Spec PySem.Calls PyProof.Rows L2 LamX
/-! ### lambda: e;  lambda a=0: e -/
/-- the lambda as it is made in a frame whose cells are cells -/
abbrev mkLF (cells : List (Str × Addr)) (qual : Str) (params : Arguments) (body : Expr) (scope : Scope) (c : Addr) (dt : Option Addr) : LF := ⟨qual ++ "<lambda>", params, body, scope, cloFrom cells scope.names [], c, dt⟩
section
variable {X : Cx} {T : Tb} {params : Arguments} {body : Expr} {scope : Scope} {pos : Pos} {c P : Addr}
/-- what a new lambda brings -/
theorem lam_step {K : PySem.W.Frag} {Z : List Addr} {H H1 : Hp} {S : Store} {f : Addr} {F : LF} (ok : StOk K T Z H S) (eN : ExtN H H1) (T1 : Tabs T H1) (hf : H f = none) (f1 : H1 f = some (LamO f F)) (c1 : H1 F.c = some (CodeO F.c F.qual))
    (sn : ∀ S : Store, (∀ a, S a ≠ none → H a ≠ none) → (∀ a o, S a = some o → ∀ q, H a ≠ some (CodeO a q)) → S f = none ∧ S F.c = none) (df : ∀ t, F.dt = some t → H1 t = some (.tup [.int 0]) ∧ S t = none) :
    Ext H S H1 S ∧ StOk K T Z H1 S ∧ Rep K Z H1 S (.ref f) (.fn F [] []) := by
  have x : Ext H S H1 S := ⟨fun a o n e nt => ⟨n, eN a o e nt⟩⟩
  obtain ⟨n1, n2⟩ := sn S (fun a z e => z (ok.fresh e)) fun a o e q z => by
    have m := ok.obj a o e
    cases o with
    | lst ds => obtain ⟨vs, h, _⟩ := m; rw [h] at z; exact codeO_not.1 _ (Option.some.inj z)
    | dK ds => obtain ⟨vs, h, _⟩ := m; rw [h] at z; exact codeO_not.2.1 _ (Option.some.inj z)
    | dT ds => obtain ⟨vs, h, _⟩ := m; rw [h] at z; exact codeO_not.2.2.1 _ (Option.some.inj z)
    | ins C ds => obtain ⟨dx, vs, h, _⟩ := m; rw [h] at z; exact codeO_not.2.2.2 _ _ _ (Option.some.inj z)
    | memo ks => obtain ⟨xs, h, _⟩ := m; rw [h] at z; exact memo_code (Option.some.inj z)
  refine ⟨x, ⟨T1, fun z hz => ?_, fun a o e => ?_⟩, .fn ⟨f1, n1, c1, n2, df⟩ .nil⟩
  · obtain ⟨q1, vs, q2⟩ := ok.rsv z hz
    exact ⟨q1, vs, eN _ _ q2 fun ps w => by cases w⟩
  · obtain ⟨u, hu, nt⟩ := ok.get e
    exact (ok.obj a o e).other (p := a) (u := u) x ((eN _ _ hu nt).trans hu.symm)
def dLam (mk : Addr → Option Addr → LF) : DE := fun _ S Q => ∀ c', Q (.fn (mk c' none) [] []) S
def dLamD (mk : Addr → Option Addr → LF) : DE := fun _ S Q => ∀ c' t, Q (.fn (mk c' (some t)) [] []) S
theorem x_lam (TB : TabB X.base X.mg c P) (hcode : X.env.code = .ref c) (hT : (P, X.env.qual ++ "<lambda>") ∈ T) (hu : ∀ p ∈ T, p.1 = P → p.2 = X.env.qual ++ "<lambda>") (hfree : ∀ y ∈ scope.names, y.2 = .free → X.env.scope.names.lookup y.1 = some .cell ∨ X.env.scope.names.lookup y.1 = some .free)
    (hdef : defaultsOf params X.env = ([], [])) : XE X T (.Lambda params body scope pos) (dLam (mkLF X.env.cells X.env.qual params body scope)) := by
  refine ⟨fun pins s σ H Q I ⟨Z, τ, S, R, sl, ok, h, k⟩ => ?_⟩
  have hfr : ∀ y ∈ scope.names, y.2 = .free → ∃ c, X.env.cells.lookup y.1 = some c := fun y hy e => (hfree y hy e).elim (fun z => I.ok.has _ (.inl z)) fun z => I.ok.has _ (.inr z)
  refine PySem.W.kla_eval hdef ?_
  rw [makeFunction_eq]
  simp only [List.zip_nil_right, List.filterMap_nil, List.isEmpty_nil, if_true, pure_bind]
  refine lam_tail none I TB hcode hT hu ok.tabs hfr fun f c' H1 s' I1 eN T1 hf f1 sn c1 => ?_
  obtain ⟨x, ok1, r1⟩ := lam_step ok eN T1 hf f1 c1 sn (fun t e => by cases e)
  exact ⟨.ref f, H1, I1, rfl, k _ _ _ _ x r1 ok1 (h c')⟩
theorem x_lamD {e0 : Expr} (TB : TabB X.base X.mg c P) (hcode : X.env.code = .ref c) (hT : (P, X.env.qual ++ "<lambda>") ∈ T) (hu : ∀ p ∈ T, p.1 = P → p.2 = X.env.qual ++ "<lambda>") (hfree : ∀ y ∈ scope.names, y.2 = .free → X.env.scope.names.lookup y.1 = some .cell ∨ X.env.scope.names.lookup y.1 = some .free)
    (h0 : PE X e0 (tC (.int 0))) (hdef : defaultsOf params X.env = ([eval e0 X.env], [])) : XE X T (.Lambda params body scope pos) (dLamD (mkLF X.env.cells X.env.qual params body scope)) := by
  refine ⟨fun pins s σ H Q I ⟨Z, τ, S, R, sl, ok, h, k⟩ => ?_⟩
  have hfr : ∀ y ∈ scope.names, y.2 = .free → ∃ c, X.env.cells.lookup y.1 = some c := fun y hy e => (hfree y hy e).elim (fun z => I.ok.has _ (.inl z)) fun z => I.ok.has _ (.inr z)
  rw [arm_eval_Lambda, hdef]
  show wpAny _ _ (do let dv ← evalAll [eval e0 X.env]; let kdv ← holding dv (evalAllOpt []); makeFunction "<lambda>" (X.env.qual ++ "<lambda>") params (.expr body) scope X.env dv kdv [] pos pos.line) _ _ _
  have q0 : tC (.int 0) σ H (fun v H1 => v = .int 0 ∧ H1 = H) := ⟨rfl, rfl⟩
  refine wpAny_bind ?_
  show wpAny _ _ (do let v ← eval e0 X.env; return v :: (← holding [v] (evalAll []))) _ _ _
  refine wpAny_bind (wpAny_mono (h0.run pins s σ H _ I q0) (fun u s1 ⟨v, H1, I1, r1, e1, e2⟩ => ?_) fun _ _ z => z)
  subst e1; subst e2
  refine wpAny_bind (wpAny_holding (wpAny_pure (wpAny_pure (wpAny_bind (wpAny_holding (wpAny_pure ?_))))))
  rw [makeFunction_eq]
  simp only [List.zip_nil_right, List.filterMap_nil, List.isEmpty_nil, List.isEmpty_cons, Bool.false_eq_true, if_true, if_false, pure_bind]
  refine wpAny_bind (wpAny_newTextTuple ?_)
  have nt : H1 s1.heap.objs.size = none := I1.hok.fresh (Nat.le_refl _)
  have I2 : Inv X pins σ (upd H1 s1.heap.objs.size (.tup [.int 0])) { s1 with heap := s1.heap.push { cls := .type "tuple", data := .seq #[u] } } :=
    I1.laid (t' := s1.toks) (fun b u e => Heap.get?_push_of_some _ e) (Nat.le_refl _) ⟨by rw [sizeLine_eq]; exact (by decide : 1 ≤ 16777216), [u], .cons r1 .nil, ⟨_, Heap.get?_push_size _ rfl, rfl, _, rfl⟩⟩
  have ok2 : StOk X.K T Z (upd H1 s1.heap.objs.size (.tup [.int 0])) S := ok.new nt
  have x2 : Ext H1 S (upd H1 s1.heap.objs.size (.tup [.int 0])) S := Ext.new nt
  refine lam_tail (some s1.heap.objs.size) I2 TB hcode hT hu ok2.tabs hfr fun f c' H3 s' I3 eN T3 hf f3 sn c3 => ?_
  obtain ⟨x3, ok3, r3⟩ := lam_step ok2 eN T3 hf f3 c3 sn (fun t e => by cases e; exact ⟨eN _ _ upd_same (fun ps z => by cases z), ok.fresh nt⟩)
  exact ⟨.ref f, H3, I3, rfl, k _ _ _ _ (x2.trans x3) r3 ok3 (h c' _)⟩
end
end Dl

set_option Elab.async false
set_option linter.all false
set_option maxRecDepth 100000
set_option maxHeartbeats 2000000
namespace Dl
open PySem PySem.Spec PyProof.Rows L2 LamX
section
variable {X : Cx} {elt tg iter : Expr} {ifs : List Expr} {scope : Scope} {own : List (Str × Nat)} {pos : Pos} {wi : TI} {g : TG} {tt : TT} {te : TE}
/-- a list comprehension whose condition knows how its block begins -/
theorem pe_lcW (hc : X.calm = true) (nd : X.N.Nodup) (hi : PI X tg iter wi) (ok : BlkOk X.N X.env.scope scope own) (hg : ∀ (s : Shared) (H : Hp) (C : Addr) (cl : List (Str × Addr)) (fp : List Addr), PG (X.blk s H scope (compEnvC scope cl C X.env) fp) tg g)
    (ht : ∀ (pins : List (Addr × Obj)) (σ : L2.St) (s : Shared) (H : Hp) (C : Addr) (cl : List (Str × Addr)) (fp : List Addr), Inv X pins σ H s → (∀ b ∈ fp, FpOk X pins H b ∧ b < s.heap.objs.size) → C = s.heap.objs.size → PTs (X.blk s H scope (compEnvC scope cl C X.env) fp) ifs (fun σ2 H2 Q2 => L2.wipe σ2 (own.map (·.2)) = L2.wipe σ (own.map (·.2)) ∧ tt σ2 H2 Q2)) (he : ∀ (s : Shared) (H : Hp) (C : Addr) (cl : List (Str × Addr)) (fp : List Addr), PE (X.blk s H scope (compEnvC scope cl C X.env) fp) elt te)
    (hs : ∀ x, foldedSetIterable iter X.env x = pure x := by intro _; rfl) : PE X (.ListComp elt [⟨tg, iter, ifs, 0⟩] scope pos) (tLc wi g tt te (own.map (·.2))) := by
  constructor
  intro pins s σ H Q I h
  rw [eval_ListComp]
  have cells : ∀ y ∈ scope.names, y.2 = .free → ∃ c, X.env.cells.lookup y.1 = some c := fun y my e => I.ok.has _ (ok.free y my e)
  apply wpAny_comprehension_free (use := none) rfl hs (closure_ok cells) ok.kind (fun y my e => (ok.uniq y my).trans (by rw [e]))
  refine thn (hi.run pins s σ H _ I h) fun _ s1 h1 => thn h1 fun _ s2 ⟨it, fp, tn, J, H2, e, I2, T, at0, free2, q⟩ => ?_
  subst e
  refine wpAny_newObj_type (newEnv_comp ?_) (Nat.zero_le _)
  -- the new list, at L
  obtain ⟨L, hL⟩ : ∃ L, L = s2.heap.objs.size := ⟨_, rfl⟩
  obtain ⟨W, ⟨m0, w0⟩, turn⟩ := q L (I2.hok.fresh (Nat.le_of_eq hL.symm))
  have I3 : Inv X pins σ (upd H2 L (.lst [])) { s2 with heap := s2.heap.push { cls := .type "list", data := .seq ([] : List Value).toArray } } :=
    I2.laid (t' := s2.toks) (fun b o e => Heap.get?_push_of_some _ e) (Nat.le_of_eq hL.symm) ⟨Nat.zero_le _, [], 0, .nil, by rw [hL]; exact Heap.get?_push_size _ rfl⟩
  have old : ∀ b ∈ fp, b < s2.heap.objs.size := fun b mb => by obtain ⟨o, e, _⟩ := T.obj _ _ at0 b mb; exact Heap.lt_size e
  have at3 := T.keep _ _ (s2.heap.push { cls := .type "list", data := .seq ([] : List Value).toArray }) at0 fun b _ o e => Heap.get?_push_of_some _ e
  have free3 : ∀ b ∈ fp, FpOk X pins (upd H2 L (.lst [])) b ∧ b < (s2.heap.push { cls := .type "list", data := .seq ([] : List Value).toArray }).objs.size := fun b mb =>
    ⟨⟨by rw [upd_ne (by rw [hL]; exact Nat.ne_of_lt (old b mb))]; exact (free2 b mb).1, (free2 b mb).2⟩, by rw [Heap.size_push]; exact Nat.lt_succ_of_lt (old b mb)⟩
  generalize hs3 : ({ s2 with heap := s2.heap.push { cls := .type "list", data := .seq ([] : List Value).toArray } } : Shared) = s3 at I3
  have heap3 : s3.heap = s2.heap.push { cls := .type "list", data := .seq ([] : List Value).toArray } := by rw [← hs3]
  rw [← heap3] at at3 free3
  have I4 := block_start I3 ok nd free3
  have bg := hg s3 (upd H2 L (.lst [])) s3.heap.objs.size (cellsFrom (s3.heap.objs.size + 1) scope.names (cloFrom X.env.cells scope.names [])) fp
  have bt := ht pins σ s3 (upd H2 L (.lst [])) s3.heap.objs.size (cellsFrom (s3.heap.objs.size + 1) scope.names (cloFrom X.env.cells scope.names [])) fp I3 free3 rfl
  have be := he s3 (upd H2 L (.lst [])) s3.heap.objs.size (cellsFrom (s3.heap.objs.size + 1) scope.names (cloFrom X.env.cells scope.names [])) fp
  rw [← hL]
  have at4 := T.keep _ _ (pushCells (s3.heap.push { cls := .type "dict", data := .dict #[] }) scope.names) at3 fun b _ o e => pushCells_keeps _ _ _ _ (Heap.get?_push_of_some _ e)
  show codeAny _ _ (.compStart _ 0 (.ref it) (.ref L) (compEnvC scope (cellsFrom (s3.heap.objs.size + 1) scope.names (cloFrom X.env.cells scope.names [])) s3.heap.objs.size X.env)) (compPost (model X.prog X.w) X.A X.xe none _ (.ref L) s3.heap.objs.size) { s3 with heap := pushCells (s3.heap.push { cls := .type "dict", data := .dict #[] }) scope.names }
  generalize hce : compEnvC scope (cellsFrom (s3.heap.objs.size + 1) scope.names (cloFrom X.env.cells scope.names [])) s3.heap.objs.size X.env = ce at I4 bg bt be ⊢
  have hloc : ce.locals = s3.heap.objs.size := by rw [← hce]; rfl
  generalize hH3 : upd H2 L (.lst []) = H3 at I3 I4 bg bt be w0 free3
  generalize hs4 : ({ s3 with heap := pushCells (s3.heap.push { cls := .type "dict", data := .dict #[] }) scope.names } : Shared) = s4 at I4 ⊢
  have at4' : tn 0 s4.heap := by rw [← hs4]; exact at4
  have ours : ∀ {σ' : L2.St} {H' : Hp} {s' : Shared}, Inv (X.blk s3 H3 scope ce fp) [] σ' H' s' → (∀ b ∈ fp, H' b = none) → ∀ b ∈ fp, FpOk (X.blk s3 H3 scope ce fp) [] H' b := fun {_ _ _} J hn b mb =>
    ⟨hn b mb, (J.ok.exf b mb).1, J.ok.exfs b mb, .inl mb, fun x c e => (J.ok.exf b mb).2 x c e, fun p mp => nomatch (show p ∈ ([] : List (Addr × Obj)) from mp)⟩
  have loop : codeAny (model X.prog X.w) X.A (.compLoop (.ListComp elt [⟨tg, iter, ifs, 0⟩] scope pos) 0 (.ref it) (.ref L) ce) (compPost (model X.prog X.w) X.A X.xe none (fun v s' => ∃ y H', Inv X pins σ H' s' ∧ RelV y v ∧ Q y H') (.ref L) s3.heap.objs.size) s4 := by
    apply compLoop_any (fun n s' => ∃ i H', Inv (X.blk s3 H3 scope ce fp) [] (L2.wipe σ (own.map (·.2))) H' s' ∧ tn i s'.heap ∧ (∀ b ∈ fp, H' b = none) ∧ W i n H') (n := m0) (h := ⟨0, H3, I4, at4', fun b mb => (free3 b mb).1.1, w0⟩)
    rintro n s5 ⟨i, H5, I5, at5, no5, w5⟩
    rcases turn i n H5 w5 with ⟨stop, fin⟩ | ⟨go, Nx, less, step⟩
    · refine thnF (T.done (X.blk s3 H3 scope ce fp) rfl rfl rfl hc i [] s5 _ H5 (fun _ _ => False) I5 (ours I5 no5) at5 stop) ?_
      rintro r s6 ⟨rfl, I6⟩
      -- the def's own context again
      have I7 : Inv X pins σ H5 s6 := I3.call' (ch := fp) I6.os I6.base I6.hok I6.bare fun b mb => let f := (free3 b mb).1; ⟨f.2.2.2.1, f.2.1, f.2.2.2.2.1, f.2.2.2.2.2⟩
      obtain ⟨m, ns, _⟩ := I6.loc
      have noC : H5 s3.heap.objs.size = none := by rw [← hloc]; exact I6.free
      have ns2 : s6.heap.Ns s3.heap.objs.size m := by rw [← hloc]; exact ns
      obtain ⟨c0, c1, c2, c3, c4, c5⟩ := I3.fpOk (Nat.le_refl _) noC
      exact ⟨m, ns2, fun h2 same => ⟨.ref L, H5, I7.turned (t' := s6.toks) (fun b o nb e => (same.2 b nb).trans e) c0 c1 c3 c4 c5, rfl, fin⟩⟩
    · refine thnF (T.item (X.blk s3 H3 scope ce fp) rfl rfl rfl hc i [] s5 _ H5 (fun _ _ => False) I5 (ours I5 no5) at5 go) ?_
      rintro r s6 ⟨u, rfl, h6⟩
      refine thnF h6 ?_
      rintro _ s7 ⟨x, H7, I7, r7, y7, at7, no7⟩
      refine thnF (bg.run _ s7 _ H7 x u _ (I7.pinned (ours I7 no7) (T.obj _ _ at7)) r7 (step x H7 y7)) ?_
      rintro _ s8 ⟨σ8, H8, I8, hw, q8⟩
      refine thnF (bt.run _ s8 σ8 H8 _ I8 ⟨hw, q8⟩) ?_
      rintro b s9 ⟨H9, I9, q9⟩
      have on : ∀ {s' : Shared} {H' : Hp}, Inv (X.blk s3 H3 scope ce fp) ([] ++ pinsAt fp s7.heap) σ8 H' s' → Nx H' → ∃ m, m < n ∧ ∃ i H', Inv (X.blk s3 H3 scope ce fp) [] (L2.wipe σ (own.map (·.2))) H' s' ∧ tn i s'.heap ∧ (∀ b ∈ fp, H' b = none) ∧ W i m H' := fun {s' H'} J nx => by
        obtain ⟨m', lt, w'⟩ := less H' nx
        have held := fun b (mb : b ∈ fp) o (e : s7.heap.get? b = some o) => J.pin (b, o) (List.mem_append_right _ (List.mem_append_right _ (mem_pinsAt mb e)))
        refine ⟨m', lt, i + 1, H', (J.unpinned (pins := [])).weak (by rw [← hw, wipe_length]) (fun j v e => (wipe_some (by rw [hw]; exact e)).1), T.keep _ _ _ at7 fun b mb o e => (held b mb o e).1, fun b mb => ?_, w'⟩
        obtain ⟨o, e, _⟩ := T.obj _ _ at7 b mb
        exact (held b mb o e).2.1
      cases b with
      | false => exact on I9 q9
      | true =>
        refine thnF (be.run _ s9 σ8 H9 _ I9 q9) ?_
        rintro z s10 ⟨yv, H10, I10, r10, acc, e10, z10, nx⟩
        exact app_ok (X := X.blk s3 H3 scope ce fp) I10 e10 z10 r10 fun s11 I11 => on I11 nx
  exact codeAny_compStart_list loop (T.self X.A 0 _ _ _ at4' loop)
end
end Dl

set_option Elab.async false
set_option linter.all false
set_option maxRecDepth 100000
namespace Dl
open PySem PySem.Spec PyProof.Rows L2 LamX NdefX
/-! ### what a lambda promises -/
abbrev LF.nf (F : LF) : NF := ⟨"<lambda>", F.qual, F.params, [], F.scope, F.cl, F.c⟩
/-- the lambda F: b tells what it does, its captured names holding the data -/
structure LOk (P : Program) (w : World) (K : PySem.W.Frag) (mg : MGm) (base : Heap) (T : Tb) (k : Nat) (F : LF) (fr : List Str) (b : DSy) : Prop where
  run : ∀ (A : Around) (outer : List Env) (s : Shared) (H : Hp) (f : Addr) (ws : List V) (Q : VK) (E : XK) (Z : List Addr) (S : Store) (R : DK) (RE : Str → List D → Store → Prop) (dws : List D), Room k A → Env0 P w K mg base A outer s H → FnAt H S f F → CellsAt F.cl fr (ws.map some) s.heap H → Reps K Z H S ws dws → StOk K T Z H S → b dws S R RE →
    (∀ v H' d S', Ext H S H' S' → Rep K Z H' S' v d → StOk K T Z H' S' → R d S' → Q v H') → (∀ nm C ps d H' S', Ext H S H' S' → StOk K T Z H' S' → mg nm = some (.ref C) → PayOk K Z H' S' nm ps d → RE nm ps S' → E (.ref C) d H') →
    codeAny (model P w) A (.call (.ref f) ⟨[], []⟩) (CR (L2N.CX P w) outer P w H s Q E) s
theorem lamO_at {P : Program} {w : World} {H : Hp} {h : Heap} {f : Addr} {F : LF} (hok : HOk P w H h) (e : H f = some (LamO f F)) : ∃ (od : Option Addr) (sl : Array (Option Value)) (pm ctv : Value), h.get? f = some (⟨.type "function", od, .func (F.fd pm ctv), sl⟩ : Obj) := by
  obtain ⟨z, _, _⟩ := (show ObjOk P w H h f (LamO f F) from hok f _ e)
  exact z
section
variable {P : Program} {w : World} {K : PySem.W.Frag} {mg : MGm} {base : Heap} {T : Tb} {k : Nat} {F : LF} {N ps fr : List Str} {Ψ : DEy}
theorem LOk.mono {b : DSy} {j : Nat} (o : LOk P w K mg base T j F fr b) (h : j ≤ k) : LOk P w K mg base T k F fr b := ⟨fun A outer s H f ws Q E Z S R RE dws hr => o.run A outer s H f ws Q E Z S R RE dws (hr.mono h)⟩
/-- the body is walked: vs, us, dvs the parameters' values -/
theorem lok_core (S : NScope N ps fr F.scope) (hN : N = ps ++ fr) {A : Around} {outer : List Env} {s : Shared} {H : Hp} {f : Addr} {ws vs : List V} {us : List Value} {dvs dws : List D} {Q : VK} {E : XK} {Z : List Addr} {S0 : Store} {R : DK} {RE : Str → List D → Store → Prop} (hr : Room (k + 1) A) (e0 : Env0 P w K mg base A outer s H)
    (hf : FnAt H S0 f F) (C : CellsAt F.cl fr (ws.map some) s.heap H) (rw' : Reps K Z H S0 ws dws) (ok : StOk K T Z H S0) (hb : ∀ pm ctv (G : List (Str × Value) → Shared → Prop) (E' : Value → Shared → Prop), G (ps.zip us) s → wpAny (model P w) A.in1 (bindArgs (F.fd pm ctv) ⟨[], []⟩) G E' s) (hl : vs.length = ps.length) (r : Vals vs us) (rd : Reps K Z H S0 vs dvs)
    (hbody : XEy (ncx (L2N.CX P w) P w K mg base N F.nf f A outer s H E) T (fun cls d _ H => E cls d H) F.body Ψ) (q : Ψ (dvs.map some ++ dws.map some) S0 R RE)
    (kk : ∀ v H' d S', Ext H S0 H' S' → Rep K Z H' S' v d → StOk K T Z H' S' → R d S' → Q v H') (ky : ∀ nm C ps d H' S', Ext H S0 H' S' → StOk K T Z H' S' → mg nm = some (.ref C) → PayOk K Z H' S' nm ps d → RE nm ps S' → E (.ref C) d H') :
    codeAny (model P w) A (.call (.ref f) ⟨[], []⟩) (CR (L2N.CX P w) outer P w H s Q E) s := by
  obtain ⟨od, sl, pm, ctv, ho⟩ := lamO_at e0.hok hf.at_
  have lim : s.heap.NoLimit := e0.mod.nolimit.keeps fun b o e => (e0.bs b o e).1
  refine PySem.W.kla_callFunE hr.depth ho rfl S.co S.gen rfl (codeO_at e0.hok hf.co) (hb pm ctv _ _ ?_)
  refine wpAny_newFunctionEnv S.nocell (fun ⟨n, _⟩ hy => S.par n (List.of_mem_zip hy).1) (fun h₁ hns hsb => ⟨lim.fresh _ hsb, ?_⟩) S.kind
  have kp : ∀ b o, s.heap.get? b = some o → h₁.get? b = some o := fun b o e => hsb.extBut b o (Nat.ne_of_lt (Heap.lt_size e)) (Heap.get?_push_of_some _ e)
  have I : Inv (ncx (L2N.CX P w) P w K mg base N F.nf f A outer s H E) [] (startF N vs (ws.map some)) H { s with heap := h₁, toks := s.toks + (ps.zip us).length } := inv_startN (F := F.nf) S hr.hd e0 hl r C hns kp
  have sl0 : Slots K Z H S0 (startF N vs (ws.map some)) (dvs.map some ++ dws.map some) := by
    have l1 := C.len
    have lz : N.length - vs.length - (ws.map some).length = 0 := by rw [hN, List.length_append, hl, l1]; omega
    unfold startF
    rw [lz, List.replicate_zero, List.append_nil]
    refine ⟨by simp [rd.length, rw'.length], fun i d e => ?_⟩
    rw [← List.map_append, List.getElem?_map] at e
    rw [← List.map_append, List.getElem?_map]
    have rr := rd.append rw'
    cases h : (dvs ++ dws)[i]? with
    | none => rw [h] at e; cases e
    | some d' =>
      rw [h] at e
      obtain ⟨v, e1, r1⟩ := rr.get h
      rw [e1]
      have : d' = d := Option.some.inj (Option.some.inj e)
      rw [← this]
      exact ⟨v, rfl, r1⟩
  refine PySem.W.kla_codeExpr (wpAny_mono (hbody.run [] _ _ H Q I ⟨Z, _, S0, R, RE, sl0, ok, q, kk, ky⟩) (fun v s' hq => ?_) fun e s' hq => hq)
  obtain ⟨w', H', J', rv, q'⟩ := hq
  exact ⟨w', H', J'.os, J'.bare, J'.base, J'.hok, rv, q'⟩
/-- lambda: e -/
theorem lok_of (S : NScope fr [] fr F.scope) (hd : F.dt = none) (hb : ∀ pm ctv, bindArgs (F.fd pm ctv) ⟨[], []⟩ = pure [])
    (hbody : ∀ (A : Around) (outer : List Env) (s : Shared) (H : Hp) (f : Addr) (E : XK), Room k (A.deeper (envF F.nf f s.heap.objs.size)) → XEy (ncx (L2N.CX P w) P w K mg base fr F.nf f A outer s H E) T (fun cls d _ H => E cls d H) F.body Ψ) :
    LOk P w K mg base T (k + 1) F fr (fun dws S R RE => Ψ (dws.map some) S R RE) :=
  ⟨fun A outer s H f ws Q E Z S0 R RE dws hr e0 hf C r ok q kk ky => lok_core (vs := []) (us := []) (dvs := []) S rfl hr e0 hf C r ok (fun pm ctv G E' g => by rw [hb pm ctv]; exact wpAny_pure g) rfl .nil .nil (hbody A outer s H f E (hr.deeper _)) q kk ky⟩
/-- lambda a=0: e -/
theorem lok_ofD {a : Str} {t : Addr} (S : NScope (a :: fr) [a] fr F.scope) (hd : F.dt = some t) (hb : ∀ pm ctv (u : Value), ∃ g, bindArgs (F.fd pm ctv) ⟨[], []⟩ = seqItems? (.ref t) >>= g ∧ g (some #[u]) = pure [(a, u)])
    (hbody : ∀ (A : Around) (outer : List Env) (s : Shared) (H : Hp) (f : Addr) (E : XK), Room k (A.deeper (envF F.nf f s.heap.objs.size)) → XEy (ncx (L2N.CX P w) P w K mg base (a :: fr) F.nf f A outer s H E) T (fun cls d _ H => E cls d H) F.body Ψ) :
    LOk P w K mg base T (k + 1) F fr (fun dws S R RE => Ψ (some (.int 0) :: dws.map some) S R RE) := by
  refine ⟨fun A outer s H f ws Q E Z S0 R RE dws hr e0 hf C r ok q kk ky => ?_⟩
  obtain ⟨_, its, rv, o, h1, h2, n, h3⟩ := (show ObjOk P w H s.heap t (.tup [.int 0]) from e0.hok t _ (hf.df t hd).1)
  cases rv with
  | @cons _ u _ _ r1 r2 =>
    cases r2
    refine lok_core (vs := [.int 0]) (us := [u]) (dvs := [.int 0]) S rfl hr e0 hf C r ok (fun pm ctv G E' g => ?_) rfl (.cons r1 .nil) (.cons (.int 0) .nil) (hbody A outer s H f E (hr.deeper _)) q kk ky
    obtain ⟨y, e1, e2⟩ := hb pm ctv u
    rw [e1]
    refine wpAny_bind (wpAny_seqItems h1 h3 ?_)
    rw [show y (some [u].toArray) = y (some #[u]) from rfl, e2]
    exact wpAny_pure g
end
/-! ### work() in a def that got the lambda -/
def dAct (i : Nat) (F : LF) (ws : List V) (dws : List D) (b : DSy) : DEy := fun τ S Q RE => τ[i]? = some (some (.fn F ws dws)) ∧ b dws S Q RE
section
variable {X : Cx} {T : Tb} {W : WX} {k : Nat} {F : LF} {fr : List Str} {b : DSy} {ws : List V} {dws : List D} {i : Nat} {a : Str} {p1 p2 : Pos}
theorem xy_act (tk : L2N.Takes X W) (L : LOk X.prog X.w X.K X.mg X.base T k F fr b) (hr : Room k X.A) (C : CellsAt F.cl fr (ws.map some) X.s_0.heap X.H_0) (nf : ∀ y c, F.cl.lookup y = some c → c ∉ X.fs) (nx : ∀ y c, F.cl.lookup y = some c → c ∉ X.ex)
    (hN : X.N[i]? = some a) (hv : Vis X.env.scope a) (hd : (a == ("__debug__" : Str)) = false := by decide) (hcd : (a == ("__classdict__" : Str)) = false := by decide) : XEy X T W (.Call (.Name a p1) [] [] p2) (dAct i F ws dws b) := by
  refine ⟨fun pins s σ H Q I ⟨Z, τ, S, R, RE, sl, ok, ⟨et, q⟩, kk, ky⟩ => ?_⟩
  obtain ⟨v, ev, rv⟩ := sl.at_ i _ et
  cases rv with
  | @fn f _ _ _ hf rr =>
    refine wpAny_Call_Name_kw (thn ((pe_var (pos := p1) hN hv hd hcd).run pins s σ H (fun v H1 => v = .ref f ∧ H1 = H) I ⟨.ref f, ev, rfl, rfl⟩) fun u s1 ⟨v, H1, I1, r1, q1⟩ => ?_)
    obtain ⟨e1, e2⟩ := q1
    subst e1; subst e2
    obtain rfl : u = Value.ref f := r1
    obtain ⟨od, sl', pm, ctv, ho⟩ := lamO_at I1.hok hf.at_
    refine PySem.W.callWith_F0 (first := []) ⟨_, _, _, _, ho⟩ ?_
    have tail := L.run X.A X.stack s1 H1 f ws Q (fun cls d H' => W cls d σ H') Z S R RE dws hr I1.env0 hf (C.later nf nx I1) rr ok q kk ky
    refine wpAny_call (codeAny_mono tail fun r s' hq => ?_)
    cases r with
    | error e => exact L2N.passAt tk σ pins H1 s1 e s' I1 hq
    | ok fl =>
      cases fl with
      | ret u => exact I1.after hq
      | next => exact False.elim hq
      | brk => exact False.elim hq
      | cont => exact False.elim hq
end
end Dl

set_option Elab.async false
set_option linter.all false
set_option maxRecDepth 100000
namespace Dl
open PySem PySem.Spec PyProof.Rows L2 LamX NdefX
/-! ### defs that get a lambda and let nothing out -/
abbrev DBe := Store → DK → (Str → List D → Store → Prop) → Prop
structure DGn (P : Program) (w : World) (K : PySem.W.Frag) (mg : MGm) (base : Heap) (T : Tb) (k : Nat) (x : Str) (gsp : DBe → DSp) : Prop where
  ex : ∃ fa : Addr, mg x = some (.ref fa) ∧ PySem.W.keepIn K (.ref fa) = true ∧ ∀ (A : Around) (outer : List Env) (s : Shared) (H : Hp) (us : List Value) (vs : List V) (Q : VK) (F : LF) (fr : List Str) (ws : List V) (dws rest : List D) (b : DSy) (Z : List Addr) (S : Store) (R : DK),
    Room (k + 1) A → Env0 P w K mg base A outer s H → Vals vs us → LOk P w K mg base T k F fr b → CellsAt F.cl fr (ws.map some) s.heap H → (∀ y c, F.cl.lookup y = some c → c ∉ frs outer) → Reps K Z H S vs (.fn F ws dws :: rest) → StOk K T Z H S → gsp (b dws) rest S R →
    (∀ v H' d S', Ext H S H' S' → Rep K Z H' S' v d → StOk K T Z H' S' → R d S' → Q v H') → codeAny (model P w) A (.call (.ref fa) ⟨us, []⟩) (CR CX0 outer P w H s Q E0) s
theorem fn_g {P : Program} {w : World} {K : PySem.W.Frag} {mg : MGm} {base : Heap} {T : Tb} {x qual : Str} {st : Stmt} {fa : Addr} {fd : FuncData} {N ps : List Str} {k : Nat} {gsp : DBe → DSp} (F0 : Fun K x qual st fa fd) (S : FnScope N ps (defScope st)) (bi : Binds K fd ps []) (hm : mg x = some (.ref fa)) (hk : PySem.W.keepIn K (.ref fa) = true)
    (len : ∀ b rest S R, gsp b rest S R → rest.length + 1 = ps.length)
    (hbody : ∀ (cdv : Value) (A : Around) (outer : List Env) (s : Shared) (H : Hp) (F : LF) (fr : List Str) (ws : List V) (dws : List D) (b : DSy), Room k (A.deeper (envOfC qual (defScope st) s.heap.objs.size fa cdv)) → LOk P w K mg base T k F fr b → CellsAt F.cl fr (ws.map some) s.heap H → (∀ y c, F.cl.lookup y = some c → c ∉ frs outer) →
      ∃ Θ : DS, XSs (cxOf CX0 P w K mg base N qual (defScope st) fa cdv A outer s H E0) T (defBody st) Θ ∧ ∀ rest S R, gsp (b dws) rest S R → Θ (ends R) (startD N (.fn F ws dws :: rest)) S) : DGn P w K mg base T k x gsp := by
  obtain ⟨oc, od, kV, doc, pm, an, cdv, ct, osl, rfl, lk, hcd⟩ := F0.ex
  refine ⟨fa, hm, hk, fun A outer s H us vs Q F fr ws dws rest b Z S0 R hr e0 r L C nf rr ok g kk => ?_⟩
  have hl : vs.length = ps.length := by rw [rr.length, List.length_cons]; exact len _ _ _ _ g
  have lu : us.length = ps.length := by rw [← r.length]; exact hl
  have hb := bi s us (e0.mod.kin.keeps fun b o e => (e0.bs b o e).1) (by rw [List.append_nil]; exact lu)
  rw [List.append_nil] at hb
  refine run_ofS (N := N) (ps := ps) lk hcd S hr e0 hb r hl fun hr' => ?_
  obtain ⟨Θ, h1, h2⟩ := hbody cdv A outer s H F fr ws dws b hr' L C nf
  exact ⟨_, h1, Z, startD N (.fn F ws dws :: rest), S0, ends R, slots_start rr, ok, h2 rest S0 R g, eok_ends kk⟩
section
variable {X : Cx} {pins : List (Addr × Obj)} {σ : L2.St} {H : Hp} {s : Shared}
theorem cell_nf (I : Inv X pins σ H s) (hfn : ∀ x, X.fn x = true) {y : Str} {c : Addr} (e : X.env.cells.lookup y = some c) : c ∉ frs X.stack := fun z => by
  rcases List.mem_cons.mp (I.stkSub _ z) with z | z
  · exact I.cne y c e z
  · obtain ⟨_, o, ho, _⟩ := I.ok.funs.mem z
    exact absurd (Nat.lt_of_lt_of_le (Heap.lt_size ho) (I.ok.cab y c (hfn y) e)) (Nat.lt_irrefl _)
theorem wipe_at : ∀ {σ : L2.St} {ws : List Nat} {j : Nat}, j ∉ ws → (L2.wipe σ ws)[j]? = σ[j]?
  | _, [], _, _ => rfl
  | σ, w :: ws, j, h => by
    have h1 : w ≠ j := fun z => h (by rw [z]; exact List.mem_cons_self)
    have h2 : j ∉ ws := fun z => h (List.mem_cons_of_mem _ z)
    unfold L2.wipe
    rw [List.getElem?_set_ne h1, wipe_at h2]
/-- the values of slots that hold data -/
theorem slots_vals {K : PySem.W.Frag} {Z : List Addr} {S : Store} {τ : DSt} (sl : Slots K Z H S σ τ) : ∀ {js : List Nat} {dws : List D}, js.map (fun j => τ[j]?) = dws.map (fun d => some (some d)) → ∃ ws : List V, js.map (slotAt σ) = ws.map some ∧ Reps K Z H S ws dws
  | [], [], _ => ⟨[], rfl, .nil⟩
  | j :: js, d :: dws, e => by
    simp only [List.map_cons, List.cons.injEq] at e
    obtain ⟨ws, e1, r1⟩ := slots_vals sl e.2
    obtain ⟨v, ev, rv⟩ := sl.at_ j d e.1
    exact ⟨v :: ws, by rw [List.map_cons, List.map_cons, e1, slotAt_of ev], .cons rv r1⟩
  | [], _ :: _, e => by simp at e
  | _ :: _, [], e => by simp at e
end
/-- g(w, ..), w one of the known lambdas; js: the slots of its captured names -/
def dCallG (Kn : LF → List Nat → DSy → Prop) (gsp : DBe → DSp) (A : DA) : DE := fun τ S Q => A τ S fun ds S1 => match ds with
  | .fn F [] [] :: rest => ∃ js b dws, Kn F js b ∧ js.map (fun j => τ[j]?) = dws.map (fun d => some (some d)) ∧ gsp (b dws) rest S1 Q
  | _ => False
section
variable {X : Cx} {T : Tb} {k j : Nat} {x : Str} {gsp : DBe → DSp} {Kn : LF → List Nat → DSy → Prop} {A : DA} {e : Expr} {es : List Expr} {p pos : Pos}
theorem callG_run {Y : Cx} {pins : List (Addr × Obj)} {σ : L2.St} {H : Hp} {s : Shared} {Q : VK} {fa : Addr} {us : List Value} {vs : List V} {F : LF} {fr : List Str} {js : List Nat} {b : DSy} {dws rest : List D} {Z : List Addr} {τ : DSt} {S : Store} {R : DK} {gsp : DBe → DSp}
    (run : ∀ (A : Around) (outer : List Env) (s : Shared) (H : Hp) (us : List Value) (vs : List V) (Q : VK) (F : LF) (fr : List Str) (ws : List V) (dws rest : List D) (b : DSy) (Z : List Addr) (S : Store) (R : DK),
      Room (k + 1) A → Env0 Y.prog Y.w Y.K Y.mg Y.base A outer s H → Vals vs us → LOk Y.prog Y.w Y.K Y.mg Y.base T k F fr b → CellsAt F.cl fr (ws.map some) s.heap H → (∀ y c, F.cl.lookup y = some c → c ∉ frs outer) → Reps Y.K Z H S vs (.fn F ws dws :: rest) → StOk Y.K T Z H S → gsp (b dws) rest S R →
      (∀ v H' d S', Ext H S H' S' → Rep Y.K Z H' S' v d → StOk Y.K T Z H' S' → R d S' → Q v H') → codeAny (model Y.prog Y.w) A (.call (.ref fa) ⟨us, []⟩) (CR CX0 outer Y.prog Y.w H s Q E0) s)
    (I : Inv Y pins σ H s) (hr : Room (k + 1) Y.A) (L : LOk Y.prog Y.w Y.K Y.mg Y.base T k F fr b) (C : CellsAt F.cl fr (js.map (slotAt σ)) s.heap H) (nf : ∀ y c, F.cl.lookup y = some c → c ∉ frs Y.stack) (r : Vals vs us) (rr : Reps Y.K Z H S vs (.fn F [] [] :: rest)) (sl : Slots Y.K Z H S σ τ) (ok : StOk Y.K T Z H S)
    (e : js.map (fun j => τ[j]?) = dws.map (fun d => some (some d))) (g : gsp (b dws) rest S R) (kk : ∀ v H' d S', Ext H S H' S' → Rep Y.K Z H' S' v d → StOk Y.K T Z H' S' → R d S' → Q v H') : wpAny (model Y.prog Y.w) Y.A (call (.ref fa) us) (EP Y pins σ Q) Y.xe s := by
  obtain ⟨ws, ew, rw'⟩ := slots_vals sl e
  rw [ew] at C
  have rr' : Reps Y.K Z H S vs (.fn F ws dws :: rest) := by
    cases rr with
    | cons r1 r2 =>
      cases r1 with
      | fn hf _ => exact .cons (.fn hf rw') r2
  refine wpAny_call (codeAny_mono (run Y.A Y.stack s H us vs Q F fr ws dws rest b Z S R hr I.env0 r L C nf rr' ok g kk) fun r s' hq => ?_)
  cases r with
  | error e => exact hq.elim
  | ok fl =>
    cases fl with
    | ret u => exact I.after hq
    | next => exact False.elim hq
    | brk => exact False.elim hq
    | cont => exact False.elim hq
/-- in the frame of the def that made it -/
theorem x_callG (G : DGn X.prog X.w X.K X.mg X.base T k x gsp) (hr : Room (k + 1) X.A) (hfn : ∀ x, X.fn x = true) (hK : ∀ F js b, Kn F js b → ∃ fr, (X.Ok → Caps X F.cl fr js) ∧ LOk X.prog X.w X.K X.mg X.base T k F fr b) (hg : Gl X x) (ha : XA X T (e :: es) A)
    (hdb : (x == ("__debug__" : Str)) = false := by decide) (he : starEach (e :: es) X.env = (false, eval e X.env) :: starEach es X.env := by rfl) (hpl : (backTo pos (starEach es X.env)).any (·.1) = false := by rfl) : XE X T (.Call (.Name x p) (e :: es) [] pos) (dCallG Kn gsp A) := by
  obtain ⟨fa, hm, hk, run⟩ := G.ex
  refine ⟨fun pins s σ H Q I ⟨Z, τ, S, R, sl, ok, h, kk⟩ => ?_⟩
  refine wpAny_Call_Name_kw (ld_glob I hg hm ?_ hdb)
  refine PySem.W.callWith_K (h₀ := X.base) I.ok.mod.kin hk (thn (ha.run pos pins s σ H (fun vs H1 => ∃ ds S1, Ext H S H1 S1 ∧ Reps X.K Z H1 S1 vs ds ∧ StOk X.K T Z H1 S1 ∧ (match ds with
    | .fn F [] [] :: rest => ∃ js b dws, Kn F js b ∧ js.map (fun j => τ[j]?) = dws.map (fun d => some (some d)) ∧ gsp (b dws) rest S1 R
    | _ => False)) I ⟨Z, τ, S, _, sl, ok, h, fun vs H1 ds S1 x1 r1 ok1 q => ⟨ds, S1, x1, r1, ok1, q⟩⟩) fun us s1 ⟨vs, H1, I1, r, ds, S1, x1, rr, ok1, q⟩ => ⟨I1.kIn, ?_⟩) he hpl
  split at q
  · rename_i F rest
    obtain ⟨js, b, dws, kn, e1, g⟩ := q
    obtain ⟨fr, cp, L⟩ := hK F js b kn
    have cp := cp I1.ok
    exact callG_run run I1 hr L (cells_of I1 cp) (fun y c e => cell_nf I1 hfn (cp.sub y c e)) r rr (sl.ext x1) ok1 e1 g fun v H' d S' x => kk v H' d S' (x1.trans x)
  · exact q.elim
/-! in a comprehension's condition -/
def lfp (K : PySem.W.Frag) (T : Tb) (pre : L2.St → Prop) (Ψ : DE) : TE := fun σ H Q => pre σ ∧ lf K T Ψ σ H Q
def lfTp (K : PySem.W.Frag) (T : Tb) (pre : L2.St → Prop) (Ψ : DT) : TT := fun σ H Q => pre σ ∧ lfT K T Ψ σ H Q
theorem tp_val {pre : L2.St → Prop} {Ψ : DE} (h : PE X e (lfp X.K T pre Ψ)) (he : ∀ whole, isTrue e X.env whole = (do let v ← whole; standAt e.pos; holding [v] (truthy v)) := by intro _; rfl) : PT X e (lfTp X.K T pre (dTest Ψ)) :=
  (pt_val h he).imp fun σ H Q q => by
    obtain ⟨p, Z, τ, S, R, sl, ok, h, k⟩ := q
    refine ⟨p, Z, τ, S, _, sl, ok, h, fun v H' d S' x r ok' q => ?_⟩
    cases d with
    | bl b =>
      rw [r.bool]
      exact ⟨b, rfl, k b H' S' x ok' q⟩
    | _ => exact q.elim
theorem tp_not {pre : L2.St → Prop} {Ψ : DT} (h : PT X e (lfTp X.K T pre Ψ)) : PT X (.UnaryOp .Not e pos) (lfTp X.K T pre (dNot Ψ)) :=
  (pt_not h).imp fun σ H Q ⟨p, Z, τ, S, R, sl, ok, h, k⟩ => ⟨p, Z, τ, S, _, sl, ok, h, fun b H' S' x ok' q => k _ H' S' x ok' q⟩
theorem x_callGB {pins : List (Addr × Obj)} {σ0 : L2.St} {s0 : Shared} {H0 : Hp} {scope : Scope} {ce : Env} {fp : List Addr} {own : List Nat} (I0 : Inv X pins σ0 H0 s0) (hfp : ∀ b ∈ fp, FpOk X pins H0 b ∧ b < s0.heap.objs.size) (G : DGn X.prog X.w X.K X.mg X.base T k x gsp) (hr : Room (k + 1) X.A) (hfn : ∀ x, X.fn x = true)
    (hK : ∀ F js b, Kn F js b → (∀ i ∈ js, i ∉ own) ∧ ∃ fr, (X.Ok → Caps X F.cl fr js) ∧ LOk X.prog X.w X.K X.mg X.base T k F fr b) (hg : Gl (X.blk s0 H0 scope ce fp) x) (ha : XA (X.blk s0 H0 scope ce fp) T (e :: es) A)
    (hdb : (x == ("__debug__" : Str)) = false := by decide) (he : starEach (e :: es) ce = (false, eval e ce) :: starEach es ce := by rfl) (hpl : (backTo pos (starEach es ce)).any (·.1) = false := by rfl) :
    PE (X.blk s0 H0 scope ce fp) (.Call (.Name x p) (e :: es) [] pos) (lfp X.K T (fun σ => L2.wipe σ own = L2.wipe σ0 own) (dCallG Kn gsp A)) := by
  obtain ⟨fa, hm, hk, run⟩ := G.ex
  refine ⟨fun pins' s σ H Q I ⟨hw, Z, τ, S, R, sl, ok, h, kk⟩ => ?_⟩
  refine wpAny_Call_Name_kw (ld_glob I hg hm ?_ hdb)
  refine PySem.W.callWith_K (h₀ := X.base) I.ok.mod.kin hk (thn (ha.run pos pins' s σ H (fun vs H1 => ∃ ds S1, Ext H S H1 S1 ∧ Reps X.K Z H1 S1 vs ds ∧ StOk X.K T Z H1 S1 ∧ (match ds with
    | .fn F [] [] :: rest => ∃ js b dws, Kn F js b ∧ js.map (fun j => τ[j]?) = dws.map (fun d => some (some d)) ∧ gsp (b dws) rest S1 R
    | _ => False)) I ⟨Z, τ, S, _, sl, ok, h, fun vs H1 ds S1 x1 r1 ok1 q => ⟨ds, S1, x1, r1, ok1, q⟩⟩) fun us s1 ⟨vs, H1, I1, r, ds, S1, x1, rr, ok1, q⟩ => ⟨I1.kIn, ?_⟩) he hpl
  split at q
  · rename_i F rest
    obtain ⟨js, b, dws, kn, e1, g⟩ := q
    obtain ⟨nj, fr, cp, L⟩ := hK F js b kn
    have cp := cp I0.ok
    have C0 := cells_of I0 cp
    have es' : js.map (slotAt σ0) = js.map (slotAt σ) := List.map_congr_left fun i hi => by
      unfold NdefX.slotAt
      rw [← wipe_at (σ := σ0) (nj i hi), ← wipe_at (σ := σ) (nj i hi), hw]
    rw [es'] at C0
    refine callG_run (Y := X.blk s0 H0 scope ce fp) run I1 hr L (C0.later (X := X.blk s0 H0 scope ce fp) (fun y c e => cell_nf I0 hfn (cp.sub y c e)) (fun y c e z => ?_) I1) (fun y c e => cell_nf I0 hfn (cp.sub y c e)) r rr (sl.ext x1) ok1 e1 g fun v H' d S' x => kk v H' d S' (x1.trans x)
    exact (hfp c z).1.2.2.2.2.1 y c (cp.sub y c e) rfl
  · exact q.elim
/-- [.. for x in e if ..], the condition in such words -/
theorem x_lcG {elt tgt iter : Expr} {cond : Expr} {scope : Scope} {own : List (Str × Nat)} {I : DI} {tg : Tg} {C : DT} {B : DE} (hc : X.calm = true) (hN : X.N.Nodup) (hi : XI X T tg tgt iter I) (ok : BlkOk X.N X.env.scope scope own) (hg : Blk X scope fun Y => PG Y tgt (tg.g Y.K))
    (ht : ∀ (pins : List (Addr × Obj)) (σ : L2.St) (s : Shared) (H : Hp) (C' : Addr) (cl : List (Str × Addr)) (fp : List Addr), Inv X pins σ H s → (∀ b ∈ fp, FpOk X pins H b ∧ b < s.heap.objs.size) → C' = s.heap.objs.size → PT (X.blk s H scope (compEnvC scope cl C' X.env) fp) cond (lfTp X.K T (fun σ2 => L2.wipe σ2 (own.map (·.2)) = L2.wipe σ (own.map (·.2))) C))
    (he : Blk X scope fun Y => XE Y T elt B) (hws : ∀ i ∈ tg.sl, i ∈ own.map (·.2)) (hs : ∀ x, foldedSetIterable iter X.env x = pure x := by intro _; rfl) : XE X T (.ListComp elt [⟨tgt, iter, [cond], 0⟩] scope pos) (dLc I tg C B (own.map (·.2))) :=
  (pe_lcW (g := tg.g X.K) (tt := lfT X.K T C) (te := lf X.K T B) hc hN hi ok hg (fun pins σ s H C' cl fp I0 hf hC => pts_one (ht pins σ s H C' cl fp I0 hf hC)) he hs).imp fun σ H Q ⟨Z, τ, S, R, sl, ok, h, k⟩ => lf_comp hws sl ok h fun p H1 vs ds S1 x1 e1 n1 nz _ r1 ok1 g => k _ H1 _ S1 x1 (.lst e1 n1 nz (r1.zs fun z h => List.mem_cons_of_mem _ h)) (ok1.zs fun z h => List.mem_cons_of_mem _ h) g
end
end Dl

set_option Elab.async false
set_option linter.all false
set_option maxRecDepth 100000
set_option maxHeartbeats 2000000
/-! ### within an except suite: walks over lists, comprehensions -/
namespace Dl
open PySem PySem.Spec PyProof.Rows L2 LamX L2H
/-- a list's walk ends, while an exception x is handled -/
theorem endH {prog : Program} {w : World} {A : Around} {E : Value → Shared → Prop} {s : Shared} {r l x : Addr} {i : Nat} {xs : Array Value} {G : Option Value → Shared → Prop} (hot : HotX.HotAt A x s.heap) (xr : x ≠ r)
    (at_ : s.heap.IsListIter r l i) (of : s.heap.IsList l xs) (over : xs[i]? = none) (k : ∀ h', Heap.ExtBut r s.heap h' → G none { s with heap := h' }) : wpAny (model prog w) A (pyNext (.ref r)) G E s := by
  have ty := at_.typeIs
  obtain ⟨ob, gb, _, fb⟩ := at_
  obtain ⟨ol, gl, _, m, fl⟩ := of
  obtain ⟨hh, ox, vx, gx, fx, cx⟩ := hot
  have gx2 : (s.heap.update r (Obj.mapFields fun z => z.setIfInBounds 0 Value.none)).get? x = some ox := (Heap.get?_update_other _ _ xr.symm).trans gx
  -- behind the walk: a new object of class StopIteration, its context x
  have tail : ∀ (S2 : Shared), S2 = { s with heap := s.heap.update r (Obj.mapFields fun z => z.setIfInBounds 0 Value.none) } → wpAny (model prog w) A.in1 (do let e ← newExc (.type "StopIteration") []; raiseNew e : Sem Fin) (fun fin s' => ∃ v, fin = Fin.done (Flow.ret v) ∧ wpAny (model prog w) A (pure (some v)) G E s')
      (fun e s' => wpAny (model prog w) A (do if ← isInstance e (.type "StopIteration") then pure none else throw e) G E s') S2 := by
    rintro S2 rfl
    simp only [newExc, newTuple]
    refine wpAny_bind (wpAny_bind (wpAny_newObj_type (wpAny_bind (m := firstArgMember _ _) (wpAny_of_eq (a := Value.none) (by first | rfl | (simp only [firstArgMember]; rfl)) (wpAny_newObj_type ?_ (by size_fits)))) (by size_fits)))
    refine HotX.raiseNew_hot ⟨hh, ox, vx, Heap.get?_push_of_some _ (Heap.get?_push_of_some _ gx2), fx, cx⟩ (Nat.ne_of_lt (Heap.lt_size (Heap.get?_push_of_some _ gx2))) (Heap.get?_push_size _ rfl) rfl (by first | (simp; done) | (simp; omega)) ?_
    refine wpAny_bind (wpAny_isInstance (T := "StopIteration") (b := true) ⟨_, Heap.get?_update_self _ (Heap.get?_push_size _ rfl) rfl, rfl⟩ isSubtype_stop (wpAny_pure (k _ fun b o hb e => ?_)))
    have q := ((Heap.SameBut.update (f := Obj.mapFields fun z => z.setIfInBounds 0 Value.none) ..).extBut.push { cls := .type "tuple", data := .seq #[] }) b o hb e
    exact (Heap.get?_update_other _ _ (Nat.ne_of_gt (Heap.lt_size q))).trans (Heap.get?_push_of_some _ q)
  unfold pyNext
  refine wpAny_bind (wpAny_attempt (wpAny_callSpecial?_slot ty slot_listiter_next (wpAny_call_entry slot_listiter_next ty entry_listiter_next ?_ (args_listiter_next _)) (name := "__next__")))
  refine wpAny_bind (m := field (.ref r) 0) (wpAny_field gb fb (x := .ref l) rfl ?_)
  show wpAny _ _ (if (Value.ref l == Value.none) = true then _ else _) _ _ s
  rw [if_neg (by exact Bool.false_ne_true)]
  refine wpAny_bind (m := field (.ref r) 1) (wpAny_field gb fb (x := .int i 0) rfl (wpAny_bind (m := seqItems? (.ref l)) (wpAny_seqItems gl fl ?_)))
  simp only [Int.toNat_natCast, over]
  exact wpAny_bind (wpAny_rule (wpAny_bind (wpAny_setField gb fb (by simp) (tail _ rfl))))
/-- a list, turn by turn -/
theorem listH {P : Program} {w : World} {K : PySem.W.Frag} {tg : Expr} (l r : Addr) : TurnH P w K tg (Itl K l) [r] r (fun i h => h.IsListIter r l i) := by
  have T0 := turn_list (P := P) (w := w) (K := K) (tg := tg) l r
  refine { mem := T0.mem, obj := T0.obj, keep := T0.keep, self := T0.self, item := ?_, done := ?_ }
  · rintro X rfl rfl rfl hot i pins s σ H E I free at_ ⟨vs, v, sq, hv⟩
    obtain ⟨us, rel, isl, _⟩ := I.list sq
    obtain ⟨u, hu, rv⟩ := rel.get hv
    obtain ⟨g0, g1, g2, g3, g4, g5⟩ := free r List.mem_cons_self
    exact wpAny_pyNext_list_item at_ isl.isList (x := u) (by simpa using hu) fun h2 at2 same => by
      have J : Inv X pins σ H { s with heap := h2 } := I.turned (t' := s.toks) (fun b o nb e => (same.2 b nb).trans e) g0 g1 g3 g4 g5
      obtain ⟨ob, gb, cb, db⟩ := id at2
      refine ⟨u, rfl, go_of (s := { s with heap := h2 }) gb cb db (by decide) ⟨v, H, J, rv, ⟨rfl, fun ys sy => ?_⟩, at2, fun b mb => (free b mb).1⟩⟩
      rw [I.list_inj sy sq]
      exact hv
  · rintro X rfl rfl rfl ⟨q, ⟨hh, vq, dq, cq⟩, mq⟩ i pins s σ H E I free at_ ⟨vs, sq, over⟩
    obtain ⟨us, rel, isl, _⟩ := I.list sq
    obtain ⟨g0, g1, g2, g3, g4, g5⟩ := free r List.mem_cons_self
    have mq2 : q ∈ X.pn ++ pins := List.mem_append_left _ mq
    have ul := rel.length
    exact endH ⟨hh, q.2, vq, (I.pin q mq2).1, dq, cq⟩ (g5 q mq2) at_ isl.isList (by simp; omega) fun h2 ext => ⟨rfl, I.turned (t' := s.toks) (fun b o nb e => ext b o nb e) g0 g1 g3 g4 g5⟩
theorem walkH {X : Cx} {tgt : Expr} {pins : List (Addr × Obj)} {σ : L2.St} {H : Hp} {s : Shared} {l : Addr} {vs : List V} {R : It → Hp → Prop} (I : Inv X pins σ H s) (sq : SqL X.K H l vs) (k : R (Itl X.K l) H) : wpAny (model X.prog X.w) X.A (pyIter (.ref l)) (PIEH X pins σ tgt R) X.xe s := by
  obtain ⟨us, rel, isl, _⟩ := I.list sq
  have none_ : H s.heap.objs.size = none := I.hok.fresh (Nat.le_refl _)
  exact wpAny_pyIter_list isl.isList ⟨_, [s.heap.objs.size], _, _, H, rfl, I.kept (t' := s.toks) fun b o e => Heap.get?_push_of_some _ e, listH l _, ⟨_, Heap.get?_push_size _ rfl, rfl, rfl⟩, fun b mb => by rw [List.mem_singleton.mp mb]; exact I.fpOk (Nat.le_refl _) none_, k⟩
/-! ### the block of a comprehension, what is handled kept in sight -/
abbrev blkH (X : Cx) (s : Shared) (H : Hp) (scope : Scope) (ce : Env) (fp : List Addr) : Cx := { X.blk s H scope ce fp with pn := X.pn }
theorem startH {X : Cx} {pins : List (Addr × Obj)} {σ : L2.St} {H : Hp} {s : Shared} {scope : Scope} {own : List (Str × Nat)} {fp : List Addr} (I : Inv X pins σ H s) (ok : BlkOk X.N X.env.scope scope own) (nd : X.N.Nodup) (free : ∀ b ∈ fp, FpOk X pins H b ∧ b < s.heap.objs.size) :
    Inv (blkH X s H scope (compEnvC scope (cellsFrom (s.heap.objs.size + 1) scope.names (cloFrom X.env.cells scope.names [])) s.heap.objs.size X.env) fp) [] (L2.wipe σ (own.map (·.2))) H { s with heap := pushCells (s.heap.push { cls := .type "dict", data := .dict #[] }) scope.names } := by
  have J := block_start I ok nd free
  refine ⟨?_, J.os, J.bare, J.base, J.loc, J.cell, J.free, J.freeC, fun p mp => ?_, J.hok, J.len⟩
  · have o := J.ok
    exact ⟨o.mod, o.kind, o.glob, o.blt, o.above, o.inj, o.has, o.cab, o.hd, o.frames, o.stk, o.exf, o.bs, o.bsz, o.noex, o.exfs, o.funs, o.frf⟩
  · rw [List.append_nil] at mp
    obtain ⟨p1, p2, p3, p4, p5⟩ := I.pin p (List.mem_append_left _ mp)
    refine ⟨pushCells_keeps _ _ _ _ (Heap.get?_push_of_some _ p1), p2, Nat.ne_of_lt (Heap.lt_size p1), fun z => ?_, p5⟩
    rcases List.mem_cons.mp (I.stkSub _ z) with z | z
    · exact p3 z
    · exact p4 z
end Dl

set_option Elab.async false
set_option linter.all false
set_option maxRecDepth 100000
set_option maxHeartbeats 2000000
namespace Dl
open PySem PySem.Spec PyProof.Rows L2 LamX L2H
section
variable {X : Cx} {elt tg iter : Expr} {ifs : List Expr} {scope : Scope} {own : List (Str × Nat)} {pos : Pos} {wi : TI} {g : TG} {tt : TT} {te : TE}
/-- a list comprehension, while an exception is handled -/
theorem pe_lcH (hot : HotC X) (nd : X.N.Nodup) (hi : PIH X tg iter wi) (ok : BlkOk X.N X.env.scope scope own) (hg : ∀ (s : Shared) (H : Hp) (C : Addr) (cl : List (Str × Addr)) (fp : List Addr), PG (blkH X s H scope (compEnvC scope cl C X.env) fp) tg g)
    (ht : ∀ (s : Shared) (H : Hp) (C : Addr) (cl : List (Str × Addr)) (fp : List Addr), PTs (blkH X s H scope (compEnvC scope cl C X.env) fp) ifs tt) (he : ∀ (s : Shared) (H : Hp) (C : Addr) (cl : List (Str × Addr)) (fp : List Addr), PE (blkH X s H scope (compEnvC scope cl C X.env) fp) elt te)
    (hs : ∀ x, foldedSetIterable iter X.env x = pure x := by intro _; rfl) : PE X (.ListComp elt [⟨tg, iter, ifs, 0⟩] scope pos) (tLc wi g tt te (own.map (·.2))) := by
  constructor
  intro pins s σ H Q I h
  rw [eval_ListComp]
  have cells : ∀ y ∈ scope.names, y.2 = .free → ∃ c, X.env.cells.lookup y.1 = some c := fun y my e => I.ok.has _ (ok.free y my e)
  apply wpAny_comprehension_free (use := none) rfl hs (closure_ok cells) ok.kind (fun y my e => (ok.uniq y my).trans (by rw [e]))
  refine thn (hi.run pins s σ H _ I h) fun _ s1 h1 => thn h1 fun _ s2 ⟨it, fp, tn, J, H2, e, I2, T, at0, free2, q⟩ => ?_
  subst e
  refine wpAny_newObj_type (newEnv_comp ?_) (Nat.zero_le _)
  -- the new list, at L
  obtain ⟨L, hL⟩ : ∃ L, L = s2.heap.objs.size := ⟨_, rfl⟩
  obtain ⟨W, ⟨m0, w0⟩, turn⟩ := q L (I2.hok.fresh (Nat.le_of_eq hL.symm))
  have I3 : Inv X pins σ (upd H2 L (.lst [])) { s2 with heap := s2.heap.push { cls := .type "list", data := .seq ([] : List Value).toArray } } :=
    I2.laid (t' := s2.toks) (fun b o e => Heap.get?_push_of_some _ e) (Nat.le_of_eq hL.symm) ⟨Nat.zero_le _, [], 0, .nil, by rw [hL]; exact Heap.get?_push_size _ rfl⟩
  have old : ∀ b ∈ fp, b < s2.heap.objs.size := fun b mb => by obtain ⟨o, e, _⟩ := T.obj _ _ at0 b mb; exact Heap.lt_size e
  have at3 := T.keep _ _ (s2.heap.push { cls := .type "list", data := .seq ([] : List Value).toArray }) at0 fun b _ o e => Heap.get?_push_of_some _ e
  have free3 : ∀ b ∈ fp, FpOk X pins (upd H2 L (.lst [])) b ∧ b < (s2.heap.push { cls := .type "list", data := .seq ([] : List Value).toArray }).objs.size := fun b mb =>
    ⟨⟨by rw [upd_ne (by rw [hL]; exact Nat.ne_of_lt (old b mb))]; exact (free2 b mb).1, (free2 b mb).2⟩, by rw [Heap.size_push]; exact Nat.lt_succ_of_lt (old b mb)⟩
  generalize hs3 : ({ s2 with heap := s2.heap.push { cls := .type "list", data := .seq ([] : List Value).toArray } } : Shared) = s3 at I3
  have heap3 : s3.heap = s2.heap.push { cls := .type "list", data := .seq ([] : List Value).toArray } := by rw [← hs3]
  rw [← heap3] at at3 free3
  have I4 := startH I3 ok nd free3
  have bg := hg s3 (upd H2 L (.lst [])) s3.heap.objs.size (cellsFrom (s3.heap.objs.size + 1) scope.names (cloFrom X.env.cells scope.names [])) fp
  have bt := ht s3 (upd H2 L (.lst [])) s3.heap.objs.size (cellsFrom (s3.heap.objs.size + 1) scope.names (cloFrom X.env.cells scope.names [])) fp
  have be := he s3 (upd H2 L (.lst [])) s3.heap.objs.size (cellsFrom (s3.heap.objs.size + 1) scope.names (cloFrom X.env.cells scope.names [])) fp
  rw [← hL]
  have at4 := T.keep _ _ (pushCells (s3.heap.push { cls := .type "dict", data := .dict #[] }) scope.names) at3 fun b _ o e => pushCells_keeps _ _ _ _ (Heap.get?_push_of_some _ e)
  show codeAny _ _ (.compStart _ 0 (.ref it) (.ref L) (compEnvC scope (cellsFrom (s3.heap.objs.size + 1) scope.names (cloFrom X.env.cells scope.names [])) s3.heap.objs.size X.env)) (compPost (model X.prog X.w) X.A X.xe none _ (.ref L) s3.heap.objs.size) { s3 with heap := pushCells (s3.heap.push { cls := .type "dict", data := .dict #[] }) scope.names }
  generalize hce : compEnvC scope (cellsFrom (s3.heap.objs.size + 1) scope.names (cloFrom X.env.cells scope.names [])) s3.heap.objs.size X.env = ce at I4 bg bt be ⊢
  have hloc : ce.locals = s3.heap.objs.size := by rw [← hce]; rfl
  generalize hH3 : upd H2 L (.lst []) = H3 at I3 I4 bg bt be w0 free3
  generalize hs4 : ({ s3 with heap := pushCells (s3.heap.push { cls := .type "dict", data := .dict #[] }) scope.names } : Shared) = s4 at I4 ⊢
  have at4' : tn 0 s4.heap := by rw [← hs4]; exact at4
  have ours : ∀ {σ' : L2.St} {H' : Hp} {s' : Shared}, Inv (blkH X s3 H3 scope ce fp) [] σ' H' s' → (∀ b ∈ fp, H' b = none) → ∀ b ∈ fp, FpOk (blkH X s3 H3 scope ce fp) [] H' b := fun {_ _ _} J hn b mb =>
    ⟨hn b mb, (J.ok.exf b mb).1, J.ok.exfs b mb, .inl mb, fun x c e => (J.ok.exf b mb).2 x c e, fun p mp => (free3 b mb).1.2.2.2.2.2 p (List.mem_append_left _ (by rwa [List.append_nil] at mp))⟩
  have loop : codeAny (model X.prog X.w) X.A (.compLoop (.ListComp elt [⟨tg, iter, ifs, 0⟩] scope pos) 0 (.ref it) (.ref L) ce) (compPost (model X.prog X.w) X.A X.xe none (fun v s' => ∃ y H', Inv X pins σ H' s' ∧ RelV y v ∧ Q y H') (.ref L) s3.heap.objs.size) s4 := by
    apply compLoop_any (fun n s' => ∃ i H', Inv (blkH X s3 H3 scope ce fp) [] (L2.wipe σ (own.map (·.2))) H' s' ∧ tn i s'.heap ∧ (∀ b ∈ fp, H' b = none) ∧ W i n H') (n := m0) (h := ⟨0, H3, I4, at4', fun b mb => (free3 b mb).1.1, w0⟩)
    rintro n s5 ⟨i, H5, I5, at5, no5, w5⟩
    rcases turn i n H5 w5 with ⟨stop, fin⟩ | ⟨go, Nx, less, step⟩
    · refine thnF (T.done (blkH X s3 H3 scope ce fp) rfl rfl rfl hot i [] s5 _ H5 (fun _ _ => False) I5 (ours I5 no5) at5 stop) ?_
      rintro r s6 ⟨rfl, I6⟩
      -- the def's own context again
      have I7 : Inv X pins σ H5 s6 := I3.call' (ch := fp) I6.os I6.base I6.hok I6.bare fun b mb => let f := (free3 b mb).1; ⟨f.2.2.2.1, f.2.1, f.2.2.2.2.1, f.2.2.2.2.2⟩
      obtain ⟨m, ns, _⟩ := I6.loc
      have noC : H5 s3.heap.objs.size = none := by rw [← hloc]; exact I6.free
      have ns2 : s6.heap.Ns s3.heap.objs.size m := by rw [← hloc]; exact ns
      obtain ⟨c0, c1, c2, c3, c4, c5⟩ := I3.fpOk (Nat.le_refl _) noC
      exact ⟨m, ns2, fun h2 same => ⟨.ref L, H5, I7.turned (t' := s6.toks) (fun b o nb e => (same.2 b nb).trans e) c0 c1 c3 c4 c5, rfl, fin⟩⟩
    · refine thnF (T.item (blkH X s3 H3 scope ce fp) rfl rfl rfl hot i [] s5 _ H5 (fun _ _ => False) I5 (ours I5 no5) at5 go) ?_
      rintro r s6 ⟨u, rfl, h6⟩
      refine thnF h6 ?_
      rintro _ s7 ⟨x, H7, I7, r7, y7, at7, no7⟩
      refine thnF (bg.run _ s7 _ H7 x u _ (I7.pinned (ours I7 no7) (T.obj _ _ at7)) r7 (step x H7 y7)) ?_
      rintro _ s8 ⟨σ8, H8, I8, hw, q8⟩
      refine thnF (bt.run _ s8 σ8 H8 _ I8 q8) ?_
      rintro b s9 ⟨H9, I9, q9⟩
      have on : ∀ {s' : Shared} {H' : Hp}, Inv (blkH X s3 H3 scope ce fp) ([] ++ pinsAt fp s7.heap) σ8 H' s' → Nx H' → ∃ m, m < n ∧ ∃ i H', Inv (blkH X s3 H3 scope ce fp) [] (L2.wipe σ (own.map (·.2))) H' s' ∧ tn i s'.heap ∧ (∀ b ∈ fp, H' b = none) ∧ W i m H' := fun {s' H'} J nx => by
        obtain ⟨m', lt, w'⟩ := less H' nx
        have held := fun b (mb : b ∈ fp) o (e : s7.heap.get? b = some o) => J.pin (b, o) (List.mem_append_right _ (List.mem_append_right _ (mem_pinsAt mb e)))
        refine ⟨m', lt, i + 1, H', (J.unpinned (pins := [])).weak (by rw [← hw, wipe_length]) (fun j v e => (wipe_some (by rw [hw]; exact e)).1), T.keep _ _ _ at7 fun b mb o e => (held b mb o e).1, fun b mb => ?_, w'⟩
        obtain ⟨o, e, _⟩ := T.obj _ _ at7 b mb
        exact (held b mb o e).2.1
      cases b with
      | false => exact on I9 q9
      | true =>
        refine thnF (be.run _ s9 σ8 H9 _ I9 q9) ?_
        rintro z s10 ⟨yv, H10, I10, r10, acc, e10, z10, nx⟩
        exact app_ok (X := blkH X s3 H3 scope ce fp) I10 e10 z10 r10 fun s11 I11 => on I11 nx
  exact codeAny_compStart_list loop (T.self X.A 0 _ _ _ at4' loop)
end
end Dl

set_option Elab.async false
set_option linter.all false
set_option maxRecDepth 100000
set_option maxHeartbeats 2000000
namespace Dl
open PySem PySem.Spec PyProof.Rows L2 LamX L2H
/-! ### comprehensions of an except suite, for data -/
def itemsLI (A : DE) : DI := fun τ S Q => A τ S fun d S1 => match d with
  | .lst ds => Q ds S1
  | _ => False
theorem i_listH {X : Cx} {T : Tb} {e : Expr} {tg : Tg} {tgt : Expr} {A : DE} (h : XE X T e A) : PIH X tgt e (lfI X.K T tg (itemsLI A)) := by
  refine ⟨fun pins s σ H R I ⟨Z, τ, S, G, sl, ok, h1, k⟩ => ?_⟩
  refine thn (h.go I sl ok h1) fun u s1 ⟨v, H1, d, S1, I1, rv, x1, rd, ok1, q⟩ => ?_
  cases d with
  | lst ds =>
    cases rd with
    | lst ht hn hz rr =>
      cases rv
      exact walkH I1 (SqL.of ht) (k _ H1 ds S1 x1 ok1 (wk_list (fun H' S' x => SqL.of (x.eq _ _ hn ht fun ps z => (by cases z))) rr) q)
  | _ => exact q.elim
abbrev BlkH (X : Cx) (scope : Scope) (P : Cx → Prop) : Prop := ∀ (s : Shared) (H : Hp) (C : Addr) (cl : List (Str × Addr)) (fp : List Addr), P (blkH X s H scope (compEnvC scope cl C X.env) fp)
theorem x_lcH {X : Cx} {T : Tb} {pos : Pos} {elt tgt iter : Expr} {ifs : List Expr} {scope : Scope} {own : List (Str × Nat)} {I : DI} {tg : Tg} {C : DT} {A : DE} (hot : HotC X) (hN : X.N.Nodup) (hi : PIH X tgt iter (lfI X.K T tg I)) (ok : BlkOk X.N X.env.scope scope own)
    (hg : BlkH X scope fun Y => PG Y tgt (tg.g Y.K)) (ht : BlkH X scope fun Y => XTs Y T ifs C) (he : BlkH X scope fun Y => XE Y T elt A) (hws : ∀ i ∈ tg.sl, i ∈ own.map (·.2)) (hs : ∀ x, foldedSetIterable iter X.env x = pure x := by intro _; rfl) :
    XE X T (.ListComp elt [⟨tgt, iter, ifs, 0⟩] scope pos) (dLc I tg C A (own.map (·.2))) :=
  (pe_lcH (g := tg.g X.K) (tt := lfT X.K T C) (te := lf X.K T A) hot hN hi ok hg ht he hs).imp fun σ H Q ⟨Z, τ, S, R, sl, ok, h, k⟩ => lf_comp hws sl ok h fun p H1 vs ds S1 x1 e1 n1 nz _ r1 ok1 g => k _ H1 _ S1 x1 (.lst e1 n1 nz (r1.zs fun z h => List.mem_cons_of_mem _ h)) (ok1.zs fun z h => List.mem_cons_of_mem _ h) g
end Dl

set_option Elab.async false
set_option linter.all false
set_option maxRecDepth 100000
set_option maxHeartbeats 2000000
namespace Dl
open PySem PySem.Spec PyProof.Rows L2 LamX L2H
section
variable {P : Program} {w : World} {K : PySem.W.Frag} {mg : Str → Option Value} {base : Heap} {T : Tb}
/-- a def that may be called while an exception is handled -/
structure DFnH (P : Program) (w : World) (K : PySem.W.Frag) (mg : Str → Option Value) (base : Heap) (T : Tb) (k : Nat) (x : Str) (dsp : DSp) : Prop where
  ex : ∃ (fa : Addr) (fd : FuncData) (ps : List Str), mg x = some (.ref fa) ∧ PySem.W.keepIn K (.ref fa) = true ∧ Binds K fd ps [] ∧ FnH P w K mg base CX0 k fa fd ps (lsp K T dsp)
theorem fn_dH {x qual : Str} {st : Stmt} {fa : Addr} {fd : FuncData} {N ps : List Str} {k : Nat} {dsp : DSp} (F : Fun K x qual st fa fd) (S : FnScope N ps (defScope st)) (len : ∀ ds S Q, dsp ds S Q → ds.length = ps.length)
    (hbody : ∀ (cdv : Value) (A : Around) (outer : List Env) (s : Shared) (H : Hp) (E : XK) (p : Addr × Obj), Hot1 A p → RoomH k (A.deeper (envOfC qual (defScope st) s.heap.objs.size fa cdv)) →
      ∃ Θ : DS, XSs (cxH CX0 P w K mg base N qual (defScope st) fa cdv A outer s H E p).nox T (defBody st) Θ ∧ ∀ ds S R, dsp ds S R → Θ (ends R) (startD N ds) S) : FnH P w K mg base CX0 (k + 1) fa fd ps (lsp K T dsp) := by
  obtain ⟨oc, od, kV, doc, pm, an, cdv, ct, osl, rfl, lk, hcd⟩ := F.ex
  refine fn_ofH lk hcd S (fun vs H Q E ⟨Z, ds, S, R, r, ok, h, _⟩ => by rw [r.length]; exact len ds S R h) fun A outer s H vs Q E p hp hr ⟨Z, ds, S0, R, r, ok, h, kk⟩ => ?_
  obtain ⟨Θ, h1, h2⟩ := hbody cdv A outer s H E p hp hr
  exact ⟨_, h1.nox, Z, startD N ds, S0, ends R, slots_start r, ok, h2 ds S0 R h, eok_ends kk⟩
end
section
variable {X : Cx} {T : Tb} {e : Expr} {es : List Expr} {p pos : Pos} {x : Str} {k : Nat} {dsp : DSp}
theorem x_callH {A : DA} (F : DFnH X.prog X.w X.K X.mg X.base T k x dsp) (hr : RoomH k X.A) (hot : HotC X) (hg : Gl X x) (ha : XA X T (e :: es) A) (hdb : (x == ("__debug__" : Str)) = false := by decide) (he : starEach (e :: es) X.env = (false, eval e X.env) :: starEach es X.env := by rfl)
    (hpl : (backTo pos (starEach es X.env)).any (·.1) = false := by rfl) : XE X T (.Call (.Name x p) (e :: es) [] pos) (dCall dsp A) := by
  obtain ⟨fa, fd, ps, hm, hk, hb, F⟩ := F.ex
  refine (pe_callH (E := fun _ => E0) F hr hot hg hm hk hb (fun σ _ _ _ _ _ _ z => z.elim) ha hdb he hpl).imp fun σ H Q h => ?_
  obtain ⟨Z, τ, S, G, sl, ok, h, kk⟩ := h
  refine ⟨Z, τ, S, _, sl, ok, h, fun vs H1 ds S1 x1 r1 ok1 h1 => ?_⟩
  exact ⟨Z, ds, S1, G, r1, ok1, h1, fun v H' d S' x => kk v H' d S' (x1.trans x)⟩
end
end Dl

set_option Elab.async false
set_option linter.all false
set_option maxRecDepth 100000
namespace Dl
open PySem PySem.Spec PyProof.Rows L2 LamX
/-- what the module's errors are: RN those that are raised, CS those that are asked for -/
structure ErrF (K : PySem.W.Frag) (mg : MGm) (RN CS : List Str) (SC : Addr) : Prop where
  s : mg "SplitError" = some (.ref SC)
  f : ∀ nm ∈ RN, ∃ C, Erz K mg nm C ∧ PySem.W.exmOne K (.ref C) (.ref SC) = some (subE nm "SplitError") ∧ (∀ c ∈ CS, ∃ Cc, mg c = some (.ref Cc) ∧ PySem.W.kitOne K (.ref C) (.ref Cc) = some (subE nm c)) ∧ PySem.W.kitOne K (.ref C) (.type "ValueError") = some true ∧
    ∀ f, fieldOf nm = f → PySem.W.findIn K (.ref C) f = some none ∨ nm ∉ (["BadHistory", "BadText"] : List Str)
section
variable {X : Cx} {T : Tb} {RN CS : List Str} {SC : Addr}
theorem ErrF.exm {K : PySem.W.Frag} {mg : MGm} (E : ErrF K mg RN CS SC) : ∀ nm C, nm ∈ RN → mg nm = some (.ref C) → PySem.W.exmOne K (.ref C) (.ref SC) = some (subE nm "SplitError") := fun nm C h g => by
  obtain ⟨C', z, e, _⟩ := E.f nm h
  have q := z.g
  rw [g] at q
  cases q
  exact e
theorem x_isiF {a C : Addr} {oe : Obj} {d : Option Addr} {nm c n : Str} {i : Nat} {pn : List (Addr × Obj)} {p p1 p2 : Pos} (E : ErrF X.K X.mg RN CS SC) (hm : nm ∈ RN) (g : X.mg nm = some (.ref C)) (hz : L2N.Zn (.ref C) d oe) (hf : ∃ vs, oe.data = .fields vs) (hc : c ∈ CS)
    (hg : Gl X "isinstance") (hi : X.mg "isinstance" = none) (hgc : Gl X c) (hv : PE (X.suite a ((a, oe) :: pn)) (.Name n p1) (tVar i)) (hd : (c == ("__debug__" : Str)) = false := by decide) (he : starEach [Expr.Name n p1, .Name c p2] X.env = (false, eval (.Name n p1) X.env) :: starEach [Expr.Name c p2] X.env := by rfl)
    (he2 : starEach [Expr.Name c p2] X.env = (false, eval (.Name c p2) X.env) :: starEach [] X.env := by rfl) (hpl : (backTo pos (starEach [Expr.Name c p2] X.env)).any (·.1) = false := by rfl) :
    XE (X.suite a ((a, oe) :: pn)) T (.Call (.Name "isinstance" p) [.Name n p1, .Name c p2] [] pos) (dIsiE a d nm i c) := by
  obtain ⟨C', z, _, k, _⟩ := E.f nm hm
  have q := z.g
  rw [g] at q
  cases q
  obtain ⟨Cc, g2, e⟩ := k c hc
  exact x_isiE z hz hf (.own Cc) e hg hi hv (pe_glob (X := X.suite a ((a, oe) :: pn)) hgc g2 rfl hd) he he2 hpl
theorem x_isiVE {a C : Addr} {oe : Obj} {d : Option Addr} {nm n : Str} {i : Nat} {pn : List (Addr × Obj)} {p p1 p2 : Pos} (E : ErrF X.K X.mg RN CS SC) (hm : nm ∈ RN) (g : X.mg nm = some (.ref C)) (hz : L2N.Zn (.ref C) d oe) (hf : ∃ vs, oe.data = .fields vs)
    (hg : Gl X "isinstance") (hi : X.mg "isinstance" = none) (hgc : Gl X "ValueError") (hv2 : X.mg "ValueError" = none) (hv : PE (X.suite a ((a, oe) :: pn)) (.Name n p1) (tVar i)) (he : starEach [Expr.Name n p1, .Name "ValueError" p2] X.env = (false, eval (.Name n p1) X.env) :: starEach [Expr.Name "ValueError" p2] X.env := by rfl)
    (he2 : starEach [Expr.Name "ValueError" p2] X.env = (false, eval (.Name "ValueError" p2) X.env) :: starEach [] X.env := by rfl) (hpl : (backTo pos (starEach [Expr.Name "ValueError" p2] X.env)).any (·.1) = false := by rfl) :
    XE (X.suite a ((a, oe) :: pn)) T (.Call (.Name "isinstance" p) [.Name n p1, .Name "ValueError" p2] [] pos) (dIsiE a d nm i "ValueError") := by
  obtain ⟨C', z, _, _, k, _⟩ := E.f nm hm
  have q := z.g
  rw [g] at q
  cases q
  exact x_isiE z hz hf (.ty "ValueError") (by rw [k]; unfold subE; rw [Bool.or_comm]; rfl) hg hi hv (pe_bltn (X := X.suite a ((a, oe) :: pn)) hgc hv2 PyProof.Rows.Boot.«ValueError» rfl) he he2 hpl
theorem x_exFF {a C : Addr} {oe : Obj} {d : Option Addr} {nm n f : Str} {i : Nat} {pn : List (Addr × Obj)} {p1 pos : Pos} (E : ErrF X.K X.mg RN CS SC) (hm : nm ∈ RN) (g : X.mg nm = some (.ref C)) (hz : L2N.Zn (.ref C) d oe) (hf : ∃ vs, oe.data = .fields vs) (hv : PE (X.suite a ((a, oe) :: pn)) (.Name n p1) (tVar i))
    (hb : attributeBase (.Name n p1) f X.env (eval (.Name n p1) X.env) = eval (.Name n p1) X.env := by rfl) : XE (X.suite a ((a, oe) :: pn)) T (.Attribute (.Name n p1) f pos) (fun τ S Q => nm ∈ (["BadHistory", "BadText"] : List Str) ∧ dExF a d nm i f τ S Q) := by
  obtain ⟨C', z, _, _, _, k⟩ := E.f nm hm
  have q := z.g
  rw [g] at q
  cases q
  by_cases h : nm ∈ (["BadHistory", "BadText"] : List Str)
  · exact (x_exF z (fun e => (k f e).resolve_right fun y => y h) hz hf hv hb).imp fun σ H Q ⟨Z, τ, S, R, sl, ok, q, k⟩ => ⟨Z, τ, S, R, sl, ok, q.2, k⟩
  · exact ⟨fun pins s σ H Q I ⟨Z, τ, S, R, sl, ok, q, k⟩ => absurd q.1 h⟩
end
end Dl

set_option Elab.async false
set_option linter.all false
set_option maxRecDepth 100000
namespace Dl
open PySem PySem.Spec PyProof.Rows L2 LamX
section
variable {X : Cx} {K : PySem.W.Frag} {T : Tb} {e o : Expr} {es : List Expr} {pos apos cpos : Pos}
/-! ### texts -/
/-- str of an int -/
def rStrID : DRL := fun ds S Q => match ds with
  | [.int i] => i.natAbs.log2 < 1920 ∧ Q (.str (toString i)) S
  | _ => False
theorem d_strI : CallD K T (fun xs H Q => ∃ i, xs = [.int i] ∧ i.natAbs.log2 < 1920 ∧ Q (.str (toString i)) H) rStrID := by
  intro Z H S vs ds Qd Q ok rs h k
  unfold rStrID at h
  split at h
  · cases rs with
    | cons r t =>
      cases t
      cases r
      exact ⟨_, rfl, h.1, k _ H _ S (.refl _ _) (.str _) ok h.2⟩
  · exact h.elim
/-- a method of a text, with arguments -/
def dMS (R : DRM) (A : DE) (B : DA) : DE := fun τ S Q => A τ S fun x S1 => (match x with | .str _ => True | _ => False) ∧ B τ S1 fun ds S2 => R x ds S2 Q
theorem x_ms {name : Str} {id : String} {r : V → List V → Hp → VK → Prop} {R : DRM} {A : DE} {B : DA} (slot : Slot "str" name id) (hty : typeOf (.builtin id) = pure (.type "method_descriptor")) (hm : MtR X id r) (hr : MtD X.K T r R) (ho : XE X T o A) (ha : XA X T (e :: es) B)
    (hbase : attributeBase o name X.env (eval o X.env) = eval o X.env := by rfl)
    (hfew : ((backTo cpos (starEach (e :: es) X.env)).all (fun x => !x.1) && (backToKw cpos (keywordEach [] X.env)).all (fun x => x.1.isSome)
      && decide ((e :: es).length + ([] : List Keyword).length + (if ([] : List Keyword).isEmpty then 0 else 1) < 30)) = true := by rfl)
    (hline : (apos.endLine == cpos.line) = true := by rfl) (hs : starEach (e :: es) X.env = (false, eval e X.env) :: starEach es X.env := by rfl) (hplain : (backTo cpos (starEach es X.env)).any (·.1) = false := by rfl) :
    XE X T (.Call (.Attribute o name apos) (e :: es) [] cpos) (dMS R A B) :=
  (pe_bm PySem.F.plainAttrs_str slot hty hm ho ha hbase hfew hline hs hplain).imp fun σ H Q ⟨Z, τ, S, G, sl, ok, h, k⟩ => ⟨Z, τ, S, _, sl, ok, h, fun v H1 d S1 x1 r1 ok1 ⟨ty, q⟩ => ⟨by
    cases d with
    | str z => cases r1; rfl
    | _ => exact ty.elim, Z, τ, S1, _, sl.ext x1, ok1, q, fun vs H2 ds S2 x2 r2 ok2 q2 => hr Z H2 S2 v vs d ds G Q ok2 (r1.ext x2) r2 q2 fun v H' d S' x => k v H' d S' (x1.trans (x2.trans x))⟩⟩
theorem Reps.strs {Z : List Addr} {H : Hp} {S : Store} : ∀ {vs : List V} {ys : List Str}, Reps K Z H S vs (ys.map D.str) → vs = ys.map V.str
  | [], [], _ => rfl
  | _, [], .nil => rfl
  | _, _ :: ys, .cons (.str _) t => by rw [Reps.strs t]; rfl
theorem Reps.ofStrs {Z : List Addr} {H : Hp} {S : Store} : ∀ (ys : List Str), Reps K Z H S (ys.map V.str) (ys.map D.str)
  | [] => .nil
  | y :: ys => .cons (.str y) (Reps.ofStrs ys)
/-- sep.join(list | tuple of texts) -/
def rJoinD : DRM := fun x ds S Q => match x, ds with
  | .str a, [d] => ∃ ys : List Str, items S d = some (ys.map D.str) ∧ (ys.map (·.length)).sum + ys.length * a.length ≤ 16777216 ∧ Q (.str (Txt.join a ys)) S
  | _, _ => False
theorem d_join : MtD K T (fun x xs H Q => ∃ a p, ∃ ys : List Str, x = .str a ∧ xs = [.ref p] ∧ (SqL K H p (ys.map V.str) ∨ SqT K H p (ys.map V.str)) ∧ (ys.map (·.length)).sum + ys.length * a.length ≤ 16777216 ∧ Q (.str (Txt.join a ys)) H) rJoinD := by
  intro Z H S vx vs x ds Qd Q ok rx rs h k
  unfold rJoinD at h
  split at h
  · rename_i a d
    obtain ⟨ys, e, z, q⟩ := h
    cases rx
    cases rs with
    | cons r t =>
      cases t
      obtain ⟨p, ws, ev, sq, rr⟩ := items_at ok r e
      have ew := rr.strs
      subst ew
      rw [ev]
      exact ⟨a, p, ys, rfl, rfl, sq, z, k _ H _ S (.refl _ _) (.str _) ok q⟩
  · exact h.elim
/-- a.split(b) -/
def rSplitD : DRM := fun x ds S Q => match x, ds with
  | .str a, [.str b] => (b.length == 0) = false ∧ a.length + 2 ≤ sizeLine ∧ Q (.lst ((Txt.split a b).map D.str)) S
  | _, _ => False
theorem d_split : MtD K T (fun x xs H Q => ∃ a b, x = .str a ∧ xs = [.str b] ∧ (b.length == 0) = false ∧ a.length + 2 ≤ sizeLine ∧ rNewStrs (Txt.split a b) H Q) rSplitD := by
  intro Z H S vx vs x ds Qd Q ok rx rs h k
  unfold rSplitD at h
  split at h
  · rename_i a b
    obtain ⟨e, z, q⟩ := h
    cases rx
    cases rs with
    | cons r t =>
      cases t
      cases r
      refine ⟨a, b, rfl, rfl, e, z, fun p hp => ?_⟩
      have rr := Reps.ofStrs (K := K) (Z := Z) (H := H) (S := S) (Txt.split a b)
      exact k _ _ _ S (Ext.new hp) (Rep.newLst rr hp (ok.fresh hp) (ok.nz hp)) (ok.new hp) q
  · exact h.elim
end
end Dl

set_option Elab.async false
set_option linter.all false
set_option maxRecDepth 100000
namespace Dl
open PySem PySem.Spec PyProof.Rows L2 LamX
theorem sq_get_put : (("get" : Str) == ("put" : Str)) = false := by decide +kernel
theorem sq_get_add : (("get" : Str) == ("add" : Str)) = false := by decide +kernel
theorem sq_get_swap : (("get" : Str) == ("swap" : Str)) = false := by decide +kernel
theorem sq_get_look : (("get" : Str) == ("look" : Str)) = false := by decide +kernel
theorem sq_get_split : (("get" : Str) == ("split" : Str)) = false := by decide +kernel
theorem sq_get_join : (("get" : Str) == ("join" : Str)) = false := by decide +kernel
theorem sq_put_get : (("put" : Str) == ("get" : Str)) = false := by decide +kernel
theorem sq_put_add : (("put" : Str) == ("add" : Str)) = false := by decide +kernel
theorem sq_put_swap : (("put" : Str) == ("swap" : Str)) = false := by decide +kernel
theorem sq_put_look : (("put" : Str) == ("look" : Str)) = false := by decide +kernel
theorem sq_put_split : (("put" : Str) == ("split" : Str)) = false := by decide +kernel
theorem sq_put_join : (("put" : Str) == ("join" : Str)) = false := by decide +kernel
theorem sq_add_get : (("add" : Str) == ("get" : Str)) = false := by decide +kernel
theorem sq_add_put : (("add" : Str) == ("put" : Str)) = false := by decide +kernel
theorem sq_add_swap : (("add" : Str) == ("swap" : Str)) = false := by decide +kernel
theorem sq_add_look : (("add" : Str) == ("look" : Str)) = false := by decide +kernel
theorem sq_add_split : (("add" : Str) == ("split" : Str)) = false := by decide +kernel
theorem sq_add_join : (("add" : Str) == ("join" : Str)) = false := by decide +kernel
theorem sq_swap_get : (("swap" : Str) == ("get" : Str)) = false := by decide +kernel
theorem sq_swap_put : (("swap" : Str) == ("put" : Str)) = false := by decide +kernel
theorem sq_swap_add : (("swap" : Str) == ("add" : Str)) = false := by decide +kernel
theorem sq_swap_look : (("swap" : Str) == ("look" : Str)) = false := by decide +kernel
theorem sq_swap_split : (("swap" : Str) == ("split" : Str)) = false := by decide +kernel
theorem sq_swap_join : (("swap" : Str) == ("join" : Str)) = false := by decide +kernel
theorem sq_look_get : (("look" : Str) == ("get" : Str)) = false := by decide +kernel
theorem sq_look_put : (("look" : Str) == ("put" : Str)) = false := by decide +kernel
theorem sq_look_add : (("look" : Str) == ("add" : Str)) = false := by decide +kernel
theorem sq_look_swap : (("look" : Str) == ("swap" : Str)) = false := by decide +kernel
theorem sq_look_split : (("look" : Str) == ("split" : Str)) = false := by decide +kernel
theorem sq_look_join : (("look" : Str) == ("join" : Str)) = false := by decide +kernel
theorem sq_split_get : (("split" : Str) == ("get" : Str)) = false := by decide +kernel
theorem sq_split_put : (("split" : Str) == ("put" : Str)) = false := by decide +kernel
theorem sq_split_add : (("split" : Str) == ("add" : Str)) = false := by decide +kernel
theorem sq_split_swap : (("split" : Str) == ("swap" : Str)) = false := by decide +kernel
theorem sq_split_look : (("split" : Str) == ("look" : Str)) = false := by decide +kernel
theorem sq_split_join : (("split" : Str) == ("join" : Str)) = false := by decide +kernel
theorem sq_join_get : (("join" : Str) == ("get" : Str)) = false := by decide +kernel
theorem sq_join_put : (("join" : Str) == ("put" : Str)) = false := by decide +kernel
theorem sq_join_add : (("join" : Str) == ("add" : Str)) = false := by decide +kernel
theorem sq_join_swap : (("join" : Str) == ("swap" : Str)) = false := by decide +kernel
theorem sq_join_look : (("join" : Str) == ("look" : Str)) = false := by decide +kernel
theorem sq_join_split : (("join" : Str) == ("split" : Str)) = false := by decide +kernel
theorem sk_get : PyData.strOk ("get" : Str) = true := by decide +kernel
theorem sk_put : PyData.strOk ("put" : Str) = true := by decide +kernel
theorem sk_add : PyData.strOk ("add" : Str) = true := by decide +kernel
theorem sk_swap : PyData.strOk ("swap" : Str) = true := by decide +kernel
theorem sk_look : PyData.strOk ("look" : Str) = true := by decide +kernel
theorem sk_split : PyData.strOk ("split" : Str) = true := by decide +kernel
theorem sk_join : PyData.strOk ("join" : Str) = true := by decide +kernel
theorem kb_NoneType_bool (G : Bool → Prop) : isiK (some "NoneType") "bool" G = G false := isiK_eq (by decide +kernel) G
theorem kb_NoneType_int (G : Bool → Prop) : isiK (some "NoneType") "int" G = G false := isiK_eq (by decide +kernel) G
theorem kb_NoneType_str (G : Bool → Prop) : isiK (some "NoneType") "str" G = G false := isiK_eq (by decide +kernel) G
theorem kb_NoneType_tuple (G : Bool → Prop) : isiK (some "NoneType") "tuple" G = G false := isiK_eq (by decide +kernel) G
theorem kb_NoneType_list (G : Bool → Prop) : isiK (some "NoneType") "list" G = G false := isiK_eq (by decide +kernel) G
theorem kb_bool_bool (G : Bool → Prop) : isiK (some "bool") "bool" G = G true := isiK_eq (by decide +kernel) G
theorem kb_bool_int (G : Bool → Prop) : isiK (some "bool") "int" G = G true := isiK_eq (by decide +kernel) G
theorem kb_bool_str (G : Bool → Prop) : isiK (some "bool") "str" G = G false := isiK_eq (by decide +kernel) G
theorem kb_bool_tuple (G : Bool → Prop) : isiK (some "bool") "tuple" G = G false := isiK_eq (by decide +kernel) G
theorem kb_bool_list (G : Bool → Prop) : isiK (some "bool") "list" G = G false := isiK_eq (by decide +kernel) G
theorem kb_int_bool (G : Bool → Prop) : isiK (some "int") "bool" G = G false := isiK_eq (by decide +kernel) G
theorem kb_int_int (G : Bool → Prop) : isiK (some "int") "int" G = G true := isiK_eq (by decide +kernel) G
theorem kb_int_str (G : Bool → Prop) : isiK (some "int") "str" G = G false := isiK_eq (by decide +kernel) G
theorem kb_int_tuple (G : Bool → Prop) : isiK (some "int") "tuple" G = G false := isiK_eq (by decide +kernel) G
theorem kb_int_list (G : Bool → Prop) : isiK (some "int") "list" G = G false := isiK_eq (by decide +kernel) G
theorem kb_str_bool (G : Bool → Prop) : isiK (some "str") "bool" G = G false := isiK_eq (by decide +kernel) G
theorem kb_str_int (G : Bool → Prop) : isiK (some "str") "int" G = G false := isiK_eq (by decide +kernel) G
theorem kb_str_str (G : Bool → Prop) : isiK (some "str") "str" G = G true := isiK_eq (by decide +kernel) G
theorem kb_str_tuple (G : Bool → Prop) : isiK (some "str") "tuple" G = G false := isiK_eq (by decide +kernel) G
theorem kb_str_list (G : Bool → Prop) : isiK (some "str") "list" G = G false := isiK_eq (by decide +kernel) G
theorem kb_tuple_bool (G : Bool → Prop) : isiK (some "tuple") "bool" G = G false := isiK_eq (by decide +kernel) G
theorem kb_tuple_int (G : Bool → Prop) : isiK (some "tuple") "int" G = G false := isiK_eq (by decide +kernel) G
theorem kb_tuple_str (G : Bool → Prop) : isiK (some "tuple") "str" G = G false := isiK_eq (by decide +kernel) G
theorem kb_tuple_tuple (G : Bool → Prop) : isiK (some "tuple") "tuple" G = G true := isiK_eq (by decide +kernel) G
theorem kb_tuple_list (G : Bool → Prop) : isiK (some "tuple") "list" G = G false := isiK_eq (by decide +kernel) G
theorem kb_list_bool (G : Bool → Prop) : isiK (some "list") "bool" G = G false := isiK_eq (by decide +kernel) G
theorem kb_list_int (G : Bool → Prop) : isiK (some "list") "int" G = G false := isiK_eq (by decide +kernel) G
theorem kb_list_str (G : Bool → Prop) : isiK (some "list") "str" G = G false := isiK_eq (by decide +kernel) G
theorem kb_list_tuple (G : Bool → Prop) : isiK (some "list") "tuple" G = G false := isiK_eq (by decide +kernel) G
theorem kb_list_list (G : Bool → Prop) : isiK (some "list") "list" G = G true := isiK_eq (by decide +kernel) G
theorem sq_k_e : (("k" : Str) == ("" : Str)) = false := by decide +kernel
theorem sk_k : PyData.strOk ("k" : Str) = true := by decide +kernel
theorem sl_k : Str.length ("k" : Str) = 1 := by decide +kernel
theorem sq_kw_e : (("kw" : Str) == ("" : Str)) = false := by decide +kernel
theorem sk_kw : PyData.strOk ("kw" : Str) = true := by decide +kernel
theorem sl_kw : Str.length ("kw" : Str) = 2 := by decide +kernel
theorem sq_kww_e : (("kww" : Str) == ("" : Str)) = false := by decide +kernel
theorem sk_kww : PyData.strOk ("kww" : Str) = true := by decide +kernel
theorem sl_kww : Str.length ("kww" : Str) = 3 := by decide +kernel
theorem ls0 : (0 ≤ sizeLine) = True := eq_true (len_ok (by decide))
theorem ls1 : (1 ≤ sizeLine) = True := eq_true (len_ok (by decide))
theorem ls2 : (2 ≤ sizeLine) = True := eq_true (len_ok (by decide))
theorem ls3 : (3 ≤ sizeLine) = True := eq_true (len_ok (by decide))
theorem ls4 : (4 ≤ sizeLine) = True := eq_true (len_ok (by decide))
theorem ls5 : (5 ≤ sizeLine) = True := eq_true (len_ok (by decide))
theorem ls6 : (6 ≤ sizeLine) = True := eq_true (len_ok (by decide))
theorem ls7 : (7 ≤ sizeLine) = True := eq_true (len_ok (by decide))
theorem ls8 : (8 ≤ sizeLine) = True := eq_true (len_ok (by decide))
theorem ls9 : (9 ≤ sizeLine) = True := eq_true (len_ok (by decide))
theorem ls10 : (10 ≤ sizeLine) = True := eq_true (len_ok (by decide))
theorem nc0 : ((0 : Nat) : Int) = 0 := rfl
theorem nc1 : ((1 : Nat) : Int) = 1 := rfl
theorem nc2 : ((2 : Nat) : Int) = 2 := rfl
theorem nc3 : ((3 : Nat) : Int) = 3 := rfl
theorem nc4 : ((4 : Nat) : Int) = 4 := rfl
theorem nc5 : ((5 : Nat) : Int) = 5 := rfl
theorem nc6 : ((6 : Nat) : Int) = 6 := rfl
theorem nc7 : ((7 : Nat) : Int) = 7 := rfl
theorem nc8 : ((8 : Nat) : Int) = 8 := rfl
theorem nc9 : ((9 : Nat) : Int) = 9 := rfl
theorem nc10 : ((10 : Nat) : Int) = 10 := rfl
theorem sk_e : PyData.strOk ("" : Str) = true := by decide +kernel
theorem cut_2_2_None (x0 x1 : D) : cutD [x0, x1] (some 2) none = [] := by rfl
theorem ncut_2_2_None : (HT.sIx 2 0 (some 2) = 0 ∧ HT.sIx 2 2 none = 2) = False := by decide
theorem cut_2_None_1 (x0 x1 : D) : cutD [x0, x1] none (some 1) = [x0] := by rfl
theorem ncut_2_None_1 : (HT.sIx 2 0 none = 0 ∧ HT.sIx 2 2 (some 1) = 2) = False := by decide
theorem cut_3_2_None (x0 x1 x2 : D) : cutD [x0, x1, x2] (some 2) none = [x2] := by rfl
theorem ncut_3_2_None : (HT.sIx 3 0 (some 2) = 0 ∧ HT.sIx 3 3 none = 3) = False := by decide
theorem cut_3_None_1 (x0 x1 x2 : D) : cutD [x0, x1, x2] none (some 1) = [x0] := by rfl
theorem ncut_3_None_1 : (HT.sIx 3 0 none = 0 ∧ HT.sIx 3 3 (some 1) = 3) = False := by decide
theorem cut_3_3_None (x0 x1 x2 : D) : cutD [x0, x1, x2] (some 3) none = [] := by rfl
theorem ncut_3_3_None : (HT.sIx 3 0 (some 3) = 0 ∧ HT.sIx 3 3 none = 3) = False := by decide
theorem cut_4_2_None (x0 x1 x2 x3 : D) : cutD [x0, x1, x2, x3] (some 2) none = [x2, x3] := by rfl
theorem ncut_4_2_None : (HT.sIx 4 0 (some 2) = 0 ∧ HT.sIx 4 4 none = 4) = False := by decide
theorem cut_4_None_1 (x0 x1 x2 x3 : D) : cutD [x0, x1, x2, x3] none (some 1) = [x0] := by rfl
theorem ncut_4_None_1 : (HT.sIx 4 0 none = 0 ∧ HT.sIx 4 4 (some 1) = 4) = False := by decide
theorem cut_4_None_3 (x0 x1 x2 x3 : D) : cutD [x0, x1, x2, x3] none (some 3) = [x0, x1, x2] := by rfl
theorem ncut_4_None_3 : (HT.sIx 4 0 none = 0 ∧ HT.sIx 4 4 (some 3) = 4) = False := by decide
theorem cut_4_3_None (x0 x1 x2 x3 : D) : cutD [x0, x1, x2, x3] (some 3) none = [x3] := by rfl
theorem ncut_4_3_None : (HT.sIx 4 0 (some 3) = 0 ∧ HT.sIx 4 4 none = 4) = False := by decide
theorem cut_5_2_None (x0 x1 x2 x3 x4 : D) : cutD [x0, x1, x2, x3, x4] (some 2) none = [x2, x3, x4] := by rfl
theorem ncut_5_2_None : (HT.sIx 5 0 (some 2) = 0 ∧ HT.sIx 5 5 none = 5) = False := by decide
theorem cut_5_None_1 (x0 x1 x2 x3 x4 : D) : cutD [x0, x1, x2, x3, x4] none (some 1) = [x0] := by rfl
theorem ncut_5_None_1 : (HT.sIx 5 0 none = 0 ∧ HT.sIx 5 5 (some 1) = 5) = False := by decide
theorem cut_5_None_3 (x0 x1 x2 x3 x4 : D) : cutD [x0, x1, x2, x3, x4] none (some 3) = [x0, x1, x2] := by rfl
theorem ncut_5_None_3 : (HT.sIx 5 0 none = 0 ∧ HT.sIx 5 5 (some 3) = 5) = False := by decide
theorem cut_5_3_None (x0 x1 x2 x3 x4 : D) : cutD [x0, x1, x2, x3, x4] (some 3) none = [x3, x4] := by rfl
theorem ncut_5_3_None : (HT.sIx 5 0 (some 3) = 0 ∧ HT.sIx 5 5 none = 5) = False := by decide
theorem cut_6_2_None (x0 x1 x2 x3 x4 x5 : D) : cutD [x0, x1, x2, x3, x4, x5] (some 2) none = [x2, x3, x4, x5] := by rfl
theorem ncut_6_2_None : (HT.sIx 6 0 (some 2) = 0 ∧ HT.sIx 6 6 none = 6) = False := by decide
theorem cut_6_None_1 (x0 x1 x2 x3 x4 x5 : D) : cutD [x0, x1, x2, x3, x4, x5] none (some 1) = [x0] := by rfl
theorem ncut_6_None_1 : (HT.sIx 6 0 none = 0 ∧ HT.sIx 6 6 (some 1) = 6) = False := by decide
theorem cut_6_None_3 (x0 x1 x2 x3 x4 x5 : D) : cutD [x0, x1, x2, x3, x4, x5] none (some 3) = [x0, x1, x2] := by rfl
theorem ncut_6_None_3 : (HT.sIx 6 0 none = 0 ∧ HT.sIx 6 6 (some 3) = 6) = False := by decide
theorem cut_6_None_5 (x0 x1 x2 x3 x4 x5 : D) : cutD [x0, x1, x2, x3, x4, x5] none (some 5) = [x0, x1, x2, x3, x4] := by rfl
theorem ncut_6_None_5 : (HT.sIx 6 0 none = 0 ∧ HT.sIx 6 6 (some 5) = 6) = False := by decide
theorem cut_6_3_None (x0 x1 x2 x3 x4 x5 : D) : cutD [x0, x1, x2, x3, x4, x5] (some 3) none = [x3, x4, x5] := by rfl
theorem ncut_6_3_None : (HT.sIx 6 0 (some 3) = 0 ∧ HT.sIx 6 6 none = 6) = False := by decide
local macro_rules | `(tactic| walk_at "dl") => `(tactic| simp (config := { maxSteps := 1000000 }) only [dSeq, dIfS, dRet, dRetN, dSet, dNext, dDrop, dVar, dC, d2, dTest, dAnd, dOr, dNot, dAndV, dOrV, dNotV, dIf, dChain, dChain3, dCall, dCons, dNil, dTup, dLst, dLstR, dAsg, Tg.d, sets, dFor, dYes, dNever, dBrk, dCnt,
  dSortKey, dLc, dLcR, dComp, wipeD, itemsI, rangeI1, enumI, dCB, rLenD, rIntD, rAbsD, rM2D, rTupD, rTupPD, rAllD, dIsi, tyD, rIxD, rItem, dSl, dPart, dNoPart, rSlD, rII, rAddD, rMulD, rMulDR, rEqG, rIsN, rInD, dNeg, dGet2, rAddXD, rListD, rListRD, dPar, dNewK, dNewT, dAsgNS, dMemo0, itR, dForR, dLcX, dLcXR, dCompR, dTupRg, dLstRg, dLstRgR, dInRg, dMemoSet, dDisp, dPairs, keyPairs, keyOf, dML, dSetIx,
  atI0, atI1, atI2, atI3, atI4, atI5, atIm2, atIm3, atIm4, deref_non, deref_bl, deref_int, deref_str, deref_tp, deref_ptp, deref_lst, items_tup, items_ptp, items_lst, dq_ii, dq_bb, dq_ss, dq_tt, dq_tp, dq_pt, dq_pp, dq_ll, dq_n0, dq_nc, dq_cn, dq_cc, ok_non, ok_bl, ok_int, ok_str, ok_tp, ok_pp, ok_ls, ok_n0, ok_cc, flat, List.all_cons, List.all_nil, List.any_cons, List.any_nil,
  startD, List.map_cons, List.map_nil, List.length_cons, List.length_nil, List.replicate_succ, List.replicate_zero, List.cons_append, List.nil_append, List.set_cons_zero, List.set_cons_succ, List.getElem?_cons_zero, List.getElem?_cons_succ, Nat.reduceAdd, Nat.reduceSub, Nat.reduceLeDiff, Nat.reduceMul,
  Bool.and_true, Bool.true_and, Bool.and_false, Bool.false_and, Bool.or_true, Bool.true_or, Bool.or_false, Bool.false_or, Bool.not_true, Bool.not_false, decide_eq_true_eq, ↓reduceIte, true_and, and_true, Bool.false_eq_true, Bool.not_eq_true', Bool.not_not, beq_self_eq_true, and_self, ne_eq, reduceCtorEq, not_false_eq_true, not_true_eq_false, Int.reduceBEq, beq_iff_eq, beq_eq_false_iff_ne, decide_eq_false_iff_not, Int.reduceLT, Int.reduceLE, Int.reduceNeg, Int.reduceAdd, Int.reduceEq, Int.reduceToNat,  kb_NoneType_bool, kb_NoneType_int, kb_NoneType_str, kb_NoneType_tuple, kb_NoneType_list, kb_bool_bool, kb_bool_int, kb_bool_str, kb_bool_tuple, kb_bool_list, kb_int_bool, kb_int_int, kb_int_str, kb_int_tuple, kb_int_list, kb_str_bool, kb_str_int, kb_str_str, kb_str_tuple, kb_str_list, kb_tuple_bool, kb_tuple_int, kb_tuple_str, kb_tuple_tuple, kb_tuple_list, kb_list_bool, kb_list_int, kb_list_str, kb_list_tuple, kb_list_list, sq_k_e, sq_kw_e, sq_kww_e, sk_k, sk_kw, sk_kww, sl_k, sl_kw, sl_kww, sk_e, cut_2_2_None, ncut_2_2_None, cut_2_None_1, ncut_2_None_1, cut_3_2_None, ncut_3_2_None, cut_3_None_1, ncut_3_None_1, cut_3_3_None, ncut_3_3_None, cut_4_2_None, ncut_4_2_None, cut_4_None_1, ncut_4_None_1, cut_4_None_3, ncut_4_None_3, cut_4_3_None, ncut_4_3_None, cut_5_2_None, ncut_5_2_None, cut_5_None_1, ncut_5_None_1, cut_5_None_3, ncut_5_None_3, cut_5_3_None, ncut_5_3_None, cut_6_2_None, ncut_6_2_None, cut_6_None_1, ncut_6_None_1, cut_6_None_3, ncut_6_None_3, cut_6_None_5, ncut_6_None_5, cut_6_3_None, ncut_6_3_None, sq_get_put, sq_get_add, sq_get_swap, sq_get_look, sq_get_split, sq_get_join, sq_put_get, sq_put_add, sq_put_swap, sq_put_look, sq_put_split, sq_put_join, sq_add_get, sq_add_put, sq_add_swap, sq_add_look, sq_add_split, sq_add_join, sq_swap_get, sq_swap_put, sq_swap_add, sq_swap_look, sq_swap_split, sq_swap_join, sq_look_get, sq_look_put, sq_look_add, sq_look_swap, sq_look_split, sq_look_join, sq_split_get, sq_split_put, sq_split_add, sq_split_swap, sq_split_look, sq_split_join, sq_join_get, sq_join_put, sq_join_add, sq_join_swap, sq_join_look, sq_join_split, ls0, ls1, ls2, ls3, ls4, ls5, ls6, ls7, ls8, ls9, ls10, nc0, nc1, nc2, nc3, nc4, nc5, nc6, nc7, nc8, nc9, nc10, sk_get, sk_put, sk_add, sk_swap, sk_look, sk_split, sk_join])


/-! ### deeds -/
inductive Dd where
  | get (k : Int) | put (k w : Int) | add (k w : Int) | swap (k a b : Int)
def Dd.enc : Dd → D
  | .get k => .tup [.str "get", .int k]
  | .put k w => .tup [.str "put", .int k, .int w]
  | .add k w => .tup [.str "add", .int k, .int w]
  | .swap k a b => .tup [.str "swap", .int k, .int a, .int b]
def Dd.key : Dd → Int
  | .get k => k
  | .put k _ => k
  | .add k _ => k
  | .swap k _ _ => k
def isW (n w : Int) : Prop := 0 ≤ w ∧ w < n
def Dd.ok : Dd → Prop
  | .get k => isW 100 k
  | .put k w => isW 100 k ∧ isW 1000 w
  | .add k w => isW 100 k ∧ isW 1000 w
  | .swap k a b => isW 100 k ∧ isW 1000 a ∧ isW 1000 b

def Dd.ans : Dd → Int → D
  | .get _, w => .int w
  | .put _ _, w => .int w
  | .add _ a, w => .int ((w + a) % 1000)
  | .swap _ a _, w => .bl (w == a)
def Dd.new : Dd → Int → Int
  | .get _, w => w
  | .put _ x, _ => x
  | .add _ a, w => (w + a) % 1000
  | .swap _ a b, w => if w = a then b else w
/-- a keeper's state -/
structure Kp where
  low : Int
  high : Int
  gen : Int
  ch : Int
  ws : List (Int × Int)
  as : List (Int × Int × D)
abbrev encA (a : Int × Int × D) : D := .tup [.int a.1, .int a.2.1, a.2.2]
def Kp.enc (k : Kp) : D := .tup [.int k.low, .int k.high, .int k.gen, .int k.ch, .ptp (k.ws.map encP), .tup (k.as.map encA)]
/-- results that are not a pair of what is same -/
theorem two_dec {p q : Prop} [Decidable p] [Decidable q] : decide (p ∧ q) = (decide p && decide q) := by by_cases h1 : p <;> by_cases h2 : q <;> simp [h1, h2]

/-- what is no number -/
def NoInt (a : D) : Prop := (∃ t, a = .bl t) ∨ a = .non ∨ (∃ x, a = .str x) ∨ (∃ xs, a = .tup xs) ∨ ∃ xs, a = .ptp xs
def sp_is_below : DSp := fun ds S R => (∃ i b, ds = [.int i, .int b] ∧ R (.bl (decide (0 ≤ i ∧ i < b))) S) ∨ ∃ a b, ds = [a, .int b] ∧ NoInt a ∧ R (.bl false) S
def rd_is_below : DS :=
 (dRet (dAndV (dIsi "int" (dVar 0)) (dAndV (dNotV (dIsi "bool" (dVar 0))) (dChain rLeD rLtD (dC (.int 0)) (dVar 0) (dVar 1)))))
theorem ok_is_below (ds : List D) (S : Store) (R : DK) (h : sp_is_below ds S R) : rd_is_below (ends R) (startD ["part", "bound"] ds) S := by
  unfold rd_is_below
  rcases h with ⟨i, b, rfl, h⟩ | ⟨a, b, rfl, n, h⟩
  · rw [two_dec] at h
    walk_at "dl"
    split
    · rename_i h0
      rw [decide_eq_true h0, Bool.true_and] at h
      exact fin_of h
    · rename_i h0
      rw [decide_eq_false h0, Bool.false_and] at h
      exact fin_of h
  · rcases n with ⟨t, rfl⟩ | rfl | ⟨x, rfl⟩ | ⟨xs, rfl⟩ | ⟨xs, rfl⟩ <;> (walk_at "dl"; exact fin_of h)
def tb_SHAPES : List (Str × Option D) := [("get", some (.str "k")), ("put", some (.str "kw")), ("add", some (.str "kw")), ("swap", some (.str "kww")), ("split", some (.str "k")), ("join", some (.str "k")), ("Get", none), ("", none)]
def sp_is_deed : DSp := fun ds S R => ∃ dd : Dd, ds = [dd.enc] ∧ dd.ok ∧ R (.bl true) S
def rd_is_deed_1 : DS :=
 (dSeq (dIfS (dAnd (dTest (d2 (rInD false) (d2 rIxD (dVar 0) (dC (.int 0))) (dTup (dCons (dC (.str "split")) (dCons (dC (.str "join")) dNil))))) (dTest (d2 (rEqG false) (d2 rIxD (dVar 0) (dC (.int 1))) (dC (.int 0)))))
 (dRet (dC (.bl false)))
 dNext)
 (dRet (d2 (rEqG false) (dLc (itemsI (dSl (dVar 0) (dPart (dC (.int 2))) dNoPart)) (.nm 3) (dNot (dTest (dCall sp_is_below (dCons (dVar 3) (dCons (dC (.int 1000)) dNil))))) (dVar 3) [3]) (dLst dNil))))
def rd_is_deed : DS :=
 (dSeq (dIfS (dOr (dNot (dTest (dIsi "tuple" (dVar 0)))) (dOr (dTest (d2 (rEqG false) (dVar 0) (dTup dNil))) (dNot (dTest (dIsi "str" (d2 rIxD (dVar 0) (dC (.int 0))))))))
 (dRet (dC (.bl false)))
 dNext)
 (dSeq (dIfS (dTest (d2 (rEqG false) (d2 rIxD (dVar 0) (dC (.int 0))) (dC (.str "look"))))
 dNever
 dNext)
 (dSeq (dSet 2 (dKGet tb_SHAPES (d2 rIxD (dVar 0) (dC (.int 0))) (dC (.str ""))))
 (dSeq (dIfS (dOr (dTest (d2 (rEqG false) (dVar 2) (dC (.str "")))) (dOr (dTest (d2 (rEqG true) (dCB rLenD (dCons (dVar 0) dNil)) (d2 rAddD (dCB rLenD (dCons (dVar 2) dNil)) (dC (.int 1))))) (dNot (dTest (dCall sp_is_below (dCons (d2 rIxD (dVar 0) (dC (.int 1))) (dCons (dC (.int 100)) dNil)))))))
 (dRet (dC (.bl false)))
 dNext)
 rd_is_deed_1))))
theorem below_of {i b : Int} {S : Store} {Q : DK} (h : isW b i) (q : Q (.bl true) S) : sp_is_below [.int i, .int b] S Q := .inl ⟨i, b, rfl, by rw [decide_eq_true (show 0 ≤ i ∧ i < b from h)]; exact q⟩
theorem ok_is_deed (ds : List D) (S : Store) (R : DK) (h : sp_is_deed ds S R) : rd_is_deed (ends R) (startD ["deed", "key", "shape", "part"] ds) S := by
  obtain ⟨dd, rfl, hok, h⟩ := h
  unfold rd_is_deed
  cases dd with
  | get k =>
    unfold Dd.enc
    walk_at "dl"
    simp only [dKGet, tb_SHAPES, List.lookup]
    walk_at "dl"
    refine below_of hok ?_
    unfold rd_is_deed_1
    walk_at "dl"
    simp only [compD]
    walk_at "dl"
    exact fin_of h
  | put k w =>
    unfold Dd.enc
    walk_at "dl"
    simp only [dKGet, tb_SHAPES, List.lookup]
    walk_at "dl"
    refine below_of hok.1 ?_
    unfold rd_is_deed_1
    walk_at "dl"
    simp only [compD]
    walk_at "dl"
    refine below_of hok.2 ?_
    walk_at "dl"
    exact fin_of h
  | add k w =>
    unfold Dd.enc
    walk_at "dl"
    simp only [dKGet, tb_SHAPES, List.lookup]
    walk_at "dl"
    refine below_of hok.1 ?_
    unfold rd_is_deed_1
    walk_at "dl"
    simp only [compD]
    walk_at "dl"
    refine below_of hok.2 ?_
    walk_at "dl"
    exact fin_of h
  | swap k a b =>
    unfold Dd.enc
    walk_at "dl"
    simp only [dKGet, tb_SHAPES, List.lookup]
    walk_at "dl"
    refine below_of hok.1 ?_
    unfold rd_is_deed_1
    walk_at "dl"
    simp only [compD]
    walk_at "dl"
    refine below_of hok.2.1 ?_
    walk_at "dl"
    refine below_of hok.2.2 ?_
    walk_at "dl"
    exact fin_of h
def sp_need_deed : DSp := fun ds S R => ∃ dd : Dd, ds = [dd.enc] ∧ dd.ok ∧ R .non S
def rd_need_deed : DS :=
 (dIfS (dNot (dTest (dCall sp_is_deed (dCons (dVar 0) dNil))))
 dNever
 dNext)
theorem ok_need_deed (ds : List D) (S : Store) (R : DK) (h : sp_need_deed ds S R) : rd_need_deed (ends R) (startD ["deed"] ds) S := by
  obtain ⟨dd, rfl, hok, h⟩ := h
  unfold rd_need_deed
  walk_at "dl"
  refine ⟨dd, rfl, hok, ?_⟩
  walk_at "dl"
  exact fin_of h
def sp_worth_behind : DSp := fun ds S R => ∃ (dd : Dd) (w : Int), ds = [dd.enc, .int w] ∧ R (.tup [dd.ans w, .int (dd.new w)]) S
def rd_worth_behind : DS :=
 (dSeq (dIfS (dTest (d2 (rEqG false) (d2 rIxD (dVar 0) (dC (.int 0))) (dC (.str "get"))))
 (dRet (dTup (dCons (dVar 1) (dCons (dVar 1) dNil))))
 dNext)
 (dSeq (dIfS (dTest (d2 (rEqG false) (d2 rIxD (dVar 0) (dC (.int 0))) (dC (.str "put"))))
 (dRet (dTup (dCons (dVar 1) (dCons (d2 rIxD (dVar 0) (dC (.int 2))) dNil))))
 dNext)
 (dSeq (dIfS (dTest (d2 (rEqG false) (d2 rIxD (dVar 0) (dC (.int 0))) (dC (.str "add"))))
 (dSeq (dSet 2 (d2 rModD (d2 rAddD (dVar 1) (d2 rIxD (dVar 0) (dC (.int 2)))) (dC (.int 1000))))
 (dRet (dTup (dCons (dVar 2) (dCons (dVar 2) dNil)))))
 dNext)
 (dRet (dIf (dTest (d2 (rEqG false) (dVar 1) (d2 rIxD (dVar 0) (dC (.int 2))))) (dTup (dCons (dC (.bl true)) (dCons (d2 rIxD (dVar 0) (dC (.int 3))) dNil))) (dTup (dCons (dC (.bl false)) (dCons (dVar 1) dNil))))))))
theorem ok_worth_behind (ds : List D) (S : Store) (R : DK) (h : sp_worth_behind ds S R) : rd_worth_behind (ends R) (startD ["deed", "worth", "more"] ds) S := by
  obtain ⟨dd, w, rfl, h⟩ := h
  unfold rd_worth_behind
  cases dd with
  | get k =>
    unfold Dd.enc
    walk_at "dl"
    exact fin_of h
  | put k x =>
    unfold Dd.enc
    walk_at "dl"
    exact fin_of h
  | add k a =>
    unfold Dd.enc
    walk_at "dl"
    exact fin_of h
  | swap k a b =>
    unfold Dd.enc
    walk_at "dl"
    simp only [Dd.ans, Dd.new] at h
    split
    · rename_i e
      rw [if_pos e, beq_iff_eq.mpr e] at h
      exact fin_of h
    · rename_i e
      rw [if_neg e, beq_eq_false_iff_ne.mpr e] at h
      exact fin_of h
def sp_need_range : DSp := fun ds S R => ∃ lo hi g, ds = [.int lo, .int hi, .int g] ∧ 0 ≤ lo ∧ lo < hi ∧ hi ≤ 100 ∧ 1 ≤ g ∧ R .non S
def rd_need_range : DS :=
 (dIfS (dOr (dNot (dTest (dChain3 rLeD rLtD rLeD (dC (.int 0)) (dVar 0) (dVar 1) (dC (.int 100))))) (dTest (d2 rLtD (dVar 2) (dC (.int 1)))))
 dNever
 dNext)
theorem ok_need_range (ds : List D) (S : Store) (R : DK) (h : sp_need_range ds S R) : rd_need_range (ends R) (startD ["low", "high", "gen"] ds) S := by
  obtain ⟨lo, hi, gn, rfl, h1, h2, h3, h4, h⟩ := h
  unfold rd_need_range
  walk_at "dl"
  rw [if_pos h1, if_pos h2, if_neg (by omega), if_neg (by omega)]
  exact fin_of h
def sp_fresh : DSp := fun ds S R => ∃ lo hi g, ds = [.int lo, .int hi, .int g] ∧ 0 ≤ lo ∧ lo < hi ∧ hi ≤ 100 ∧ 1 ≤ g ∧ R (Kp.enc ⟨lo, hi, g, 0, [], []⟩) S
def rd_fresh_1 : DS :=
 (dRet (dTup (dCons (dVar 0) (dCons (dVar 1) (dCons (dVar 2) (dCons (dC (.int 0)) (dCons (dC (.ptp [])) (dCons (dTup dNil) dNil))))))))
def rd_fresh : DS :=
 (dSeq (dDrop (dCall sp_need_range (dCons (dVar 0) (dCons (dVar 1) (dCons (dVar 2) dNil)))))
 rd_fresh_1)
theorem ok_fresh (ds : List D) (S : Store) (R : DK) (h : sp_fresh ds S R) : rd_fresh (ends R) (startD ["low", "high", "gen"] ds) S := by
  obtain ⟨lo, hi, gn, rfl, h1, h2, h3, h4, h⟩ := h
  unfold rd_fresh
  walk_at "dl"
  refine ⟨lo, hi, gn, rfl, h1, h2, h3, h4, ?_⟩
  unfold rd_fresh_1
  walk_at "dl"
  exact fin_of h
/-! ### what a keeper keeps -/
def ltW (p q : Int × Int) : Prop := p.1 < q.1
def ltA (p q : Int × Int × D) : Prop := p.1 < q.1
/-- an answer -/
def isAns : D → Prop
  | .non => True
  | .bl _ => True
  | .int _ => True
  | _ => False
structure KOk (k : Kp) (n : Nat) : Prop where
  ws : k.ws.Pairwise ltW
  as : k.as.Pairwise ltA
  wl : k.ws.length ≤ n
  al : k.as.length ≤ n
  wp : ∀ p ∈ k.ws, 0 < p.2
  an : ∀ a ∈ k.as, isAns a.2.2
def getW (ws : List (Int × Int)) (key : Int) : Int := ((ws.find? fun p => decide (p.1 = key)).map (·.2)).getD 0
abbrev kdW (p : Int × Int) : L2.Key × D := (.inl p.1, .int p.2)
theorem pairs_ws : ∀ ws : List (Int × Int), pairsD (ws.map encP) = some (ws.map kdW)
  | [] => rfl
  | p :: r => by simp only [List.map_cons, pairsD, keyOf, pairs_ws r]
theorem putD_new {κ : Type} [DecidableEq κ] {kvs : List (κ × D)} {k : κ} {v : D} (h : ∀ p ∈ kvs, p.1 ≠ k) : putD kvs k v = kvs ++ [(k, v)] := by
  unfold putD
  rw [if_neg (by simp only [List.any_eq_true, decide_eq_true_eq, not_exists, not_and]; exact h)]
theorem merge_ws : ∀ (ws : List (Int × Int)) (acc : List (L2.Key × D)), ws.Pairwise ltW → (∀ p ∈ acc, ∀ q ∈ ws, p.1 ≠ Sum.inl q.1) → mergeD acc (ws.map kdW) = acc ++ ws.map kdW
  | [], acc, _, _ => by simp [mergeD]
  | p :: r, acc, hs, ha => by
    rw [List.pairwise_cons] at hs
    have e : mergeD acc ((p :: r).map kdW) = mergeD (acc ++ [kdW p]) (r.map kdW) := by
      show mergeD (putD acc (.inl p.1) (.int p.2)) (r.map kdW) = _
      rw [putD_new fun q hq => ha q hq p List.mem_cons_self]
    rw [e, merge_ws r _ hs.2 ?_]
    · simp
    · intro q hq z hz
      rcases List.mem_append.mp hq with h | h
      · exact ha q h z (List.mem_cons_of_mem _ hz)
      · rw [List.mem_singleton.mp h]
        intro e
        have := hs.1 z hz
        unfold ltW at this
        injection e with e
        omega
theorem dict_ws {ws : List (Int × Int)} (h : ws.Pairwise ltW) : mergeD [] (ws.map kdW) = ws.map kdW := by
  rw [merge_ws ws [] h (by simp)]; rfl
theorem val_ws (ws : List (Int × Int)) (key : Int) : (valD (ws.map kdW) (.inl key)).getD (.int 0) = .int (getW ws key) := by
  unfold valD getW
  induction ws with
  | nil => rfl
  | cons p r ih =>
    rw [List.map_cons, List.find?_cons, List.find?_cons]
    by_cases e : p.1 = key
    · simp [e]
    · have e1 : decide ((kdW p).1 = Sum.inl key) = false := decide_eq_false fun z => e (by injection z)
      rw [e1, decide_eq_false e]
      exact ih
theorem getW_mem {ws : List (Int × Int)} (h : ws.Pairwise ltW) {p : Int × Int} (hp : p ∈ ws) : getW ws p.1 = p.2 := by
  unfold getW
  induction ws with
  | nil => simp at hp
  | cons q r ih =>
    rw [List.pairwise_cons] at h
    rw [List.find?_cons]
    by_cases e : q.1 = p.1
    · rw [decide_eq_true e]
      rcases List.mem_cons.mp hp with z | z
      · rw [z]; rfl
      · have := h.1 p z
        unfold ltW at this
        omega
    · rw [decide_eq_false e]
      rcases List.mem_cons.mp hp with z | z
      · exact absurd (by rw [z]) e
      · exact ih h.2 z
theorem getW_out {ws : List (Int × Int)} {key : Int} (h : ∀ p ∈ ws, p.1 ≠ key) : getW ws key = 0 := by
  unfold getW
  rw [List.find?_eq_none.mpr (by simpa using h)]
  rfl
theorem getW_cases (ws : List (Int × Int)) (key : Int) : (getW ws key = 0 ∧ ∀ p ∈ ws, p.1 ≠ key) ∨ (key, getW ws key) ∈ ws := by
  unfold getW
  cases e : ws.find? fun p => decide (p.1 = key) with
  | none =>
    refine .inl ⟨rfl, fun p hp q => ?_⟩
    have := List.find?_eq_none.mp e p hp
    simp [q] at this
  | some p =>
    have h1 := List.find?_some e
    have h2 := List.mem_of_find?_eq_some e
    simp only [decide_eq_true_eq] at h1
    exact .inr (by show (key, p.2) ∈ ws; rw [← h1]; exact h2)
def sp_worth_at : DSp := fun ds S R => ∃ (k : Kp) (key : Int), ds = [k.enc, .int key] ∧ k.ws.Pairwise ltW ∧ R (.int (getW k.ws key)) S
def rd_worth_at : DS :=
 (dRet (dGet2 (dCB rDictD (dCons (d2 rIxD (dVar 0) (dC (.int 4))) dNil)) (dVar 1) (dC (.int 0))))
theorem ok_worth_at (ds : List D) (S : Store) (R : DK) (h : sp_worth_at ds S R) : rd_worth_at (ends R) (startD ["state", "key"] ds) S := by
  obtain ⟨k, key, rfl, hs, h⟩ := h
  unfold rd_worth_at Kp.enc
  walk_at "dl"
  simp only [rDictD, pairs_ws, dict_ws hs]
  intro p hp
  simp only [ups_same, keyOf, val_ws]
  exact ⟨trivial, fin_sub h (sub_ups hp)⟩
def findA (as : List (Int × Int × D)) (asker : Int) : Int × D := ((as.find? fun a => decide (a.1 = asker)).map (·.2)).getD (0, .non)
def sp_seen_by : DSp := fun ds S R => ∃ (k : Kp) (asker : Int), ds = [k.enc, .int asker] ∧ R (.tup [.int (findA k.as asker).1, (findA k.as asker).2]) S
def rd_seen_by : DS :=
 (dSeq (dFor (itemsI (d2 rIxD (dVar 0) (dC (.int 5)))) (.tp [2, 3, 4])
 (dIfS (dTest (d2 (rEqG false) (dVar 2) (dVar 1)))
 (dRet (dTup (dCons (dVar 3) (dCons (dVar 4) dNil))))
 dNext))
 (dRet (dTup (dCons (dC (.int 0)) (dCons (dC .non) dNil)))))
theorem ok_seen_by (ds : List D) (S : Store) (R : DK) (h : sp_seen_by ds S R) : rd_seen_by (ends R) (startD ["state", "asker", "one", "number", "answer"] ds) S := by
  obtain ⟨k, asker, rfl, h⟩ := h
  unfold rd_seen_by Kp.enc
  walk_at "dl"
  refine loop_ind (fun rest τ S' => ∃ as' j1 j2 j3, rest = as'.map encA ∧ S' = S ∧ τ = [some k.enc, some (.int asker), j1, j2, j3] ∧ R (.tup [.int (findA as' asker).1, (findA as' asker).2]) S) ?_ ?_ _ _ _ ⟨k.as, none, none, none, rfl, rfl, rfl, h⟩
  · rintro τ S' ⟨as', j1, j2, j3, e, rfl, rfl, h⟩
    cases as' with
    | nil => walk_at "dl"; exact fin_of h
    | cons a r => cases e
  · rintro d r τ S' N ⟨as', j1, j2, j3, e, rfl, rfl, h⟩ hN
    cases as' with
    | nil => cases e
    | cons a r' =>
      cases e
      walk_at "dl"
      unfold findA at h
      rw [List.find?_cons] at h
      split
      · rename_i e
        rw [decide_eq_true e] at h
        exact fin_of h
      · rename_i e
        rw [decide_eq_false e] at h
        exact hN _ _ ⟨r', _, _, _, rfl, rfl, rfl, h⟩
theorem paired_map {α β : Type} (f : α → β) : ∀ l : List α, Paired (fun b a => b = f a) (l.map f) l
  | [] => .nil
  | a :: r => .cons rfl (paired_map f r)
theorem map_of_paired {α β : Type} {f : α → β} : ∀ {m : List β} {l : List α}, Paired (fun b a => b = f a) m l → m = l.map f
  | _, _, .nil => rfl
  | _, _, .cons e t => by rw [e, map_of_paired t]; rfl
theorem perm_map_inv {α β : Type} {f : α → β} {out : List β} {l : List α} (h : out.Perm (l.map f)) : ∃ m : List α, m.Perm l ∧ out = m.map f := by
  obtain ⟨m, h1, h2⟩ := perm_along h (paired_map f l)
  exact ⟨m, h1, map_of_paired h2⟩
/-- no two alike in the first -/
theorem strict_of {α : Type} {f : α → Int} : ∀ {l : List α}, l.Pairwise (fun a b => f a ≤ f b) → l.Pairwise (fun a b => f a ≠ f b) → l.Pairwise (fun a b => f a < f b)
  | [], _, _ => .nil
  | a :: r, h1, h2 => by
    rw [List.pairwise_cons] at h1 h2 ⊢
    exact ⟨fun b hb => by have := h1.1 b hb; have := h2.1 b hb; omega, strict_of h1.2 h2.2⟩
abbrev fA (a : Int × Int × D) : Int := a.1
abbrev fW (a : Int × Int) : Int := a.1
theorem ne_add {α : Type} {f : α → Int} {l : List α} {x : α} (h : l.Pairwise (fun a b => f a < f b)) (hx : ∀ a ∈ l, f a ≠ f x) : (l ++ [x]).Pairwise (fun a b => f a ≠ f b) := by
  rw [List.pairwise_append]
  refine ⟨h.imp fun h => by omega, by simp, fun a ha b hb => ?_⟩
  rw [List.mem_singleton.mp hb]
  exact hx a ha
theorem ne_perm {α : Type} {f : α → Int} {l m : List α} (p : m.Perm l) (h : l.Pairwise (fun a b => f a ≠ f b)) : m.Pairwise (fun a b => f a ≠ f b) := (p.pairwise_iff (fun h => h.symm)).mpr h
def sp_with_answer : DSp := fun ds S R => ∃ (k : Kp) (asker number : Int) (ans : D), ds = [k.enc, .int asker, .int number, ans] ∧ k.as.Pairwise ltA ∧ k.as.length ≤ 900 ∧
  ∀ as', as'.Pairwise ltA → (∀ a, a ∈ as' ↔ (a ∈ k.as ∧ a.1 ≠ asker) ∨ a = (asker, number, ans)) → as'.length ≤ k.as.length + 1 → R (Kp.enc { k with as := as' }) S
def rd_with_answer : DS :=
 (dSeq (dSet 4 (dLc (itemsI (d2 rIxD (dVar 0) (dC (.int 5)))) (.nm 5) (dTest (d2 (rEqG true) (d2 rIxD (dVar 5) (dC (.int 0))) (dVar 1))) (dVar 5) [5]))
 (dRet (d2 rAddD (dSl (dVar 0) dNoPart (dPart (dC (.int 5)))) (dTup (dCons (dCB rTupD (dCons (dSortKey (d2 rAddD (dVar 4) (dLst (dCons (dTup (dCons (dVar 1) (dCons (dVar 2) (dCons (dVar 3) dNil)))) dNil)))) dNil)) dNil)))))
theorem ok_with_answer (ds : List D) (S : Store) (R : DK) (h : sp_with_answer ds S R) : rd_with_answer (ends R) (startD ["state", "asker", "number", "answer", "rest", "row"] ds) S := by
  obtain ⟨k, asker, number, ans, rfl, hs, hl, h⟩ := h
  unfold rd_with_answer Kp.enc
  walk_at "dl"
  refine ⟨by rw [List.length_map]; exact len_ok (by omega), ?_⟩
  have fl : (k.as.filter fun a => !(a.1 == asker)).length ≤ k.as.length := List.length_filter_le _ _
  refine comp_pure encA (fun a => !(a.1 == asker)) encA k.as (fun a ha => ?_) ?_
  · walk_at "dl"
    exact fun G => ⟨fun g => g, fun G h g => g⟩
  · refine ⟨by rw [List.length_map]; exact len_ok (by omega), ?_⟩
    refine ⟨((k.as.filter fun a => !(a.1 == asker)) ++ [(asker, number, ans)]).map (fun a => (a.1, encA a)), by simp, fun p hp => ?_, fun out ho hp => ?_⟩
    · obtain ⟨a, _, rfl⟩ := List.mem_map.mp hp
      exact ⟨_, rfl⟩
    · obtain ⟨m, pm, rfl⟩ := perm_map_inv ho
      have ms : m.Pairwise ltA := strict_of (f := fA) (by rw [List.pairwise_map] at hp; exact hp) (ne_perm (f := fA) pm (ne_add (f := fA) (hs.filter _) fun a ha => by
        have := (List.mem_filter.mp ha).2
        simpa using this))
      have q := h m ms (fun a => by
        rw [pm.mem_iff, List.mem_append, List.mem_filter, List.mem_singleton]
        simp) (by rw [pm.length_eq]; simp; omega)
      rw [List.map_map]
      exact fin_of q
def sp_with_worth : DSp := fun ds S R => ∃ (k : Kp) (key w : Int), ds = [k.enc, .int key, .int w] ∧ k.ws.Pairwise ltW ∧ k.ws.length ≤ 900 ∧
  ∀ ws', ws'.Pairwise ltW → (∀ p, p ∈ ws' ↔ (p ∈ k.ws ∧ p.1 ≠ key) ∨ (0 < w ∧ p = (key, w))) → ws'.length ≤ k.ws.length + 1 → R (Kp.enc { k with ws := ws', ch := k.ch + 1 }) S
def rd_with_worth : DS :=
 (dSeq (dSet 3 (dLc (itemsI (d2 rIxD (dVar 0) (dC (.int 4)))) (.nm 4) (dTest (d2 (rEqG true) (d2 rIxD (dVar 4) (dC (.int 0))) (dVar 1))) (dVar 4) [4]))
 (dSeq (dSet 5 (dCB rTupPD (dCons (dCB rSortPD (dCons (d2 rAddD (dVar 3) (d2 rMulD (dLst (dCons (dTup (dCons (dVar 1) (dCons (dVar 2) dNil))) dNil)) (dCB rIntD (dCons (d2 rGtD (dVar 2) (dC (.int 0))) dNil)))) dNil)) dNil)))
 (dRet (d2 rAddD (dSl (dVar 0) dNoPart (dPart (dC (.int 3)))) (dTup (dCons (d2 rAddD (d2 rIxD (dVar 0) (dC (.int 3))) (dC (.int 1))) (dCons (dVar 5) (dCons (d2 rIxD (dVar 0) (dC (.int 5))) dNil))))))))
theorem lexB_le {p q : Int × Int} (h : SrtO.lexB q p = false) : p.1 ≤ q.1 := by
  by_cases e : SrtO.lexB q p = true
  · rw [h] at e; cases e
  · rw [SrtO.lexB_iff] at e; omega
theorem ok_with_worth (ds : List D) (S : Store) (R : DK) (h : sp_with_worth ds S R) : rd_with_worth (ends R) (startD ["state", "key", "worth", "rest", "pair", "worths"] ds) S := by
  obtain ⟨k, key, w, rfl, hs, hl, h⟩ := h
  unfold rd_with_worth Kp.enc
  walk_at "dl"
  refine ⟨by rw [List.length_map]; exact len_ok (by omega), ?_⟩
  have fl : (k.ws.filter fun a => !(a.1 == key)).length ≤ k.ws.length := List.length_filter_le _ _
  refine comp_pure encP (fun a => !(a.1 == key)) encP k.ws (fun a ha => ?_) ?_
  · walk_at "dl"
    exact fun G => ⟨fun g => g, fun G h g => g⟩
  · have add : ∃ more : List (Int × Int), more = (if 0 < w then [(key, w)] else []) := ⟨_, rfl⟩
    obtain ⟨more, hm⟩ := add
    have e1 : (List.replicate (if decide (0 < w) = true then (1 : Int) else 0).toNat [D.tup [D.int key, D.int w]]).flatten = more.map encP := by
      rw [hm]
      by_cases e : 0 < w <;> simp [e]
    have e2 : more.length ≤ 1 := by rw [hm]; split <;> simp
    simp only [decide_eq_true_eq] at e1
    rw [e1]
    refine ⟨by split <;> omega, by split <;> omega, len_ok (by split <;> simp), by rw [List.length_map, List.length_map]; exact len_ok (by omega), ?_⟩
    unfold rSortPD
    refine ⟨(k.ws.filter fun a => !(a.1 == key)) ++ more, by rw [List.map_append]; rfl, fun m pm hp => ?_⟩
    walk_at "dl"
    have dist : ((k.ws.filter fun a => !(a.1 == key)) ++ more).Pairwise (fun a b => a.1 ≠ b.1) := by
      by_cases e : 0 < w
      · rw [hm, if_pos e]
        refine ne_add (f := fW) (hs.filter _) fun a ha => ?_
        have := (List.mem_filter.mp ha).2
        simpa using this
      · rw [hm, if_neg e, List.append_nil]
        exact (hs.filter _).imp fun h => by unfold ltW at h; omega
    have ms : m.Pairwise ltW := strict_of (f := fW) (hp.imp fun h => lexB_le h) (ne_perm (f := fW) pm dist)
    have q := h m ms (fun a => by
      rw [pm.mem_iff, List.mem_append, List.mem_filter, hm]
      by_cases e : 0 < w <;> simp [e]) (by rw [pm.length_eq, List.length_append]; omega)
    exact fin_of q
def sp_need_inside : DSp := fun ds S R => ∃ (k : Kp) (key : Int), ds = [k.enc, .int key] ∧ k.low ≤ key ∧ key < k.high ∧ R .non S
def rd_need_inside : DS :=
 (dIfS (dNot (dTest (dChain rLeD rLtD (d2 rIxD (dVar 0) (dC (.int 0))) (dVar 1) (d2 rIxD (dVar 0) (dC (.int 1))))))
 dNever
 dNext)
theorem ok_need_inside (ds : List D) (S : Store) (R : DK) (h : sp_need_inside ds S R) : rd_need_inside (ends R) (startD ["state", "key"] ds) S := by
  obtain ⟨k, key, rfl, h1, h2, h⟩ := h
  unfold rd_need_inside Kp.enc
  walk_at "dl"
  rw [if_pos h1, if_neg (by omega)]
  exact fin_of h
def Dd.chg : Dd → Int → Bool
  | .get _, _ => false
  | .put _ _, _ => true
  | .add _ _, _ => true
  | .swap _ a _, w => w == a
/-- k', of k, after a new deed -/
structure Nxt (k : Kp) (asker number : Int) (dd : Dd) (k' : Kp) : Prop where
  low : k'.low = k.low
  high : k'.high = k.high
  gen : k'.gen = k.gen
  ch : k'.ch = k.ch + (if dd.chg (getW k.ws dd.key) = true then 1 else 0)
  ws : k'.ws.Pairwise ltW
  wm : ∀ p, p ∈ k'.ws ↔ (p ∈ k.ws ∧ p.1 ≠ dd.key) ∨ (0 < dd.new (getW k.ws dd.key) ∧ p = (dd.key, dd.new (getW k.ws dd.key)))
  wl : k'.ws.length ≤ k.ws.length + 1
  as : k'.as.Pairwise ltA
  am : ∀ a, a ∈ k'.as ↔ (a ∈ k.as ∧ a.1 ≠ asker) ∨ a = (asker, number, dd.ans (getW k.ws dd.key))
  al : k'.as.length ≤ k.as.length + 1
/-- what is kept stays so -/
theorem same_ws {k : Kp} {n : Nat} (hk : KOk k n) (key : Int) (p : Int × Int) : p ∈ k.ws ↔ (p ∈ k.ws ∧ p.1 ≠ key) ∨ (0 < getW k.ws key ∧ p = (key, getW k.ws key)) := by
  constructor
  · intro h
    by_cases e : p.1 = key
    · have q := getW_mem hk.ws h
      rw [e] at q
      exact .inr ⟨by rw [q]; exact hk.wp p h, by rw [q, ← e]⟩
    · exact .inl ⟨h, e⟩
  · rintro (h | ⟨h, rfl⟩)
    · exact h.1
    · rcases getW_cases k.ws key with ⟨z, _⟩ | z
      · omega
      · exact z
def sp_asked_of : DSp := fun ds S R => ∃ (k : Kp) (asker number : Int) (dd : Dd), ds = [k.enc, .int asker, .int number, dd.enc] ∧ KOk k 900 ∧
  (number ≤ (findA k.as asker).1 → R (.tup [if number = (findA k.as asker).1 then (findA k.as asker).2 else .non, k.enc]) S) ∧
  (¬ number ≤ (findA k.as asker).1 → ∀ k', Nxt k asker number dd k' → R (.tup [dd.ans (getW k.ws dd.key), k'.enc]) S)
def rd_asked_of_1 : DS :=
 (dRet (dTup (dCons (dVar 5) (dCons (dCall sp_with_answer (dCons (dVar 0) (dCons (dVar 1) (dCons (dVar 2) (dCons (dVar 5) dNil))))) dNil))))
def rd_asked_of_2 : DS :=
 (dSeq (dIfS (dAnd (dTest (d2 (rEqG true) (d2 rIxD (dVar 3) (dC (.int 0))) (dC (.str "get")))) (dOr (dTest (d2 (rEqG true) (d2 rIxD (dVar 3) (dC (.int 0))) (dC (.str "swap")))) (dTest (dVar 5))))
 (dSet 0 (dCall sp_with_worth (dCons (dVar 0) (dCons (d2 rIxD (dVar 3) (dC (.int 1))) (dCons (dVar 6) dNil)))))
 dNext)
 rd_asked_of_1)
def rd_asked_of_3 : DS :=
 (dSeq (dIfS (dTest (d2 rLeD (dVar 2) (dVar 4)))
 (dRet (dTup (dCons (dIf (dTest (d2 (rEqG false) (dVar 2) (dVar 4))) (dVar 5) (dC .non)) (dCons (dVar 0) dNil))))
 dNext)
 (dSeq (dAsg (dCall sp_worth_behind (dCons (dVar 3) (dCons (dCall sp_worth_at (dCons (dVar 0) (dCons (d2 rIxD (dVar 3) (dC (.int 1))) dNil))) dNil))) (.tp [5, 6]))
 rd_asked_of_2))
def rd_asked_of : DS :=
 (dSeq (dAsg (dCall sp_seen_by (dCons (dVar 0) (dCons (dVar 1) dNil))) (.tp [4, 5]))
 rd_asked_of_3)
theorem ok_asked_of (ds : List D) (S : Store) (R : DK) (h : sp_asked_of ds S R) : rd_asked_of (ends R) (startD ["state", "asker", "number", "deed", "last", "answer", "worth"] ds) S := by
  obtain ⟨k, asker, number, dd, rfl, hk, h1, h2⟩ := h
  unfold rd_asked_of
  walk_at "dl"
  refine ⟨k, asker, rfl, ?_⟩
  unfold rd_asked_of_3
  walk_at "dl"
  split
  · rename_i e
    have h1 := h1 e
    split
    · rename_i e
      rw [if_pos e] at h1
      exact fin_of h1
    · rename_i e
      rw [if_neg e] at h1
      exact fin_of h1
  · rename_i e
    have h2 := h2 e
    -- the state, then the answer
    have fin : ∀ (k1 : Kp), k1.low = k.low → k1.high = k.high → k1.gen = k.gen → k1.ch = k.ch + (if dd.chg (getW k.ws dd.key) = true then 1 else 0) → k1.ws.Pairwise ltW →
        (∀ p, p ∈ k1.ws ↔ (p ∈ k.ws ∧ p.1 ≠ dd.key) ∨ (0 < dd.new (getW k.ws dd.key) ∧ p = (dd.key, dd.new (getW k.ws dd.key)))) → k1.ws.length ≤ k.ws.length + 1 → k1.as = k.as →
        sp_with_answer [k1.enc, .int asker, .int number, dd.ans (getW k.ws dd.key)] S fun d S' => ∃ S'', Sub S'' S' ∧ R (.tup [dd.ans (getW k.ws dd.key), d]) S'' := by
      intro k1 e1 e2 e3 e4 e5 e6 e7 e8
      refine ⟨k1, asker, number, _, rfl, by rw [e8]; exact hk.as, by rw [e8]; exact hk.al, fun as' a1 a2 a3 => fin_of (h2 _ ⟨e1, e2, e3, e4, e5, e6, e7, a1, by rw [e8] at a2; exact a2, by rw [e8] at a3; exact a3⟩)⟩
    cases dd with
    | get key =>
      unfold Dd.enc
      walk_at "dl"
      refine ⟨k, key, rfl, hk.ws, .get key, getW k.ws key, rfl, ?_⟩
      unfold rd_asked_of_2
      walk_at "dl"
      unfold rd_asked_of_1
      walk_at "dl"
      exact fin k rfl rfl rfl (by simp [Dd.chg]) hk.ws (same_ws hk key) (by omega) rfl
    | put key x =>
      unfold Dd.enc
      walk_at "dl"
      refine ⟨k, key, rfl, hk.ws, .put key x, getW k.ws key, rfl, ?_⟩
      unfold rd_asked_of_2
      walk_at "dl"
      refine ⟨k, key, _, rfl, hk.ws, hk.wl, fun ws' w1 w2 w3 => ?_⟩
      unfold rd_asked_of_1
      walk_at "dl"
      exact fin { k with ws := ws', ch := k.ch + 1 } rfl rfl rfl (by simp [Dd.chg]) w1 w2 w3 rfl
    | add key x =>
      unfold Dd.enc
      walk_at "dl"
      refine ⟨k, key, rfl, hk.ws, .add key x, getW k.ws key, rfl, ?_⟩
      unfold rd_asked_of_2
      walk_at "dl"
      refine ⟨k, key, _, rfl, hk.ws, hk.wl, fun ws' w1 w2 w3 => ?_⟩
      unfold rd_asked_of_1
      walk_at "dl"
      exact fin { k with ws := ws', ch := k.ch + 1 } rfl rfl rfl (by simp [Dd.chg]) w1 w2 w3 rfl
    | swap key a b =>
      unfold Dd.enc
      walk_at "dl"
      refine ⟨k, key, rfl, hk.ws, .swap key a b, getW k.ws key, rfl, ?_⟩
      simp only [Dd.ans]
      unfold rd_asked_of_2
      walk_at "dl"
      split
      · rename_i e
        refine ⟨k, key, _, rfl, hk.ws, hk.wl, fun ws' w1 w2 w3 => ?_⟩
        unfold rd_asked_of_1
        walk_at "dl"
        exact fin { k with ws := ws', ch := k.ch + 1 } rfl rfl rfl (by simp [Dd.chg, Dd.key, e]) w1 w2 w3 rfl
      · rename_i e
        unfold rd_asked_of_1
        walk_at "dl"
        refine fin k rfl rfl rfl (by simp [Dd.chg, Dd.key, e]) hk.ws ?_ (by omega) rfl
        have q : (Dd.swap key a b).new (getW k.ws key) = getW k.ws key := if_neg e
        simp only [Dd.key]
        rw [q]
        exact same_ws hk key
def sp_asked : DSp := fun ds S R => ∃ (k : Kp) (asker number : Int) (dd : Dd), ds = [k.enc, .int asker, .int number, dd.enc] ∧ KOk k 900 ∧ dd.ok ∧ k.low ≤ dd.key ∧ dd.key < k.high ∧
  (number ≤ (findA k.as asker).1 → R (.tup [if number = (findA k.as asker).1 then (findA k.as asker).2 else .non, k.enc]) S) ∧
  (¬ number ≤ (findA k.as asker).1 → ∀ k', Nxt k asker number dd k' → R (.tup [dd.ans (getW k.ws dd.key), k'.enc]) S)
def rd_asked_1 : DS :=
 (dRet (dCall sp_asked_of (dCons (dVar 0) (dCons (dVar 1) (dCons (dVar 2) (dCons (dVar 3) dNil))))))
def rd_asked_2 : DS :=
 (dSeq (dIfS (dTest (d2 (rInD true) (d2 rIxD (dVar 3) (dC (.int 0))) (dC (.tup [(.str "get"), (.str "put"), (.str "add"), (.str "swap")]))))
 dNever
 dNext)
 (dSeq (dDrop (dCall sp_need_inside (dCons (dVar 0) (dCons (d2 rIxD (dVar 3) (dC (.int 1))) dNil))))
 rd_asked_1))
def rd_asked : DS :=
 (dSeq (dDrop (dCall sp_need_deed (dCons (dVar 3) dNil)))
 rd_asked_2)
theorem ok_asked (ds : List D) (S : Store) (R : DK) (h : sp_asked ds S R) : rd_asked (ends R) (startD ["state", "asker", "number", "deed"] ds) S := by
  obtain ⟨k, asker, number, dd, rfl, hk, hd, hl, hh, h1, h2⟩ := h
  unfold rd_asked
  walk_at "dl"
  refine ⟨dd, rfl, hd, ?_⟩
  unfold rd_asked_2
  have fin : sp_need_inside [k.enc, .int dd.key] S fun d S1 => sp_asked_of [k.enc, .int asker, .int number, dd.enc] S1 fun d S' => ∃ S'', Sub S'' S' ∧ R d S'' :=
    ⟨k, dd.key, rfl, hl, hh, k, asker, number, dd, rfl, hk, fun e => fin_of (h1 e), fun e k' n => fin_of (h2 e k' n)⟩
  cases dd with
  | get key => unfold Dd.enc at fin ⊢; walk_at "dl"; exact fin
  | put key x => unfold Dd.enc at fin ⊢; walk_at "dl"; exact fin
  | add key x => unfold Dd.enc at fin ⊢; walk_at "dl"; exact fin
  | swap key a b => unfold Dd.enc at fin ⊢; walk_at "dl"; exact fin
end Dl

set_option Elab.async false
set_option linter.all false
set_option maxRecDepth 100000
namespace Dl
open PySem PySem.Spec PyProof.Rows L2 LamX
local macro_rules | `(tactic| walk_at "dl") => `(tactic| simp (config := { maxSteps := 1000000 }) only [dSeq, dIfS, dRet, dRetN, dSet, dNext, dDrop, dVar, dC, d2, dTest, dAnd, dOr, dNot, dAndV, dOrV, dNotV, dIf, dChain, dChain3, dCall, dCons, dNil, dTup, dLst, dLstR, dAsg, Tg.d, sets, dFor, dYes, dNever, dBrk, dCnt,
  dSortKey, dLc, dLcR, dComp, wipeD, itemsI, rangeI1, enumI, dCB, rLenD, rIntD, rAbsD, rM2D, rTupD, rTupPD, rAllD, dIsi, tyD, rIxD, rItem, dSl, dPart, dNoPart, rSlD, rII, rAddD, rMulD, rMulDR, rEqG, rIsN, rInD, dNeg, dGet2, rAddXD, rListD, rListRD, dPar, dNewK, dNewT, dAsgNS, dMemo0, itR, dForR, dLcX, dLcXR, dCompR, dTupRg, dLstRg, dLstRgR, dInRg, dMemoSet, dDisp, dPairs, keyPairs, keyOf, dML, dSetIx,
  atI0, atI1, atI2, atI3, atI4, atI5, atIm2, atIm3, atIm4, deref_non, deref_bl, deref_int, deref_str, deref_tp, deref_ptp, deref_lst, items_tup, items_ptp, items_lst, dq_ii, dq_bb, dq_ss, dq_tt, dq_tp, dq_pt, dq_pp, dq_ll, dq_n0, dq_nc, dq_cn, dq_cc, ok_non, ok_bl, ok_int, ok_str, ok_tp, ok_pp, ok_ls, ok_n0, ok_cc, flat, List.all_cons, List.all_nil, List.any_cons, List.any_nil,
  startD, List.map_cons, List.map_nil, List.length_cons, List.length_nil, List.replicate_succ, List.replicate_zero, List.cons_append, List.nil_append, List.set_cons_zero, List.set_cons_succ, List.getElem?_cons_zero, List.getElem?_cons_succ, Nat.reduceAdd, Nat.reduceSub, Nat.reduceLeDiff, Nat.reduceMul,
  Bool.and_true, Bool.true_and, Bool.and_false, Bool.false_and, Bool.or_true, Bool.true_or, Bool.or_false, Bool.false_or, Bool.not_true, Bool.not_false, decide_eq_true_eq, ↓reduceIte, true_and, and_true, Bool.false_eq_true, Bool.not_eq_true', Bool.not_not, beq_self_eq_true, and_self, ne_eq, reduceCtorEq, not_false_eq_true, not_true_eq_false, Int.reduceBEq, beq_iff_eq, beq_eq_false_iff_ne, decide_eq_false_iff_not, Int.reduceLT, Int.reduceLE, Int.reduceNeg, Int.reduceAdd, Int.reduceEq, Int.reduceToNat,  kb_NoneType_bool, kb_NoneType_int, kb_NoneType_str, kb_NoneType_tuple, kb_NoneType_list, kb_bool_bool, kb_bool_int, kb_bool_str, kb_bool_tuple, kb_bool_list, kb_int_bool, kb_int_int, kb_int_str, kb_int_tuple, kb_int_list, kb_str_bool, kb_str_int, kb_str_str, kb_str_tuple, kb_str_list, kb_tuple_bool, kb_tuple_int, kb_tuple_str, kb_tuple_tuple, kb_tuple_list, kb_list_bool, kb_list_int, kb_list_str, kb_list_tuple, kb_list_list, sq_k_e, sq_kw_e, sq_kww_e, sk_k, sk_kw, sk_kww, sl_k, sl_kw, sl_kww, sk_e, cut_2_2_None, ncut_2_2_None, cut_2_None_1, ncut_2_None_1, cut_3_2_None, ncut_3_2_None, cut_3_None_1, ncut_3_None_1, cut_3_3_None, ncut_3_3_None, cut_4_2_None, ncut_4_2_None, cut_4_None_1, ncut_4_None_1, cut_4_None_3, ncut_4_None_3, cut_4_3_None, ncut_4_3_None, cut_5_2_None, ncut_5_2_None, cut_5_None_1, ncut_5_None_1, cut_5_None_3, ncut_5_None_3, cut_5_3_None, ncut_5_3_None, cut_6_2_None, ncut_6_2_None, cut_6_None_1, ncut_6_None_1, cut_6_None_3, ncut_6_None_3, cut_6_None_5, ncut_6_None_5, cut_6_3_None, ncut_6_3_None, sq_get_put, sq_get_add, sq_get_swap, sq_get_look, sq_get_split, sq_get_join, sq_put_get, sq_put_add, sq_put_swap, sq_put_look, sq_put_split, sq_put_join, sq_add_get, sq_add_put, sq_add_swap, sq_add_look, sq_add_split, sq_add_join, sq_swap_get, sq_swap_put, sq_swap_add, sq_swap_look, sq_swap_split, sq_swap_join, sq_look_get, sq_look_put, sq_look_add, sq_look_swap, sq_look_split, sq_look_join, sq_split_get, sq_split_put, sq_split_add, sq_split_swap, sq_split_look, sq_split_join, sq_join_get, sq_join_put, sq_join_add, sq_join_swap, sq_join_look, sq_join_split, ls0, ls1, ls2, ls3, ls4, ls5, ls6, ls7, ls8, ls9, ls10, nc0, nc1, nc2, nc3, nc4, nc5, nc6, nc7, nc8, nc9, nc10, sk_get, sk_put, sk_add, sk_swap, sk_look, sk_split, sk_join])


/-! ### the dice -/
def Dice (S : Store) (p q : Addr) : Prop := ∃ (a b : Int) (ns : List Int), S p = some (.lst [.int a, .int b, .ref q]) ∧ S q = some (.lst (ns.map D.int)) ∧ p ≠ q ∧ 0 ≤ a ∧ a < 2147483647 ∧ 0 ≤ b ∧ ∀ n ∈ ns, 0 ≤ n
def sp__law_dice : DSp := fun ds S R => ∃ (ns : List Int) (k : Int), ds = [.scr ns, .int k] ∧ ns.length ≤ 63 ∧ 0 ≤ k ∧ k < 2147483647 ∧ ∀ p q S', Dice S' p q → R (.ref p) S'
def rd__law_dice : DS :=
 (dSeq (dSet 2 (dVar 1))
 (dSeq (dFor (itemsI (dVar 0)) (.nm 3)
 (dSet 2 (d2 rModD (d2 rAddD (d2 rMulD (dVar 2) (dC (.int 31))) (dCB rAbsD (dCons (dVar 3) dNil))) (dC (.int 2147483647)))))
 (dRet (dLstR (dCons (dVar 2) (dCons (dC (.int 0)) (dCons (dLcR (itemsI (dVar 0)) (.nm 3) (dTest (d2 rGeD (dVar 3) (d2 rPowD (dC (.int 10)) (dC (.int 18))))) (dVar 3) [3]) dNil)))))))
theorem ok__law_dice (ds : List D) (S : Store) (R : DK) (h : sp__law_dice ds S R) : rd__law_dice (ends R) (startD ["_law_script", "_law_k", "_law_found", "_law_cell"] ds) S := by
  obtain ⟨ns, k, rfl, hl, h0, h1, h⟩ := h
  unfold rd__law_dice
  walk_at "dl"
  refine loop_ind (fun rest τ S' => ∃ (ms : List Int) (f : Int) (j : Option D), rest = ms.map D.int ∧ S' = S ∧ τ = [some (.scr ns), some (.int k), some (.int f), j] ∧ 0 ≤ f ∧ f < 2147483647) ?_ ?_ _ _ _ ⟨ns, k, none, rfl, rfl, rfl, h0, h1⟩
  · rintro τ S' ⟨ms, f, j, e, rfl, rfl, f0, f1⟩
    walk_at "dl"
    refine ⟨by rw [List.length_map]; exact len_ok (by omega), ?_⟩
    refine comp_pure D.int (fun n => decide ((10 : Int) ^ 18 ≤ n)) D.int ns (fun n hn => ?_) ?_
    · refine fun G => ⟨fun g => ⟨⟨by decide, by decide, by decide⟩, trivial, g⟩, fun G h g => g⟩
    · intro q hq
      try walk_at "dl"
      intro p hp
      have ne : p ≠ q := fun e => by rw [e, ups_same] at hp; cases hp
      exact fin_of (h p q _ ⟨f, 0, _, ups_same, by rw [ups_ne ne.symm, ups_same], ne, f0, f1, by omega, fun n hn => by
        have := (List.mem_filter.mp hn).2
        have e : (10 : Int) ^ 18 ≤ n := by simpa using this
        omega⟩)
  · rintro d r τ S' N ⟨ms, f, j, e, rfl, rfl, f0, f1⟩ hN
    cases ms with
    | nil => cases e
    | cons n r' =>
      cases e
      walk_at "dl"
      refine ⟨.inr ⟨by decide, by decide⟩, ?_⟩
      exact hN _ _ ⟨r', _, _, rfl, rfl, rfl, Int.emod_nonneg _ (by decide), Int.emod_lt_of_pos _ (by decide)⟩
def sp__law_off : DSp := fun ds S R => ∃ (p q : Addr) (m : Int), ds = [.ref p, .int m] ∧ Dice S p q ∧ 0 < m ∧ m < 1073741824 ∧ ∀ v S', 0 ≤ v → v < m → Dice S' p q → (∀ x, x ≠ p → x ≠ q → S' x = S x) → R (.int v) S'
def rd__law_off_1 : DS :=
 (dRet (dVar 2))
def rd__law_off_2 : DS :=
 (dSeq (dSetIx (d2 rDivD (d2 rIxD (dVar 0) (dC (.int 1))) (dVar 1)) (dVar 0) (dC (.int 1)))
 rd__law_off_1)
def rd__law_off_3 : DS :=
 (dRet (d2 rModD (d2 rDivD (d2 rIxD (dVar 0) (dC (.int 0))) (dC (.int 64))) (dVar 1)))
def rd__law_off_4 : DS :=
 (dSeq (dSetIx (d2 rModD (d2 rAddD (d2 rMulD (d2 rIxD (dVar 0) (dC (.int 0))) (dC (.int 48271))) (dC (.int 11))) (dC (.int 2147483647))) (dVar 0) (dC (.int 0)))
 rd__law_off_3)
def rd__law_off_5 : DS :=
 (dSeq (dIfS (dTest (d2 rGtD (d2 rIxD (dVar 0) (dC (.int 1))) (dC (.int 0))))
 (dSeq (dSet 2 (d2 rModD (d2 rIxD (dVar 0) (dC (.int 1))) (dVar 1)))
 rd__law_off_2)
 dNext)
 rd__law_off_4)
def rd__law_off : DS :=
 (dSeq (dIfS (dAnd (dTest (d2 (rEqG false) (d2 rIxD (dVar 0) (dC (.int 1))) (dC (.int 0)))) (dTest (d2 (rEqG true) (d2 rIxD (dVar 0) (dC (.int 2))) (dLst dNil))))
 (dSetIx (dML rPopAtD (d2 rIxD (dVar 0) (dC (.int 2))) (dCons (dC (.int 0)) dNil)) (dVar 0) (dC (.int 1)))
 dNext)
 rd__law_off_5)
theorem okds_int (n : Nat) : ∀ ns : List Int, okds n (ns.map D.int) = true
  | [] => ok_n0 n
  | i :: r => by rw [List.map_cons, ok_cc, ok_int, okds_int n r]; rfl
theorem off_5 {p q : Addr} {m a b : Int} {ns : List Int} {S : Store} {R : DK} {j : Option D} (hp : S p = some (.lst [.int a, .int b, .ref q])) (hq : S q = some (.lst (ns.map D.int))) (ne : p ≠ q) (a0 : 0 ≤ a) (a1 : a < 2147483647) (b0 : 0 ≤ b) (hn : ∀ n ∈ ns, 0 ≤ n)
    (m0 : 0 < m) (m1 : m < 1073741824) (h : ∀ v S', 0 ≤ v → v < m → Dice S' p q → (∀ x, x ≠ p → x ≠ q → S' x = S x) → R (.int v) S') : rd__law_off_5 (ends R) [some (.ref p), some (.int m), j] S := by
  unfold rd__law_off_5
  walk_at "dl"
  simp only [deref_rf hp]
  try walk_at "dl"
  split
  · simp only [deref_rf hp]
    walk_at "dl"
    refine ⟨m0, ?_⟩
    unfold rd__law_off_2
    walk_at "dl"
    simp only [deref_rf hp]
    walk_at "dl"
    refine ⟨⟨m0, m1⟩, ?_⟩
    simp only [hp, List.length_cons, List.length_nil, ixN3_1, List.set_cons_succ, List.set_cons_zero]
    unfold rd__law_off_1
    walk_at "dl"
    exact fin_of (h _ _ (Int.emod_nonneg _ (by omega)) (Int.emod_lt_of_pos _ m0) ⟨a, b / m, ns, ups_same, by rw [ups_ne ne.symm]; exact hq, ne, a0, a1, Int.ediv_nonneg b0 (by omega), hn⟩ fun x h1 h2 => ups_ne h1)
  · unfold rd__law_off_4
    walk_at "dl"
    simp only [deref_rf hp]
    walk_at "dl"
    refine ⟨.inr ⟨by decide, by decide⟩, ?_⟩
    simp only [hp, List.length_cons, List.length_nil, ixN3_0, List.set_cons_succ, List.set_cons_zero]
    unfold rd__law_off_3
    walk_at "dl"
    simp only [deref_rf ups_same]
    try walk_at "dl"
    refine ⟨⟨by decide, by decide⟩, m0, ?_⟩
    exact fin_of (h _ _ (Int.emod_nonneg _ (by omega)) (Int.emod_lt_of_pos _ m0) ⟨_, b, ns, ups_same, by rw [ups_ne ne.symm]; exact hq, ne, Int.emod_nonneg _ (by decide), Int.emod_lt_of_pos _ (by decide), b0, hn⟩ fun x h1 h2 => ups_ne h1)
theorem ok__law_off (ds : List D) (S : Store) (R : DK) (h : sp__law_off ds S R) : rd__law_off (ends R) (startD ["_law_d", "_law_most", "_law_found"] ds) S := by
  obtain ⟨p, q, m, rfl, ⟨a, b, ns, hp, hq, ne, a0, a1, b0, hn⟩, m0, m1, h⟩ := h
  unfold rd__law_off
  walk_at "dl"
  simp only [deref_rf hp, deref_rf hq]
  walk_at "dl"
  have h5 := off_5 (j := none) hp hq ne a0 a1 b0 hn m0 m1 h
  split
  · simp only [deref_rf hp, deref_rf hq]
    try walk_at "dl"
    try simp only [deref_rf hp, deref_rf hq]
    try walk_at "dl"
    refine ⟨okds_int _ _, ?_⟩
    cases ns with
    | nil =>
      simp only [List.map_nil, dq_n0, Bool.true_eq_false, if_false]
      exact h5
    | cons n r =>
      simp only [List.map_cons, dq_cn, if_true]
      refine ⟨by unfold isLst; rw [deref_rf hq]; trivial, ?_⟩
      unfold rPopAtD
      simp only [hq, List.map_cons, List.length_cons]
      have e : seqIndex? 0 ((r.map D.int).length + 1) = some 0 := by unfold seqIndex?; simp
      refine ⟨by decide, by decide, ?_⟩
      simp only [e, List.getElem?_cons_zero, List.eraseIdx_cons_zero, ups_ne ne, hp, List.length_cons, List.length_nil, ixN3_1, List.set_cons_succ, List.set_cons_zero]
      refine off_5 (a := a) (b := n) (ns := r) ups_same (by rw [ups_ne ne.symm, ups_same]) ne a0 a1 (hn n List.mem_cons_self) (fun x hx => hn x (List.mem_cons_of_mem _ hx)) m0 m1 fun v S' v0 v1 hd hf => h v S' v0 v1 hd fun x h1 h2 => ?_
      rw [hf x h1 h2, ups_ne h1, ups_ne h2]
  · exact h5
/-! ### alike -/
def Atom (x y : D) : Prop := x = y ∧ (isAns x ∨ ∃ s, x = .str s ∧ PyData.strOk s = true)
def Seqs (x y : D) (as bs : List D) : Prop := ((x = .tup as ∨ x = .ptp as) ∧ (y = .tup bs ∨ y = .ptp bs)) ∨ (x = .lst as ∧ y = .lst bs)
def Same : Nat → D → D → Prop
  | 0 => Atom
  | n + 1 => fun x y => Atom x y ∨ ∃ as bs, Seqs x y as bs ∧ as.length ≤ 1000 ∧ Paired (Same n) as bs
theorem Same.up : ∀ {n : Nat} {x y : D}, Same n x y → Same (n + 1) x y
  | 0, _, _, h => .inl h
  | n + 1, _, _, .inl h => .inl h
  | n + 1, _, _, .inr ⟨as, bs, h1, h2, h3⟩ => .inr ⟨as, bs, h1, h2, L2.Paired.mapP h3 fun _ _ q => q.up⟩
def sp_alike (n : Nat) : DSp := fun ds S R => ∃ x y, ds = [x, y] ∧ Same n x y ∧ R (.bl true) S
def rd__law_alike0_1 : DS :=
 dNever
def rd__law_alike0_2 : DS :=
 (dSeq (dIfS (dTest (d2 (rEqG true) (dCB rLenD (dCons (dVar 0) dNil)) (dCB rLenD (dCons (dVar 1) dNil))))
 (dRet (dC (.bl false)))
 dNext)
 rd__law_alike0_1)
def rd__law_alike0_3 : DS :=
 (dSeq (dIfS (dOr (dTest (d2 (rEqG true) (dIsi "tuple" (dVar 1)) (dIsi "tuple" (dVar 0)))) (dTest (d2 (rEqG true) (dIsi "list" (dVar 1)) (dIsi "list" (dVar 0)))))
 (dRet (dC (.bl false)))
 dNext)
 rd__law_alike0_2)
def rd__law_alike0_4 : DS :=
 (dSeq (dIfS (dTest (dIsi "str" (dVar 1)))
 (dRet (dAndV (dIsi "str" (dVar 0)) (d2 (rEqG false) (dVar 0) (dVar 1))))
 dNext)
 rd__law_alike0_3)
def rd__law_alike0_5 : DS :=
 (dSeq (dIfS (dTest (dIsi "int" (dVar 1)))
 (dRet (dAndV (dIsi "int" (dVar 0)) (dAndV (dNotV (dIsi "bool" (dVar 0))) (d2 (rEqG false) (dVar 0) (dVar 1)))))
 dNext)
 rd__law_alike0_4)
def rd__law_alike0_6 : DS :=
 (dSeq (dIfS (dTest (dIsi "bool" (dVar 1)))
 (dRet (dAndV (dIsi "bool" (dVar 0)) (d2 (rEqG false) (dVar 0) (dVar 1))))
 dNext)
 rd__law_alike0_5)
def rd__law_alike0 : DS :=
 (dSeq (dIfS (dTest (d2 (rIsN false) (dVar 1) (dC .non)))
 (dRet (d2 (rIsN false) (dVar 0) (dC .non)))
 dNext)
 rd__law_alike0_6)
def rd__law_alike_1 (n : Nat) : DS :=
 (dRet (dCB rAllD (dCons (dLc (rangeI1 (dCons (dCB rLenD (dCons (dVar 1) dNil)) dNil)) (.nm 2) dYes (dCall (sp_alike n) (dCons (d2 rIxD (dVar 0) (dVar 2)) (dCons (d2 rIxD (dVar 1) (dVar 2)) dNil))) [2]) dNil)))
def rd__law_alike_2 (n : Nat) : DS :=
 (dSeq (dIfS (dTest (d2 (rEqG true) (dCB rLenD (dCons (dVar 0) dNil)) (dCB rLenD (dCons (dVar 1) dNil))))
 (dRet (dC (.bl false)))
 dNext)
 (rd__law_alike_1 n))
def rd__law_alike_3 (n : Nat) : DS :=
 (dSeq (dIfS (dOr (dTest (d2 (rEqG true) (dIsi "tuple" (dVar 1)) (dIsi "tuple" (dVar 0)))) (dTest (d2 (rEqG true) (dIsi "list" (dVar 1)) (dIsi "list" (dVar 0)))))
 (dRet (dC (.bl false)))
 dNext)
 (rd__law_alike_2 n))
def rd__law_alike_4 (n : Nat) : DS :=
 (dSeq (dIfS (dTest (dIsi "str" (dVar 1)))
 (dRet (dAndV (dIsi "str" (dVar 0)) (d2 (rEqG false) (dVar 0) (dVar 1))))
 dNext)
 (rd__law_alike_3 n))
def rd__law_alike_5 (n : Nat) : DS :=
 (dSeq (dIfS (dTest (dIsi "int" (dVar 1)))
 (dRet (dAndV (dIsi "int" (dVar 0)) (dAndV (dNotV (dIsi "bool" (dVar 0))) (d2 (rEqG false) (dVar 0) (dVar 1)))))
 dNext)
 (rd__law_alike_4 n))
def rd__law_alike_6 (n : Nat) : DS :=
 (dSeq (dIfS (dTest (dIsi "bool" (dVar 1)))
 (dRet (dAndV (dIsi "bool" (dVar 0)) (d2 (rEqG false) (dVar 0) (dVar 1))))
 dNext)
 (rd__law_alike_5 n))
def rd__law_alike (n : Nat) : DS :=
 (dSeq (dIfS (dTest (d2 (rIsN false) (dVar 1) (dC .non)))
 (dRet (d2 (rIsN false) (dVar 0) (dC .non)))
 dNext)
 (rd__law_alike_6 n))
theorem ok__law_alike0 (ds : List D) (S : Store) (R : DK) (h : sp_alike 0 ds S R) : rd__law_alike0 (ends R) (startD ["_law_found", "_law_due", "_law_k"] ds) S := by
  obtain ⟨x, y, rfl, ⟨rfl, hx⟩, h⟩ := h
  cases x with
  | non => unfold rd__law_alike0; walk_at "dl"; exact fin_of h
  | bl b => unfold rd__law_alike0; walk_at "dl"; unfold rd__law_alike0_6; walk_at "dl"; exact fin_of h
  | int b => unfold rd__law_alike0; walk_at "dl"; unfold rd__law_alike0_6; walk_at "dl"; unfold rd__law_alike0_5; walk_at "dl"; exact fin_of h
  | str z =>
    have hz : PyData.strOk z = true := by
      rcases hx with hx | ⟨s, e, hs⟩
      · exact hx.elim
      · cases e; exact hs
    unfold rd__law_alike0; walk_at "dl"; unfold rd__law_alike0_6; walk_at "dl"; unfold rd__law_alike0_5; walk_at "dl"; unfold rd__law_alike0_4; walk_at "dl"; exact ⟨hz, hz, fin_of h⟩
  | _ =>
    exfalso
    rcases hx with hx | ⟨s, e, _⟩
    · exact hx
    · cases e
theorem intsFrom_eq : ∀ (n : Nat) (lo : Int), intsFrom lo n = (List.range n).map fun (i : Nat) => D.int (lo + (i : Int))
  | 0, _ => rfl
  | n + 1, lo => by
    rw [intsFrom, intsFrom_eq n, List.range_succ_eq_map, List.map_cons, List.map_map]
    refine congr (congrArg _ (by simp)) (List.map_congr_left fun i _ => ?_)
    simp only [Function.comp, Nat.succ_eq_add_one]
    congr 1
    omega
theorem bls_true {α : Type} : ∀ l : List α, blsOf (l.map fun _ => D.bl true) = some (l.map fun _ => true)
  | [] => rfl
  | a :: r => by rw [List.map_cons, blsOf, bls_true r]; rfl
theorem alike_seq {n : Nat} {S : Store} {R : DK} {x y : D} {as bs : List D} (hl : as.length ≤ 1000) (hp : Paired (Same n) as bs)
    (hx : ∀ (i : Nat) (d : D) (G : DK), as[i]? = some d → G d S → d2 rIxD (dVar 0) (dVar 2) [some x, some y, some (.int i)] S G) (hy : ∀ (i : Nat) (d : D) (G : DK), bs[i]? = some d → G d S → d2 rIxD (dVar 1) (dVar 2) [some x, some y, some (.int i)] S G)
    (h : R (.bl true) S) : ∀ (Q : List D → Store → Prop), (∀ l, blsOf l = some (as.map fun _ => true) → Q l S) → compD (.nm 2) dYes (dCall (sp_alike n) (dCons (d2 rIxD (dVar 0) (dVar 2)) (dCons (d2 rIxD (dVar 1) (dVar 2)) dNil))) [some x, some y, none] (intsFrom 0 bs.length) [] S Q := by
  intro Q hQ
  have hlen := hp.length
  rw [intsFrom_eq]
  refine comp_pure (fun i : Nat => D.int (0 + i)) (fun _ => true) (fun _ => D.bl true) (List.range bs.length) (fun i hi => ?_) ?_
  · have hi := List.mem_range.mp hi
    have ia : i < as.length := by omega
    have q := paired_get hp (i := i) (a := as[i]) (b := bs[i]) (by simp [ia]) (by simp [hi])
    rw [Int.zero_add]
    refine fun G => ⟨fun g => g, fun G _ g => ?_⟩
    show dCall (sp_alike n) _ [some x, some y, some (.int i)] S G
    refine hx i as[i] _ (by simp [ia]) ?_
    refine hy i bs[i] _ (by simp [hi]) ?_
    exact ⟨_, _, rfl, q, g⟩
  · rw [List.filter_eq_self.mpr (by simp)]
    refine hQ _ ?_
    rw [bls_true, hlen.symm]
    congr 1
    rw [List.map_const', List.map_const', List.length_range]
where
  paired_get {α β : Type} {P : α → β → Prop} : ∀ {l : List α} {m : List β} {i : Nat} {a : α} {b : β}, Paired P l m → l[i]? = some a → m[i]? = some b → P a b
    | _, _, _, _, _, .nil, h, _ => by simp at h
    | _, _, 0, _, _, .cons r _, h, h' => by simp at h h'; rw [← h, ← h']; exact r
    | _, _, i + 1, _, _, .cons _ t, h, h' => paired_get (i := i) t (by simpa using h) (by simpa using h')
theorem ok__law_alike (n : Nat) (ds : List D) (S : Store) (R : DK) (h : sp_alike (n + 1) ds S R) : rd__law_alike n (ends R) (startD ["_law_found", "_law_due", "_law_k"] ds) S := by
  obtain ⟨x, y, rfl, hs, h⟩ := h
  rcases hs with ⟨rfl, hx⟩ | ⟨as, bs, hq, hl, hp⟩
  · cases x with
    | non => unfold rd__law_alike; walk_at "dl"; exact fin_of h
    | bl b => unfold rd__law_alike; walk_at "dl"; unfold rd__law_alike_6; walk_at "dl"; exact fin_of h
    | int b => unfold rd__law_alike; walk_at "dl"; unfold rd__law_alike_6; walk_at "dl"; unfold rd__law_alike_5; walk_at "dl"; exact fin_of h
    | str z =>
      have hz : PyData.strOk z = true := by
        rcases hx with hx | ⟨s, e, hs⟩
        · exact hx.elim
        · cases e; exact hs
      unfold rd__law_alike; walk_at "dl"; unfold rd__law_alike_6; walk_at "dl"; unfold rd__law_alike_5; walk_at "dl"; unfold rd__law_alike_4; walk_at "dl"; exact ⟨hz, hz, fin_of h⟩
    | _ =>
      exfalso
      rcases hx with hx | ⟨s, e, _⟩
      · exact hx
      · cases e
  · have hlen := hp.length
    have la : as.length ≤ sizeLine := len_ok hl
    have lb : bs.length ≤ sizeLine := by rw [← hlen]; exact la
    have fin : ∀ l, blsOf l = some (as.map fun _ => true) → (match blsOf l with | some bs => ∃ S'', Sub S'' S ∧ R (.bl (bs.all id)) S'' | none => False) := fun l hb => by
      rw [hb]
      have e : (as.map fun _ => true).all id = true := by simp
      show ∃ S'', Sub S'' S ∧ R (.bl ((as.map fun _ => true).all id)) S''
      rw [e]
      exact fin_of h
    have hix : ∀ {cs : List D} {G : DK} (i : Nat) {d : D}, cs[i]? = some d → G d S → match atI cs (i : Int) with | some d => G d S | none => False := fun {cs G} i {d} e g => by
      have hi : i < cs.length := (List.getElem?_eq_some_iff.mp e).1
      rw [atI_n hi, e]
      exact g
    rcases hq with ⟨rfl | rfl, rfl | rfl⟩ | ⟨rfl, rfl⟩
    · unfold rd__law_alike; walk_at "dl"; unfold rd__law_alike_6; walk_at "dl"; unfold rd__law_alike_5; walk_at "dl"; unfold rd__law_alike_4; walk_at "dl"; unfold rd__law_alike_3; walk_at "dl"; unfold rd__law_alike_2; walk_at "dl"
      rw [if_neg (by omega)]
      unfold rd__law_alike_1
      walk_at "dl"
      rw [Int.toNat_natCast]
      exact ⟨by omega, by omega, by rw [intsFrom_length]; exact lb, alike_seq hl hp (fun i d G e g => by simp only [d2, dVar, rIxD, rItem, List.getElem?_cons_zero, List.getElem?_cons_succ, deref_tp, deref_ptp, deref_lst]; exact hix i e g) (fun i d G e g => by simp only [d2, dVar, rIxD, rItem, List.getElem?_cons_zero, List.getElem?_cons_succ, deref_tp, deref_ptp, deref_lst]; exact hix i e g) h _ fin⟩
    · unfold rd__law_alike; walk_at "dl"; unfold rd__law_alike_6; walk_at "dl"; unfold rd__law_alike_5; walk_at "dl"; unfold rd__law_alike_4; walk_at "dl"; unfold rd__law_alike_3; walk_at "dl"; unfold rd__law_alike_2; walk_at "dl"
      rw [if_neg (by omega)]
      unfold rd__law_alike_1
      walk_at "dl"
      rw [Int.toNat_natCast]
      exact ⟨by omega, by omega, by rw [intsFrom_length]; exact lb, alike_seq hl hp (fun i d G e g => by simp only [d2, dVar, rIxD, rItem, List.getElem?_cons_zero, List.getElem?_cons_succ, deref_tp, deref_ptp, deref_lst]; exact hix i e g) (fun i d G e g => by simp only [d2, dVar, rIxD, rItem, List.getElem?_cons_zero, List.getElem?_cons_succ, deref_tp, deref_ptp, deref_lst]; exact hix i e g) h _ fin⟩
    · unfold rd__law_alike; walk_at "dl"; unfold rd__law_alike_6; walk_at "dl"; unfold rd__law_alike_5; walk_at "dl"; unfold rd__law_alike_4; walk_at "dl"; unfold rd__law_alike_3; walk_at "dl"; unfold rd__law_alike_2; walk_at "dl"
      rw [if_neg (by omega)]
      unfold rd__law_alike_1
      walk_at "dl"
      rw [Int.toNat_natCast]
      exact ⟨by omega, by omega, by rw [intsFrom_length]; exact lb, alike_seq hl hp (fun i d G e g => by simp only [d2, dVar, rIxD, rItem, List.getElem?_cons_zero, List.getElem?_cons_succ, deref_tp, deref_ptp, deref_lst]; exact hix i e g) (fun i d G e g => by simp only [d2, dVar, rIxD, rItem, List.getElem?_cons_zero, List.getElem?_cons_succ, deref_tp, deref_ptp, deref_lst]; exact hix i e g) h _ fin⟩
    · unfold rd__law_alike; walk_at "dl"; unfold rd__law_alike_6; walk_at "dl"; unfold rd__law_alike_5; walk_at "dl"; unfold rd__law_alike_4; walk_at "dl"; unfold rd__law_alike_3; walk_at "dl"; unfold rd__law_alike_2; walk_at "dl"
      rw [if_neg (by omega)]
      unfold rd__law_alike_1
      walk_at "dl"
      rw [Int.toNat_natCast]
      exact ⟨by omega, by omega, by rw [intsFrom_length]; exact lb, alike_seq hl hp (fun i d G e g => by simp only [d2, dVar, rIxD, rItem, List.getElem?_cons_zero, List.getElem?_cons_succ, deref_tp, deref_ptp, deref_lst]; exact hix i e g) (fun i d G e g => by simp only [d2, dVar, rIxD, rItem, List.getElem?_cons_zero, List.getElem?_cons_succ, deref_tp, deref_ptp, deref_lst]; exact hix i e g) h _ fin⟩
    · unfold rd__law_alike; walk_at "dl"; unfold rd__law_alike_6; walk_at "dl"; unfold rd__law_alike_5; walk_at "dl"; unfold rd__law_alike_4; walk_at "dl"; unfold rd__law_alike_3; walk_at "dl"; unfold rd__law_alike_2; walk_at "dl"
      rw [if_neg (by omega)]
      unfold rd__law_alike_1
      walk_at "dl"
      rw [Int.toNat_natCast]
      exact ⟨by omega, by omega, by rw [intsFrom_length]; exact lb, alike_seq hl hp (fun i d G e g => by simp only [d2, dVar, rIxD, rItem, List.getElem?_cons_zero, List.getElem?_cons_succ, deref_tp, deref_ptp, deref_lst]; exact hix i e g) (fun i d G e g => by simp only [d2, dVar, rIxD, rItem, List.getElem?_cons_zero, List.getElem?_cons_succ, deref_tp, deref_ptp, deref_lst]; exact hix i e g) h _ fin⟩
end Dl

set_option Elab.async false
set_option linter.all false
set_option maxRecDepth 100000
namespace Dl
open PySem PySem.Spec PyProof.Rows L2 LamX
local macro_rules | `(tactic| walk_at "dl") => `(tactic| simp (config := { maxSteps := 1000000 }) only [dSeq, dIfS, dRet, dRetN, dSet, dNext, dDrop, dVar, dC, d2, dTest, dAnd, dOr, dNot, dAndV, dOrV, dNotV, dIf, dChain, dChain3, dCall, dCons, dNil, dTup, dLst, dLstR, dAsg, Tg.d, sets, dFor, dYes, dNever, dBrk, dCnt,
  dSortKey, dLc, dLcR, dComp, wipeD, itemsI, rangeI1, enumI, dCB, rLenD, rIntD, rAbsD, rM2D, rTupD, rTupPD, rAllD, dIsi, tyD, rIxD, rItem, dSl, dPart, dNoPart, rSlD, rII, rAddD, rMulD, rMulDR, rEqG, rIsN, rInD, dNeg, dGet2, rAddXD, rListD, rListRD, dPar, dNewK, dNewT, dAsgNS, dMemo0, itR, dForR, dLcX, dLcXR, dCompR, dTupRg, dLstRg, dLstRgR, dInRg, dMemoSet, dDisp, dPairs, keyPairs, keyOf, dML, dSetIx,
  atI0, atI1, atI2, atI3, atI4, atI5, atIm2, atIm3, atIm4, deref_non, deref_bl, deref_int, deref_str, deref_tp, deref_ptp, deref_lst, items_tup, items_ptp, items_lst, dq_ii, dq_bb, dq_ss, dq_tt, dq_tp, dq_pt, dq_pp, dq_ll, dq_n0, dq_nc, dq_cn, dq_cc, ok_non, ok_bl, ok_int, ok_str, ok_tp, ok_pp, ok_ls, ok_n0, ok_cc, flat, List.all_cons, List.all_nil, List.any_cons, List.any_nil,
  startD, List.map_cons, List.map_nil, List.length_cons, List.length_nil, List.replicate_succ, List.replicate_zero, List.cons_append, List.nil_append, List.set_cons_zero, List.set_cons_succ, List.getElem?_cons_zero, List.getElem?_cons_succ, Nat.reduceAdd, Nat.reduceSub, Nat.reduceLeDiff, Nat.reduceMul,
  Bool.and_true, Bool.true_and, Bool.and_false, Bool.false_and, Bool.or_true, Bool.true_or, Bool.or_false, Bool.false_or, Bool.not_true, Bool.not_false, decide_eq_true_eq, ↓reduceIte, true_and, and_true, Bool.false_eq_true, Bool.not_eq_true', Bool.not_not, beq_self_eq_true, and_self, ne_eq, reduceCtorEq, not_false_eq_true, not_true_eq_false, Int.reduceBEq, beq_iff_eq, beq_eq_false_iff_ne, decide_eq_false_iff_not, Int.reduceLT, Int.reduceLE, Int.reduceNeg, Int.reduceAdd, Int.reduceEq, Int.reduceToNat,  kb_NoneType_bool, kb_NoneType_int, kb_NoneType_str, kb_NoneType_tuple, kb_NoneType_list, kb_bool_bool, kb_bool_int, kb_bool_str, kb_bool_tuple, kb_bool_list, kb_int_bool, kb_int_int, kb_int_str, kb_int_tuple, kb_int_list, kb_str_bool, kb_str_int, kb_str_str, kb_str_tuple, kb_str_list, kb_tuple_bool, kb_tuple_int, kb_tuple_str, kb_tuple_tuple, kb_tuple_list, kb_list_bool, kb_list_int, kb_list_str, kb_list_tuple, kb_list_list, sq_k_e, sq_kw_e, sq_kww_e, sk_k, sk_kw, sk_kww, sl_k, sl_kw, sl_kww, sk_e, cut_2_2_None, ncut_2_2_None, cut_2_None_1, ncut_2_None_1, cut_3_2_None, ncut_3_2_None, cut_3_None_1, ncut_3_None_1, cut_3_3_None, ncut_3_3_None, cut_4_2_None, ncut_4_2_None, cut_4_None_1, ncut_4_None_1, cut_4_None_3, ncut_4_None_3, cut_4_3_None, ncut_4_3_None, cut_5_2_None, ncut_5_2_None, cut_5_None_1, ncut_5_None_1, cut_5_None_3, ncut_5_None_3, cut_5_3_None, ncut_5_3_None, cut_6_2_None, ncut_6_2_None, cut_6_None_1, ncut_6_None_1, cut_6_None_3, ncut_6_None_3, cut_6_None_5, ncut_6_None_5, cut_6_3_None, ncut_6_3_None, sq_get_put, sq_get_add, sq_get_swap, sq_get_look, sq_get_split, sq_get_join, sq_put_get, sq_put_add, sq_put_swap, sq_put_look, sq_put_split, sq_put_join, sq_add_get, sq_add_put, sq_add_swap, sq_add_look, sq_add_split, sq_add_join, sq_swap_get, sq_swap_put, sq_swap_add, sq_swap_look, sq_swap_split, sq_swap_join, sq_look_get, sq_look_put, sq_look_add, sq_look_swap, sq_look_split, sq_look_join, sq_split_get, sq_split_put, sq_split_add, sq_split_swap, sq_split_look, sq_split_join, sq_join_get, sq_join_put, sq_join_add, sq_join_swap, sq_join_look, sq_join_split, ls0, ls1, ls2, ls3, ls4, ls5, ls6, ls7, ls8, ls9, ls10, nc0, nc1, nc2, nc3, nc4, nc5, nc6, nc7, nc8, nc9, nc10, sk_get, sk_put, sk_add, sk_swap, sk_look, sk_split, sk_join])


/-! ### a deed that is drawn -/
def Frm (S S' : Store) (p q : Addr) : Prop := ∀ x, x ≠ p → x ≠ q → S' x = S x
theorem Frm.refl (S : Store) (p q : Addr) : Frm S S p q := fun _ _ _ => rfl
theorem Frm.trans {S S1 S2 : Store} {p q : Addr} (a : Frm S S1 p q) (b : Frm S1 S2 p q) : Frm S S2 p q := fun x h1 h2 => (b x h1 h2).trans (a x h1 h2)
theorem off_use {S : Store} {p q : Addr} {m : Int} {Q : DK} (hd : Dice S p q) (m0 : 0 < m) (m1 : m < 1073741824) (h : ∀ v S', 0 ≤ v → v < m → Dice S' p q → Frm S S' p q → Q (.int v) S') : sp__law_off [.ref p, .int m] S Q := ⟨p, q, m, rfl, hd, m0, m1, h⟩
theorem atI_in {α : Type} {l : List α} {v : Int} (h0 : 0 ≤ v) (h1 : v < l.length) : ∃ x, x ∈ l ∧ atI l v = some x := by
  obtain ⟨n, rfl⟩ : ∃ n : Nat, v = n := ⟨v.toNat, by omega⟩
  have hi : n < l.length := by omega
  exact ⟨l[n], List.getElem_mem hi, by rw [atI_n hi]; simp [hi]⟩
/-- one of two, by a test -/
theorem pick2 {a b : D} {c : Prop} [Decidable c] : atI [a, b] (if c then 1 else 0) = some (if c then b else a) := by split <;> rfl
def sp__law_plain : DSp := fun ds S R => ∃ (p q : Addr) (few : Int), ds = [.ref p, .int few] ∧ Dice S p q ∧ 0 < few ∧ few ≤ 4 ∧ ∀ (dd : Dd) S', dd.ok → Dice S' p q → Frm S S' p q → R dd.enc S'
def rd__law_plain_1 : DS :=
 (dRet (dTup (dCons (dC (.str "swap")) (dCons (dVar 2) (dCons (dCall sp__law_off (dCons (dVar 0) (dCons (dC (.int 4)) dNil))) (dCons (dVar 3) dNil))))))
def rd__law_plain_2 : DS :=
 (dSeq (dIfS (dTest (d2 rLtD (dVar 4) (dC (.int 2))))
 (dRet (dTup (dCons (dC (.str "get")) (dCons (dVar 2) dNil))))
 dNext)
 (dSeq (dIfS (dTest (d2 (rEqG false) (dVar 4) (dC (.int 2))))
 (dRet (dTup (dCons (dC (.str "put")) (dCons (dVar 2) (dCons (dVar 3) dNil)))))
 dNext)
 (dSeq (dIfS (dTest (d2 rLtD (dVar 4) (dC (.int 6))))
 (dRet (dTup (dCons (dC (.str "add")) (dCons (dVar 2) (dCons (d2 rIxD (dLst (dCons (d2 rAddD (dC (.int 1)) (dCall sp__law_off (dCons (dVar 0) (dCons (dC (.int 3)) dNil)))) (dCons (dVar 3) dNil))) (dCB rIntD (dCons (dOrV (d2 (rEqG false) (dVar 3) (dC (.int 0))) (d2 rGtD (dVar 3) (dC (.int 2)))) dNil))) dNil)))))
 dNext)
 rd__law_plain_1)))
def rd__law_plain_3 : DS :=
 (dSeq (dSet 4 (dCall sp__law_off (dCons (dVar 0) (dCons (dC (.int 7)) dNil))))
 rd__law_plain_2)
def rd__law_plain_4 : DS :=
 (dSeq (dSet 3 (d2 rIxD (dLst (dCons (dCall sp__law_off (dCons (dVar 0) (dCons (dC (.int 4)) dNil))) (dCons (dCall sp__law_off (dCons (dVar 0) (dCons (dC (.int 1000)) dNil))) dNil))) (dCB rIntD (dCons (d2 (rEqG false) (dCall sp__law_off (dCons (dVar 0) (dCons (dC (.int 5)) dNil))) (dC (.int 0))) dNil))))
 rd__law_plain_3)
def rd__law_plain_5 : DS :=
 (dSeq (dIfS (dAnd (dTest (d2 (rEqG false) (dVar 1) (dC (.int 4)))) (dTest (d2 (rEqG false) (dCall sp__law_off (dCons (dVar 0) (dCons (dC (.int 8)) dNil))) (dC (.int 0)))))
 (dSet 2 (d2 rIxD (dLst (dCons (dC (.int 0)) (dCons (dC (.int 99)) (dCons (dCall sp__law_off (dCons (dVar 0) (dCons (dC (.int 100)) dNil))) dNil)))) (dCall sp__law_off (dCons (dVar 0) (dCons (dC (.int 3)) dNil)))))
 dNext)
 rd__law_plain_4)
def rd__law_plain : DS :=
 (dSeq (dSet 2 (d2 rIxD (dLst (dCons (dC (.int 20)) (dCons (dC (.int 60)) (dCons (dC (.int 61)) (dCons (dC (.int 5)) dNil))))) (dCall sp__law_off (dCons (dVar 0) (dCons (dVar 1) dNil)))))
 rd__law_plain_5)
theorem plain_3 {S : Store} {p q : Addr} {few key w : Int} {j : Option D} {R : DK} (hd : Dice S p q) (hk : isW 100 key) (hw : isW 1000 w) (h : ∀ (dd : Dd) S', dd.ok → Dice S' p q → Frm S S' p q → R dd.enc S') : rd__law_plain_3 (ends R) [some (.ref p), some (.int few), some (.int key), some (.int w), j] S := by
  unfold rd__law_plain_3
  walk_at "dl"
  refine off_use hd (by decide) (by decide) fun v S1 v0 v1 hd1 f1 => ?_
  unfold rd__law_plain_2
  walk_at "dl"
  split
  · exact fin_of (h (.get key) S1 hk hd1 f1)
  split
  · exact fin_of (h (.put key w) S1 ⟨hk, hw⟩ hd1 f1)
  split
  · refine off_use hd1 (by decide) (by decide) fun u S2 u0 u1 hd2 f2 => ?_
    have f12 := f1.trans f2
    try walk_at "dl"
    split
    · try walk_at "dl"
      exact fin_of (h (.add key w) S2 ⟨hk, hw⟩ hd2 f12)
    · by_cases e : 2 < w
      · simp only [if_pos e, atI1]
        exact fin_of (h (.add key w) S2 ⟨hk, hw⟩ hd2 f12)
      · simp only [if_neg e, atI0]
        exact fin_of (h (.add key (1 + u)) S2 ⟨hk, by unfold isW; omega⟩ hd2 f12)
  · unfold rd__law_plain_1
    walk_at "dl"
    refine off_use hd1 (by decide) (by decide) fun u S2 u0 u1 hd2 f2 => ?_
    try walk_at "dl"
    exact fin_of (h (.swap key u w) S2 ⟨hk, by unfold isW; omega, hw⟩ hd2 (f1.trans f2))
theorem plain_4 {S : Store} {p q : Addr} {few key : Int} {j1 j2 : Option D} {R : DK} (hd : Dice S p q) (hk : isW 100 key) (h : ∀ (dd : Dd) S', dd.ok → Dice S' p q → Frm S S' p q → R dd.enc S') : rd__law_plain_4 (ends R) [some (.ref p), some (.int few), some (.int key), j1, j2] S := by
  unfold rd__law_plain_4
  walk_at "dl"
  refine off_use hd (by decide) (by decide) fun v S1 v0 v1 hd1 f1 => ?_
  try walk_at "dl"
  refine off_use hd1 (by decide) (by decide) fun u S2 u0 u1 hd2 f2 => ?_
  try walk_at "dl"
  refine off_use hd2 (by decide) (by decide) fun z S3 z0 z1 hd3 f3 => ?_
  try walk_at "dl"
  have f13 := (f1.trans f2).trans f3
  by_cases e : z = 0
  · simp only [e]
    walk_at "dl"
    exact plain_3 hd3 hk (by unfold isW; omega) fun dd S' a b c => h dd S' a b (f13.trans c)
  · simp only [beq_eq_false_iff_ne.mpr e, if_neg e]
    walk_at "dl"
    exact plain_3 hd3 hk (by unfold isW; omega) fun dd S' a b c => h dd S' a b (f13.trans c)
theorem ok__law_plain (ds : List D) (S : Store) (R : DK) (h : sp__law_plain ds S R) : rd__law_plain (ends R) (startD ["_law_d", "_law_few", "_law_key", "_law_worth", "_law_kind"] ds) S := by
  obtain ⟨p, q, few, rfl, hd, w0, w1, h⟩ := h
  unfold rd__law_plain
  walk_at "dl"
  refine off_use hd w0 (by omega) fun v S1 v0 v1 hd1 f1 => ?_
  try walk_at "dl"
  have key4 : ∃ k : Int, isW 100 k ∧ atI [D.int 20, D.int 60, D.int 61, D.int 5] v = some (.int k) := by
    obtain ⟨x, hx, e⟩ := atI_in (l := [D.int 20, D.int 60, D.int 61, D.int 5]) v0 (by simp; omega)
    simp only [List.mem_cons, List.not_mem_nil, or_false] at hx
    rcases hx with rfl | rfl | rfl | rfl <;> exact ⟨_, by unfold isW; omega, e⟩
  obtain ⟨k, hk, ek⟩ := key4
  simp only [ek]
  unfold rd__law_plain_5
  walk_at "dl"
  have fin : ∀ S', Dice S' p q → Frm S S' p q → ∀ k, isW 100 k → ∀ j1 j2, rd__law_plain_4 (ends R) [some (.ref p), some (.int few), some (.int k), j1, j2] S' := fun S' hd' f' k hk j1 j2 => plain_4 hd' hk fun dd S2 a b c => h dd S2 a b (f'.trans c)
  split
  · refine off_use hd1 (by decide) (by decide) fun u S2 u0 u1 hd2 f2 => ?_
    try walk_at "dl"
    split
    · refine off_use hd2 (by decide) (by decide) fun z S3 z0 z1 hd3 f3 => ?_
      try walk_at "dl"
      refine off_use hd3 (by decide) (by decide) fun y S4 y0 y1 hd4 f4 => ?_
      try walk_at "dl"
      have key3 : ∃ k : Int, isW 100 k ∧ atI [D.int 0, D.int 99, D.int z] y = some (.int k) := by
        obtain ⟨x, hx, e⟩ := atI_in (l := [D.int 0, D.int 99, D.int z]) y0 (by simp; omega)
        simp only [List.mem_cons, List.not_mem_nil, or_false] at hx
        rcases hx with rfl | rfl | rfl <;> exact ⟨_, by unfold isW; omega, e⟩
      obtain ⟨k, hk, ek⟩ := key3
      simp only [ek]
      exact fin S4 hd4 (((f1.trans f2).trans f3).trans f4) k hk _ _
    · exact fin S2 hd2 (f1.trans f2) k hk _ _
  · exact fin S1 hd1 f1 k hk _ _
/-! ### what is due -/
def sp__law_done : DSp := fun ds S R => ∃ (k : Kp) (dd : Dd), ds = [.ptp (k.ws.map encP), dd.enc] ∧ k.ws.Pairwise ltW ∧ k.ws.length ≤ 60 ∧ (∀ p ∈ k.ws, 0 < p.2) ∧
  ∀ ws' : List (Int × Int), ws'.Pairwise ltW → (∀ p, p ∈ ws' ↔ (p ∈ k.ws ∧ p.1 ≠ dd.key) ∨ (0 < dd.new (getW k.ws dd.key) ∧ p = (dd.key, dd.new (getW k.ws dd.key)))) → ws'.length ≤ k.ws.length + 1 →
    R (.tup [dd.ans (getW k.ws dd.key), .ptp (ws'.map encP)]) S
def rd__law_done_1 : DS :=
 (dRet (dTup (dCons (dVar 6) (dCons (dCB rTupPD (dCons (dLc (itemsI (dCB rSortKD (dCons (dVar 2) dNil))) (.nm 3) (dTest (d2 rGtD (d2 rIxD (dVar 2) (dVar 3)) (dC (.int 0)))) (dTup (dCons (dVar 3) (dCons (d2 rIxD (dVar 2) (dVar 3)) dNil))) [3]) dNil)) dNil))))
def rd__law_done_2 : DS :=
 (dSeq (dSet 6 (d2 rIxD (dDisp [((dC (.str "get")), (dVar 4)), ((dC (.str "put")), (dVar 4)), ((dC (.str "add")), (dVar 5)), ((dC (.str "swap")), (dAndV (d2 (rEqG false) (d2 rIxD (dVar 1) (dC (.int 0))) (dC (.str "swap"))) (d2 (rEqG false) (dVar 4) (d2 rIxD (dVar 1) (dC (.int 2))))))]) (d2 rIxD (dVar 1) (dC (.int 0)))))
 rd__law_done_1)
def rd__law_done_3 : DS :=
 (dSeq (dPut (dVar 5) (dVar 2) (d2 rIxD (dVar 1) (dC (.int 1))))
 rd__law_done_2)
def rd__law_done_4 : DS :=
 (dSeq (dIfS (dAnd (dTest (d2 (rEqG false) (d2 rIxD (dVar 1) (dC (.int 0))) (dC (.str "swap")))) (dTest (d2 (rEqG true) (dVar 4) (d2 rIxD (dVar 1) (dC (.int 2))))))
 (dSet 5 (dVar 4))
 dNext)
 rd__law_done_3)
def rd__law_done_5 : DS :=
 (dSeq (dSet 5 (d2 rIxD (dDisp [((dC (.str "get")), (dVar 4)), ((dC (.str "put")), (d2 rIxD (dVar 1) (dNeg (dC (.int 1))))), ((dC (.str "add")), (d2 rModD (d2 rAddD (dVar 4) (d2 rIxD (dVar 1) (dNeg (dC (.int 1))))) (dC (.int 1000)))), ((dC (.str "swap")), (d2 rIxD (dVar 1) (dNeg (dC (.int 1)))))]) (d2 rIxD (dVar 1) (dC (.int 0)))))
 rd__law_done_4)
def rd__law_done_6 : DS :=
 (dSeq (dSet 4 (dGet2 (dVar 2) (d2 rIxD (dVar 1) (dC (.int 1))) (dC (.int 0))))
 rd__law_done_5)
def rd__law_done_7 : DS :=
 (dSeq (dIfS (dTest (d2 (rEqG false) (d2 rIxD (dVar 1) (dC (.int 0))) (dC (.str "look"))))
 dNever
 dNext)
 rd__law_done_6)
def rd__law_done : DS :=
 (dSeq (dSet 2 (dCB rDictD (dCons (dVar 0) dNil)))
 rd__law_done_7)
theorem strK_ne {x y : Str} (h : (x == y) = false) : (Sum.inr x : L2.Key) ≠ Sum.inr y := fun e => by
  injection e with e
  rw [e, beq_self_eq_true] at h
  cases h
theorem merge4 {k1 k2 k3 k4 : L2.Key} {a b c d : D} (h12 : k1 ≠ k2) (h13 : k1 ≠ k3) (h14 : k1 ≠ k4) (h23 : k2 ≠ k3) (h24 : k2 ≠ k4) (h34 : k3 ≠ k4) : mergeD [] [(k1, a), (k2, b), (k3, c), (k4, d)] = [(k1, a), (k2, b), (k3, c), (k4, d)] := by
  simp [mergeD, putD, h12, h13, h14, h23, h24, h34]
theorem mergeS {a b c d : D} : mergeD [] [(.inr "get", a), (.inr "put", b), (.inr "add", c), (.inr "swap", d)] = [(.inr "get", a), (.inr "put", b), (.inr "add", c), (.inr "swap", d)] :=
  merge4 (strK_ne sq_get_put) (strK_ne sq_get_add) (strK_ne sq_get_swap) (strK_ne sq_put_add) (strK_ne sq_put_swap) (strK_ne sq_add_swap)
theorem valD_hit {κ : Type} [DecidableEq κ] {k : κ} {v : D} {r : List (κ × D)} : valD ((k, v) :: r) k = some v := by simp [valD]
theorem valD_miss {κ : Type} [DecidableEq κ] {k k' : κ} {v : D} {r : List (κ × D)} (h : k' ≠ k) : valD ((k', v) :: r) k = valD r k := by simp [valD, List.find?_cons, h]
theorem vs_get {a b c d : D} : valD [(.inr "get", a), (.inr "put", b), (.inr "add", c), (.inr "swap", d)] (Sum.inr "get" : L2.Key) = some a := valD_hit
theorem vs_put {a b c d : D} : valD [(.inr "get", a), (.inr "put", b), (.inr "add", c), (.inr "swap", d)] (Sum.inr "put" : L2.Key) = some b := by rw [valD_miss (strK_ne sq_get_put), valD_hit]
theorem vs_add {a b c d : D} : valD [(.inr "get", a), (.inr "put", b), (.inr "add", c), (.inr "swap", d)] (Sum.inr "add" : L2.Key) = some c := by rw [valD_miss (strK_ne sq_get_add), valD_miss (strK_ne sq_put_add), valD_hit]
theorem vs_swap {a b c d : D} : valD [(.inr "get", a), (.inr "put", b), (.inr "add", c), (.inr "swap", d)] (Sum.inr "swap" : L2.Key) = some d := by rw [valD_miss (strK_ne sq_get_swap), valD_miss (strK_ne sq_put_swap), valD_miss (strK_ne sq_add_swap), valD_hit]
/-- the item of a written dict -/
theorem ix_rfK {S : Store} {p : Addr} {kvs : List (L2.Key × D)} {y d : D} {k : L2.Key} {Q : DK} (h : S p = some (.dK kvs)) (hk : keyOf y = some k) (hv : valD kvs k = some d) (q : Q d S) : rIxD (.ref p) y S Q := by
  unfold rIxD
  simp only [deref_rfK h, h, hk, hv]
  exact q
/-- known, S' from S on -/
structure Kn (S S' : Store) (p : Addr) (ws : List (Int × Int)) : Prop where
  sub : Sub S S'
  new : S p = none
  kn : S' p = some (.dK (ws.map kdW))
theorem Kn.ups {S S' : Store} {p q : Addr} {ws : List (Int × Int)} {o : MO} (k : Kn S S' p ws) (h : S' q = none) : Kn S (ups S' q o) p ws := by
  have ne : p ≠ q := fun e => by rw [← e, k.kn] at h; cases h
  refine ⟨k.sub.trans (sub_ups h), k.new, by rw [ups_ne ne]; exact k.kn⟩
theorem getW_cons (p : Int × Int) (r : List (Int × Int)) (k : Int) : getW (p :: r) k = if p.1 = k then p.2 else getW r k := by
  unfold getW
  rw [List.find?_cons]
  by_cases e : p.1 = k
  · rw [decide_eq_true e, if_pos e]; rfl
  · rw [decide_eq_false e, if_neg e]
theorem getW_nil (k : Int) : getW [] k = 0 := rfl
abbrev repW (key new : Int) (p : Int × Int) : Int × Int := if p.1 = key then (p.1, new) else p
theorem repW_fst (key new : Int) (p : Int × Int) : (repW key new p).1 = p.1 := by unfold repW; split <;> rfl
theorem getW_rep (key new k : Int) : ∀ ws : List (Int × Int), getW (ws.map (repW key new)) k = if k = key ∧ key ∈ ws.map (·.1) then new else getW ws k
  | [] => by simp [getW_nil]
  | p :: r => by
    rw [List.map_cons, getW_cons, getW_cons, getW_rep key new k r, repW_fst]
    by_cases e : p.1 = k
    · rw [if_pos e, if_pos e]
      unfold repW
      by_cases e2 : p.1 = key
      · rw [if_pos e2, if_pos ⟨by omega, by rw [← e2]; simp⟩]
      · rw [if_neg e2, if_neg (fun h => e2 (by omega))]
    · rw [if_neg e, if_neg e]
      by_cases e2 : k = key ∧ key ∈ r.map (·.1)
      · rw [if_pos e2, if_pos ⟨e2.1, by rw [List.map_cons]; exact List.mem_cons_of_mem _ e2.2⟩]
      · rw [if_neg e2, if_neg]
        rintro ⟨h1, h2⟩
        refine e2 ⟨h1, ?_⟩
        rw [List.map_cons, List.mem_cons] at h2
        rcases h2 with h2 | h2
        · omega
        · exact h2
theorem getW_app (key new k : Int) : ∀ ws : List (Int × Int), key ∉ ws.map (·.1) → getW (ws ++ [(key, new)]) k = if k = key then new else getW ws k
  | [], _ => by
    rw [List.nil_append, getW_cons, getW_nil]
    by_cases e : k = key
    · rw [if_pos e, if_pos e.symm]
    · rw [if_neg e, if_neg (fun h => e h.symm)]
  | p :: r, h => by
    rw [List.map_cons, List.mem_cons, not_or] at h
    rw [List.cons_append, getW_cons, getW_cons, getW_app key new k r h.2]
    by_cases e : p.1 = k
    · rw [if_pos e, if_pos e, if_neg (fun e2 => h.1 (by omega))]
    · rw [if_neg e, if_neg e]
theorem putD_ws {ws : List (Int × Int)} (key new : Int) : ∃ ws2 : List (Int × Int), putD (ws.map kdW) (.inl key) (.int new) = ws2.map kdW ∧ ws2.length ≤ ws.length + 1 ∧ (∀ k, k ∈ ws2.map (·.1) ↔ k = key ∨ k ∈ ws.map (·.1)) ∧ ((ws.map (·.1)).Nodup → (ws2.map (·.1)).Nodup) ∧
    ∀ k, getW ws2 k = if k = key then new else getW ws k := by
  by_cases m : key ∈ ws.map (·.1)
  · refine ⟨ws.map (repW key new), ?_, by simp, ?_, ?_, ?_⟩
    · have a : ((ws.map kdW).any fun kv => decide (kv.1 = Sum.inl key)) = true := by
        obtain ⟨p, h1, h2⟩ := List.mem_map.mp m
        refine List.any_eq_true.mpr ⟨kdW p, List.mem_map.mpr ⟨p, h1, rfl⟩, ?_⟩
        have h2 : p.1 = key := h2
        simp [h2]
      unfold putD
      rw [if_pos a, List.map_map, List.map_map]
      refine List.map_congr_left fun p _ => ?_
      simp only [Function.comp, repW]
      by_cases e : p.1 = key
      · rw [if_pos (by rw [e]), if_pos e]
      · rw [if_neg (fun h => e (by injection h)), if_neg e]
    · intro k
      rw [List.map_map]
      have e : ((·.1) ∘ repW key new) = fun p : Int × Int => p.1 := funext fun p => repW_fst key new p
      rw [e]
      exact ⟨.inr, fun h => h.elim (fun h => by rw [h]; exact m) id⟩
    · rw [List.map_map]
      have e : ((·.1) ∘ repW key new) = fun p : Int × Int => p.1 := funext fun p => repW_fst key new p
      rw [e]
      exact id
    · intro k
      rw [getW_rep]
      by_cases e : k = key
      · rw [if_pos ⟨e, m⟩, if_pos e]
      · rw [if_neg (fun h => e h.1), if_neg e]
  · refine ⟨ws ++ [(key, new)], ?_, by simp, ?_, ?_, fun k => getW_app key new k ws m⟩
    · rw [putD_new, List.map_append]
      · rfl
      · intro q hq e
        obtain ⟨p, h1, rfl⟩ := List.mem_map.mp hq
        injection e with e
        exact m (List.mem_map.mpr ⟨p, h1, e⟩)
    · intro k
      simp only [List.map_append, List.mem_append, List.map_cons, List.map_nil, List.mem_singleton]
      exact or_comm
    · intro nd
      rw [List.map_append, List.nodup_append]
      refine ⟨nd, by simp, fun a ha b hb => ?_⟩
      have hb : b = key := by simpa using hb
      exact fun e => m (by rw [← hb, ← e]; exact ha)
theorem getW_val {ws : List (Int × Int)} {k : Int} (h : k ∈ ws.map (·.1)) : valD (ws.map kdW) (.inl k) = some (.int (getW ws k)) := by
  induction ws with
  | nil => simp at h
  | cons p r ih =>
    rw [getW_cons]
    by_cases e : p.1 = k
    · rw [if_pos e, List.map_cons, ← e]
      exact valD_hit
    · rw [if_neg e, List.map_cons]
      rw [List.map_cons, List.mem_cons] at h
      refine (valD_miss fun q => e (by injection q)).trans (ih (h.resolve_left fun q => e q.symm))
/-- the end: what is known, sorted, without the zeros -/
theorem done_1 {S S' : Store} {p : Addr} {ws : List (Int × Int)} {a b x w m : D} {j : Option D} {R : DK} (k : Kn S S' p ws) (nd : (ws.map (·.1)).Nodup) (hl : ws.length ≤ 61)
    (h : ∀ ws' : List (Int × Int), ws'.Pairwise ltW → (∀ p : Int × Int, p ∈ ws' ↔ (p.1 ∈ ws.map (·.1) ∧ p.2 = getW ws p.1 ∧ 0 < p.2)) → ws'.length ≤ ws.length → R (.tup [x, .ptp (ws'.map encP)]) S) :
    rd__law_done_1 (ends R) [some a, some b, some (.ref p), j, some w, some m, some x] S' := by
  unfold rd__law_done_1
  walk_at "dl"
  unfold rSortKD
  simp only [k.kn]
  refine ⟨ws.map (·.1), by simp [Function.comp], by rw [List.length_map]; omega, fun out pm so => ?_⟩
  have ol : out.length = ws.length := by rw [pm.length_eq, List.length_map]
  have strict : out.Pairwise (· < ·) := strict_of (f := fun i => i) so ((pm.pairwise_iff (fun h => h.symm)).mpr nd)
  refine ⟨by rw [List.length_map]; exact len_ok (by omega), ?_⟩
  refine comp_pure D.int (fun i => decide (0 < getW ws i)) (fun i => encP (i, getW ws i)) out (fun i hi => ?_) ?_
  · have hv : valD (ws.map kdW) (.inl i) = some (.int (getW ws i)) := getW_val (pm.mem_iff.mp hi)
    have ix : ∀ (G : DK), G (.int (getW ws i)) S' → rIxD (.ref p) (.int i) S' G := fun G g => ix_rfK k.kn rfl hv g
    refine fun G => ⟨fun g => ix _ ⟨trivial, g⟩, fun G _ g => ?_⟩
    refine ix (fun d S2 => _ ≤ sizeLine ∧ _) ⟨len_ok (by simp), g⟩
  · have e : ((out.filter fun i => decide (0 < getW ws i)).map fun i => encP (i, getW ws i)) = (((out.filter fun i => decide (0 < getW ws i)).map fun i => (i, getW ws i))).map encP := by rw [List.map_map]; rfl
    rw [e]
    refine fin_sub (h _ ?_ ?_ ?_) k.sub
    · exact List.pairwise_map.mpr ((strict.filter _).imp fun h => h)
    · intro q
      rw [List.mem_map]
      constructor
      · rintro ⟨i, hi, rfl⟩
        obtain ⟨h1, h2⟩ := List.mem_filter.mp hi
        exact ⟨pm.mem_iff.mp h1, rfl, by simpa using h2⟩
      · rintro ⟨h1, h2, h3⟩
        exact ⟨q.1, List.mem_filter.mpr ⟨pm.mem_iff.mpr h1, by simp only [decide_eq_true_eq]; omega⟩, by rw [← h2]⟩
    · rw [List.length_map]
      have := List.length_filter_le (fun i => decide (0 < getW ws i)) out
      omega
theorem done_3 {S S' : Store} {p : Addr} {ws : List (Int × Int)} {a z w : D} {r : List D} {key m : Int} {j1 j2 : Option D} {R : DK} (k : Kn S S' p ws) (hl : ws.length ≤ 60)
    (h : ∀ S2 ws2, Kn S S2 p ws2 → ws2.length ≤ ws.length + 1 → (∀ k, k ∈ ws2.map (·.1) ↔ k = key ∨ k ∈ ws.map (·.1)) → ((ws.map (·.1)).Nodup → (ws2.map (·.1)).Nodup) → (∀ k, getW ws2 k = if k = key then m else getW ws k) →
      rd__law_done_2 (ends R) [some a, some (.tup (z :: .int key :: r)), some (.ref p), j1, some w, some (.int m), j2] S2) :
    rd__law_done_3 (ends R) [some a, some (.tup (z :: .int key :: r)), some (.ref p), j1, some w, some (.int m), j2] S' := by
  unfold rd__law_done_3
  walk_at "dl"
  simp only [dPut]
  walk_at "dl"
  simp only [k.kn]
  obtain ⟨ws2, e1, e2, e3, e4, e5⟩ := putD_ws (ws := ws) key m
  rw [e1]
  refine ⟨by rw [List.length_map]; exact Nat.lt_of_lt_of_le (Nat.lt_succ_of_le hl) (len_ok (by omega)), ?_⟩
  refine h _ ws2 ⟨fun x o e => ?_, k.new, ups_same⟩ e2 e3 e4 e5
  have ne : x ≠ p := fun q => by rw [q, k.new] at e; cases e
  rw [ups_ne ne]
  exact k.sub x o e
theorem ok__law_done (ds : List D) (S : Store) (R : DK) (h : sp__law_done ds S R) : rd__law_done (ends R) (startD ["_law_worths", "_law_deed", "_law_known", "_law_key", "_law_worth", "_law_more", "_law_answer"] ds) S := by
  obtain ⟨k, dd, rfl, hs, hl, hp, h⟩ := h
  unfold rd__law_done
  walk_at "dl"
  simp only [rDictD, pairs_ws, dict_ws hs]
  intro p hq
  have kn : Kn S (ups S p (.dK (k.ws.map kdW))) p k.ws := ⟨sub_ups hq, hq, ups_same⟩
  generalize ups S p (.dK (k.ws.map kdW)) = S1 at kn ⊢
  have nd : (k.ws.map (·.1)).Nodup := by
    refine List.pairwise_map.mpr (hs.imp fun h => ?_)
    unfold ltW at h
    omega
  have fin : ∀ (S2 S3 : Store) (ws2 : List (Int × Int)) (x w' m : D), Kn S S2 p ws2 → ws2.length ≤ k.ws.length + 1 → (∀ i, i ∈ ws2.map (·.1) ↔ i = dd.key ∨ i ∈ k.ws.map (·.1)) → ((k.ws.map (·.1)).Nodup → (ws2.map (·.1)).Nodup) → (∀ i, getW ws2 i = if i = dd.key then dd.new (getW k.ws dd.key) else getW k.ws i) →
      x = dd.ans (getW k.ws dd.key) → rd__law_done_1 (ends R) [some (.ptp (k.ws.map encP)), some dd.enc, some (.ref p), none, some w', some m, some x] S2 := by
    rintro S2 S3 ws2 x w' m kn2 l2 m2 n2 g2 rfl
    refine done_1 kn2 (n2 nd) (by omega) fun ws' a1 a2 a3 => h ws' a1 (fun q => ?_) (by omega)
    rw [a2, m2, g2]
    by_cases e : q.1 = dd.key
    · rw [if_pos e]
      constructor
      · rintro ⟨_, h2, h3⟩
        exact .inr ⟨by omega, Prod.ext e h2⟩
      · rintro (⟨_, h2⟩ | ⟨h1, rfl⟩)
        · exact absurd e h2
        · exact ⟨.inl rfl, rfl, h1⟩
    · rw [if_neg e]
      constructor
      · rintro ⟨h1, h2, h3⟩
        obtain ⟨r, hr, er⟩ := List.mem_map.mp (h1.resolve_left e)
        have g := getW_mem hs hr
        have er : r.1 = q.1 := er
        rw [er] at g
        refine .inl ⟨?_, e⟩
        have : q = r := Prod.ext er.symm (by rw [h2, g])
        rw [this]; exact hr
      · rintro (⟨h1, _⟩ | ⟨_, rfl⟩)
        · exact ⟨.inr (List.mem_map.mpr ⟨q, h1, rfl⟩), (getW_mem hs h1).symm, hp q h1⟩
        · exact absurd rfl e
  cases dd with
  | get key =>
    unfold Dd.enc at fin ⊢
    unfold rd__law_done_7
    walk_at "dl"
    unfold rd__law_done_6
    walk_at "dl"
    simp only [kn.kn, val_ws]
    unfold rd__law_done_5
    walk_at "dl"
    simp only [mergeS]
    intro p2 hp2
    simp only [deref_rfK ups_same, ups_same, vs_get]
    have kn2 := fun o => kn.ups (o := o) hp2
    unfold rd__law_done_4
    walk_at "dl"
    refine done_3 (kn2 _) hl fun S2 ws2 kn3 l3 m3 n3 g3 => ?_
    unfold rd__law_done_2
    walk_at "dl"
    simp only [mergeS]
    intro p3 hp3
    simp only [deref_rfK ups_same, ups_same, vs_get]
    exact fin _ S2 ws2 _ _ _ (kn3.ups hp3) l3 m3 n3 g3 rfl
  | put key x =>
    unfold Dd.enc at fin ⊢
    unfold rd__law_done_7
    walk_at "dl"
    unfold rd__law_done_6
    walk_at "dl"
    simp only [kn.kn, val_ws]
    unfold rd__law_done_5
    walk_at "dl"
    simp only [mergeS]
    intro p2 hp2
    simp only [deref_rfK ups_same, ups_same, vs_put]
    have kn2 := fun o => kn.ups (o := o) hp2
    unfold rd__law_done_4
    walk_at "dl"
    refine done_3 (kn2 _) hl fun S2 ws2 kn3 l3 m3 n3 g3 => ?_
    unfold rd__law_done_2
    walk_at "dl"
    simp only [mergeS]
    intro p3 hp3
    simp only [deref_rfK ups_same, ups_same, vs_put]
    exact fin _ S2 ws2 _ _ _ (kn3.ups hp3) l3 m3 n3 g3 rfl
  | add key x =>
    unfold Dd.enc at fin ⊢
    unfold rd__law_done_7
    walk_at "dl"
    unfold rd__law_done_6
    walk_at "dl"
    simp only [kn.kn, val_ws]
    unfold rd__law_done_5
    walk_at "dl"
    simp only [mergeS]
    intro p2 hp2
    simp only [deref_rfK ups_same, ups_same, vs_add]
    have kn2 := fun o => kn.ups (o := o) hp2
    unfold rd__law_done_4
    walk_at "dl"
    refine done_3 (kn2 _) hl fun S2 ws2 kn3 l3 m3 n3 g3 => ?_
    unfold rd__law_done_2
    walk_at "dl"
    simp only [mergeS]
    intro p3 hp3
    simp only [deref_rfK ups_same, ups_same, vs_add]
    exact fin _ S2 ws2 _ _ _ (kn3.ups hp3) l3 m3 n3 g3 rfl
  | swap key a b =>
    unfold Dd.enc at fin ⊢
    unfold rd__law_done_7
    walk_at "dl"
    unfold rd__law_done_6
    walk_at "dl"
    simp only [kn.kn, val_ws]
    unfold rd__law_done_5
    walk_at "dl"
    simp only [mergeS]
    intro p2 hp2
    simp only [deref_rfK ups_same, ups_same, vs_swap]
    have kn2 := fun o => kn.ups (o := o) hp2
    unfold rd__law_done_4
    walk_at "dl"
    split
    · rename_i e
      have e' : ¬ getW k.ws key = a := by simpa using e
      refine done_3 (kn2 _) hl fun S2 ws2 kn3 l3 m3 n3 g3 => ?_
      unfold rd__law_done_2
      walk_at "dl"
      simp only [mergeS]
      intro p3 hp3
      simp only [deref_rfK ups_same, ups_same, vs_swap]
      refine fin _ S2 ws2 _ _ _ (kn3.ups hp3) l3 m3 n3 (fun i => (g3 i).trans ?_) rfl
      simp only [Dd.new, Dd.key, e', ↓reduceIte]
    · rename_i e
      have e' : getW k.ws key = a := by simpa using e
      refine done_3 (kn2 _) hl fun S2 ws2 kn3 l3 m3 n3 g3 => ?_
      unfold rd__law_done_2
      walk_at "dl"
      simp only [mergeS]
      intro p3 hp3
      simp only [deref_rfK ups_same, ups_same, vs_swap]
      refine fin _ S2 ws2 _ _ _ (kn3.ups hp3) l3 m3 n3 (fun i => (g3 i).trans ?_) rfl
      simp only [Dd.new, Dd.key, e', ↓reduceIte]
end Dl

set_option Elab.async false
set_option linter.all false
set_option maxRecDepth 100000
namespace Dl
open PySem PySem.Spec PyProof.Rows L2 LamX
local macro_rules | `(tactic| walk_at "dl") => `(tactic| simp (config := { maxSteps := 1000000 }) only [dSeq, dIfS, dRet, dRetN, dSet, dNext, dDrop, dVar, dC, d2, dTest, dAnd, dOr, dNot, dAndV, dOrV, dNotV, dIf, dChain, dChain3, dCall, dCons, dNil, dTup, dLst, dLstR, dAsg, Tg.d, sets, dFor, dYes, dNever, dBrk, dCnt,
  dSortKey, dLc, dLcR, dComp, wipeD, itemsI, rangeI1, enumI, dCB, rLenD, rIntD, rAbsD, rM2D, rTupD, rTupPD, rAllD, dIsi, tyD, rIxD, rItem, dSl, dPart, dNoPart, rSlD, rII, rAddD, rMulD, rMulDR, rEqG, rIsN, rInD, dNeg, dGet2, rAddXD, rListD, rListRD, dPar, dNewK, dNewT, dAsgNS, dMemo0, itR, dForR, dLcX, dLcXR, dCompR, dTupRg, dLstRg, dLstRgR, dInRg, dMemoSet, dDisp, dPairs, keyPairs, keyOf, dML, dSetIx,
  atI0, atI1, atI2, atI3, atI4, atI5, atIm2, atIm3, atIm4, deref_non, deref_bl, deref_int, deref_str, deref_tp, deref_ptp, deref_lst, items_tup, items_ptp, items_lst, dq_ii, dq_bb, dq_ss, dq_tt, dq_tp, dq_pt, dq_pp, dq_ll, dq_n0, dq_nc, dq_cn, dq_cc, ok_non, ok_bl, ok_int, ok_str, ok_tp, ok_pp, ok_ls, ok_n0, ok_cc, flat, List.all_cons, List.all_nil, List.any_cons, List.any_nil,
  startD, List.map_cons, List.map_nil, List.length_cons, List.length_nil, List.replicate_succ, List.replicate_zero, List.cons_append, List.nil_append, List.set_cons_zero, List.set_cons_succ, List.getElem?_cons_zero, List.getElem?_cons_succ, Nat.reduceAdd, Nat.reduceSub, Nat.reduceLeDiff, Nat.reduceMul,
  Bool.and_true, Bool.true_and, Bool.and_false, Bool.false_and, Bool.or_true, Bool.true_or, Bool.or_false, Bool.false_or, Bool.not_true, Bool.not_false, decide_eq_true_eq, ↓reduceIte, true_and, and_true, Bool.false_eq_true, Bool.not_eq_true', Bool.not_not, beq_self_eq_true, and_self, ne_eq, reduceCtorEq, not_false_eq_true, not_true_eq_false, Int.reduceBEq, beq_iff_eq, beq_eq_false_iff_ne, decide_eq_false_iff_not, Int.reduceLT, Int.reduceLE, Int.reduceNeg, Int.reduceAdd, Int.reduceEq, Int.reduceToNat,  kb_NoneType_bool, kb_NoneType_int, kb_NoneType_str, kb_NoneType_tuple, kb_NoneType_list, kb_bool_bool, kb_bool_int, kb_bool_str, kb_bool_tuple, kb_bool_list, kb_int_bool, kb_int_int, kb_int_str, kb_int_tuple, kb_int_list, kb_str_bool, kb_str_int, kb_str_str, kb_str_tuple, kb_str_list, kb_tuple_bool, kb_tuple_int, kb_tuple_str, kb_tuple_tuple, kb_tuple_list, kb_list_bool, kb_list_int, kb_list_str, kb_list_tuple, kb_list_list, sq_k_e, sq_kw_e, sq_kww_e, sk_k, sk_kw, sk_kww, sl_k, sl_kw, sl_kww, sk_e, cut_2_2_None, ncut_2_2_None, cut_2_None_1, ncut_2_None_1, cut_3_2_None, ncut_3_2_None, cut_3_None_1, ncut_3_None_1, cut_3_3_None, ncut_3_3_None, cut_4_2_None, ncut_4_2_None, cut_4_None_1, ncut_4_None_1, cut_4_None_3, ncut_4_None_3, cut_4_3_None, ncut_4_3_None, cut_5_2_None, ncut_5_2_None, cut_5_None_1, ncut_5_None_1, cut_5_None_3, ncut_5_None_3, cut_5_3_None, ncut_5_3_None, cut_6_2_None, ncut_6_2_None, cut_6_None_1, ncut_6_None_1, cut_6_None_3, ncut_6_None_3, cut_6_None_5, ncut_6_None_5, cut_6_3_None, ncut_6_3_None, sq_get_put, sq_get_add, sq_get_swap, sq_get_look, sq_get_split, sq_get_join, sq_put_get, sq_put_add, sq_put_swap, sq_put_look, sq_put_split, sq_put_join, sq_add_get, sq_add_put, sq_add_swap, sq_add_look, sq_add_split, sq_add_join, sq_swap_get, sq_swap_put, sq_swap_add, sq_swap_look, sq_swap_split, sq_swap_join, sq_look_get, sq_look_put, sq_look_add, sq_look_swap, sq_look_split, sq_look_join, sq_split_get, sq_split_put, sq_split_add, sq_split_swap, sq_split_look, sq_split_join, sq_join_get, sq_join_put, sq_join_add, sq_join_swap, sq_join_look, sq_join_split, ls0, ls1, ls2, ls3, ls4, ls5, ls6, ls7, ls8, ls9, ls10, nc0, nc1, nc2, nc3, nc4, nc5, nc6, nc7, nc8, nc9, nc10, sk_get, sk_put, sk_add, sk_swap, sk_look, sk_split, sk_join])


/-! ### what is alike, general -/
theorem KOk.mono {k : Kp} {n m : Nat} (h : KOk k n) (l : n ≤ m) : KOk k m := ⟨h.ws, h.as, Nat.le_trans h.wl l, Nat.le_trans h.al l, h.wp, h.an⟩
theorem ans_is (dd : Dd) (w : Int) : isAns (dd.ans w) := by cases dd <;> trivial
theorem Nxt.ok {k k' : Kp} {n : Nat} {asker number : Int} {dd : Dd} (h : Nxt k asker number dd k') (hk : KOk k n) : KOk k' (n + 1) := by
  have w1 := hk.wl
  have a1 := hk.al
  have w2 := h.wl
  have a2 := h.al
  refine ⟨h.ws, h.as, by omega, by omega, fun p hp => ?_, fun a ha => ?_⟩
  · rcases (h.wm p).mp hp with ⟨q, _⟩ | ⟨q, rfl⟩
    · exact hk.wp p q
    · exact q
  · rcases (h.am a).mp ha with ⟨q, _⟩ | rfl
    · exact hk.an a q
    · exact ans_is _ _
theorem Nxt.uniq {k k1 k2 : Kp} {asker number : Int} {dd : Dd} (h1 : Nxt k asker number dd k1) (h2 : Nxt k asker number dd k2) : k1 = k2 := by
  have ew : k1.ws = k2.ws := sorted_ext ltW (fun a h => by unfold ltW at h; omega) (fun a b c h h' => by unfold ltW at *; omega) h1.ws h2.ws fun p => (h1.wm p).trans (h2.wm p).symm
  have ea : k1.as = k2.as := sorted_ext ltA (fun a h => by unfold ltA at h; omega) (fun a b c h h' => by unfold ltA at *; omega) h1.as h2.as fun p => (h1.am p).trans (h2.am p).symm
  have e1 := h1.low.trans h2.low.symm
  have e2 := h1.high.trans h2.high.symm
  have e3 := h1.gen.trans h2.gen.symm
  have e4 := h1.ch.trans h2.ch.symm
  cases k1
  cases k2
  simp only at e1 e2 e3 e4 ew ea
  subst e1 e2 e3 e4 ew ea
  rfl
abbrev sp__law_alike : DSp := sp_alike 4
theorem atom_int (i : Int) : Atom (.int i) (.int i) := ⟨rfl, .inl trivial⟩
theorem atom_ans {d : D} (h : isAns d) : Atom d d := ⟨rfl, .inl h⟩
theorem same_atom : ∀ {n : Nat} {x y : D}, Atom x y → Same n x y
  | 0, _, _, h => h
  | _ + 1, _, _, h => .inl h
theorem paired_refl {α : Type} {P : α → α → Prop} : ∀ {l : List α}, (∀ x ∈ l, P x x) → Paired P l l
  | [], _ => .nil
  | a :: r, h => .cons (h a List.mem_cons_self) (paired_refl fun x hx => h x (List.mem_cons_of_mem _ hx))
theorem same_tup {n : Nat} {as : List D} (hl : as.length ≤ 1000) (h : ∀ x ∈ as, Same n x x) : Same (n + 1) (.tup as) (.tup as) := .inr ⟨as, as, .inl ⟨.inl rfl, .inl rfl⟩, hl, paired_refl h⟩
theorem same_ptp {n : Nat} {as : List D} (hl : as.length ≤ 1000) (h : ∀ x ∈ as, Same n x x) : Same (n + 1) (.ptp as) (.ptp as) := .inr ⟨as, as, .inl ⟨.inr rfl, .inr rfl⟩, hl, paired_refl h⟩
theorem same_kept {k : Kp} {n : Nat} (hk : KOk k n) (hn : n ≤ 900) : Same 3 k.enc k.enc := by
  have w1 := hk.wl
  have a1 := hk.al
  refine same_tup (by simp) fun x hx => ?_
  simp only [List.mem_cons, List.not_mem_nil, or_false] at hx
  rcases hx with rfl | rfl | rfl | rfl | rfl | rfl
  · exact same_atom (atom_int _)
  · exact same_atom (atom_int _)
  · exact same_atom (atom_int _)
  · exact same_atom (atom_int _)
  · refine same_ptp (by rw [List.length_map]; omega) fun x hx => ?_
    obtain ⟨p, _, rfl⟩ := List.mem_map.mp hx
    refine same_tup (by simp) fun x hx => ?_
    simp only [List.mem_cons, List.not_mem_nil, or_false] at hx
    rcases hx with rfl | rfl <;> exact same_atom (atom_int _)
  · refine same_tup (by rw [List.length_map]; omega) fun x hx => ?_
    obtain ⟨p, hp, rfl⟩ := List.mem_map.mp hx
    refine same_tup (by simp) fun x hx => ?_
    simp only [List.mem_cons, List.not_mem_nil, or_false] at hx
    rcases hx with rfl | rfl | rfl
    · exact same_atom (atom_int _)
    · exact same_atom (atom_int _)
    · exact same_atom (atom_ans (hk.an p hp))
theorem same_due {k : Kp} {n : Nat} {d : D} (hk : KOk k n) (hn : n ≤ 900) (hd : isAns d) : Same 4 (.tup [d, k.enc]) (.tup [d, k.enc]) := by
  refine same_tup (by simp) fun x hx => ?_
  simp only [List.mem_cons, List.not_mem_nil, or_false] at hx
  rcases hx with rfl | rfl
  · exact same_atom (atom_ans hd)
  · exact same_kept hk hn
end Dl

set_option Elab.async false
set_option linter.all false
set_option maxRecDepth 100000
namespace Dl.D4
open PySem PySem.Spec PyProof.Rows L2 LamX Dl
local macro_rules | `(tactic| walk_at "dl") => `(tactic| simp (config := { maxSteps := 1000000 }) only [dSeq, dIfS, dRet, dRetN, dSet, dNext, dDrop, dVar, dC, d2, dTest, dAnd, dOr, dNot, dAndV, dOrV, dNotV, dIf, dChain, dChain3, dCall, dCons, dNil, dTup, dLst, dLstR, dAsg, Tg.d, sets, dFor, dYes, dNever, dBrk, dCnt,
  dSortKey, dLc, dLcR, dComp, wipeD, itemsI, rangeI1, enumI, dCB, rLenD, rIntD, rAbsD, rM2D, rTupD, rTupPD, rAllD, dIsi, tyD, rIxD, rItem, dSl, dPart, dNoPart, rSlD, rII, rAddD, rMulD, rMulDR, rEqG, rIsN, rInD, dNeg, dGet2, rAddXD, rListD, rListRD, dPar, dNewK, dNewT, dAsgNS, dMemo0, itR, dForR, dLcX, dLcXR, dCompR, dTupRg, dLstRg, dLstRgR, dInRg, dMemoSet, dDisp, dPairs, keyPairs, keyOf, dML, dSetIx,
  atI0, atI1, atI2, atI3, atI4, atI5, atIm2, atIm3, atIm4, deref_non, deref_bl, deref_int, deref_str, deref_tp, deref_ptp, deref_lst, items_tup, items_ptp, items_lst, dq_ii, dq_bb, dq_ss, dq_tt, dq_tp, dq_pt, dq_pp, dq_ll, dq_n0, dq_nc, dq_cn, dq_cc, ok_non, ok_bl, ok_int, ok_str, ok_tp, ok_pp, ok_ls, ok_n0, ok_cc, flat, List.all_cons, List.all_nil, List.any_cons, List.any_nil,
  startD, List.map_cons, List.map_nil, List.length_cons, List.length_nil, List.replicate_succ, List.replicate_zero, List.cons_append, List.nil_append, List.set_cons_zero, List.set_cons_succ, List.getElem?_cons_zero, List.getElem?_cons_succ, Nat.reduceAdd, Nat.reduceSub, Nat.reduceLeDiff, Nat.reduceMul,
  Bool.and_true, Bool.true_and, Bool.and_false, Bool.false_and, Bool.or_true, Bool.true_or, Bool.or_false, Bool.false_or, Bool.not_true, Bool.not_false, decide_eq_true_eq, ↓reduceIte, true_and, and_true, Bool.false_eq_true, Bool.not_eq_true', Bool.not_not, beq_self_eq_true, and_self, ne_eq, reduceCtorEq, not_false_eq_true, not_true_eq_false, Int.reduceBEq, beq_iff_eq, beq_eq_false_iff_ne, decide_eq_false_iff_not, Int.reduceLT, Int.reduceLE, Int.reduceNeg, Int.reduceAdd, Int.reduceEq, Int.reduceToNat,  kb_NoneType_bool, kb_NoneType_int, kb_NoneType_str, kb_NoneType_tuple, kb_NoneType_list, kb_bool_bool, kb_bool_int, kb_bool_str, kb_bool_tuple, kb_bool_list, kb_int_bool, kb_int_int, kb_int_str, kb_int_tuple, kb_int_list, kb_str_bool, kb_str_int, kb_str_str, kb_str_tuple, kb_str_list, kb_tuple_bool, kb_tuple_int, kb_tuple_str, kb_tuple_tuple, kb_tuple_list, kb_list_bool, kb_list_int, kb_list_str, kb_list_tuple, kb_list_list, sq_k_e, sq_kw_e, sq_kww_e, sk_k, sk_kw, sk_kww, sl_k, sl_kw, sl_kww, sk_e, cut_2_2_None, ncut_2_2_None, cut_2_None_1, ncut_2_None_1, cut_3_2_None, ncut_3_2_None, cut_3_None_1, ncut_3_None_1, cut_3_3_None, ncut_3_3_None, cut_4_2_None, ncut_4_2_None, cut_4_None_1, ncut_4_None_1, cut_4_None_3, ncut_4_None_3, cut_4_3_None, ncut_4_3_None, cut_5_2_None, ncut_5_2_None, cut_5_None_1, ncut_5_None_1, cut_5_None_3, ncut_5_None_3, cut_5_3_None, ncut_5_3_None, cut_6_2_None, ncut_6_2_None, cut_6_None_1, ncut_6_None_1, cut_6_None_3, ncut_6_None_3, cut_6_None_5, ncut_6_None_5, cut_6_3_None, ncut_6_3_None, sq_get_put, sq_get_add, sq_get_swap, sq_get_look, sq_get_split, sq_get_join, sq_put_get, sq_put_add, sq_put_swap, sq_put_look, sq_put_split, sq_put_join, sq_add_get, sq_add_put, sq_add_swap, sq_add_look, sq_add_split, sq_add_join, sq_swap_get, sq_swap_put, sq_swap_add, sq_swap_look, sq_swap_split, sq_swap_join, sq_look_get, sq_look_put, sq_look_add, sq_look_swap, sq_look_split, sq_look_join, sq_split_get, sq_split_put, sq_split_add, sq_split_swap, sq_split_look, sq_split_join, sq_join_get, sq_join_put, sq_join_add, sq_join_swap, sq_join_look, sq_join_split, ls0, ls1, ls2, ls3, ls4, ls5, ls6, ls7, ls8, ls9, ls10, nc0, nc1, nc2, nc3, nc4, nc5, nc6, nc7, nc8, nc9, nc10, sk_get, sk_put, sk_add, sk_swap, sk_look, sk_split, sk_join])


/-! ### histories, plain -/
inductive Dq where
  | pl (d : Dd) | look (ks : List Int)
inductive An where
  | int (i : Int) | bl (b : Bool) | look (l : List Int)
  deriving DecidableEq
abbrev Ws := List (Int × Int)
def Dq.enc : Dq → D
  | .pl d => d.enc
  | .look ks => .tup [.str "look", .tup (ks.map D.int)]
def Dq.ok : Dq → Prop
  | .pl d => d.ok
  | .look ks => 1 ≤ ks.length ∧ ks.length ≤ 6 ∧ ks.Pairwise (· < ·) ∧ ∀ k ∈ ks, isW 100 k
def An.enc : An → D
  | .int i => .int i
  | .bl b => .bl b
  | .look l => .tup (l.map D.int)
def ansD : Dd → Int → An
  | .get _, w => .int w
  | .put _ _, w => .int w
  | .add _ a, w => .int ((w + a) % 1000)
  | .swap _ a _, w => .bl (w == a)
theorem ansD_enc (d : Dd) (w : Int) : (ansD d w).enc = d.ans w := by cases d <;> rfl
def Dq.ans : Dq → Ws → An
  | .pl d, ws => ansD d (getW ws d.key)
  | .look ks, ws => .look (ks.map (getW ws))
/-- a worth is put -/
def putW (ws : Ws) (key w : Int) : Ws := (ws.filter fun p => decide (p.1 < key)) ++ ((if 0 < w then [(key, w)] else []) ++ ws.filter fun p => decide (key < p.1))
def Dq.next : Dq → Ws → Ws
  | .pl d, ws => putW ws d.key (d.new (getW ws d.key))
  | .look _, ws => ws
theorem putW_mem (ws : Ws) (key w : Int) (p : Int × Int) : p ∈ putW ws key w ↔ (p ∈ ws ∧ p.1 ≠ key) ∨ (0 < w ∧ p = (key, w)) := by
  unfold putW
  simp only [List.mem_append, List.mem_filter, decide_eq_true_eq]
  constructor
  · rintro (⟨m, h⟩ | h | ⟨m, h⟩)
    · exact .inl ⟨m, by omega⟩
    · split at h
      · rename_i c
        exact .inr ⟨c, by simpa using h⟩
      · cases h
    · exact .inl ⟨m, by omega⟩
  · rintro (⟨m, h⟩ | ⟨c, rfl⟩)
    · by_cases e : p.1 < key
      · exact .inl ⟨m, e⟩
      · exact .inr (.inr ⟨m, by omega⟩)
    · rw [if_pos c]; simp
theorem putW_sorted {ws : Ws} (h : ws.Pairwise ltW) (key w : Int) : (putW ws key w).Pairwise ltW := by
  unfold putW
  refine List.pairwise_append.mpr ⟨h.filter _, List.pairwise_append.mpr ⟨?_, h.filter _, fun a ha b hb => ?_⟩, fun a ha b hb => ?_⟩
  · split
    · exact List.pairwise_singleton _ _
    · exact .nil
  · split at ha
    · have e : a = (key, w) := by simpa using ha
      have := (List.mem_filter.mp hb).2
      simp only [decide_eq_true_eq] at this
      unfold ltW
      rw [e]; exact this
    · cases ha
  · have h1 := (List.mem_filter.mp ha).2
    simp only [decide_eq_true_eq] at h1
    rcases List.mem_append.mp hb with hb | hb
    · split at hb
      · have e : b = (key, w) := by simpa using hb
        unfold ltW
        rw [e]; exact h1
      · cases hb
    · have h2 := (List.mem_filter.mp hb).2
      simp only [decide_eq_true_eq] at h2
      unfold ltW; omega
theorem filters_len (ws : Ws) (key : Int) : (ws.filter fun p => decide (p.1 < key)).length + (ws.filter fun p => decide (key < p.1)).length ≤ ws.length := by
  induction ws with
  | nil => simp
  | cons p r ih =>
    by_cases h1 : p.1 < key
    · have h2 : ¬ key < p.1 := by omega
      simp [List.filter_cons, h1, h2]; omega
    · by_cases h2 : key < p.1
      · simp [List.filter_cons, h1, h2]; omega
      · simp [List.filter_cons, h1, h2]; omega
theorem putW_len (ws : Ws) (key w : Int) : (putW ws key w).length ≤ ws.length + 1 := by
  unfold putW
  have := filters_len ws key
  rw [List.length_append, List.length_append]
  split <;> simp <;> omega
theorem ws_ext {l m : Ws} (hl : l.Pairwise ltW) (hm : m.Pairwise ltW) (h : ∀ p, p ∈ l ↔ p ∈ m) : l = m :=
  sorted_ext ltW (fun a h => by unfold ltW at h; omega) (fun a b c h h' => by unfold ltW at *; omega) hl hm h
structure WsOk (ws : Ws) : Prop where
  so : ws.Pairwise ltW
  pos : ∀ p ∈ ws, 0 < p.2
theorem WsOk.next {ws : Ws} (h : WsOk ws) (d : Dq) : WsOk (d.next ws) := by
  cases d with
  | look ks => exact h
  | pl d =>
    refine ⟨putW_sorted h.so _ _, fun p hp => ?_⟩
    rcases (putW_mem _ _ _ _).mp hp with ⟨m, _⟩ | ⟨m, rfl⟩
    · exact h.pos p m
    · exact m
theorem next_len (ws : Ws) (d : Dq) : (d.next ws).length ≤ ws.length + 1 := by
  cases d with
  | look ks => exact Nat.le_succ _
  | pl d => exact putW_len _ _ _
structure Row where
  asker : Int
  deed : Dq
  beg : Int
  fin : Option (Int × An)
def Row.endD (r : Row) : D := match r.fin with | some p => .int p.1 | none => .non
def Row.ansD (r : Row) : D := match r.fin with | some p => p.2.enc | none => .non
def Row.enc (r : Row) : D := .tup [.int r.asker, r.deed.enc, .int r.beg, r.endD, r.ansD]
/-- the ends of the rows that are left -/
def endOf (H : List Row) (m : Nat) : Option Int := (H[m]?.bind (·.fin)).map (·.1)
def endsOf (H : List Row) (left : List Nat) : List Int := left.filterMap (endOf H)
def begOf (H : List Row) (n : Nat) : Int := (H[n]?.map (·.beg)).getD 0
/-- no other row that is left ends ahead of its begin -/
def mayB (H : List Row) (left : List Nat) (n : Nat) : Bool := (endsOf H left).all fun e => decide (begOf H n ≤ e)
def fitsRow (r : Row) (ws : Ws) : Prop := ∀ p, r.fin = some p → p.2 = r.deed.ans ws
/-- an order that explains what is left -/
inductive Fit (H : List Row) : List Nat → Ws → List Nat → Prop
  | nil {left : List Nat} {ws : Ws} : endsOf H left = [] → Fit H left ws []
  | cons {left : List Nat} {ws : Ws} {n : Nat} {r : Row} {o : List Nat} : endsOf H left ≠ [] → n ∈ left → H[n]? = some r → mayB H left n = true → fitsRow r ws → Fit H (left.filter (· != n)) (r.deed.next ws) o → Fit H left ws (n :: o)
def NoFit (H : List Row) (left : List Nat) (ws : Ws) : Prop := ∀ o, ¬ Fit H left ws o
def ktN (l : List Nat) : Kt := .tup (l.map fun (n : Nat) => Kt.int (n : Int))
def ktW (ws : Ws) : Kt := .tup (ws.map fun p => .tup [.int p.1, .int p.2])
def ktS (left : List Nat) (ws : Ws) : Kt := .tup [ktN left, ktW ws]
theorem ktN_inj {a b : List Nat} (h : ktN a = ktN b) : a = b := by
  unfold ktN at h
  injection h with h
  induction a generalizing b with
  | nil => cases b with | nil => rfl | cons _ _ => cases h
  | cons x a ih =>
    cases b with
    | nil => cases h
    | cons y b =>
      rw [List.map_cons, List.map_cons] at h
      injection h with h1 h2
      injection h1 with h1
      rw [ih h2, Int.ofNat_inj.mp h1]
theorem ktW_inj {a b : Ws} (h : ktW a = ktW b) : a = b := by
  unfold ktW at h
  injection h with h
  induction a generalizing b with
  | nil => cases b with | nil => rfl | cons _ _ => cases h
  | cons x a ih =>
    cases b with
    | nil => cases h
    | cons y b =>
      rw [List.map_cons, List.map_cons] at h
      injection h with h1 h2
      injection h1 with h1
      injection h1 with h3 h4
      injection h4 with h4 h5
      injection h3 with h3
      injection h4 with h4
      rw [ih h2, Prod.ext h3 h4]
theorem ktS_inj {a b : List Nat} {v w : Ws} (h : ktS a v = ktS b w) : a = b ∧ v = w := by
  unfold ktS at h
  injection h with h
  injection h with h1 h2
  injection h2 with h2 _
  exact ⟨ktN_inj h1, ktW_inj h2⟩
theorem kt_nat (l : List Nat) : ktOf (.tup (l.map fun (n : Nat) => D.int (n : Int))) = some (ktN l) := by
  have e : ktsOf (l.map fun (n : Nat) => D.int (n : Int)) = some (l.map fun (n : Nat) => Kt.int (n : Int)) := by
    induction l with
    | nil => rfl
    | cons x l ih => rw [List.map_cons, ktsOf, ih]; simp only [ktOf]; rfl
  simp only [ktOf, e]; rfl
theorem kt_ws (ws : Ws) : ktOf (.ptp (ws.map encP)) = some (ktW ws) := by
  have e : ktsOf (ws.map encP) = some (ws.map fun p => Kt.tup [.int p.1, .int p.2]) := by
    induction ws with
    | nil => rfl
    | cons x l ih => rw [List.map_cons, ktsOf, ih]; simp only [encP, ktOf, ktsOf, Option.map_some]; rfl
  simp only [ktOf, e]; rfl
theorem kt_state (l : List Nat) (ws : Ws) : ktOf (.tup [.tup (l.map fun (n : Nat) => D.int (n : Int)), .ptp (ws.map encP)]) = some (ktS l ws) := by
  have e : ktsOf [.tup (l.map fun (n : Nat) => D.int (n : Int)), .ptp (ws.map encP)] = some [ktN l, ktW ws] := by
    simp only [ktsOf, kt_nat, kt_ws]
  rw [ktOf, e]; rfl
theorem dp_nat : ∀ l : List Nat, dpKs (l.map fun (n : Nat) => Kt.int (n : Int)) = 0
  | [] => rfl
  | x :: l => by rw [List.map_cons, dpKs, dp_nat l]; rfl
theorem dp_ws : ∀ ws : Ws, dpKs (ws.map fun p => Kt.tup [.int p.1, .int p.2]) ≤ 1
  | [] => by simp [dpKs]
  | x :: l => by
    rw [List.map_cons, dpKs]
    have := dp_ws l
    simp only [dpK, dpKs]
    omega
theorem dp_state (l : List Nat) (ws : Ws) : 1 ≤ dpK (ktS l ws) ∧ dpK (ktS l ws) ≤ 5 := by
  have h1 := dp_nat l
  have h2 := dp_ws ws
  unfold ktS ktN ktW
  simp only [dpK, dpKs, h1]
  omega
def DeadOk (H : List Row) (ks : List Kt) : Prop := ∀ left ws, ktS left ws ∈ ks → NoFit H left ws
/-- how many ways there are at most -/
def cnt (H : List Row) : Nat → List Nat → Nat
  | 0, _ => 1
  | n + 1, left => 1 + ((left.filter (mayB H left)).map fun m => cnt H n (left.filter (· != m))).sum
end Dl.D4

set_option Elab.async false
set_option linter.all false
set_option maxRecDepth 100000
namespace Dl.D4
open PySem PySem.Spec PyProof.Rows L2 LamX Dl
local macro_rules | `(tactic| walk_at "dl") => `(tactic| simp (config := { maxSteps := 1000000 }) only [dSeq, dIfS, dRet, dRetN, dSet, dNext, dDrop, dVar, dC, d2, dTest, dAnd, dOr, dNot, dAndV, dOrV, dNotV, dIf, dChain, dChain3, dCall, dCons, dNil, dTup, dLst, dLstR, dAsg, Tg.d, sets, dFor, dYes, dNever, dBrk, dCnt,
  dSortKey, dLc, dLcR, dComp, wipeD, itemsI, rangeI1, enumI, dCB, rLenD, rIntD, rAbsD, rM2D, rTupD, rTupPD, rAllD, dIsi, tyD, rIxD, rItem, dSl, dPart, dNoPart, rSlD, rII, rAddD, rMulD, rMulDR, rEqG, rIsN, rInD, dNeg, dGet2, rAddXD, rListD, rListRD, dPar, dNewK, dNewT, dAsgNS, dMemo0, itR, dForR, dLcX, dLcXR, dCompR, dTupRg, dLstRg, dLstRgR, dInRg, dMemoSet, dDisp, dPairs, keyPairs, keyOf, dML, dSetIx,
  atI0, atI1, atI2, atI3, atI4, atI5, atIm2, atIm3, atIm4, deref_non, deref_bl, deref_int, deref_str, deref_tp, deref_ptp, deref_lst, items_tup, items_ptp, items_lst, dq_ii, dq_bb, dq_ss, dq_tt, dq_tp, dq_pt, dq_pp, dq_ll, dq_n0, dq_nc, dq_cn, dq_cc, ok_non, ok_bl, ok_int, ok_str, ok_tp, ok_pp, ok_ls, ok_n0, ok_cc, flat, List.all_cons, List.all_nil, List.any_cons, List.any_nil,
  startD, List.map_cons, List.map_nil, List.length_cons, List.length_nil, List.replicate_succ, List.replicate_zero, List.cons_append, List.nil_append, List.set_cons_zero, List.set_cons_succ, List.getElem?_cons_zero, List.getElem?_cons_succ, Nat.reduceAdd, Nat.reduceSub, Nat.reduceLeDiff, Nat.reduceMul,
  Bool.and_true, Bool.true_and, Bool.and_false, Bool.false_and, Bool.or_true, Bool.true_or, Bool.or_false, Bool.false_or, Bool.not_true, Bool.not_false, decide_eq_true_eq, ↓reduceIte, true_and, and_true, Bool.false_eq_true, Bool.not_eq_true', Bool.not_not, beq_self_eq_true, and_self, ne_eq, reduceCtorEq, not_false_eq_true, not_true_eq_false, Int.reduceBEq, beq_iff_eq, beq_eq_false_iff_ne, decide_eq_false_iff_not, Int.reduceLT, Int.reduceLE, Int.reduceNeg, Int.reduceAdd, Int.reduceEq, Int.reduceToNat,  kb_NoneType_bool, kb_NoneType_int, kb_NoneType_str, kb_NoneType_tuple, kb_NoneType_list, kb_bool_bool, kb_bool_int, kb_bool_str, kb_bool_tuple, kb_bool_list, kb_int_bool, kb_int_int, kb_int_str, kb_int_tuple, kb_int_list, kb_str_bool, kb_str_int, kb_str_str, kb_str_tuple, kb_str_list, kb_tuple_bool, kb_tuple_int, kb_tuple_str, kb_tuple_tuple, kb_tuple_list, kb_list_bool, kb_list_int, kb_list_str, kb_list_tuple, kb_list_list, sq_k_e, sq_kw_e, sq_kww_e, sk_k, sk_kw, sk_kww, sl_k, sl_kw, sl_kww, sk_e, cut_2_2_None, ncut_2_2_None, cut_2_None_1, ncut_2_None_1, cut_3_2_None, ncut_3_2_None, cut_3_None_1, ncut_3_None_1, cut_3_3_None, ncut_3_3_None, cut_4_2_None, ncut_4_2_None, cut_4_None_1, ncut_4_None_1, cut_4_None_3, ncut_4_None_3, cut_4_3_None, ncut_4_3_None, cut_5_2_None, ncut_5_2_None, cut_5_None_1, ncut_5_None_1, cut_5_None_3, ncut_5_None_3, cut_5_3_None, ncut_5_3_None, cut_6_2_None, ncut_6_2_None, cut_6_None_1, ncut_6_None_1, cut_6_None_3, ncut_6_None_3, cut_6_None_5, ncut_6_None_5, cut_6_3_None, ncut_6_3_None, sq_get_put, sq_get_add, sq_get_swap, sq_get_look, sq_get_split, sq_get_join, sq_put_get, sq_put_add, sq_put_swap, sq_put_look, sq_put_split, sq_put_join, sq_add_get, sq_add_put, sq_add_swap, sq_add_look, sq_add_split, sq_add_join, sq_swap_get, sq_swap_put, sq_swap_add, sq_swap_look, sq_swap_split, sq_swap_join, sq_look_get, sq_look_put, sq_look_add, sq_look_swap, sq_look_split, sq_look_join, sq_split_get, sq_split_put, sq_split_add, sq_split_swap, sq_split_look, sq_split_join, sq_join_get, sq_join_put, sq_join_add, sq_join_swap, sq_join_look, sq_join_split, ls0, ls1, ls2, ls3, ls4, ls5, ls6, ls7, ls8, ls9, ls10, nc0, nc1, nc2, nc3, nc4, nc5, nc6, nc7, nc8, nc9, nc10, sk_get, sk_put, sk_add, sk_swap, sk_look, sk_split, sk_join])


/-! ### deeds, looks too -/
/-- deeds, and what may be none -/
inductive Dx where
  | q (d : Dq) | get (k : Int) | cut (s : Bool) (k : Int) | none
def Dx.enc : Dx → D
  | .q d => d.enc
  | .get k => .tup [.str "get", .int k]
  | .cut true k => .tup [.str "split", .int k]
  | .cut false k => .tup [.str "join", .int k]
  | .none => .ptp []
def Dx.pre : Dx → Prop
  | .q d => d.ok
  | _ => True
def Dx.good : Dx → Bool
  | .q _ => true
  | .get k => decide (0 ≤ k ∧ k < 100)
  | .cut _ k => decide (0 < k ∧ k < 100)
  | .none => false
def sp_is_deed : DSp := fun ds S R => ∃ x : Dx, ds = [x.enc] ∧ x.pre ∧ R (.bl x.good) S
def rd_is_deed_1 : DS :=
 (dRet (d2 (rEqG false) (dCB rListD (dCons (d2 rIxD (dVar 0) (dC (.int 1))) dNil)) (dSortSet (d2 rIxD (dVar 0) (dC (.int 1))))))
def rd_is_deed_2 : DS :=
 (dSeq (dIfS (dTest (d2 (rEqG true) (dLc (itemsI (d2 rIxD (dVar 0) (dC (.int 1)))) (.nm 1) (dNot (dTest (dCall sp_is_below (dCons (dVar 1) (dCons (dC (.int 100)) dNil))))) (dVar 1) [1]) (dLst dNil)))
 (dRet (dC (.bl false)))
 dNext)
 rd_is_deed_1)
def rd_is_deed_3 : DS :=
 (dRet (d2 (rEqG false) (dLc (itemsI (dSl (dVar 0) (dPart (dC (.int 2))) dNoPart)) (.nm 3) (dNot (dTest (dCall sp_is_below (dCons (dVar 3) (dCons (dC (.int 1000)) dNil))))) (dVar 3) [3]) (dLst dNil)))
def rd_is_deed_4 : DS :=
 (dSeq (dIfS (dAnd (dTest (d2 (rInD false) (d2 rIxD (dVar 0) (dC (.int 0))) (dTup (dCons (dC (.str "split")) (dCons (dC (.str "join")) dNil))))) (dTest (d2 (rEqG false) (d2 rIxD (dVar 0) (dC (.int 1))) (dC (.int 0)))))
 (dRet (dC (.bl false)))
 dNext)
 rd_is_deed_3)
def rd_is_deed_5 : DS :=
 (dSeq (dIfS (dOr (dTest (d2 (rEqG false) (dVar 2) (dC (.str "")))) (dOr (dTest (d2 (rEqG true) (dCB rLenD (dCons (dVar 0) dNil)) (d2 rAddD (dCB rLenD (dCons (dVar 2) dNil)) (dC (.int 1))))) (dNot (dTest (dCall sp_is_below (dCons (d2 rIxD (dVar 0) (dC (.int 1))) (dCons (dC (.int 100)) dNil)))))))
 (dRet (dC (.bl false)))
 dNext)
 rd_is_deed_4)
def rd_is_deed_6 : DS :=
 (dSeq (dSet 2 (dKGet tb_SHAPES (d2 rIxD (dVar 0) (dC (.int 0))) (dC (.str ""))))
 rd_is_deed_5)
def rd_is_deed_7 : DS :=
 (dSeq (dIfS (dTest (d2 (rEqG false) (d2 rIxD (dVar 0) (dC (.int 0))) (dC (.str "look"))))
 (dSeq (dIfS (dOr (dTest (d2 (rEqG true) (dCB rLenD (dCons (dVar 0) dNil)) (dC (.int 2)))) (dOr (dNot (dTest (dIsi "tuple" (d2 rIxD (dVar 0) (dC (.int 1)))))) (dNot (dTest (dChain rLeD rLeD (dC (.int 1)) (dCB rLenD (dCons (d2 rIxD (dVar 0) (dC (.int 1))) dNil)) (dC (.int 6)))))))
 (dRet (dC (.bl false)))
 dNext)
 rd_is_deed_2)
 dNext)
 rd_is_deed_6)
def rd_is_deed : DS :=
 (dSeq (dIfS (dOr (dNot (dTest (dIsi "tuple" (dVar 0)))) (dOr (dTest (d2 (rEqG false) (dVar 0) (dTup dNil))) (dNot (dTest (dIsi "str" (d2 rIxD (dVar 0) (dC (.int 0))))))))
 (dRet (dC (.bl false)))
 dNext)
 rd_is_deed_7)
theorem okds_ints (n : Nat) (l : List Int) : okds n (l.map D.int) = true := okds_int n l
theorem deqs_ints : ∀ l : List Int, deqs (l.map D.int) (l.map D.int) = true
  | [] => by simp only [List.map_nil, deqs]
  | i :: r => by simp only [List.map_cons, deqs, deq, beq_self_eq_true, Bool.true_and]; exact deqs_ints r
theorem ints_strict {l m : List Int} (hl : l.Pairwise (· < ·)) (hm : m.Pairwise (· < ·)) (h : ∀ k, k ∈ l ↔ k ∈ m) : l = m :=
  sorted_ext (· < ·) (fun a h => by omega) (fun a b c h h' => by omega) hl hm h
theorem none_left {α : Type} {c : α → Bool} {l : List α} (h : ∀ x ∈ l, c x = true) : l.filter (fun x => !(c x)) = [] := by
  rw [List.filter_eq_nil_iff]
  intro x hx
  rw [h x hx]
  decide
theorem ok_is_deed (ds : List D) (S : Store) (R : DK) (h : sp_is_deed ds S R) : rd_is_deed (ends R) (startD ["deed", "key", "shape", "part"] ds) S := by
  obtain ⟨x, rfl, hok, h⟩ := h
  unfold rd_is_deed
  cases x with
  | none =>
    unfold Dx.enc
    walk_at "dl"
    exact fin_of h
  | get k =>
    have h : R (.bl (decide (0 ≤ k ∧ k < 100))) S := h
    unfold Dx.enc
    walk_at "dl"
    unfold rd_is_deed_7
    walk_at "dl"
    unfold rd_is_deed_6
    walk_at "dl"
    simp only [dKGet, tb_SHAPES, List.lookup]
    walk_at "dl"
    unfold rd_is_deed_5
    walk_at "dl"
    refine .inl ⟨k, 100, rfl, ?_⟩
    by_cases c : 0 ≤ k ∧ k < 100
    · rw [decide_eq_true c] at h ⊢
      try walk_at "dl"
      unfold rd_is_deed_4
      walk_at "dl"
      unfold rd_is_deed_3
      walk_at "dl"
      simp only [compD]
      walk_at "dl"
      exact fin_of h
    · rw [decide_eq_false c] at h ⊢
      try walk_at "dl"
      exact fin_of h
  | cut s k =>
    cases s <;>
    · have h : R (.bl (decide (0 < k ∧ k < 100))) S := h
      unfold Dx.enc
      walk_at "dl"
      unfold rd_is_deed_7
      walk_at "dl"
      unfold rd_is_deed_6
      walk_at "dl"
      simp only [dKGet, tb_SHAPES, List.lookup]
      walk_at "dl"
      unfold rd_is_deed_5
      walk_at "dl"
      refine .inl ⟨k, 100, rfl, ?_⟩
      by_cases c : 0 ≤ k ∧ k < 100
      · rw [decide_eq_true c]
        try walk_at "dl"
        unfold rd_is_deed_4
        walk_at "dl"
        by_cases c0 : k = 0
        · subst c0
          try walk_at "dl"
          exact fin_of h
        · rw [decide_eq_true (show 0 < k ∧ k < 100 by omega)] at h
          simp only [c0]
          try walk_at "dl"
          unfold rd_is_deed_3
          walk_at "dl"
          simp only [compD]
          walk_at "dl"
          exact fin_of h
      · rw [decide_eq_false c]
        rw [decide_eq_false (show ¬ (0 < k ∧ k < 100) by omega)] at h
        try walk_at "dl"
        exact fin_of h
  | q dq =>
  show rd_is_deed (ends R) (startD ["deed", "key", "shape", "part"] [dq.enc]) S
  unfold rd_is_deed
  have hok : dq.ok := hok
  have h : R (.bl true) S := h
  cases dq with
  | look ks =>
    obtain ⟨l1, l2, so, hk⟩ := hok
    have lm : (ks.map D.int).length = ks.length := List.length_map _
    unfold Dq.enc
    walk_at "dl"
    refine ⟨by simp only [okd]; exact okds_ints 58 _, ?_⟩
    unfold rd_is_deed_7
    walk_at "dl"
    rw [lm, if_pos (by omega), if_neg (by omega)]
    unfold rd_is_deed_2
    walk_at "dl"
    refine ⟨by rw [lm]; exact len_ok (by omega), ?_⟩
    refine comp_pure D.int (fun k => !(decide (0 ≤ k ∧ k < 100))) D.int ks (fun k hx => ?_) ?_
    · walk_at "dl"
      exact fun G => ⟨fun g => .inl ⟨k, 100, rfl, g⟩, fun G _ g => g⟩
    · rw [none_left (c := fun k => decide (0 ≤ k ∧ k < 100)) fun k hx => decide_eq_true (hk k hx)]
      try walk_at "dl"
      unfold rd_is_deed_1
      walk_at "dl"
      refine ⟨ks, rfl, by omega, fun out s1 m1 => ?_⟩
      have e := ints_strict s1 so m1
      subst e
      refine ⟨okds_ints 59 _, okds_ints 59 _, ?_⟩
      rw [deref_lst, dq_ll, deqs_ints]
      exact fin_of h
  | pl dd =>
    cases dd with
    | get k =>
      unfold Dq.enc Dd.enc
      walk_at "dl"
      unfold rd_is_deed_7
      walk_at "dl"
      unfold rd_is_deed_6
      walk_at "dl"
      simp only [dKGet, tb_SHAPES, List.lookup]
      walk_at "dl"
      unfold rd_is_deed_5
      walk_at "dl"
      refine below_of hok ?_
      try walk_at "dl"
      unfold rd_is_deed_4
      walk_at "dl"
      unfold rd_is_deed_3
      walk_at "dl"
      simp only [compD]
      walk_at "dl"
      exact fin_of h
    | put k w =>
      unfold Dq.enc Dd.enc
      walk_at "dl"
      unfold rd_is_deed_7
      walk_at "dl"
      unfold rd_is_deed_6
      walk_at "dl"
      simp only [dKGet, tb_SHAPES, List.lookup]
      walk_at "dl"
      unfold rd_is_deed_5
      walk_at "dl"
      refine below_of hok.1 ?_
      try walk_at "dl"
      unfold rd_is_deed_4
      walk_at "dl"
      unfold rd_is_deed_3
      walk_at "dl"
      simp only [compD]
      walk_at "dl"
      refine below_of hok.2 ?_
      walk_at "dl"
      exact fin_of h
    | add k w =>
      unfold Dq.enc Dd.enc
      walk_at "dl"
      unfold rd_is_deed_7
      walk_at "dl"
      unfold rd_is_deed_6
      walk_at "dl"
      simp only [dKGet, tb_SHAPES, List.lookup]
      walk_at "dl"
      unfold rd_is_deed_5
      walk_at "dl"
      refine below_of hok.1 ?_
      try walk_at "dl"
      unfold rd_is_deed_4
      walk_at "dl"
      unfold rd_is_deed_3
      walk_at "dl"
      simp only [compD]
      walk_at "dl"
      refine below_of hok.2 ?_
      walk_at "dl"
      exact fin_of h
    | swap k a b =>
      unfold Dq.enc Dd.enc
      walk_at "dl"
      unfold rd_is_deed_7
      walk_at "dl"
      unfold rd_is_deed_6
      walk_at "dl"
      simp only [dKGet, tb_SHAPES, List.lookup]
      walk_at "dl"
      unfold rd_is_deed_5
      walk_at "dl"
      refine below_of hok.1 ?_
      try walk_at "dl"
      unfold rd_is_deed_4
      walk_at "dl"
      unfold rd_is_deed_3
      walk_at "dl"
      simp only [compD]
      walk_at "dl"
      refine below_of hok.2.1 ?_
      walk_at "dl"
      refine below_of hok.2.2 ?_
      walk_at "dl"
      exact fin_of h
/-! ### rows -/
structure RowOk (r : Row) : Prop where
  a0 : 0 ≤ r.asker
  a1 : r.asker < 100
  dk : r.deed.ok
  be : ∀ p, r.fin = some p → r.beg < p.1
/-- what is no row -/
inductive NoRow : D → Prop where
  | empty : NoRow (.ptp [])
  | short (a d b e : D) : NoRow (.tup [a, d, b, e])
  | deed (a : D) (x : Dx) (hx : x.pre) (hg : x.good = false) (b e v : D) : NoRow (.tup [a, x.enc, b, e, v])
  | cut (a : D) (s : Bool) (k : Int) (b e v : D) : NoRow (.tup [a, (Dx.cut s k).enc, b, e, v])
  | asker (a : D) (ha : (∃ i : Int, a = .int i ∧ ¬ (0 ≤ i ∧ i < 100)) ∨ NoInt a) (d : Dq) (hd : d.ok) (b e v : D) : NoRow (.tup [a, d.enc, b, e, v])
  | late (a : Int) (ha : 0 ≤ a ∧ a < 100) (d : Dq) (hd : d.ok) (b e : Int) (he : ¬ b < e) (v : D) : NoRow (.tup [.int a, d.enc, .int b, .int e, v])
  | open_ (a : Int) (ha : 0 ≤ a ∧ a < 100) (d : Dq) (hd : d.ok) (b : D) (i : Int) : NoRow (.tup [.int a, d.enc, b, .non, .int i])
  | mute (a : Int) (ha : 0 ≤ a ∧ a < 100) (d : Dq) (hd : d.ok) (b e : Int) : NoRow (.tup [.int a, d.enc, .int b, .int e, .non])
def sp_is_row : DSp := fun ds S R => (∃ r : Row, ds = [r.enc] ∧ RowOk r ∧ R (.bl true) S) ∨ ∃ d : D, ds = [d] ∧ NoRow d ∧ R (.bl false) S
def rd_is_row_1 : DS :=
 (dRet (dAndV (d2 rLtD (dVar 1) (dVar 2)) (d2 (rIsN true) (dVar 3) (dC .non))))
def rd_is_row_2 : DS :=
 (dSeq (dIfS (dTest (d2 (rIsN false) (dVar 2) (dC .non)))
 (dRet (d2 (rIsN false) (dVar 3) (dC .non)))
 dNext)
 rd_is_row_1)
def rd_is_row_3 : DS :=
 (dSeq (dIfS (dNot (dTest (dCall sp_is_below (dCons (d2 rIxD (dVar 0) (dC (.int 0))) (dCons (dC (.int 100)) dNil)))))
 (dRet (dC (.bl false)))
 dNext)
 rd_is_row_2)
def rd_is_row_4 : DS :=
 (dSeq (dAsg (dSl (dVar 0) (dPart (dC (.int 2))) dNoPart) (.tp [1, 2, 3]))
 rd_is_row_3)
def rd_is_row : DS :=
 (dSeq (dIfS (dOr (dNot (dTest (dIsi "tuple" (dVar 0)))) (dOr (dTest (d2 (rEqG true) (dCB rLenD (dCons (dVar 0) dNil)) (dC (.int 5)))) (dOr (dNot (dTest (dCall sp_is_deed (dCons (d2 rIxD (dVar 0) (dC (.int 1))) dNil)))) (dTest (d2 (rInD true) (d2 rIxD (d2 rIxD (dVar 0) (dC (.int 1))) (dC (.int 0))) (d2 rAddD (dC (.tup [(.str "get"), (.str "put"), (.str "add"), (.str "swap")])) (dTup (dCons (dC (.str "look")) dNil))))))))
 (dRet (dC (.bl false)))
 dNext)
 rd_is_row_4)
theorem an_not_none (a : An) (S : Store) (Q : DK) (h : Q (.bl true) S) : rIsN true a.enc .non S Q := by
  cases a <;> exact h
theorem ok_is_row_yes (ds : List D) (S : Store) (R : DK) (h : ∃ r : Row, ds = [r.enc] ∧ RowOk r ∧ R (.bl true) S) : rd_is_row (ends R) (startD ["row", "begin", "end", "answer"] ds) S := by
  obtain ⟨r, rfl, ok, h⟩ := h
  obtain ⟨asker, deed, beg, fin⟩ := r
  have hd := ok.dk
  have a0 := ok.a0
  have a1 := ok.a1
  have be := ok.be
  simp only at hd a0 a1 be
  have tail : rd_is_row_4 (ends R) [some (.tup [.int asker, deed.enc, .int beg, Row.endD ⟨asker, deed, beg, fin⟩, Row.ansD ⟨asker, deed, beg, fin⟩]), none, none, none] S := by
    unfold rd_is_row_4
    cases fin with
    | none =>
      unfold Row.endD Row.ansD
      walk_at "dl"
      unfold rd_is_row_3
      walk_at "dl"
      refine below_of ⟨a0, a1⟩ ?_
      try walk_at "dl"
      unfold rd_is_row_2
      walk_at "dl"
      exact fin_of h
    | some p =>
      have lt := be p rfl
      unfold Row.endD Row.ansD
      walk_at "dl"
      unfold rd_is_row_3
      walk_at "dl"
      refine below_of ⟨a0, a1⟩ ?_
      try walk_at "dl"
      unfold rd_is_row_2
      walk_at "dl"
      unfold rd_is_row_1
      walk_at "dl"
      rw [if_pos lt]
      obtain ⟨e, a⟩ := p
      cases a <;> (unfold An.enc; walk_at "dl"; exact fin_of h)
  unfold rd_is_row Row.enc
  generalize Row.endD ⟨asker, deed, beg, fin⟩ = x3 at tail ⊢
  generalize Row.ansD ⟨asker, deed, beg, fin⟩ = x4 at tail ⊢
  have dd : sp_is_deed [deed.enc] S fun d S1 => d = .bl true ∧ S1 = S := ⟨.q deed, rfl, hd, rfl, rfl⟩
  cases deed with
  | look ks =>
    unfold Dq.enc at tail dd ⊢
    walk_at "dl"
    refine ⟨.q (.look ks), rfl, hd, ?_⟩
    try walk_at "dl"
    exact tail
  | pl d =>
    cases d with
    | get k => unfold Dq.enc Dd.enc at tail ⊢; walk_at "dl"; refine ⟨.q (.pl (.get k)), rfl, hd, ?_⟩; try walk_at "dl"; exact tail
    | put k w => unfold Dq.enc Dd.enc at tail ⊢; walk_at "dl"; refine ⟨.q (.pl (.put k w)), rfl, hd, ?_⟩; try walk_at "dl"; exact tail
    | add k w => unfold Dq.enc Dd.enc at tail ⊢; walk_at "dl"; refine ⟨.q (.pl (.add k w)), rfl, hd, ?_⟩; try walk_at "dl"; exact tail
    | swap k a b => unfold Dq.enc Dd.enc at tail ⊢; walk_at "dl"; refine ⟨.q (.pl (.swap k a b)), rfl, hd, ?_⟩; try walk_at "dl"; exact tail
/-- the deed of a row is one of the five -/
theorem row_head (a b e v : D) (dq : Dq) (hd : dq.ok) (S : Store) (R : DK) (tail : rd_is_row_4 (ends R) [some (.tup [a, dq.enc, b, e, v]), none, none, none] S) : rd_is_row (ends R) (startD ["row", "begin", "end", "answer"] [.tup [a, dq.enc, b, e, v]]) S := by
  unfold rd_is_row
  cases dq with
  | look ks =>
    unfold Dq.enc at tail ⊢
    walk_at "dl"
    refine ⟨.q (.look ks), rfl, hd, ?_⟩
    try walk_at "dl"
    exact tail
  | pl d =>
    cases d with
    | get k => unfold Dq.enc Dd.enc at tail ⊢; walk_at "dl"; refine ⟨.q (.pl (.get k)), rfl, hd, ?_⟩; try walk_at "dl"; exact tail
    | put k w => unfold Dq.enc Dd.enc at tail ⊢; walk_at "dl"; refine ⟨.q (.pl (.put k w)), rfl, hd, ?_⟩; try walk_at "dl"; exact tail
    | add k w => unfold Dq.enc Dd.enc at tail ⊢; walk_at "dl"; refine ⟨.q (.pl (.add k w)), rfl, hd, ?_⟩; try walk_at "dl"; exact tail
    | swap k a b => unfold Dq.enc Dd.enc at tail ⊢; walk_at "dl"; refine ⟨.q (.pl (.swap k a b)), rfl, hd, ?_⟩; try walk_at "dl"; exact tail
theorem ok_is_row_no (d : D) (S : Store) (R : DK) (n : NoRow d) (h : R (.bl false) S) : rd_is_row (ends R) (startD ["row", "begin", "end", "answer"] [d]) S := by
  cases n with
  | empty => unfold rd_is_row; walk_at "dl"; exact fin_of h
  | short a d b e => unfold rd_is_row; walk_at "dl"; exact fin_of h
  | deed a x hx hg b e v =>
    unfold rd_is_row
    generalize ex : x.enc = xe
    have hs : ∀ Q : DK, Q (.bl false) S → sp_is_deed [xe] S Q := fun Q q => ⟨x, by rw [ex], hx, by rw [hg]; exact q⟩
    clear ex hx hg
    walk_at "dl"
    refine hs _ ?_
    try walk_at "dl"
    exact fin_of h
  | cut a s k b e v =>
    unfold rd_is_row
    cases s <;>
    · unfold Dx.enc
      walk_at "dl"
      first | refine ⟨.cut true k, rfl, trivial, ?_⟩ | refine ⟨.cut false k, rfl, trivial, ?_⟩
      unfold Dx.good
      try walk_at "dl"
      split <;> exact fin_of h
  | asker a ha d hd b e v =>
    refine row_head _ _ _ _ d hd S R ?_
    generalize d.enc = de
    unfold rd_is_row_4
    walk_at "dl"
    unfold rd_is_row_3
    walk_at "dl"
    rcases ha with ⟨i, rfl, hi⟩ | ha
    · refine .inl ⟨i, 100, rfl, ?_⟩
      rw [decide_eq_false hi]
      try walk_at "dl"
      exact fin_of h
    · refine .inr ⟨a, 100, rfl, ha, ?_⟩
      try walk_at "dl"
      exact fin_of h
  | late a ha d hd b e he v =>
    refine row_head _ _ _ _ d hd S R ?_
    generalize d.enc = de
    unfold rd_is_row_4
    walk_at "dl"
    unfold rd_is_row_3
    walk_at "dl"
    refine below_of ha ?_
    try walk_at "dl"
    unfold rd_is_row_2
    walk_at "dl"
    unfold rd_is_row_1
    walk_at "dl"
    rw [if_neg he]
    exact fin_of h
  | open_ a ha d hd b i =>
    refine row_head _ _ _ _ d hd S R ?_
    generalize d.enc = de
    unfold rd_is_row_4
    walk_at "dl"
    unfold rd_is_row_3
    walk_at "dl"
    refine below_of ha ?_
    try walk_at "dl"
    unfold rd_is_row_2
    walk_at "dl"
    exact fin_of h
  | mute a ha d hd b e =>
    refine row_head _ _ _ _ d hd S R ?_
    generalize d.enc = de
    unfold rd_is_row_4
    walk_at "dl"
    unfold rd_is_row_3
    walk_at "dl"
    refine below_of ha ?_
    try walk_at "dl"
    unfold rd_is_row_2
    walk_at "dl"
    unfold rd_is_row_1
    walk_at "dl"
    split <;> exact fin_of h
theorem ok_is_row (ds : List D) (S : Store) (R : DK) (h : sp_is_row ds S R) : rd_is_row (ends R) (startD ["row", "begin", "end", "answer"] ds) S := by
  rcases h with h | ⟨d, rfl, n, h⟩
  · exact ok_is_row_yes ds S R h
  · exact ok_is_row_no d S R n h
end Dl.D4

set_option Elab.async false
set_option linter.all false
set_option maxRecDepth 100000
namespace Dl.D4
open PySem PySem.Spec PyProof.Rows L2 LamX Dl
local macro_rules | `(tactic| walk_at "dl") => `(tactic| simp (config := { maxSteps := 1000000 }) only [dSeq, dIfS, dRet, dRetN, dSet, dNext, dDrop, dVar, dC, d2, dTest, dAnd, dOr, dNot, dAndV, dOrV, dNotV, dIf, dChain, dChain3, dCall, dCons, dNil, dTup, dLst, dLstR, dAsg, Tg.d, sets, dFor, dYes, dNever, dBrk, dCnt,
  dSortKey, dLc, dLcR, dComp, wipeD, itemsI, rangeI1, enumI, dCB, rLenD, rIntD, rAbsD, rM2D, rTupD, rTupPD, rAllD, dIsi, tyD, rIxD, rItem, dSl, dPart, dNoPart, rSlD, rII, rAddD, rMulD, rMulDR, rEqG, rIsN, rInD, dNeg, dGet2, rAddXD, rListD, rListRD, dPar, dNewK, dNewT, dAsgNS, dMemo0, itR, dForR, dLcX, dLcXR, dCompR, dTupRg, dLstRg, dLstRgR, dInRg, dMemoSet, dDisp, dPairs, keyPairs, keyOf, dML, dSetIx,
  atI0, atI1, atI2, atI3, atI4, atI5, atIm2, atIm3, atIm4, deref_non, deref_bl, deref_int, deref_str, deref_tp, deref_ptp, deref_lst, items_tup, items_ptp, items_lst, dq_ii, dq_bb, dq_ss, dq_tt, dq_tp, dq_pt, dq_pp, dq_ll, dq_n0, dq_nc, dq_cn, dq_cc, ok_non, ok_bl, ok_int, ok_str, ok_tp, ok_pp, ok_ls, ok_n0, ok_cc, flat, List.all_cons, List.all_nil, List.any_cons, List.any_nil,
  startD, List.map_cons, List.map_nil, List.length_cons, List.length_nil, List.replicate_succ, List.replicate_zero, List.cons_append, List.nil_append, List.set_cons_zero, List.set_cons_succ, List.getElem?_cons_zero, List.getElem?_cons_succ, Nat.reduceAdd, Nat.reduceSub, Nat.reduceLeDiff, Nat.reduceMul,
  Bool.and_true, Bool.true_and, Bool.and_false, Bool.false_and, Bool.or_true, Bool.true_or, Bool.or_false, Bool.false_or, Bool.not_true, Bool.not_false, decide_eq_true_eq, ↓reduceIte, true_and, and_true, Bool.false_eq_true, Bool.not_eq_true', Bool.not_not, beq_self_eq_true, and_self, ne_eq, reduceCtorEq, not_false_eq_true, not_true_eq_false, Int.reduceBEq, beq_iff_eq, beq_eq_false_iff_ne, decide_eq_false_iff_not, Int.reduceLT, Int.reduceLE, Int.reduceNeg, Int.reduceAdd, Int.reduceEq, Int.reduceToNat,  kb_NoneType_bool, kb_NoneType_int, kb_NoneType_str, kb_NoneType_tuple, kb_NoneType_list, kb_bool_bool, kb_bool_int, kb_bool_str, kb_bool_tuple, kb_bool_list, kb_int_bool, kb_int_int, kb_int_str, kb_int_tuple, kb_int_list, kb_str_bool, kb_str_int, kb_str_str, kb_str_tuple, kb_str_list, kb_tuple_bool, kb_tuple_int, kb_tuple_str, kb_tuple_tuple, kb_tuple_list, kb_list_bool, kb_list_int, kb_list_str, kb_list_tuple, kb_list_list, sq_k_e, sq_kw_e, sq_kww_e, sk_k, sk_kw, sk_kww, sl_k, sl_kw, sl_kww, sk_e, cut_2_2_None, ncut_2_2_None, cut_2_None_1, ncut_2_None_1, cut_3_2_None, ncut_3_2_None, cut_3_None_1, ncut_3_None_1, cut_3_3_None, ncut_3_3_None, cut_4_2_None, ncut_4_2_None, cut_4_None_1, ncut_4_None_1, cut_4_None_3, ncut_4_None_3, cut_4_3_None, ncut_4_3_None, cut_5_2_None, ncut_5_2_None, cut_5_None_1, ncut_5_None_1, cut_5_None_3, ncut_5_None_3, cut_5_3_None, ncut_5_3_None, cut_6_2_None, ncut_6_2_None, cut_6_None_1, ncut_6_None_1, cut_6_None_3, ncut_6_None_3, cut_6_None_5, ncut_6_None_5, cut_6_3_None, ncut_6_3_None, sq_get_put, sq_get_add, sq_get_swap, sq_get_look, sq_get_split, sq_get_join, sq_put_get, sq_put_add, sq_put_swap, sq_put_look, sq_put_split, sq_put_join, sq_add_get, sq_add_put, sq_add_swap, sq_add_look, sq_add_split, sq_add_join, sq_swap_get, sq_swap_put, sq_swap_add, sq_swap_look, sq_swap_split, sq_swap_join, sq_look_get, sq_look_put, sq_look_add, sq_look_swap, sq_look_split, sq_look_join, sq_split_get, sq_split_put, sq_split_add, sq_split_swap, sq_split_look, sq_split_join, sq_join_get, sq_join_put, sq_join_add, sq_join_swap, sq_join_look, sq_join_split, ls0, ls1, ls2, ls3, ls4, ls5, ls6, ls7, ls8, ls9, ls10, nc0, nc1, nc2, nc3, nc4, nc5, nc6, nc7, nc8, nc9, nc10, sk_get, sk_put, sk_add, sk_swap, sk_look, sk_split, sk_join])


/-! ### histories -/
/-- an asker's rows stand one behind the other -/
def Steps (H : List Row) : Prop := H.Pairwise fun r q => r.asker = q.asker → ∃ p, r.fin = some p ∧ p.1 < q.beg
structure HistOk (H : List Row) : Prop where
  len : H.length ≤ 12
  rows : ∀ r ∈ H, RowOk r
  steps : Steps H
/-- the rows as they stand -/
def RowsAt (S : Store) (d : D) (H : List Row) : Prop := deref S d = .lst (H.map Row.enc)
theorem rows_ix {S : Store} {d : D} {H : List Row} {n : Nat} {r : Row} {Q : DK} (h : RowsAt S d H) (hn : H[n]? = some r) (q : Q r.enc S) : rIxD d (.int (n : Int)) S Q := by
  have hi : n < H.length := (List.getElem?_eq_some_iff.mp hn).1
  unfold rIxD
  simp only [show deref S d = .lst (H.map Row.enc) from h, rItem]
  rw [atI_n (by rw [List.length_map]; exact hi), List.getElem?_map, hn]
  exact q
theorem row_3 {S : Store} {r : Row} {Q : DK} (q : Q r.endD S) : rIxD r.enc (.int 3) S Q := by
  unfold Row.enc rIxD
  simp only [deref_tp, rItem, atI3]
  exact q
theorem row_4 {S : Store} {r : Row} {Q : DK} (q : Q r.ansD S) : rIxD r.enc (.int 4) S Q := by
  unfold Row.enc rIxD
  simp only [deref_tp, rItem, atI4]
  exact q
theorem row_0 {S : Store} {r : Row} {Q : DK} (q : Q (.int r.asker) S) : rIxD r.enc (.int 0) S Q := by
  unfold Row.enc rIxD
  simp only [deref_tp, rItem, atI0]
  exact q
theorem row_1 {S : Store} {r : Row} {Q : DK} (q : Q r.deed.enc S) : rIxD r.enc (.int 1) S Q := by
  unfold Row.enc rIxD
  simp only [deref_tp, rItem, atI1]
  exact q
theorem row_2 {S : Store} {r : Row} {Q : DK} (q : Q (.int r.beg) S) : rIxD r.enc (.int 2) S Q := by
  unfold Row.enc rIxD
  simp only [deref_tp, rItem, atI2]
  exact q
/-! ### done -/
def sp_done : DSp := fun ds S R => ∃ (ws : Ws) (dq : Dq), ds = [.ptp (ws.map encP), dq.enc] ∧ WsOk ws ∧ ws.length ≤ 900 ∧ dq.ok ∧ R (.tup [(dq.ans ws).enc, .ptp ((dq.next ws).map encP)]) S
def rd_done_1 : DS :=
 (dRet (dTup (dCons (dVar 4) (dCons (dCB rTupPD (dCons (dCB rSortPD (dCons (d2 rAddD (dVar 6) (d2 rMulD (dLst (dCons (dTup (dCons (d2 rIxD (dVar 1) (dC (.int 1))) (dCons (dVar 5) dNil))) dNil)) (dCB rIntD (dCons (d2 rGtD (dVar 5) (dC (.int 0))) dNil)))) dNil)) dNil)) dNil))))
def rd_done_2 : DS :=
 (dSeq (dSet 6 (dLc (itemsI (dVar 0)) (.nm 7) (dTest (d2 (rEqG true) (d2 rIxD (dVar 7) (dC (.int 0))) (d2 rIxD (dVar 1) (dC (.int 1))))) (dVar 7) [7]))
 rd_done_1)
def rd_done_3 : DS :=
 (dSeq (dAsg (dCall sp_worth_behind (dCons (dVar 1) (dCons (dGet2 (dVar 2) (d2 rIxD (dVar 1) (dC (.int 1))) (dC (.int 0))) dNil))) (.tp [4, 5]))
 rd_done_2)
def rd_done_4 : DS :=
 (dSeq (dIfS (dTest (d2 (rEqG false) (d2 rIxD (dVar 1) (dC (.int 0))) (dC (.str "look"))))
 (dRet (dTup (dCons (dCB rTupD (dCons (dLc (itemsI (d2 rIxD (dVar 1) (dC (.int 1)))) (.nm 3) dYes (dGet2 (dVar 2) (dVar 3) (dC (.int 0))) [3]) dNil)) (dCons (dVar 0) dNil))))
 dNext)
 rd_done_3)
def rd_done : DS :=
 (dSeq (dSet 2 (dCB rDictD (dCons (dVar 0) dNil)))
 rd_done_4)
theorem get2_ws {S : Store} {p : Addr} {ws : Ws} {k : Int} {τ : DSt} {A B : DE} {Q : DK} (hp : S p = some (.dK (ws.map kdW))) (hA : ∀ G : DK, G (.ref p) S → A τ S G) (hB : ∀ G : DK, G (.int k) S → B τ S G) (q : Q (.int (getW ws k)) S) : dGet2 A B (dC (.int 0)) τ S Q := by
  unfold dGet2
  refine hA _ ?_
  simp only [hp]
  refine ⟨trivial, hB _ ?_⟩
  simp only [dC, hp, keyOf, val_ws]
  exact q
theorem ok_done (ds : List D) (S : Store) (R : DK) (h : sp_done ds S R) : rd_done (ends R) (startD ["worths", "deed", "known", "key", "answer", "worth", "rest", "pair"] ds) S := by
  obtain ⟨ws, dq, rfl, wk, hl, dok, h⟩ := h
  unfold rd_done
  walk_at "dl"
  simp only [rDictD, pairs_ws, dict_ws wk.so]
  intro p hp
  have kn : (ups S p (.dK (ws.map kdW))) p = some (.dK (ws.map kdW)) := ups_same
  have sb : Sub S (ups S p (.dK (ws.map kdW))) := sub_ups hp
  generalize ups S p (.dK (ws.map kdW)) = S1 at kn sb ⊢
  -- the end of the plain ones
  have fin : ∀ (dd : Dd) (x : D) (key w : Int) (z : D) (rr : List D) (j3 j7 : Option D), dd.key = key → w = dd.new (getW ws dd.key) → x = dd.ans (getW ws dd.key) → R (.tup [dd.ans (getW ws dd.key), .ptp ((putW ws dd.key (dd.new (getW ws dd.key))).map encP)]) S →
      rd_done_2 (ends R) [some (.ptp (ws.map encP)), some (.tup (z :: .int key :: rr)), some (.ref p), j3, some x, some (.int w), none, j7] S1 := by
    rintro dd x key w z rr j3 j7 rfl rfl rfl h
    unfold rd_done_2
    walk_at "dl"
    refine ⟨by rw [List.length_map]; exact len_ok (by omega), ?_⟩
    have fl : (ws.filter fun a => !(a.1 == dd.key)).length ≤ ws.length := List.length_filter_le _ _
    refine comp_pure encP (fun a => !(a.1 == dd.key)) encP ws (fun a ha => ?_) ?_
    · walk_at "dl"
      exact fun G => ⟨fun g => g, fun G h g => g⟩
    · try walk_at "dl"
      unfold rd_done_1
      walk_at "dl"
      generalize dd.new (getW ws dd.key) = w at h ⊢
      obtain ⟨more, hm⟩ : ∃ more : List (Int × Int), more = (if 0 < w then [(dd.key, w)] else []) := ⟨_, rfl⟩
      have e1 : (List.replicate (if decide (0 < w) = true then (1 : Int) else 0).toNat [D.tup [D.int dd.key, D.int w]]).flatten = more.map encP := by
        rw [hm]
        by_cases e : 0 < w <;> simp [e]
      have e2 : more.length ≤ 1 := by rw [hm]; split <;> simp
      simp only [decide_eq_true_eq] at e1
      rw [e1]
      refine ⟨by split <;> omega, by split <;> omega, len_ok (by split <;> simp), by rw [List.length_map, List.length_map]; exact len_ok (by omega), ?_⟩
      unfold rSortPD
      refine ⟨(ws.filter fun a => !(a.1 == dd.key)) ++ more, by rw [List.map_append]; rfl, fun m pm hp => ?_⟩
      try walk_at "dl"
      have dist : ((ws.filter fun a => !(a.1 == dd.key)) ++ more).Pairwise (fun a b => a.1 ≠ b.1) := by
        by_cases e : 0 < w
        · rw [hm, if_pos e]
          refine ne_add (f := fW) (wk.so.filter _) fun a ha => ?_
          have := (List.mem_filter.mp ha).2
          simpa using this
        · rw [hm, if_neg e, List.append_nil]
          exact (wk.so.filter _).imp fun h => by unfold ltW at h; omega
      have ms : m.Pairwise ltW := strict_of (f := fW) (hp.imp fun h => lexB_le h) (ne_perm (f := fW) pm dist)
      have key : m = putW ws dd.key w := by
        refine ws_ext ms (putW_sorted wk.so _ _) fun a => ?_
        rw [pm.mem_iff, putW_mem, List.mem_append, List.mem_filter, hm]
        constructor
        · rintro (⟨h1, h2⟩ | h1)
          · exact .inl ⟨h1, by simpa using h2⟩
          · split at h1
            · exact .inr ⟨by assumption, by simpa using h1⟩
            · cases h1
        · rintro (⟨h1, h2⟩ | ⟨h1, rfl⟩)
          · exact .inl ⟨h1, by simpa using h2⟩
          · rw [if_pos h1]; exact .inr (by simp)
      rw [key]
      exact fin_sub h sb
  cases dq with
  | look ks =>
    unfold Dq.enc
    walk_at "dl"
    unfold rd_done_4
    walk_at "dl"
    refine ⟨by rw [List.length_map]; have := dok.2.1; exact len_ok (by omega), ?_⟩
    refine comp_pure D.int (fun _ => true) (fun k => D.int (getW ws k)) ks (fun k hk => ?_) ?_
    · walk_at "dl"
      refine fun G => ⟨fun g => g, fun G _ g => ?_⟩
      simp only [kn, val_ws]
      exact ⟨trivial, g⟩
    · rw [List.filter_eq_self.mpr fun _ _ => rfl]
      have e : ((Dq.look ks).ans ws).enc = .tup (ks.map fun k => D.int (getW ws k)) := by
        show D.tup ((ks.map (getW ws)).map D.int) = _
        rw [List.map_map]; rfl
      rw [e] at h
      exact fin_sub h sb
  | pl dd =>
    cases dd with
    | get k =>
      have h2 : R (.tup [(ansD (Dd.get k) (getW ws (Dd.get k).key)).enc, .ptp ((putW ws (Dd.get k).key ((Dd.get k).new (getW ws (Dd.get k).key))).map encP)]) S := h
      rw [ansD_enc] at h2
      unfold Dq.enc Dd.enc
      walk_at "dl"
      unfold rd_done_4
      walk_at "dl"
      unfold rd_done_3
      walk_at "dl"
      simp only [kn, val_ws]
      refine ⟨trivial, (.get k), _, rfl, ?_⟩
      walk_at "dl"
      exact fin (.get k) _ _ _ _ _ _ _ rfl rfl rfl h2
    | put k w =>
      have h2 : R (.tup [(ansD (Dd.put k w) (getW ws (Dd.put k w).key)).enc, .ptp ((putW ws (Dd.put k w).key ((Dd.put k w).new (getW ws (Dd.put k w).key))).map encP)]) S := h
      rw [ansD_enc] at h2
      unfold Dq.enc Dd.enc
      walk_at "dl"
      unfold rd_done_4
      walk_at "dl"
      unfold rd_done_3
      walk_at "dl"
      simp only [kn, val_ws]
      refine ⟨trivial, (.put k w), _, rfl, ?_⟩
      walk_at "dl"
      exact fin (.put k w) _ _ _ _ _ _ _ rfl rfl rfl h2
    | add k w =>
      have h2 : R (.tup [(ansD (Dd.add k w) (getW ws (Dd.add k w).key)).enc, .ptp ((putW ws (Dd.add k w).key ((Dd.add k w).new (getW ws (Dd.add k w).key))).map encP)]) S := h
      rw [ansD_enc] at h2
      unfold Dq.enc Dd.enc
      walk_at "dl"
      unfold rd_done_4
      walk_at "dl"
      unfold rd_done_3
      walk_at "dl"
      simp only [kn, val_ws]
      refine ⟨trivial, (.add k w), _, rfl, ?_⟩
      walk_at "dl"
      exact fin (.add k w) _ _ _ _ _ _ _ rfl rfl rfl h2
    | swap k a b =>
      have h2 : R (.tup [(ansD (Dd.swap k a b) (getW ws (Dd.swap k a b).key)).enc, .ptp ((putW ws (Dd.swap k a b).key ((Dd.swap k a b).new (getW ws (Dd.swap k a b).key))).map encP)]) S := h
      rw [ansD_enc] at h2
      unfold Dq.enc Dd.enc
      walk_at "dl"
      unfold rd_done_4
      walk_at "dl"
      unfold rd_done_3
      walk_at "dl"
      simp only [kn, val_ws]
      refine ⟨trivial, (.swap k a b), _, rfl, ?_⟩
      walk_at "dl"
      exact fin (.swap k a b) _ _ _ _ _ _ _ rfl rfl rfl h2
end Dl.D4

set_option Elab.async false
set_option linter.all false
set_option maxRecDepth 100000
namespace Dl.D4
open PySem PySem.Spec PyProof.Rows L2 LamX Dl
local macro_rules | `(tactic| walk_at "dl") => `(tactic| simp (config := { maxSteps := 1000000 }) only [dSeq, dIfS, dRet, dRetN, dSet, dNext, dDrop, dVar, dC, d2, dTest, dAnd, dOr, dNot, dAndV, dOrV, dNotV, dIf, dChain, dChain3, dCall, dCons, dNil, dTup, dLst, dLstR, dAsg, Tg.d, sets, dFor, dYes, dNever, dBrk, dCnt,
  dSortKey, dLc, dLcR, dComp, wipeD, itemsI, rangeI1, enumI, dCB, rLenD, rIntD, rAbsD, rM2D, rTupD, rTupPD, rAllD, dIsi, tyD, rIxD, rItem, dSl, dPart, dNoPart, rSlD, rII, rAddD, rMulD, rMulDR, rEqG, rIsN, rInD, dNeg, dGet2, rAddXD, rListD, rListRD, dPar, dNewK, dNewT, dAsgNS, dMemo0, itR, dForR, dLcX, dLcXR, dCompR, dTupRg, dLstRg, dLstRgR, dInRg, dMemoSet, dDisp, dPairs, keyPairs, keyOf, dML, dSetIx,
  atI0, atI1, atI2, atI3, atI4, atI5, atIm2, atIm3, atIm4, deref_non, deref_bl, deref_int, deref_str, deref_tp, deref_ptp, deref_lst, items_tup, items_ptp, items_lst, dq_ii, dq_bb, dq_ss, dq_tt, dq_tp, dq_pt, dq_pp, dq_ll, dq_n0, dq_nc, dq_cn, dq_cc, ok_non, ok_bl, ok_int, ok_str, ok_tp, ok_pp, ok_ls, ok_n0, ok_cc, flat, List.all_cons, List.all_nil, List.any_cons, List.any_nil,
  startD, List.map_cons, List.map_nil, List.length_cons, List.length_nil, List.replicate_succ, List.replicate_zero, List.cons_append, List.nil_append, List.set_cons_zero, List.set_cons_succ, List.getElem?_cons_zero, List.getElem?_cons_succ, Nat.reduceAdd, Nat.reduceSub, Nat.reduceLeDiff, Nat.reduceMul,
  Bool.and_true, Bool.true_and, Bool.and_false, Bool.false_and, Bool.or_true, Bool.true_or, Bool.or_false, Bool.false_or, Bool.not_true, Bool.not_false, decide_eq_true_eq, ↓reduceIte, true_and, and_true, Bool.false_eq_true, Bool.not_eq_true', Bool.not_not, beq_self_eq_true, and_self, ne_eq, reduceCtorEq, not_false_eq_true, not_true_eq_false, Int.reduceBEq, beq_iff_eq, beq_eq_false_iff_ne, decide_eq_false_iff_not, Int.reduceLT, Int.reduceLE, Int.reduceNeg, Int.reduceAdd, Int.reduceEq, Int.reduceToNat,  kb_NoneType_bool, kb_NoneType_int, kb_NoneType_str, kb_NoneType_tuple, kb_NoneType_list, kb_bool_bool, kb_bool_int, kb_bool_str, kb_bool_tuple, kb_bool_list, kb_int_bool, kb_int_int, kb_int_str, kb_int_tuple, kb_int_list, kb_str_bool, kb_str_int, kb_str_str, kb_str_tuple, kb_str_list, kb_tuple_bool, kb_tuple_int, kb_tuple_str, kb_tuple_tuple, kb_tuple_list, kb_list_bool, kb_list_int, kb_list_str, kb_list_tuple, kb_list_list, sq_k_e, sq_kw_e, sq_kww_e, sk_k, sk_kw, sk_kww, sl_k, sl_kw, sl_kww, sk_e, cut_2_2_None, ncut_2_2_None, cut_2_None_1, ncut_2_None_1, cut_3_2_None, ncut_3_2_None, cut_3_None_1, ncut_3_None_1, cut_3_3_None, ncut_3_3_None, cut_4_2_None, ncut_4_2_None, cut_4_None_1, ncut_4_None_1, cut_4_None_3, ncut_4_None_3, cut_4_3_None, ncut_4_3_None, cut_5_2_None, ncut_5_2_None, cut_5_None_1, ncut_5_None_1, cut_5_None_3, ncut_5_None_3, cut_5_3_None, ncut_5_3_None, cut_6_2_None, ncut_6_2_None, cut_6_None_1, ncut_6_None_1, cut_6_None_3, ncut_6_None_3, cut_6_None_5, ncut_6_None_5, cut_6_3_None, ncut_6_3_None, sq_get_put, sq_get_add, sq_get_swap, sq_get_look, sq_get_split, sq_get_join, sq_put_get, sq_put_add, sq_put_swap, sq_put_look, sq_put_split, sq_put_join, sq_add_get, sq_add_put, sq_add_swap, sq_add_look, sq_add_split, sq_add_join, sq_swap_get, sq_swap_put, sq_swap_add, sq_swap_look, sq_swap_split, sq_swap_join, sq_look_get, sq_look_put, sq_look_add, sq_look_swap, sq_look_split, sq_look_join, sq_split_get, sq_split_put, sq_split_add, sq_split_swap, sq_split_look, sq_split_join, sq_join_get, sq_join_put, sq_join_add, sq_join_swap, sq_join_look, sq_join_split, ls0, ls1, ls2, ls3, ls4, ls5, ls6, ls7, ls8, ls9, ls10, nc0, nc1, nc2, nc3, nc4, nc5, nc6, nc7, nc8, nc9, nc10, sk_get, sk_put, sk_add, sk_swap, sk_look, sk_split, sk_join])


local macro_rules | `(tactic| walk_at "dm") => `(tactic| simp (config := { maxSteps := 1000000 }) only [dSeq, dIfS, dRet, dRetN, dSet, dNext, dDrop, dVar, dC, d2, dTest, dAnd, dOr, dNot, dAndV, dOrV, dNotV, dIf, dChain, dChain3, dCall, dCons, dNil, dTup, dLst, dLstR, dAsg, Tg.d, sets, dFor, dYes, dNever, dBrk, dCnt,
  dSortKey, dLc, dLcR, dComp, wipeD, itemsI, rangeI1, enumI, dCB, rLenD, rIntD, rAbsD, rM2D, rTupD, rTupPD, rAllD, dIsi, tyD, rItem, dSl, dPart, dNoPart, rSlD, rII, rAddD, rMulD, rMulDR, rEqG, rInD, dNeg, dGet2, rAddXD, rListD, rListRD, dPar, dNewK, dNewT, dAsgNS, dMemo0, itR, dForR, dLcX, dLcXR, dCompR, dTupRg, dLstRg, dLstRgR, dInRg, dMemoSet, dDisp, dPairs, keyPairs, keyOf, dML, dSetIx,
  atI0, atI1, atI2, atI3, atI4, atI5, atIm2, atIm3, atIm4, deref_non, deref_bl, deref_int, deref_str, deref_tp, deref_ptp, deref_lst, items_tup, items_ptp, items_lst, dq_ii, dq_bb, dq_ss, dq_tt, dq_tp, dq_pt, dq_pp, dq_ll, dq_n0, dq_nc, dq_cn, dq_cc, ok_non, ok_bl, ok_int, ok_str, ok_tp, ok_pp, ok_ls, ok_n0, ok_cc, flat, List.all_cons, List.all_nil, List.any_cons, List.any_nil,
  startD, List.map_cons, List.map_nil, List.length_cons, List.length_nil, List.replicate_succ, List.replicate_zero, List.cons_append, List.nil_append, List.set_cons_zero, List.set_cons_succ, List.getElem?_cons_zero, List.getElem?_cons_succ, Nat.reduceAdd, Nat.reduceSub, Nat.reduceLeDiff, Nat.reduceMul,
  Bool.and_true, Bool.true_and, Bool.and_false, Bool.false_and, Bool.or_true, Bool.true_or, Bool.or_false, Bool.false_or, Bool.not_true, Bool.not_false, decide_eq_true_eq, ↓reduceIte, true_and, and_true, Bool.false_eq_true, Bool.not_eq_true', Bool.not_not, beq_self_eq_true, and_self, ne_eq, reduceCtorEq, not_false_eq_true, not_true_eq_false, Int.reduceBEq, beq_iff_eq, beq_eq_false_iff_ne, decide_eq_false_iff_not, Int.reduceLT, Int.reduceLE, Int.reduceNeg, Int.reduceAdd, Int.reduceEq, Int.reduceToNat,  kb_NoneType_bool, kb_NoneType_int, kb_NoneType_str, kb_NoneType_tuple, kb_NoneType_list, kb_bool_bool, kb_bool_int, kb_bool_str, kb_bool_tuple, kb_bool_list, kb_int_bool, kb_int_int, kb_int_str, kb_int_tuple, kb_int_list, kb_str_bool, kb_str_int, kb_str_str, kb_str_tuple, kb_str_list, kb_tuple_bool, kb_tuple_int, kb_tuple_str, kb_tuple_tuple, kb_tuple_list, kb_list_bool, kb_list_int, kb_list_str, kb_list_tuple, kb_list_list, sq_k_e, sq_kw_e, sq_kww_e, sk_k, sk_kw, sk_kww, sl_k, sl_kw, sl_kww, sk_e, cut_2_2_None, ncut_2_2_None, cut_2_None_1, ncut_2_None_1, cut_3_2_None, ncut_3_2_None, cut_3_None_1, ncut_3_None_1, cut_3_3_None, ncut_3_3_None, cut_4_2_None, ncut_4_2_None, cut_4_None_1, ncut_4_None_1, cut_4_None_3, ncut_4_None_3, cut_4_3_None, ncut_4_3_None, cut_5_2_None, ncut_5_2_None, cut_5_None_1, ncut_5_None_1, cut_5_None_3, ncut_5_None_3, cut_5_3_None, ncut_5_3_None, cut_6_2_None, ncut_6_2_None, cut_6_None_1, ncut_6_None_1, cut_6_None_3, ncut_6_None_3, cut_6_None_5, ncut_6_None_5, cut_6_3_None, ncut_6_3_None, sq_get_put, sq_get_add, sq_get_swap, sq_get_look, sq_get_split, sq_get_join, sq_put_get, sq_put_add, sq_put_swap, sq_put_look, sq_put_split, sq_put_join, sq_add_get, sq_add_put, sq_add_swap, sq_add_look, sq_add_split, sq_add_join, sq_swap_get, sq_swap_put, sq_swap_add, sq_swap_look, sq_swap_split, sq_swap_join, sq_look_get, sq_look_put, sq_look_add, sq_look_swap, sq_look_split, sq_look_join, sq_split_get, sq_split_put, sq_split_add, sq_split_swap, sq_split_look, sq_split_join, sq_join_get, sq_join_put, sq_join_add, sq_join_swap, sq_join_look, sq_join_split, ls0, ls1, ls2, ls3, ls4, ls5, ls6, ls7, ls8, ls9, ls10, nc0, nc1, nc2, nc3, nc4, nc5, nc6, nc7, nc8, nc9, nc10, sk_get, sk_put, sk_add, sk_swap, sk_look, sk_split, sk_join])


abbrev encN (n : Nat) : D := .int (n : Int)
/-! ### which may be next -/
def sp_may_be_next : DSp := fun ds S R => ∃ (d : D) (H : List Row) (left : List Nat), ds = [d, .tup (left.map encN)] ∧ RowsAt S d H ∧ (∀ n ∈ left, n < H.length) ∧ left.length ≤ 60 ∧ R (.lst ((left.filter (mayB H left)).map encN)) S
def rd_may_be_next : DS :=
 (dSeq (dSet 2 (dLc (itemsI (dVar 1)) (.nm 3) (dTest (d2 (rIsN true) (d2 rIxD (d2 rIxD (dVar 0) (dVar 3)) (dC (.int 3))) (dC .non))) (d2 rIxD (d2 rIxD (dVar 0) (dVar 3)) (dC (.int 3))) [3]))
 (dRet (dLc (itemsI (dVar 1)) (.nm 3) (dTest (d2 (rEqG false) (dLc (itemsI (dVar 2)) (.nm 4) (dTest (d2 rLtD (dVar 4) (d2 rIxD (d2 rIxD (dVar 0) (dVar 3)) (dC (.int 2))))) (dVar 4) [4]) (dLst dNil))) (dVar 3) [3])))
theorem row_at {H : List Row} {n : Nat} (h : n < H.length) : ∃ r, H[n]? = some r := ⟨H[n], List.getElem?_eq_getElem h⟩
theorem endOf_row {H : List Row} {n : Nat} {r : Row} (h : H[n]? = some r) : endOf H n = r.fin.map (·.1) := by unfold endOf; rw [h]; rfl
theorem begOf_row {H : List Row} {n : Nat} {r : Row} (h : H[n]? = some r) : begOf H n = r.beg := by unfold begOf; rw [h]; rfl
theorem isn_end {r : Row} {S : Store} {Q : DK} (q : Q (.bl r.fin.isSome) S) : rIsN true r.endD .non S Q := by
  obtain ⟨a, dq, b, fin⟩ := r
  cases fin <;> exact q
theorem is_end {r : Row} {S : Store} {Q : DK} (q : Q (.bl (!r.fin.isSome)) S) : rIsN false r.endD .non S Q := by
  obtain ⟨a, dq, b, fin⟩ := r
  cases fin <;> exact q
theorem ends_map {H : List Row} : ∀ {left : List Nat}, (left.filter fun n => (endOf H n).isSome).map (fun n => match endOf H n with | some e => D.int e | none => .non) = (endsOf H left).map D.int
  | [] => rfl
  | n :: l => by
    have ih := ends_map (H := H) (left := l)
    unfold endsOf at ih ⊢
    cases e : endOf H n with
    | none => rw [List.filter_cons_of_neg (by simp [e]), List.filterMap_cons_none e]; exact ih
    | some x => rw [List.filter_cons_of_pos (by simp [e]), List.filterMap_cons_some e, List.map_cons, List.map_cons, ih, e]
theorem ends_len {H : List Row} {left : List Nat} : (endsOf H left).length ≤ left.length := List.length_filterMap_le _ _
theorem endD_of {H : List Row} {n : Nat} {r : Row} (h : H[n]? = some r) : r.endD = match endOf H n with | some e => D.int e | none => .non := by
  rw [endOf_row h]
  obtain ⟨a, dq, b, fin⟩ := r
  cases fin <;> rfl
theorem isSome_of {H : List Row} {n : Nat} {r : Row} (h : H[n]? = some r) : r.fin.isSome = (endOf H n).isSome := by
  rw [endOf_row h]
  cases r.fin <;> rfl
theorem deqs_nil {α : Type} (enc : α → D) (l : List α) : deqs (l.map enc) [] = l.isEmpty := by
  cases l with
  | nil => rw [List.map_nil, dq_n0]; rfl
  | cons a r => rw [List.map_cons, dq_cn]; rfl
theorem ok_may_be_next (ds : List D) (S : Store) (R : DK) (h : sp_may_be_next ds S R) : rd_may_be_next (ends R) (startD ["rows", "left", "ends", "number", "end"] ds) S := by
  obtain ⟨d, H, left, rfl, hr, hl, h60, h⟩ := h
  unfold rd_may_be_next
  walk_at "dm"
  refine ⟨by rw [List.length_map]; exact len_ok (by omega), ?_⟩
  refine comp_pure encN (fun n => (endOf H n).isSome) (fun n => match endOf H n with | some e => D.int e | none => .non) left (fun n hn => ?_) ?_
  · obtain ⟨r, er⟩ := row_at (hl n hn)
    walk_at "dm"
    refine fun G => ⟨fun g => ?_, fun G _ g => ?_⟩
    · refine rows_ix hr er (row_3 (isn_end ?_))
      rw [isSome_of er]; exact g
    · refine rows_ix hr er (row_3 ?_)
      rw [endD_of er]; exact g
  · rw [ends_map]
    try walk_at "dm"
    refine ⟨by rw [List.length_map]; exact len_ok (by omega), ?_⟩
    refine comp_pure encN (mayB H left) encN left (fun n hn => ?_) ?_
    · obtain ⟨r, er⟩ := row_at (hl n hn)
      walk_at "dm"
      refine fun G => ⟨fun g => ?_, fun G _ g => g⟩
      refine ⟨by rw [List.length_map]; exact len_ok (by have := ends_len (H := H) (left := left); omega), ?_⟩
      refine comp_pure D.int (fun e => decide (e < r.beg)) D.int (endsOf H left) (fun e he => ?_) ?_
      · walk_at "dm"
        exact fun G => ⟨fun g => rows_ix hr er (row_2 ⟨trivial, g⟩), fun G _ g => g⟩
      · try walk_at "dm"
        refine ⟨okds_ints 59 _, ?_⟩
        rw [deqs_nil]
        have e : ((endsOf H left).filter fun e => decide (e < r.beg)).isEmpty = mayB H left n := by
          unfold mayB
          rw [begOf_row er]
          generalize endsOf H left = l
          induction l with
          | nil => rfl
          | cons x l ih =>
            by_cases c : x < r.beg
            · have : ¬ r.beg ≤ x := by omega
              simp [List.filter_cons, c, this]
            · have : r.beg ≤ x := by omega
              simp [List.filter_cons, c, this] at ih ⊢
              exact ih
        rw [e]
        exact g
    · exact fin_of h
/-! ### like -/
def sp_like : DSp := fun ds S R => ∃ a b : An, ds = [a.enc, b.enc] ∧ R (.bl (decide (a = b))) S
def rd_like : DS :=
 (dRet (dAndV (d2 (rEqG false) (dVar 0) (dVar 1)) (d2 (rEqG false) (dIsi "bool" (dVar 0)) (dIsi "bool" (dVar 1)))))
theorem deqs_intsG : ∀ l m : List Int, deqs (l.map D.int) (m.map D.int) = decide (l = m)
  | [], [] => by simp [dq_n0]
  | [], y :: m => by simp [dq_nc]
  | x :: l, [] => by simp [dq_cn]
  | x :: l, y :: m => by
    rw [List.map_cons, List.map_cons, dq_cc, dq_ii, deqs_intsG l m]
    by_cases h : x = y <;> by_cases h2 : l = m <;> simp [h, h2]
theorem ok_like (ds : List D) (S : Store) (R : DK) (h : sp_like ds S R) : rd_like (ends R) (startD ["one", "other"] ds) S := by
  obtain ⟨a, b, rfl, h⟩ := h
  unfold rd_like
  have no : ∀ (c : Prop) [Decidable c], decide (a = b) = false → (if c then ∃ S'', Sub S'' S ∧ R (.bl false) S'' else ∃ S'', Sub S'' S ∧ R (.bl false) S'') := fun c _ e => by
    rw [e] at h
    split <;> exact fin_of h
  cases a with
  | int i =>
    cases b with
    | int j =>
      unfold An.enc
      walk_at "dl"
      by_cases e : i = j
      · subst e; rw [if_pos rfl]; exact fin_of (by simpa using h)
      · rw [if_neg e]; exact fin_of (by simpa [e] using h)
    | bl j => unfold An.enc; walk_at "dl"; exact no _ (by simp)
    | look j => unfold An.enc; walk_at "dl"; refine ⟨okds_ints 59 _, ?_⟩; rw [if_neg (by simp [deq])]; exact fin_of (by simpa using h)
  | bl i =>
    cases b with
    | int j => unfold An.enc; walk_at "dl"; exact no _ (by simp)
    | bl j =>
      unfold An.enc
      walk_at "dl"
      by_cases e : i = j
      · subst e; rw [if_pos rfl]; exact fin_of (by simpa using h)
      · rw [if_neg e]; exact fin_of (by simpa [e] using h)
    | look j => unfold An.enc; walk_at "dl"; refine ⟨okds_ints 59 _, ?_⟩; rw [if_neg (by simp [deq])]; exact fin_of (by simpa using h)
  | look l =>
    cases b with
    | int j => unfold An.enc; walk_at "dl"; refine ⟨okds_ints 59 _, ?_⟩; rw [if_neg (by simp [deq])]; exact fin_of (by simpa using h)
    | bl j => unfold An.enc; walk_at "dl"; refine ⟨okds_ints 59 _, ?_⟩; rw [if_neg (by simp [deq])]; exact fin_of (by simpa using h)
    | look m =>
      unfold An.enc
      walk_at "dl"
      refine ⟨okds_ints 59 _, okds_ints 59 _, ?_⟩
      rw [deqs_intsG]
      by_cases e : l = m
      · subst e; rw [if_pos (by simp)]; exact fin_of (by simpa using h)
      · rw [if_neg (by simp [e])]; exact fin_of (by simpa [e] using h)
/-! ### dicts -/
theorem valD_put4 {κ : Type} [DecidableEq κ] (kvs : List (κ × D)) (k : κ) (v : D) (k' : κ) : valD (putD kvs k v) k' = if k' = k then some v else valD kvs k' := by
  unfold putD
  by_cases a : (kvs.any fun kv => decide (kv.1 = k)) = true
  · rw [if_pos a]
    induction kvs with
    | nil => simp at a
    | cons p r ih =>
      rw [List.map_cons]
      by_cases e : p.1 = k
      · rw [if_pos e]
        by_cases e2 : k' = k
        · rw [if_pos e2, e2]; unfold valD; simp [List.find?_cons, e]
        · rw [if_neg e2]
          have h1 : valD ((p.1, v) :: List.map (fun kv => if kv.1 = k then (kv.1, v) else kv) r) k' = valD (List.map (fun kv => if kv.1 = k then (kv.1, v) else kv) r) k' := by
            unfold valD; rw [List.find?_cons]; simp [e, Ne.symm e2]
          have h2 : valD (p :: r) k' = valD r k' := by unfold valD; rw [List.find?_cons]; simp [e, Ne.symm e2]
          rw [h1, h2]
          by_cases b : (r.any fun kv => decide (kv.1 = k)) = true
          · rw [ih b, if_neg e2]
          · congr 1
            have : ∀ kv ∈ r, ¬ kv.1 = k := fun kv hk q => b (List.any_eq_true.mpr ⟨kv, hk, by simp [q]⟩)
            exact (List.map_congr_left fun kv hk => if_neg (this kv hk)).trans (List.map_id _)
      · rw [if_neg e]
        have b : (r.any fun kv => decide (kv.1 = k)) = true := by simpa [e] using a
        by_cases e2 : p.1 = k'
        · have : k' ≠ k := fun q => e (e2.trans q)
          rw [if_neg this]; unfold valD; simp [List.find?_cons, e2]
        · have h1 : ∀ l : List (κ × D), valD (p :: l) k' = valD l k' := fun l => by unfold valD; rw [List.find?_cons]; simp [e2]
          rw [h1, h1, ih b]
  · rw [if_neg a]
    have a' : ∀ kv ∈ kvs, ¬ kv.1 = k := fun kv hk q => a (List.any_eq_true.mpr ⟨kv, hk, by simp [q]⟩)
    clear a
    induction kvs with
    | nil =>
      rw [List.nil_append]
      by_cases e2 : k' = k
      · rw [if_pos e2, e2]; exact valD_hit
      · rw [if_neg e2]; unfold valD; simp [Ne.symm e2]
    | cons p r ih =>
      rw [List.cons_append]
      have ih := ih fun kv hk => a' kv (List.mem_cons_of_mem _ hk)
      by_cases e2 : p.1 = k'
      · have : k' ≠ k := fun q => a' p List.mem_cons_self (e2.trans q)
        rw [if_neg this]; unfold valD; simp [List.find?_cons, e2]
      · have h1 : ∀ l : List (κ × D), valD (p :: l) k' = valD l k' := fun l => by unfold valD; rw [List.find?_cons]; simp [e2]
        rw [h1, h1, ih]
theorem putD_len {κ : Type} [DecidableEq κ] (kvs : List (κ × D)) (k : κ) (v : D) : (putD kvs k v).length ≤ kvs.length + 1 := by
  unfold putD
  split <;> simp
end Dl.D4

set_option Elab.async false
set_option linter.all false
set_option maxRecDepth 100000
namespace Dl.D4
open PySem PySem.Spec PyProof.Rows L2 LamX Dl
local macro_rules | `(tactic| walk_at "dl") => `(tactic| simp (config := { maxSteps := 1000000 }) only [dSeq, dIfS, dRet, dRetN, dSet, dNext, dDrop, dVar, dC, d2, dTest, dAnd, dOr, dNot, dAndV, dOrV, dNotV, dIf, dChain, dChain3, dCall, dCons, dNil, dTup, dLst, dLstR, dAsg, Tg.d, sets, dFor, dYes, dNever, dBrk, dCnt,
  dSortKey, dLc, dLcR, dComp, wipeD, itemsI, rangeI1, enumI, dCB, rLenD, rIntD, rAbsD, rM2D, rTupD, rTupPD, rAllD, dIsi, tyD, rIxD, rItem, dSl, dPart, dNoPart, rSlD, rII, rAddD, rMulD, rMulDR, rEqG, rIsN, rInD, dNeg, dGet2, rAddXD, rListD, rListRD, dPar, dNewK, dNewT, dAsgNS, dMemo0, itR, dForR, dLcX, dLcXR, dCompR, dTupRg, dLstRg, dLstRgR, dInRg, dMemoSet, dDisp, dPairs, keyPairs, keyOf, dML, dSetIx,
  atI0, atI1, atI2, atI3, atI4, atI5, atIm2, atIm3, atIm4, deref_non, deref_bl, deref_int, deref_str, deref_tp, deref_ptp, deref_lst, items_tup, items_ptp, items_lst, dq_ii, dq_bb, dq_ss, dq_tt, dq_tp, dq_pt, dq_pp, dq_ll, dq_n0, dq_nc, dq_cn, dq_cc, ok_non, ok_bl, ok_int, ok_str, ok_tp, ok_pp, ok_ls, ok_n0, ok_cc, flat, List.all_cons, List.all_nil, List.any_cons, List.any_nil,
  startD, List.map_cons, List.map_nil, List.length_cons, List.length_nil, List.replicate_succ, List.replicate_zero, List.cons_append, List.nil_append, List.set_cons_zero, List.set_cons_succ, List.getElem?_cons_zero, List.getElem?_cons_succ, Nat.reduceAdd, Nat.reduceSub, Nat.reduceLeDiff, Nat.reduceMul,
  Bool.and_true, Bool.true_and, Bool.and_false, Bool.false_and, Bool.or_true, Bool.true_or, Bool.or_false, Bool.false_or, Bool.not_true, Bool.not_false, decide_eq_true_eq, ↓reduceIte, true_and, and_true, Bool.false_eq_true, Bool.not_eq_true', Bool.not_not, beq_self_eq_true, and_self, ne_eq, reduceCtorEq, not_false_eq_true, not_true_eq_false, Int.reduceBEq, beq_iff_eq, beq_eq_false_iff_ne, decide_eq_false_iff_not, Int.reduceLT, Int.reduceLE, Int.reduceNeg, Int.reduceAdd, Int.reduceEq, Int.reduceToNat,  kb_NoneType_bool, kb_NoneType_int, kb_NoneType_str, kb_NoneType_tuple, kb_NoneType_list, kb_bool_bool, kb_bool_int, kb_bool_str, kb_bool_tuple, kb_bool_list, kb_int_bool, kb_int_int, kb_int_str, kb_int_tuple, kb_int_list, kb_str_bool, kb_str_int, kb_str_str, kb_str_tuple, kb_str_list, kb_tuple_bool, kb_tuple_int, kb_tuple_str, kb_tuple_tuple, kb_tuple_list, kb_list_bool, kb_list_int, kb_list_str, kb_list_tuple, kb_list_list, sq_k_e, sq_kw_e, sq_kww_e, sk_k, sk_kw, sk_kww, sl_k, sl_kw, sl_kww, sk_e, cut_2_2_None, ncut_2_2_None, cut_2_None_1, ncut_2_None_1, cut_3_2_None, ncut_3_2_None, cut_3_None_1, ncut_3_None_1, cut_3_3_None, ncut_3_3_None, cut_4_2_None, ncut_4_2_None, cut_4_None_1, ncut_4_None_1, cut_4_None_3, ncut_4_None_3, cut_4_3_None, ncut_4_3_None, cut_5_2_None, ncut_5_2_None, cut_5_None_1, ncut_5_None_1, cut_5_None_3, ncut_5_None_3, cut_5_3_None, ncut_5_3_None, cut_6_2_None, ncut_6_2_None, cut_6_None_1, ncut_6_None_1, cut_6_None_3, ncut_6_None_3, cut_6_None_5, ncut_6_None_5, cut_6_3_None, ncut_6_3_None, sq_get_put, sq_get_add, sq_get_swap, sq_get_look, sq_get_split, sq_get_join, sq_put_get, sq_put_add, sq_put_swap, sq_put_look, sq_put_split, sq_put_join, sq_add_get, sq_add_put, sq_add_swap, sq_add_look, sq_add_split, sq_add_join, sq_swap_get, sq_swap_put, sq_swap_add, sq_swap_look, sq_swap_split, sq_swap_join, sq_look_get, sq_look_put, sq_look_add, sq_look_swap, sq_look_split, sq_look_join, sq_split_get, sq_split_put, sq_split_add, sq_split_swap, sq_split_look, sq_split_join, sq_join_get, sq_join_put, sq_join_add, sq_join_swap, sq_join_look, sq_join_split, ls0, ls1, ls2, ls3, ls4, ls5, ls6, ls7, ls8, ls9, ls10, nc0, nc1, nc2, nc3, nc4, nc5, nc6, nc7, nc8, nc9, nc10, sk_get, sk_put, sk_add, sk_swap, sk_look, sk_split, sk_join])


local macro_rules | `(tactic| walk_at "dm") => `(tactic| simp (config := { maxSteps := 1000000 }) only [dSeq, dIfS, dRet, dRetN, dSet, dNext, dDrop, dVar, dC, d2, dTest, dAnd, dOr, dNot, dAndV, dOrV, dNotV, dIf, dChain, dChain3, dCall, dCons, dNil, dTup, dLst, dLstR, dAsg, Tg.d, sets, dFor, dYes, dNever, dBrk, dCnt,
  dSortKey, dLc, dLcR, dComp, wipeD, itemsI, rangeI1, enumI, dCB, rLenD, rIntD, rAbsD, rM2D, rTupD, rTupPD, rAllD, dIsi, tyD, rItem, dSl, dPart, dNoPart, rSlD, rII, rAddD, rMulD, rMulDR, rEqG, rInD, dNeg, dGet2, rAddXD, rListD, rListRD, dPar, dNewK, dNewT, dAsgNS, dMemo0, itR, dForR, dLcX, dLcXR, dCompR, dTupRg, dLstRg, dLstRgR, dInRg, dMemoSet, dDisp, dPairs, keyPairs, keyOf, dML, dSetIx,
  atI0, atI1, atI2, atI3, atI4, atI5, atIm2, atIm3, atIm4, deref_non, deref_bl, deref_int, deref_str, deref_tp, deref_ptp, deref_lst, items_tup, items_ptp, items_lst, dq_ii, dq_bb, dq_ss, dq_tt, dq_tp, dq_pt, dq_pp, dq_ll, dq_n0, dq_nc, dq_cn, dq_cc, ok_non, ok_bl, ok_int, ok_str, ok_tp, ok_pp, ok_ls, ok_n0, ok_cc, flat, List.all_cons, List.all_nil, List.any_cons, List.any_nil,
  startD, List.map_cons, List.map_nil, List.length_cons, List.length_nil, List.replicate_succ, List.replicate_zero, List.cons_append, List.nil_append, List.set_cons_zero, List.set_cons_succ, List.getElem?_cons_zero, List.getElem?_cons_succ, Nat.reduceAdd, Nat.reduceSub, Nat.reduceLeDiff, Nat.reduceMul,
  Bool.and_true, Bool.true_and, Bool.and_false, Bool.false_and, Bool.or_true, Bool.true_or, Bool.or_false, Bool.false_or, Bool.not_true, Bool.not_false, decide_eq_true_eq, ↓reduceIte, true_and, and_true, Bool.false_eq_true, Bool.not_eq_true', Bool.not_not, beq_self_eq_true, and_self, ne_eq, reduceCtorEq, not_false_eq_true, not_true_eq_false, Int.reduceBEq, beq_iff_eq, beq_eq_false_iff_ne, decide_eq_false_iff_not, Int.reduceLT, Int.reduceLE, Int.reduceNeg, Int.reduceAdd, Int.reduceEq, Int.reduceToNat,  kb_NoneType_bool, kb_NoneType_int, kb_NoneType_str, kb_NoneType_tuple, kb_NoneType_list, kb_bool_bool, kb_bool_int, kb_bool_str, kb_bool_tuple, kb_bool_list, kb_int_bool, kb_int_int, kb_int_str, kb_int_tuple, kb_int_list, kb_str_bool, kb_str_int, kb_str_str, kb_str_tuple, kb_str_list, kb_tuple_bool, kb_tuple_int, kb_tuple_str, kb_tuple_tuple, kb_tuple_list, kb_list_bool, kb_list_int, kb_list_str, kb_list_tuple, kb_list_list, sq_k_e, sq_kw_e, sq_kww_e, sk_k, sk_kw, sk_kww, sl_k, sl_kw, sl_kww, sk_e, cut_2_2_None, ncut_2_2_None, cut_2_None_1, ncut_2_None_1, cut_3_2_None, ncut_3_2_None, cut_3_None_1, ncut_3_None_1, cut_3_3_None, ncut_3_3_None, cut_4_2_None, ncut_4_2_None, cut_4_None_1, ncut_4_None_1, cut_4_None_3, ncut_4_None_3, cut_4_3_None, ncut_4_3_None, cut_5_2_None, ncut_5_2_None, cut_5_None_1, ncut_5_None_1, cut_5_None_3, ncut_5_None_3, cut_5_3_None, ncut_5_3_None, cut_6_2_None, ncut_6_2_None, cut_6_None_1, ncut_6_None_1, cut_6_None_3, ncut_6_None_3, cut_6_None_5, ncut_6_None_5, cut_6_3_None, ncut_6_3_None, sq_get_put, sq_get_add, sq_get_swap, sq_get_look, sq_get_split, sq_get_join, sq_put_get, sq_put_add, sq_put_swap, sq_put_look, sq_put_split, sq_put_join, sq_add_get, sq_add_put, sq_add_swap, sq_add_look, sq_add_split, sq_add_join, sq_swap_get, sq_swap_put, sq_swap_add, sq_swap_look, sq_swap_split, sq_swap_join, sq_look_get, sq_look_put, sq_look_add, sq_look_swap, sq_look_split, sq_look_join, sq_split_get, sq_split_put, sq_split_add, sq_split_swap, sq_split_look, sq_split_join, sq_join_get, sq_join_put, sq_join_add, sq_join_swap, sq_join_look, sq_join_split, ls0, ls1, ls2, ls3, ls4, ls5, ls6, ls7, ls8, ls9, ls10, nc0, nc1, nc2, nc3, nc4, nc5, nc6, nc7, nc8, nc9, nc10, sk_get, sk_put, sk_add, sk_swap, sk_look, sk_split, sk_join])


/-! ### need_history, that may refuse -/
/-- the last row of an asker -/
def lastR (H : List Row) (a : Int) : Option Row := H.reverse.find? fun q => decide (q.asker = a)
theorem lastR_app (H : List Row) (r : Row) (a : Int) : lastR (H ++ [r]) a = if a = r.asker then some r else lastR H a := by
  unfold lastR
  rw [List.reverse_append, List.reverse_singleton, List.singleton_append, List.find?_cons]
  by_cases h : r.asker = a
  · rw [if_pos h.symm, decide_eq_true h]
  · rw [if_neg (Ne.symm h), decide_eq_false h]
theorem lastR_mem {H : List Row} {a : Int} {q : Row} (h : lastR H a = some q) : q ∈ H ∧ q.asker = a := by
  unfold lastR at h
  exact ⟨List.mem_reverse.mp (List.mem_of_find?_eq_some h), by simpa using List.find?_some h⟩
def Clash (H : List Row) (r : Row) : Prop := ∃ q, lastR H r.asker = some q ∧ (q.fin = none ∨ ∃ p, q.fin = some p ∧ r.beg ≤ p.1)
/-- what cannot stand behind H -/
def BadNext (H : List Row) (d : D) : Prop := H.length = 12 ∨ NoRow d ∨ ∃ r : Row, d = r.enc ∧ RowOk r ∧ Clash H r
def spy_need_history : DSy := fun ds S R RE => ∃ (H : List Row) (rest : List D), ds = [.lst (H.map Row.enc ++ rest)] ∧ HistOk H ∧ ((rest = [] ∧ R .non S) ∨ ∃ bad more, rest = bad :: more ∧ BadNext H bad ∧ RE "BadHistory" [.int (H.length : Int)] S)
def rd_need_history_1 : DS :=
 (dPut (d2 rIxD (dVar 3) (dC (.int 3))) (dVar 1) (d2 rIxD (dVar 3) (dC (.int 0))))
def rd_need_history_2 : DS :=
 (dSeq (dIfS (dAnd (dTest (d2 (rInKD false) (d2 rIxD (dVar 3) (dC (.int 0))) (dVar 1))) (dOr (dTest (d2 (rIsN false) (d2 rIxD (dVar 1) (d2 rIxD (dVar 3) (dC (.int 0)))) (dC .non))) (dTest (d2 rGeD (d2 rIxD (dVar 1) (d2 rIxD (dVar 3) (dC (.int 0)))) (d2 rIxD (dVar 3) (dC (.int 2)))))))
 (dRaiseP "BadHistory" (dVar 2))
 dNext)
 rd_need_history_1)
def rd_need_history_3 : DS :=
 (dFor (enumI (dCons (dVar 0) dNil)) (.tp [2, 3])
 (dSeq (dIfS (dOr (dTest (d2 rGeD (dVar 2) (dC (.int 12)))) (dNot (dTest (dCall sp_is_row (dCons (dVar 3) dNil)))))
 (dRaiseP "BadHistory" (dVar 2))
 dNext)
 rd_need_history_2))
def rd_need_history : DS :=
 (dSeq (dSet 1 dNewK)
 rd_need_history_3)
theorem steps_mid {seen rows : List Row} {r : Row} (h : Steps (seen ++ r :: rows)) : ∀ q ∈ seen, q.asker = r.asker → ∃ p, q.fin = some p ∧ p.1 < r.beg := fun q hq e => (List.pairwise_append.mp h).2.2 q hq r List.mem_cons_self e
theorem oky_need_history (ds : List D) (S : Store) (R : DK) (RE : Str → List D → Store → Prop) (h : spy_need_history ds S R RE) : rd_need_history (endsy R RE) (startD ["rows", "ends", "number", "row"] ds) S := by
  obtain ⟨H, rest, rfl, ok, h⟩ := h
  generalize hX : H.map Row.enc ++ rest = X
  unfold rd_need_history
  walk_at "dm"
  intro p hp
  unfold rd_need_history_3
  walk_at "dm"
  refine loop_ind (fun rst τ S' => ∃ (seen rows : List Row) (kvs : List (L2.Key × D)) (j2 j3 : Option D), H = seen ++ rows ∧ rst = pairsFrom seen.length (rows.map Row.enc ++ rest) ∧ τ = [some (.lst X), some (.ref p), j2, j3] ∧ Sub S S' ∧ S' p = some (.dK kvs) ∧ kvs.length ≤ seen.length ∧ (∀ a, valD kvs (.inl a) = (lastR seen a).map Row.endD)) ?_ ?_ _ _ _ ⟨[], H, [], none, none, rfl, by rw [← hX]; rfl, rfl, sub_ups hp, ups_same, Nat.le_refl _, fun a => rfl⟩
  · rintro τ S' ⟨seen, rows, kvs, j2, j3, eH, er, rfl, sb, kp, kl, kv⟩
    have e0 : rows.map Row.enc ++ rest = [] := by
      cases e : rows.map Row.enc ++ rest with
      | nil => rfl
      | cons a l => rw [e, pairsFrom] at er; cases er
    rcases h with ⟨_, h⟩ | ⟨bad, more, e, _⟩
    · exact ⟨S, sb, h⟩
    · rw [e] at e0
      exact absurd e0 (by simp)
  · rintro d rst τ S' N ⟨seen, rows, kvs, j2, j3, eH, er, rfl, sb, kp, kl, kv⟩ next
    cases rows with
    | nil =>
      rw [List.append_nil] at eH
      subst eH
      rcases h with ⟨e, _⟩ | ⟨bad, more, e, bn, h⟩
      · rw [e, List.map_nil, List.nil_append, pairsFrom] at er; cases er
      · rw [e, List.map_nil, List.nil_append, pairsFrom] at er
        injection er with e1 e2
        subst e1
        have fin : ∃ S'', Sub S'' S' ∧ RE "BadHistory" [.int (H.length : Int)] S'' := ⟨S, sb, h⟩
        have len := ok.len
        walk_at "dm"
        rcases bn with h12 | nr | ⟨r, rfl, rok, q, hq, cl⟩
        · rw [if_pos (by omega)]
          simp only [dRaiseP, dVar]
          walk_at "dm"
          exact fin
        · by_cases h12 : H.length = 12
          · rw [if_pos (by omega)]
            simp only [dRaiseP, dVar]
            walk_at "dm"
            exact fin
          · rw [if_neg (by omega)]
            refine .inr ⟨bad, rfl, nr, ?_⟩
            simp only [↓reduceIte, dRaiseP, dVar]
            walk_at "dm"
            exact fin
        · by_cases h12 : H.length = 12
          · rw [if_pos (by omega)]
            simp only [dRaiseP, dVar]
            walk_at "dm"
            exact fin
          · rw [if_neg (by omega)]
            refine .inl ⟨r, rfl, rok, ?_⟩
            simp only [Bool.true_eq_false, ↓reduceIte]
            unfold rd_need_history_2
            walk_at "dm"
            refine row_0 ?_
            have c := kv r.asker
            rw [hq] at c
            have c : valD kvs (.inl r.asker) = some q.endD := c
            simp only [rInKD, kp, keyOf, Bool.false_eq_true, ↓reduceIte, c, Option.isSome_some]
            refine row_0 (ix_rfK kp rfl c ?_)
            rcases cl with cl | ⟨pq, cl, le⟩
            · have en : q.endD = .non := by unfold Row.endD; rw [cl]
              rw [en]
              simp only [rIsN, Bool.false_eq_true, ↓reduceIte, dRaiseP, dVar]
              walk_at "dm"
              exact fin
            · have en : q.endD = .int pq.1 := by unfold Row.endD; rw [cl]
              rw [en] at c ⊢
              simp only [rIsN, Bool.false_eq_true, ↓reduceIte]
              refine row_0 (ix_rfK kp rfl c (row_2 ⟨trivial, ?_⟩))
              show if decide (r.beg ≤ pq.1) = true then _ else _
              rw [if_pos (by simpa using le)]
              simp only [dRaiseP, dVar]
              walk_at "dm"
              exact fin
    | cons r rows =>
      rw [List.map_cons, List.cons_append, pairsFrom] at er
      injection er with e1 e2
      subst e1
      have hn : seen.length < 12 := by have := ok.len; rw [eH, List.length_append, List.length_cons] at this; omega
      have rok : RowOk r := ok.rows r (by rw [eH]; simp)
      have st := steps_mid (eH ▸ ok.steps)
      walk_at "dm"
      rw [if_neg (by omega)]
      refine .inl ⟨r, rfl, rok, ?_⟩
      simp only [Bool.true_eq_false, ↓reduceIte]
      have fin : ∀ E : DEnds, E.nx = N → rd_need_history_1 E [some (.lst X), some (.ref p), some (.int seen.length), some r.enc] S' := by
        intro E hE
        unfold rd_need_history_1
        simp only [dPut, d2, dVar, dC, List.getElem?_cons_zero, List.getElem?_cons_succ]
        refine row_3 (row_0 ?_)
        simp only [keyOf, kp, hE]
        have l0 := kl
        refine ⟨by rw [sizeLine_eq]; omega, next _ _ ⟨seen ++ [r], rows, putD kvs (.inl r.asker) r.endD, _, _, by rw [eH]; simp, by rw [e2]; simp, rfl, fun a o e => ?_, ups_same, ?_, fun a => ?_⟩⟩
        · rw [ups_ne (fun z => by rw [z, hp] at e; cases e)]; exact sb a o e
        · have := putD_len kvs (.inl r.asker) r.endD
          rw [List.length_append]
          simp only [List.length_cons, List.length_nil]
          omega
        · rw [valD_put4, lastR_app]
          by_cases c : a = r.asker
          · rw [if_pos (by rw [c]), if_pos c]; rfl
          · rw [if_neg (fun z => c (Sum.inl.inj z)), if_neg c]; exact kv a
      unfold rd_need_history_2
      walk_at "dm"
      refine row_0 ?_
      simp only [rInKD, kp, keyOf, Bool.false_eq_true, ↓reduceIte]
      cases c : valD kvs (.inl r.asker) with
      | none =>
        rw [if_neg (by simp)]
        exact fin _ rfl
      | some d =>
        rw [if_pos (by simp)]
        have k := kv r.asker
        rw [c] at k
        obtain ⟨q, hq, rfl⟩ := Option.map_eq_some_iff.mp k.symm
        obtain ⟨m, e1⟩ := lastR_mem hq
        obtain ⟨w, ew, lt⟩ := st q m e1
        have en : q.endD = .int w.1 := by unfold Row.endD; rw [ew]
        rw [en] at c
        refine row_0 (ix_rfK kp rfl c ?_)
        simp only [rIsN, Bool.false_eq_true, ↓reduceIte]
        refine row_0 (ix_rfK kp rfl c (row_2 ⟨trivial, ?_⟩))
        show if decide (r.beg ≤ w.1) = true then _ else _
        rw [if_neg (by simp; omega)]
        exact fin _ rfl
end Dl.D4

set_option Elab.async false
set_option linter.all false
set_option maxRecDepth 100000
namespace Dl.D4
open PySem PySem.Spec PyProof.Rows L2 LamX Dl
local macro_rules | `(tactic| walk_at "dm") => `(tactic| simp (config := { maxSteps := 1000000 }) only [dSeq, dIfS, dRet, dRetN, dSet, dNext, dDrop, dVar, dC, d2, dTest, dAnd, dOr, dNot, dAndV, dOrV, dNotV, dIf, dChain, dChain3, dCall, dCons, dNil, dTup, dLst, dLstR, dAsg, Tg.d, sets, dFor, dYes, dNever, dBrk, dCnt,
  dSortKey, dLc, dLcR, dComp, wipeD, itemsI, rangeI1, enumI, dCB, rLenD, rIntD, rAbsD, rM2D, rTupD, rTupPD, rAllD, dIsi, tyD, rItem, dSl, dPart, dNoPart, rSlD, rII, rAddD, rMulD, rMulDR, rEqG, rInD, dNeg, dGet2, rAddXD, rListD, rListRD, dPar, dNewK, dNewT, dAsgNS, dMemo0, itR, dForR, dLcX, dLcXR, dCompR, dTupRg, dLstRg, dLstRgR, dInRg, dMemoSet, dDisp, dPairs, keyPairs, keyOf, dML, dSetIx,
  atI0, atI1, atI2, atI3, atI4, atI5, atIm2, atIm3, atIm4, deref_non, deref_bl, deref_int, deref_str, deref_tp, deref_ptp, deref_lst, items_tup, items_ptp, items_lst, dq_ii, dq_bb, dq_ss, dq_tt, dq_tp, dq_pt, dq_pp, dq_ll, dq_n0, dq_nc, dq_cn, dq_cc, ok_non, ok_bl, ok_int, ok_str, ok_tp, ok_pp, ok_ls, ok_n0, ok_cc, flat, List.all_cons, List.all_nil, List.any_cons, List.any_nil,
  startD, List.map_cons, List.map_nil, List.length_cons, List.length_nil, List.replicate_succ, List.replicate_zero, List.cons_append, List.nil_append, List.set_cons_zero, List.set_cons_succ, List.getElem?_cons_zero, List.getElem?_cons_succ, Nat.reduceAdd, Nat.reduceSub, Nat.reduceLeDiff, Nat.reduceMul,
  Bool.and_true, Bool.true_and, Bool.and_false, Bool.false_and, Bool.or_true, Bool.true_or, Bool.or_false, Bool.false_or, Bool.not_true, Bool.not_false, decide_eq_true_eq, ↓reduceIte, true_and, and_true, Bool.false_eq_true, Bool.not_eq_true', Bool.not_not, beq_self_eq_true, and_self, ne_eq, reduceCtorEq, not_false_eq_true, not_true_eq_false, Int.reduceBEq, beq_iff_eq, beq_eq_false_iff_ne, decide_eq_false_iff_not, Int.reduceLT, Int.reduceLE, Int.reduceNeg, Int.reduceAdd, Int.reduceEq, Int.reduceToNat,  kb_NoneType_bool, kb_NoneType_int, kb_NoneType_str, kb_NoneType_tuple, kb_NoneType_list, kb_bool_bool, kb_bool_int, kb_bool_str, kb_bool_tuple, kb_bool_list, kb_int_bool, kb_int_int, kb_int_str, kb_int_tuple, kb_int_list, kb_str_bool, kb_str_int, kb_str_str, kb_str_tuple, kb_str_list, kb_tuple_bool, kb_tuple_int, kb_tuple_str, kb_tuple_tuple, kb_tuple_list, kb_list_bool, kb_list_int, kb_list_str, kb_list_tuple, kb_list_list, sq_k_e, sq_kw_e, sq_kww_e, sk_k, sk_kw, sk_kww, sl_k, sl_kw, sl_kww, sk_e, cut_2_2_None, ncut_2_2_None, cut_2_None_1, ncut_2_None_1, cut_3_2_None, ncut_3_2_None, cut_3_None_1, ncut_3_None_1, cut_3_3_None, ncut_3_3_None, cut_4_2_None, ncut_4_2_None, cut_4_None_1, ncut_4_None_1, cut_4_None_3, ncut_4_None_3, cut_4_3_None, ncut_4_3_None, cut_5_2_None, ncut_5_2_None, cut_5_None_1, ncut_5_None_1, cut_5_None_3, ncut_5_None_3, cut_5_3_None, ncut_5_3_None, cut_6_2_None, ncut_6_2_None, cut_6_None_1, ncut_6_None_1, cut_6_None_3, ncut_6_None_3, cut_6_None_5, ncut_6_None_5, cut_6_3_None, ncut_6_3_None, sq_get_put, sq_get_add, sq_get_swap, sq_get_look, sq_get_split, sq_get_join, sq_put_get, sq_put_add, sq_put_swap, sq_put_look, sq_put_split, sq_put_join, sq_add_get, sq_add_put, sq_add_swap, sq_add_look, sq_add_split, sq_add_join, sq_swap_get, sq_swap_put, sq_swap_add, sq_swap_look, sq_swap_split, sq_swap_join, sq_look_get, sq_look_put, sq_look_add, sq_look_swap, sq_look_split, sq_look_join, sq_split_get, sq_split_put, sq_split_add, sq_split_swap, sq_split_look, sq_split_join, sq_join_get, sq_join_put, sq_join_add, sq_join_swap, sq_join_look, sq_join_split, ls0, ls1, ls2, ls3, ls4, ls5, ls6, ls7, ls8, ls9, ls10, nc0, nc1, nc2, nc3, nc4, nc5, nc6, nc7, nc8, nc9, nc10, sk_get, sk_put, sk_add, sk_swap, sk_look, sk_split, sk_join])


/-! ### an order, by levels -/
def Fr (S S' : Store) (p : Addr) : Prop := ∀ x o, x ≠ p → S x = some o → S' x = some o
theorem Fr.refl (S : Store) (p : Addr) : Fr S S p := fun _ _ _ h => h
theorem Fr.trans {S S1 S2 : Store} {p : Addr} (a : Fr S S1 p) (b : Fr S1 S2 p) : Fr S S2 p := fun x o n h => b x o n (a x o n h)
theorem Fr.new {S S' : Store} {p q : Addr} {o : MO} (a : Fr S S' p) (h : S' q = none) : Fr S (ups S' q o) p := fun x u n e => by
  have e' := a x u n e
  rw [ups_ne (fun z => by rw [z, h] at e'; cases e')]; exact e'
theorem Fr.set {S S' : Store} {p : Addr} {o : MO} (a : Fr S S' p) : Fr S (ups S' p o) p := fun x u n e => by
  rw [ups_ne n]; exact a x u n e
structure Ord (S : Store) (d : D) (H : List Row) (left : List Nat) (ws : Ws) (p : Addr) (ks : List Kt) : Prop where
  rows : RowsAt S d H
  rok : ∀ r ∈ H, RowOk r
  nd : left.Nodup
  lt : ∀ n ∈ left, n < H.length
  wk : WsOk ws
  wl : ws.length + left.length ≤ 60
  mem : S p = some (.memo ks)
  dead : DeadOk H ks
theorem RowsAt.fr {S S' : Store} {d : D} {H : List Row} {p : Addr} {ks : List Kt} (h : RowsAt S d H) (hp : S p = some (.memo ks)) (f : Fr S S' p) : RowsAt S' d H := by
  unfold RowsAt at h ⊢
  rcases deref_cases S d with e | ⟨a, es, rfl, e1, e2⟩
  · rw [e] at h; rw [h]; rfl
  · rw [e2] at h
    have : a ≠ p := fun z => by rw [z, hp] at e1; cases e1
    rw [deref_rf (f a _ this e1)]
    exact h
abbrev less (left : List Nat) (m : Nat) : List Nat := left.filter (· != m)
theorem less_len {left : List Nat} {m : Nat} (h : m ∈ left) : (less left m).length < left.length := by
  unfold less
  induction left with
  | nil => cases h
  | cons a l ih =>
    by_cases e : a = m
    · rw [List.filter_cons_of_neg (by simp [e]), List.length_cons]
      have := List.length_filter_le (· != m) l
      omega
    · rw [List.filter_cons_of_pos (by simp [e]), List.length_cons, List.length_cons]
      have := ih ((List.mem_cons.mp h).resolve_left (Ne.symm e))
      omega
theorem Fit.len {H : List Row} {left : List Nat} {ws : Ws} {o : List Nat} (h : Fit H left ws o) : o.length ≤ left.length := by
  induction h with
  | nil _ => exact Nat.zero_le _
  | cons _ hm _ _ _ _ ih =>
    have := less_len hm
    unfold less at this
    rw [List.length_cons]
    omega
theorem okds_nats (n : Nat) : ∀ l : List Nat, okds n (l.map encN) = true
  | [] => by simp only [List.map_nil, okds]
  | a :: r => by simp only [List.map_cons, okds, okd, okds_nats n r, Bool.and_self]
def sp_order_of (n : Nat) : DSp := fun ds S R => ∃ (d : D) (H : List Row) (left : List Nat) (ws : Ws) (p : Addr) (ks : List Kt), ds = [d, .tup (left.map encN), .ptp (ws.map encP), .ref p] ∧ Ord S d H left ws p ks ∧ left.length ≤ n ∧ ks.length + cnt H n left < 16000000 ∧
  ∀ S' ks', Fr S S' p → S' p = some (.memo ks') → DeadOk H ks' → ks'.length ≤ ks.length + cnt H n left →
    (NoFit H left ws → R .non S') ∧ ∀ o q, S q = none → S' q = some (.lst (o.map encN)) → Fit H left ws o → R (.ref q) S'
def rd_order_of_1 (n : Nat) : DS :=
 (dIfS (dTest (d2 (rIsN true) (dVar 9) (dC .non)))
 (dRet (d2 rCatRD (dLst (dCons (dVar 4) dNil)) (dVar 9)))
 dNext)
def rd_order_of_2 (n : Nat) : DS :=
 (dSeq (dSet 9 (dCall (sp_order_of n) (dCons (dVar 0) (dCons (dVar 7) (dCons (dVar 6) (dCons (dVar 3) dNil))))))
 (rd_order_of_1 n))
def rd_order_of_3 (n : Nat) : DS :=
 (dIfS (dOr (dTest (d2 (rIsN false) (d2 rIxD (d2 rIxD (dVar 0) (dVar 4)) (dC (.int 3))) (dC .non))) (dTest (dCall sp_like (dCons (d2 rIxD (d2 rIxD (dVar 0) (dVar 4)) (dC (.int 4))) (dCons (dVar 5) dNil)))))
 (dSeq (dSet 7 (dCB rTupD (dCons (dLc (itemsI (dVar 1)) (.nm 8) (dTest (d2 (rEqG true) (dVar 8) (dVar 4))) (dVar 8) [8]) dNil)))
 (rd_order_of_2 n))
 dNext)
def rd_order_of_4 (n : Nat) : DS :=
 (dRet (dC .non))
def rd_order_of_5 (n : Nat) : DS :=
 (dSeq (dMemoSet (dC (.bl true)) (dVar 3) (dTup (dCons (dVar 1) (dCons (dVar 2) dNil))))
 (rd_order_of_4 n))
def rd_order_of_6 (n : Nat) : DS :=
 (dSeq (dFor (itemsI (dCall sp_may_be_next (dCons (dVar 0) (dCons (dVar 1) dNil)))) (.nm 4)
 (dSeq (dAsg (dCall sp_done (dCons (dVar 2) (dCons (d2 rIxD (d2 rIxD (dVar 0) (dVar 4)) (dC (.int 1))) dNil))) (.tp [5, 6]))
 (rd_order_of_3 n)))
 (rd_order_of_5 n))
def rd_order_of_7 (n : Nat) : DS :=
 (dSeq (dIfS (dTest (d2 (rMemoInD false) (dTup (dCons (dVar 1) (dCons (dVar 2) dNil))) (dVar 3)))
 (dRet (dC .non))
 dNext)
 (rd_order_of_6 n))
def rd_order_of (n : Nat) : DS :=
 (dSeq (dIfS (dTest (d2 (rEqG false) (dLc (itemsI (dVar 1)) (.nm 4) (dTest (d2 (rIsN true) (d2 rIxD (d2 rIxD (dVar 0) (dVar 4)) (dC (.int 3))) (dC .non))) (dVar 4) [4]) (dLst dNil)))
 (dRet (dLstR dNil))
 dNext)
 (rd_order_of_7 n))
def rd_order_of0 : DS :=
 (dSeq (dIfS (dTest (d2 (rEqG false) (dLc (itemsI (dVar 1)) (.nm 4) (dTest (d2 (rIsN true) (d2 rIxD (d2 rIxD (dVar 0) (dVar 4)) (dC (.int 3))) (dC .non))) (dVar 4) [4]) (dLst dNil)))
 (dRet (dLstR dNil))
 dNext)
 dNever)
theorem ends_nil {H : List Row} {left : List Nat} : (left.filter fun n => (endOf H n).isSome).isEmpty = true ↔ endsOf H left = [] := by
  unfold endsOf
  rw [List.isEmpty_iff, List.filter_eq_nil_iff, List.filterMap_eq_nil_iff]
  constructor
  · intro h n hn
    have := h n hn
    cases e : endOf H n with
    | none => rfl
    | some x => rw [e] at this; exact absurd rfl this
  · intro h n hn
    rw [h n hn]
    simp
theorem first_test {S : Store} {d : D} {H : List Row} {left : List Nat} (hr : RowsAt S d H) (hl : ∀ n ∈ left, n < H.length) (h60 : left.length ≤ 60) {τ : DSt} (h0 : τ[0]? = some (some d)) (n4 : 4 < τ.length) (Q : List D → Store → Prop) (q : Q ((left.filter fun n => (endOf H n).isSome).map encN) S) :
    compD (.nm 4) (dTest (d2 (rIsN true) (d2 rIxD (d2 rIxD (dVar 0) (dVar 4)) (dC (.int 3))) (dC .non))) (dVar 4) τ (left.map encN) [] S Q := by
  refine comp_pure encN (fun n => (endOf H n).isSome) encN left (fun n hn => ?_) q
  obtain ⟨r, er⟩ := row_at (hl n hn)
  have g0 : (τ.set 4 (some (encN n)))[0]? = some (some d) := by rw [List.getElem?_set_ne (by decide)]; exact h0
  have g4 : (τ.set 4 (some (encN n)))[4]? = some (some (encN n)) := List.getElem?_set_self n4
  show ∀ G : Bool → Store → Prop, _
  simp only [dTest, d2, dVar, dC, g0, g4]
  refine fun G => ⟨fun g => ?_, fun G _ g => g⟩
  refine rows_ix hr er (row_3 (isn_end ?_))
  rw [isSome_of er]
  exact g
theorem ok_order_of0 (ds : List D) (S : Store) (R : DK) (h : sp_order_of 0 ds S R) : rd_order_of0 (ends R) (startD ["rows", "left", "worths", "dead", "number", "answer", "behind", "rest", "one", "order"] ds) S := by
  obtain ⟨d, H, left, ws, p, ks, rfl, od, hl, hc, h⟩ := h
  have e : left = [] := List.length_eq_zero_iff.mp (by omega)
  subst e
  unfold rd_order_of0
  walk_at "dm"
  simp only [compD]
  walk_at "dm"
  intro q hq
  exact fin_of ((h _ ks ((Fr.refl S p).new hq) (by rw [ups_ne (fun z => by rw [← z, od.mem] at hq; cases hq)]; exact od.mem) od.dead (by omega)).2 [] q hq ups_same (.nil rfl))
theorem sum_part {α : Type} (f : α → Nat) {l a b : List α} {x : α} (e : l = a ++ x :: b) : (a.map f).sum + f x ≤ (l.map f).sum := by
  rw [e, List.map_append, List.sum_append, List.map_cons, List.sum_cons]
  omega
theorem sum_le {α : Type} (f : α → Nat) {l a b : List α} (e : l = a ++ b) : (a.map f).sum ≤ (l.map f).sum := by
  rw [e, List.map_append, List.sum_append]
  omega
/-- the loop's state -/
structure Lp (S S' : Store) (d : D) (H : List Row) (left : List Nat) (ws : Ws) (p : Addr) (ks : List Kt) (n : Nat) (dn : List Nat) (ks' : List Kt) : Prop where
  fr : Fr S S' p
  mem : S' p = some (.memo ks')
  dead : DeadOk H ks'
  len : ks'.length ≤ ks.length + (dn.map fun m => cnt H n (left.filter (· != m))).sum
  no : ∀ m ∈ dn, ∀ r, H[m]? = some r → fitsRow r ws → NoFit H (left.filter (· != m)) (r.deed.next ws)
theorem ok_order_of (n : Nat) (ds : List D) (S : Store) (R : DK) (h : sp_order_of (n + 1) ds S R) : rd_order_of n (ends R) (startD ["rows", "left", "worths", "dead", "number", "answer", "behind", "rest", "one", "order"] ds) S := by
  obtain ⟨d, H, left, ws, p, ks, rfl, od, hl, hc, h⟩ := h
  unfold rd_order_of
  walk_at "dm"
  refine ⟨by rw [List.length_map]; exact len_ok (by have := od.wl; omega), first_test od.rows od.lt (by have := od.wl; omega) rfl (by simp) _ ?_⟩
  try walk_at "dm"
  refine ⟨okds_nats _ _, ?_⟩
  rw [deqs_nil]
  by_cases e0 : endsOf H left = []
  · rw [if_pos (ends_nil.mpr e0)]
    intro q hq
    exact fin_of ((h _ ks ((Fr.refl S p).new hq) (by rw [ups_ne (fun z => by rw [← z, od.mem] at hq; cases hq)]; exact od.mem) od.dead (by omega)).2 [] q hq ups_same (.nil e0))
  rw [if_neg (fun z => e0 (ends_nil.mp z))]
  unfold rd_order_of_7
  walk_at "dm"
  simp only [rMemoInD, od.mem, kt_state]
  refine ⟨(dp_state _ _).1, (dp_state _ _).2, ?_⟩
  by_cases e1 : ktS left ws ∈ ks
  · rw [if_pos (by simpa using e1)]
    exact fin_of ((h S ks (.refl S p) od.mem od.dead (by omega)).1 (od.dead _ _ e1))
  rw [if_neg (by simpa using e1)]
  unfold rd_order_of_6
  walk_at "dm"
  refine ⟨d, H, left, rfl, od.rows, od.lt, by have := od.wl; omega, ?_⟩
  try walk_at "dm"
  refine loop_ind (fun rest τ S' => ∃ (dn todo : List Nat) (ks' : List Kt) (j4 j5 j6 j7 j8 j9 : Option D), left.filter (mayB H left) = dn ++ todo ∧ rest = todo.map encN ∧ τ = [some d, some (.tup (left.map encN)), some (.ptp (ws.map encP)), some (.ref p), j4, j5, j6, j7, j8, j9] ∧ Lp S S' d H left ws p ks n dn ks') ?_ ?_ _ _ _ ⟨[], _, ks, _, _, _, _, _, _, rfl, rfl, rfl, ⟨.refl S p, od.mem, od.dead, by simp, fun m hm => by cases hm⟩⟩
  · rintro τ S' ⟨dn, todo, ks', j4, j5, j6, j7, j8, j9, ef, er, rfl, lp⟩
    have et : todo = [] := List.map_eq_nil_iff.mp er.symm
    subst et
    rw [List.append_nil] at ef
    have l1 := lp.len
    have hn : cnt H (n + 1) left = 1 + (dn.map fun m => cnt H n (left.filter (· != m))).sum := by rw [cnt, ef]
    have nf : NoFit H left ws := by
      intro o f
      cases f with
      | nil e => exact e0 e
      | cons _ hm er hb hf hr => exact lp.no _ (by rw [← ef]; exact List.mem_filter.mpr ⟨hm, hb⟩) _ er hf _ hr
    dsimp only
    unfold rd_order_of_5
    walk_at "dm"
    simp only [lp.mem, kt_state]
    refine ⟨(dp_state _ _).1, (dp_state _ _).2, by rw [sizeLine_eq]; omega, ?_⟩
    unfold rd_order_of_4
    walk_at "dm"
    refine fin_of ((h _ _ lp.fr.set ups_same (fun l w hw => ?_) ?_).1 nf)
    · split at hw
      · exact lp.dead l w hw
      · rcases List.mem_append.mp hw with hw | hw
        · exact lp.dead l w hw
        · obtain ⟨rfl, rfl⟩ := ktS_inj (List.mem_singleton.mp hw)
          exact nf
    · split
      · omega
      · rw [List.length_append]
        simp only [List.length_cons, List.length_nil]
        omega
  · rintro x rest τ S' N ⟨dn, todo, ks', j4, j5, j6, j7, j8, j9, ef, er, rfl, lp⟩ next
    cases todo with
    | nil => cases er
    | cons m todo =>
    rw [List.map_cons] at er
    injection er with e1 e2
    subst e1
    subst e2
    have mf : m ∈ left.filter (mayB H left) := by rw [ef]; simp
    obtain ⟨hm, hb⟩ := List.mem_filter.mp mf
    obtain ⟨r, hr⟩ := row_at (od.lt m hm)
    have rk := od.rok r (List.mem_of_getElem? hr)
    have rows' := od.rows.fr od.mem lp.fr
    have hnl := less_len hm
    have l1 := lp.len
    have hn : cnt H (n + 1) left = 1 + ((left.filter (mayB H left)).map fun m => cnt H n (left.filter (· != m))).sum := by rw [cnt]
    have hsum := sum_part (fun m => cnt H n (left.filter (· != m))) ef
    have wl := od.wl
    -- on to the next
    have go : ∀ (S2 : Store) (ks2 : List Kt) (j5 j6 j7 j8 j9 : Option D), Fr S' S2 p → S2 p = some (.memo ks2) → DeadOk H ks2 → ks2.length ≤ ks'.length + cnt H n (left.filter (· != m)) → (fitsRow r ws → NoFit H (left.filter (· != m)) (r.deed.next ws)) →
        N [some d, some (.tup (left.map encN)), some (.ptp (ws.map encP)), some (.ref p), some (encN m), j5, j6, j7, j8, j9] S2 := by
      intro S2 ks2 j5 j6 j7 j8 j9 f2 m2 d2 l2 no
      refine next _ _ ⟨dn ++ [m], todo, ks2, _, _, _, _, _, _, by rw [ef]; simp, rfl, rfl, ⟨lp.fr.trans f2, m2, d2, ?_, fun k hk q hq => ?_⟩⟩
      · rw [List.map_append, List.sum_append]
        simp only [List.map_cons, List.map_nil, List.sum_cons, List.sum_nil]
        omega
      · rcases List.mem_append.mp hk with hk | hk
        · exact lp.no k hk q hq
        · have e := List.mem_singleton.mp hk
          subst e
          rw [hr] at hq
          cases hq
          exact no
    walk_at "dm"
    refine rows_ix rows' hr (row_1 ?_)
    refine ⟨ws, r.deed, rfl, od.wk, by omega, rk.dk, ?_⟩
    try walk_at "dm"
    -- what fits is tried
    have fits : fitsRow r ws → ∀ j7 j8 j9, dSeq (dSet 7 (dCB rTupD (dCons (dLc (itemsI (dVar 1)) (.nm 8) (dTest (d2 (rEqG true) (dVar 8) (dVar 4))) (dVar 8) [8]) dNil))) (rd_order_of_2 n) { nx := N, rt := fun d S' => ∃ S'', Sub S'' S' ∧ R d S'', bk := rd_order_of_5 n (ends R), ct := N }
        [some d, some (.tup (left.map encN)), some (.ptp (ws.map encP)), some (.ref p), some (encN m), some (r.deed.ans ws).enc, some (.ptp ((r.deed.next ws).map encP)), j7, j8, j9] S' := by
      intro ft j7 j8 j9
      walk_at "dm"
      refine ⟨by rw [List.length_map]; exact len_ok (by omega), ?_⟩
      refine comp_pure encN (fun k => k != m) encN left (fun k hk => ?_) ?_
      · walk_at "dm"
        refine fun G => ⟨fun g => ?_, fun G _ g => g⟩
        have e : (!((k : Int) == (m : Int))) = (k != m) := by
          by_cases c : k = m
          · subst c; simp
          · have h1 : ((k : Int) == (m : Int)) = false := by rw [beq_eq_false_iff_ne]; omega
            have h2 : (k == m) = false := by rw [beq_eq_false_iff_ne]; exact c
            unfold bne
            rw [h1, h2]
        rw [e]
        exact g
      · try walk_at "dm"
        unfold rd_order_of_2
        walk_at "dm"
        refine ⟨d, H, less left m, r.deed.next ws, p, ks', rfl, ⟨rows', od.rok, od.nd.filter _, fun k hk => od.lt k (List.mem_filter.mp hk).1, od.wk.next _, ?_, lp.mem, lp.dead⟩, by omega, by unfold less; omega, fun S2 ks2 f2 m2 d2 l2 => ⟨fun nf => ?_, fun o q hq eq f => ?_⟩⟩
        · have := next_len ws r.deed
          omega
        · unfold rd_order_of_1
          walk_at "dm"
          simp only [rIsN, Bool.false_eq_true, ↓reduceIte, Bool.not_true]
          exact go S2 ks2 _ _ _ _ _ f2 m2 d2 l2 fun _ => nf
        · unfold rd_order_of_1
          walk_at "dm"
          simp only [rIsN, ↓reduceIte]
          have fl := f.len
          have l3 : ks2.length ≤ ks'.length + cnt H n (left.filter (· != m)) := l2
          unfold rCatRD
          simp only [deref_lst, deref_rf eq, List.length_cons, List.length_nil, List.length_map]
          refine ⟨by rw [sizeLine_eq]; omega, fun q2 hq2 => fin_of ((h _ ks2 ((lp.fr.trans f2).new hq2) (by rw [ups_ne (fun z => by rw [← z, m2] at hq2; cases hq2)]; exact m2) d2 (by omega)).2 (m :: o) q2 ?_ (by rw [ups_same]; rfl) (.cons e0 hm hr hb ft f))⟩
          cases z : S q2 with
          | none => rfl
          | some u =>
            by_cases c : q2 = p
            · rw [c, m2] at hq2; cases hq2
            · have := (lp.fr.trans f2) q2 u c z
              rw [hq2] at this; cases this
    unfold rd_order_of_3
    walk_at "dm"
    refine rows_ix rows' hr (row_3 (is_end ?_))
    cases ef2 : r.fin with
    | none =>
      exact fits (fun w hw => by rw [ef2] at hw; cases hw) j7 j8 j9
    | some w =>
      have ea : r.ansD = w.2.enc := by unfold Row.ansD; rw [ef2]
      refine rows_ix rows' hr (row_4 ?_)
      rw [ea]
      refine ⟨w.2, r.deed.ans ws, rfl, ?_⟩
      by_cases c : w.2 = r.deed.ans ws
      · rw [decide_eq_true c]
        exact fits (fun w2 hw => by rw [ef2] at hw; cases hw; exact c) j7 j8 j9
      · rw [decide_eq_false c]
        exact go S' ks' _ _ _ _ _ (.refl _ _) lp.mem lp.dead (by omega) fun ft => absurd (ft w ef2) c
end Dl.D4

set_option Elab.async false
set_option linter.all false
set_option maxRecDepth 100000
namespace Dl.D4
open PySem PySem.Spec PyProof.Rows L2 LamX Dl
local macro_rules | `(tactic| walk_at "dl") => `(tactic| simp (config := { maxSteps := 1000000 }) only [dSeq, dIfS, dRet, dRetN, dSet, dNext, dDrop, dVar, dC, d2, dTest, dAnd, dOr, dNot, dAndV, dOrV, dNotV, dIf, dChain, dChain3, dCall, dCons, dNil, dTup, dLst, dLstR, dAsg, Tg.d, sets, dFor, dYes, dNever, dBrk, dCnt,
  dSortKey, dLc, dLcR, dComp, wipeD, itemsI, rangeI1, enumI, dCB, rLenD, rIntD, rAbsD, rM2D, rTupD, rTupPD, rAllD, dIsi, tyD, rIxD, rItem, dSl, dPart, dNoPart, rSlD, rII, rAddD, rMulD, rMulDR, rEqG, rIsN, rInD, dNeg, dGet2, rAddXD, rListD, rListRD, dPar, dNewK, dNewT, dAsgNS, dMemo0, itR, dForR, dLcX, dLcXR, dCompR, dTupRg, dLstRg, dLstRgR, dInRg, dMemoSet, dDisp, dPairs, keyPairs, keyOf, dML, dSetIx,
  atI0, atI1, atI2, atI3, atI4, atI5, atIm2, atIm3, atIm4, deref_non, deref_bl, deref_int, deref_str, deref_tp, deref_ptp, deref_lst, items_tup, items_ptp, items_lst, dq_ii, dq_bb, dq_ss, dq_tt, dq_tp, dq_pt, dq_pp, dq_ll, dq_n0, dq_nc, dq_cn, dq_cc, ok_non, ok_bl, ok_int, ok_str, ok_tp, ok_pp, ok_ls, ok_n0, ok_cc, flat, List.all_cons, List.all_nil, List.any_cons, List.any_nil,
  startD, List.map_cons, List.map_nil, List.length_cons, List.length_nil, List.replicate_succ, List.replicate_zero, List.cons_append, List.nil_append, List.set_cons_zero, List.set_cons_succ, List.getElem?_cons_zero, List.getElem?_cons_succ, Nat.reduceAdd, Nat.reduceSub, Nat.reduceLeDiff, Nat.reduceMul,
  Bool.and_true, Bool.true_and, Bool.and_false, Bool.false_and, Bool.or_true, Bool.true_or, Bool.or_false, Bool.false_or, Bool.not_true, Bool.not_false, decide_eq_true_eq, ↓reduceIte, true_and, and_true, Bool.false_eq_true, Bool.not_eq_true', Bool.not_not, beq_self_eq_true, and_self, ne_eq, reduceCtorEq, not_false_eq_true, not_true_eq_false, Int.reduceBEq, beq_iff_eq, beq_eq_false_iff_ne, decide_eq_false_iff_not, Int.reduceLT, Int.reduceLE, Int.reduceNeg, Int.reduceAdd, Int.reduceEq, Int.reduceToNat,  kb_NoneType_bool, kb_NoneType_int, kb_NoneType_str, kb_NoneType_tuple, kb_NoneType_list, kb_bool_bool, kb_bool_int, kb_bool_str, kb_bool_tuple, kb_bool_list, kb_int_bool, kb_int_int, kb_int_str, kb_int_tuple, kb_int_list, kb_str_bool, kb_str_int, kb_str_str, kb_str_tuple, kb_str_list, kb_tuple_bool, kb_tuple_int, kb_tuple_str, kb_tuple_tuple, kb_tuple_list, kb_list_bool, kb_list_int, kb_list_str, kb_list_tuple, kb_list_list, sq_k_e, sq_kw_e, sq_kww_e, sk_k, sk_kw, sk_kww, sl_k, sl_kw, sl_kww, sk_e, cut_2_2_None, ncut_2_2_None, cut_2_None_1, ncut_2_None_1, cut_3_2_None, ncut_3_2_None, cut_3_None_1, ncut_3_None_1, cut_3_3_None, ncut_3_3_None, cut_4_2_None, ncut_4_2_None, cut_4_None_1, ncut_4_None_1, cut_4_None_3, ncut_4_None_3, cut_4_3_None, ncut_4_3_None, cut_5_2_None, ncut_5_2_None, cut_5_None_1, ncut_5_None_1, cut_5_None_3, ncut_5_None_3, cut_5_3_None, ncut_5_3_None, cut_6_2_None, ncut_6_2_None, cut_6_None_1, ncut_6_None_1, cut_6_None_3, ncut_6_None_3, cut_6_None_5, ncut_6_None_5, cut_6_3_None, ncut_6_3_None, sq_get_put, sq_get_add, sq_get_swap, sq_get_look, sq_get_split, sq_get_join, sq_put_get, sq_put_add, sq_put_swap, sq_put_look, sq_put_split, sq_put_join, sq_add_get, sq_add_put, sq_add_swap, sq_add_look, sq_add_split, sq_add_join, sq_swap_get, sq_swap_put, sq_swap_add, sq_swap_look, sq_swap_split, sq_swap_join, sq_look_get, sq_look_put, sq_look_add, sq_look_swap, sq_look_split, sq_look_join, sq_split_get, sq_split_put, sq_split_add, sq_split_swap, sq_split_look, sq_split_join, sq_join_get, sq_join_put, sq_join_add, sq_join_swap, sq_join_look, sq_join_split, ls0, ls1, ls2, ls3, ls4, ls5, ls6, ls7, ls8, ls9, ls10, nc0, nc1, nc2, nc3, nc4, nc5, nc6, nc7, nc8, nc9, nc10, sk_get, sk_put, sk_add, sk_swap, sk_look, sk_split, sk_join])


local macro_rules | `(tactic| walk_at "dm") => `(tactic| simp (config := { maxSteps := 1000000 }) only [dSeq, dIfS, dRet, dRetN, dSet, dNext, dDrop, dVar, dC, d2, dTest, dAnd, dOr, dNot, dAndV, dOrV, dNotV, dIf, dChain, dChain3, dCall, dCons, dNil, dTup, dLst, dLstR, dAsg, Tg.d, sets, dFor, dYes, dNever, dBrk, dCnt,
  dSortKey, dLc, dLcR, dComp, wipeD, itemsI, rangeI1, enumI, dCB, rLenD, rIntD, rAbsD, rM2D, rTupD, rTupPD, rAllD, dIsi, tyD, rItem, dSl, dPart, dNoPart, rSlD, rII, rAddD, rMulD, rMulDR, rEqG, rInD, dNeg, dGet2, rAddXD, rListD, rListRD, dPar, dNewK, dNewT, dAsgNS, dMemo0, itR, dForR, dLcX, dLcXR, dCompR, dTupRg, dLstRg, dLstRgR, dInRg, dMemoSet, dDisp, dPairs, keyPairs, keyOf, dML, dSetIx,
  atI0, atI1, atI2, atI3, atI4, atI5, atIm2, atIm3, atIm4, deref_non, deref_bl, deref_int, deref_str, deref_tp, deref_ptp, deref_lst, items_tup, items_ptp, items_lst, dq_ii, dq_bb, dq_ss, dq_tt, dq_tp, dq_pt, dq_pp, dq_ll, dq_n0, dq_nc, dq_cn, dq_cc, ok_non, ok_bl, ok_int, ok_str, ok_tp, ok_pp, ok_ls, ok_n0, ok_cc, flat, List.all_cons, List.all_nil, List.any_cons, List.any_nil,
  startD, List.map_cons, List.map_nil, List.length_cons, List.length_nil, List.replicate_succ, List.replicate_zero, List.cons_append, List.nil_append, List.set_cons_zero, List.set_cons_succ, List.getElem?_cons_zero, List.getElem?_cons_succ, Nat.reduceAdd, Nat.reduceSub, Nat.reduceLeDiff, Nat.reduceMul,
  Bool.and_true, Bool.true_and, Bool.and_false, Bool.false_and, Bool.or_true, Bool.true_or, Bool.or_false, Bool.false_or, Bool.not_true, Bool.not_false, decide_eq_true_eq, ↓reduceIte, true_and, and_true, Bool.false_eq_true, Bool.not_eq_true', Bool.not_not, beq_self_eq_true, and_self, ne_eq, reduceCtorEq, not_false_eq_true, not_true_eq_false, Int.reduceBEq, beq_iff_eq, beq_eq_false_iff_ne, decide_eq_false_iff_not, Int.reduceLT, Int.reduceLE, Int.reduceNeg, Int.reduceAdd, Int.reduceEq, Int.reduceToNat,  kb_NoneType_bool, kb_NoneType_int, kb_NoneType_str, kb_NoneType_tuple, kb_NoneType_list, kb_bool_bool, kb_bool_int, kb_bool_str, kb_bool_tuple, kb_bool_list, kb_int_bool, kb_int_int, kb_int_str, kb_int_tuple, kb_int_list, kb_str_bool, kb_str_int, kb_str_str, kb_str_tuple, kb_str_list, kb_tuple_bool, kb_tuple_int, kb_tuple_str, kb_tuple_tuple, kb_tuple_list, kb_list_bool, kb_list_int, kb_list_str, kb_list_tuple, kb_list_list, sq_k_e, sq_kw_e, sq_kww_e, sk_k, sk_kw, sk_kww, sl_k, sl_kw, sl_kww, sk_e, cut_2_2_None, ncut_2_2_None, cut_2_None_1, ncut_2_None_1, cut_3_2_None, ncut_3_2_None, cut_3_None_1, ncut_3_None_1, cut_3_3_None, ncut_3_3_None, cut_4_2_None, ncut_4_2_None, cut_4_None_1, ncut_4_None_1, cut_4_None_3, ncut_4_None_3, cut_4_3_None, ncut_4_3_None, cut_5_2_None, ncut_5_2_None, cut_5_None_1, ncut_5_None_1, cut_5_None_3, ncut_5_None_3, cut_5_3_None, ncut_5_3_None, cut_6_2_None, ncut_6_2_None, cut_6_None_1, ncut_6_None_1, cut_6_None_3, ncut_6_None_3, cut_6_None_5, ncut_6_None_5, cut_6_3_None, ncut_6_3_None, sq_get_put, sq_get_add, sq_get_swap, sq_get_look, sq_get_split, sq_get_join, sq_put_get, sq_put_add, sq_put_swap, sq_put_look, sq_put_split, sq_put_join, sq_add_get, sq_add_put, sq_add_swap, sq_add_look, sq_add_split, sq_add_join, sq_swap_get, sq_swap_put, sq_swap_add, sq_swap_look, sq_swap_split, sq_swap_join, sq_look_get, sq_look_put, sq_look_add, sq_look_swap, sq_look_split, sq_look_join, sq_split_get, sq_split_put, sq_split_add, sq_split_swap, sq_split_look, sq_split_join, sq_join_get, sq_join_put, sq_join_add, sq_join_swap, sq_join_look, sq_join_split, ls0, ls1, ls2, ls3, ls4, ls5, ls6, ls7, ls8, ls9, ls10, nc0, nc1, nc2, nc3, nc4, nc5, nc6, nc7, nc8, nc9, nc10, sk_get, sk_put, sk_add, sk_swap, sk_look, sk_split, sk_join])


/-! ### judged -/
def spy_judged : DSy := fun ds S R RE => ∃ (H : List Row) (rest : List D), ds = [.lst (H.map Row.enc ++ rest)] ∧ HistOk H ∧
  ((rest = [] ∧ cnt H 12 (List.range H.length) < 16000000 ∧ ∀ S', Sub S S' → (NoFit H (List.range H.length) [] → R .non S') ∧ ∀ o q, S q = none → S' q = some (.lst (o.map encN)) → Fit H (List.range H.length) [] o → R (.ref q) S') ∨
    ∃ bad more, rest = bad :: more ∧ BadNext H bad ∧ RE "BadHistory" [.int (H.length : Int)] S)
def rd_judged_1 : DS :=
 (dRet (dCall (sp_order_of 12) (dCons (dVar 0) (dCons (dTupRg (dCB rLenD (dCons (dVar 0) dNil))) (dCons (dC (.ptp [])) (dCons dMemo0 dNil))))))
def rd_judged : DS :=
 (dSeq (dExpY (dCallY spy_need_history (dCons (dVar 0) dNil)))
 rd_judged_1)
theorem ints_range (m : Nat) : intsFrom 0 m = (List.range m).map encN := by
  have gen : ∀ (m : Nat) (lo : Int), intsFrom lo m = (List.range m).map fun (i : Nat) => D.int (lo + i) := by
    intro m
    induction m with
    | zero => intro lo; rfl
    | succ m ih =>
      intro lo
      rw [intsFrom, ih, List.range_succ_eq_map, List.map_cons, List.map_map]
      refine congr (congrArg _ (by simp)) (List.map_congr_left fun i _ => ?_)
      simp only [Function.comp, Nat.succ_eq_add_one]
      congr 1
      omega
  rw [gen]
  refine List.map_congr_left fun i _ => ?_
  rw [Int.zero_add]
theorem oky_judged (ds : List D) (S : Store) (R : DK) (RE : Str → List D → Store → Prop) (h : spy_judged ds S R RE) : rd_judged (endsy R RE) (startD ["rows"] ds) S := by
  obtain ⟨H, rest, rfl, ok, h⟩ := h
  unfold rd_judged
  walk_at "dm"
  simp only [dExpY, dCallY]
  try walk_at "dm"
  refine ⟨H, rest, rfl, ok, ?_⟩
  rcases h with ⟨rfl, hc, h⟩ | ⟨bad, more, e, bn, h⟩
  · refine .inl ⟨rfl, ?_⟩
    have h12 := ok.len
    rw [List.append_nil]
    try walk_at "dm"
    unfold rd_judged_1
    walk_at "dm"
    refine ⟨by omega, by rw [List.length_map]; omega, ?_⟩
    intro p hp
    refine ⟨.lst (H.map Row.enc), H, List.range H.length, [], p, [], ?_, ⟨rfl, ok.rows, List.nodup_range, fun n hn => List.mem_range.mp hn, ⟨.nil, fun _ h => by cases h⟩, by rw [List.length_range]; simp; omega, ups_same, fun _ _ h => by cases h⟩, by rw [List.length_range]; omega, by simpa using hc, fun S' ks' f m d l => ?_⟩
    · rw [List.length_map, Int.toNat_natCast, ints_range]; rfl
    · have sb : Sub S S' := fun a o e => f a o (fun z => by rw [z, hp] at e; cases e) ((sub_ups hp) a o e)
      refine ⟨fun nf => fin_of ((h S' sb).1 nf), fun o q hq eq ft => fin_of ((h S' sb).2 o q ?_ eq ft)⟩
      exact (sub_ups hp).no hq
  · exact .inr ⟨bad, more, e, bn, S, .refl S, h⟩
/-! ### texts -/
/-- numbers of up to four figures -/
def small (i : Int) : Prop := 0 ≤ i ∧ i < 1024
def numT (i : Int) : Str := toString i
theorem num_lens : ((List.range 1024).all fun n => decide (Str.length (numT (n : Int)) ≤ 4)) = true := by decide +kernel
theorem num_len {i : Int} (h : small i) : (numT i).length ≤ 4 := by
  obtain ⟨n, rfl⟩ : ∃ n : Nat, i = n := ⟨i.toNat, by have := h.1; omega⟩
  have := List.all_eq_true.mp num_lens n (List.mem_range.mpr (by have := h.2; omega))
  exact of_decide_eq_true this
theorem num_log {i : Int} (h : small i) : i.natAbs.log2 < 1920 := by
  have h1 := h.1
  have h2 := h.2
  have : i.natAbs < 2 ^ 1920 := Nat.lt_of_lt_of_le (show i.natAbs < 1024 by omega) (Nat.le_trans (show 1024 ≤ 2 ^ 14 by decide) (Nat.pow_le_pow_right (by decide) (by decide)))
  by_cases z : i.natAbs = 0
  · rw [z]; decide
  · exact (Nat.log2_lt z).mpr this
/-- what a word writes -/
inductive Wd where
  | non | bl (b : Bool) | int (i : Int) | look (l : List Int)
def Wd.enc : Wd → D
  | .non => .non
  | .bl b => .bl b
  | .int i => .int i
  | .look l => .tup (l.map D.int)
def Wd.ok : Wd → Prop
  | .int i => small i
  | .look l => l.length ≤ 12 ∧ ∀ i ∈ l, small i
  | _ => True
def Wd.txt : Wd → Str
  | .non => "-"
  | .bl b => if b then "yes" else "no"
  | .int i => numT i
  | .look l => Txt.join "," (l.map numT)
def sp_word_of : DSp := fun ds S R => ∃ w : Wd, ds = [w.enc] ∧ w.ok ∧ R (.str w.txt) S
def rd_word_of_1 : DS :=
 (dRet (dCB rStrID (dCons (dVar 0) dNil)))
def rd_word_of_2 : DS :=
 (dSeq (dIfS (dTest (dIsi "tuple" (dVar 0)))
 (dRet (dMS rJoinD (dC (.str ",")) (dCons (dLc (itemsI (dVar 0)) (.nm 1) dYes (dCB rStrID (dCons (dVar 1) dNil)) [1]) dNil)))
 dNext)
 rd_word_of_1)
def rd_word_of_3 : DS :=
 (dSeq (dIfS (dTest (dIsi "bool" (dVar 0)))
 (dRet (dIf (dTest (dVar 0)) (dC (.str "yes")) (dC (.str "no"))))
 dNext)
 rd_word_of_2)
def rd_word_of : DS :=
 (dSeq (dIfS (dTest (d2 (rIsN false) (dVar 0) (dC .non)))
 (dRet (dC (.str "-")))
 dNext)
 rd_word_of_3)
theorem sum_le_mul {l : List Nat} {k : Nat} (h : ∀ x ∈ l, x ≤ k) : l.sum ≤ l.length * k := by
  induction l with
  | nil => simp
  | cons a r ih =>
    have h1 := ih fun x hx => h x (List.mem_cons_of_mem _ hx)
    have h2 := h a List.mem_cons_self
    rw [List.sum_cons, List.length_cons, Nat.succ_mul]
    omega
theorem join_room {a : Str} {ys : List Str} {k n : Nat} (hk : ∀ y ∈ ys, y.length ≤ k) (hn : ys.length ≤ n) (hz : n * k + n * a.length ≤ 16777216) : (ys.map (·.length)).sum + ys.length * a.length ≤ 16777216 := by
  have h1 : (ys.map (·.length)).sum ≤ ys.length * k := by
    have := sum_le_mul (l := ys.map (·.length)) (k := k) fun x hx => by
      obtain ⟨y, hy, rfl⟩ := List.mem_map.mp hx
      exact hk y hy
    rwa [List.length_map] at this
  have h2 : ys.length * k ≤ n * k := Nat.mul_le_mul_right _ hn
  have h3 : ys.length * a.length ≤ n * a.length := Nat.mul_le_mul_right _ hn
  omega
theorem ok_word_of (ds : List D) (S : Store) (R : DK) (h : sp_word_of ds S R) : rd_word_of (ends R) (startD ["part", "one"] ds) S := by
  obtain ⟨w, rfl, ok, h⟩ := h
  unfold rd_word_of
  cases w with
  | non => unfold Wd.enc; walk_at "dl"; exact fin_of h
  | bl b => unfold Wd.enc; walk_at "dl"; unfold rd_word_of_3; walk_at "dl"; cases b <;> (try walk_at "dl") <;> exact fin_of h
  | int i =>
    unfold Wd.enc; walk_at "dl"; unfold rd_word_of_3; walk_at "dl"; unfold rd_word_of_2; walk_at "dl"; unfold rd_word_of_1; walk_at "dl"
    simp only [rStrID]
    exact ⟨num_log ok, fin_of h⟩
  | look l =>
    unfold Wd.enc; walk_at "dl"; unfold rd_word_of_3; walk_at "dl"; unfold rd_word_of_2; walk_at "dl"
    simp only [dMS]
    walk_at "dl"
    refine ⟨by rw [List.length_map]; exact len_ok (by have := ok.1; omega), ?_⟩
    refine comp_pure D.int (fun _ => true) (fun i => .str (numT i)) l (fun i hi => ?_) ?_
    · walk_at "dl"
      intro G
      refine ⟨fun g => g, fun G _ g => ?_⟩
      simp only [rStrID]
      exact ⟨num_log (ok.2 i hi), g⟩
    · have e : List.map (fun i => D.str (numT i)) (List.filter (fun _ => true) l) = (l.map numT).map D.str := by
        rw [List.map_map, List.filter_eq_self.mpr (fun _ _ => rfl)]; rfl
      rw [e]
      simp only [rJoinD, items_lst]
      refine ⟨l.map numT, rfl, join_room (k := 4) (n := 12) (fun y hy => ?_) (by rw [List.length_map]; exact ok.1) ?_, fin_of h⟩
      · obtain ⟨i, hi, rfl⟩ := List.mem_map.mp hy
        exact num_len (ok.2 i hi)
      · have : Str.length ("," : Str) = 1 := by decide +kernel
        rw [this]
        decide
end Dl.D4

set_option Elab.async false
set_option linter.all false
set_option maxRecDepth 100000
namespace Dl.D4
open PySem PySem.Spec PyProof.Rows L2 LamX Dl
local macro_rules | `(tactic| walk_at "dl") => `(tactic| simp (config := { maxSteps := 1000000 }) only [dSeq, dIfS, dRet, dRetN, dSet, dNext, dDrop, dVar, dC, d2, dTest, dAnd, dOr, dNot, dAndV, dOrV, dNotV, dIf, dChain, dChain3, dCall, dCons, dNil, dTup, dLst, dLstR, dAsg, Tg.d, sets, dFor, dYes, dNever, dBrk, dCnt,
  dSortKey, dLc, dLcR, dComp, wipeD, itemsI, rangeI1, enumI, dCB, rLenD, rIntD, rAbsD, rM2D, rTupD, rTupPD, rAllD, dIsi, tyD, rIxD, rItem, dSl, dPart, dNoPart, rSlD, rII, rAddD, rMulD, rMulDR, rEqG, rIsN, rInD, dNeg, dGet2, rAddXD, rListD, rListRD, dPar, dNewK, dNewT, dAsgNS, dMemo0, itR, dForR, dLcX, dLcXR, dCompR, dTupRg, dLstRg, dLstRgR, dInRg, dMemoSet, dDisp, dPairs, keyPairs, keyOf, dML, dSetIx,
  atI0, atI1, atI2, atI3, atI4, atI5, atIm2, atIm3, atIm4, deref_non, deref_bl, deref_int, deref_str, deref_tp, deref_ptp, deref_lst, items_tup, items_ptp, items_lst, dq_ii, dq_bb, dq_ss, dq_tt, dq_tp, dq_pt, dq_pp, dq_ll, dq_n0, dq_nc, dq_cn, dq_cc, ok_non, ok_bl, ok_int, ok_str, ok_tp, ok_pp, ok_ls, ok_n0, ok_cc, flat, List.all_cons, List.all_nil, List.any_cons, List.any_nil,
  startD, List.map_cons, List.map_nil, List.length_cons, List.length_nil, List.replicate_succ, List.replicate_zero, List.cons_append, List.nil_append, List.set_cons_zero, List.set_cons_succ, List.getElem?_cons_zero, List.getElem?_cons_succ, Nat.reduceAdd, Nat.reduceSub, Nat.reduceLeDiff, Nat.reduceMul,
  Bool.and_true, Bool.true_and, Bool.and_false, Bool.false_and, Bool.or_true, Bool.true_or, Bool.or_false, Bool.false_or, Bool.not_true, Bool.not_false, decide_eq_true_eq, ↓reduceIte, true_and, and_true, Bool.false_eq_true, Bool.not_eq_true', Bool.not_not, beq_self_eq_true, and_self, ne_eq, reduceCtorEq, not_false_eq_true, not_true_eq_false, Int.reduceBEq, beq_iff_eq, beq_eq_false_iff_ne, decide_eq_false_iff_not, Int.reduceLT, Int.reduceLE, Int.reduceNeg, Int.reduceAdd, Int.reduceEq, Int.reduceToNat,  kb_NoneType_bool, kb_NoneType_int, kb_NoneType_str, kb_NoneType_tuple, kb_NoneType_list, kb_bool_bool, kb_bool_int, kb_bool_str, kb_bool_tuple, kb_bool_list, kb_int_bool, kb_int_int, kb_int_str, kb_int_tuple, kb_int_list, kb_str_bool, kb_str_int, kb_str_str, kb_str_tuple, kb_str_list, kb_tuple_bool, kb_tuple_int, kb_tuple_str, kb_tuple_tuple, kb_tuple_list, kb_list_bool, kb_list_int, kb_list_str, kb_list_tuple, kb_list_list, sq_k_e, sq_kw_e, sq_kww_e, sk_k, sk_kw, sk_kww, sl_k, sl_kw, sl_kww, sk_e, cut_2_2_None, ncut_2_2_None, cut_2_None_1, ncut_2_None_1, cut_3_2_None, ncut_3_2_None, cut_3_None_1, ncut_3_None_1, cut_3_3_None, ncut_3_3_None, cut_4_2_None, ncut_4_2_None, cut_4_None_1, ncut_4_None_1, cut_4_None_3, ncut_4_None_3, cut_4_3_None, ncut_4_3_None, cut_5_2_None, ncut_5_2_None, cut_5_None_1, ncut_5_None_1, cut_5_None_3, ncut_5_None_3, cut_5_3_None, ncut_5_3_None, cut_6_2_None, ncut_6_2_None, cut_6_None_1, ncut_6_None_1, cut_6_None_3, ncut_6_None_3, cut_6_None_5, ncut_6_None_5, cut_6_3_None, ncut_6_3_None, sq_get_put, sq_get_add, sq_get_swap, sq_get_look, sq_get_split, sq_get_join, sq_put_get, sq_put_add, sq_put_swap, sq_put_look, sq_put_split, sq_put_join, sq_add_get, sq_add_put, sq_add_swap, sq_add_look, sq_add_split, sq_add_join, sq_swap_get, sq_swap_put, sq_swap_add, sq_swap_look, sq_swap_split, sq_swap_join, sq_look_get, sq_look_put, sq_look_add, sq_look_swap, sq_look_split, sq_look_join, sq_split_get, sq_split_put, sq_split_add, sq_split_swap, sq_split_look, sq_split_join, sq_join_get, sq_join_put, sq_join_add, sq_join_swap, sq_join_look, sq_join_split, ls0, ls1, ls2, ls3, ls4, ls5, ls6, ls7, ls8, ls9, ls10, nc0, nc1, nc2, nc3, nc4, nc5, nc6, nc7, nc8, nc9, nc10, sk_get, sk_put, sk_add, sk_swap, sk_look, sk_split, sk_join])


local macro_rules | `(tactic| walk_at "dm") => `(tactic| simp (config := { maxSteps := 1000000 }) only [dSeq, dIfS, dRet, dRetN, dSet, dNext, dDrop, dVar, dC, d2, dTest, dAnd, dOr, dNot, dAndV, dOrV, dNotV, dIf, dChain, dChain3, dCall, dCons, dNil, dTup, dLst, dLstR, dAsg, Tg.d, sets, dFor, dYes, dNever, dBrk, dCnt,
  dSortKey, dLc, dLcR, dComp, wipeD, itemsI, rangeI1, enumI, dCB, rLenD, rIntD, rAbsD, rM2D, rTupD, rTupPD, rAllD, dIsi, tyD, rItem, dSl, dPart, dNoPart, rSlD, rII, rAddD, rMulD, rMulDR, rEqG, rInD, dNeg, dGet2, rAddXD, rListD, rListRD, dPar, dNewK, dNewT, dAsgNS, dMemo0, itR, dForR, dLcX, dLcXR, dCompR, dTupRg, dLstRg, dLstRgR, dInRg, dMemoSet, dDisp, dPairs, keyPairs, keyOf, dML, dSetIx,
  atI0, atI1, atI2, atI3, atI4, atI5, atIm2, atIm3, atIm4, deref_non, deref_bl, deref_int, deref_str, deref_tp, deref_ptp, deref_lst, items_tup, items_ptp, items_lst, dq_ii, dq_bb, dq_ss, dq_tt, dq_tp, dq_pt, dq_pp, dq_ll, dq_n0, dq_nc, dq_cn, dq_cc, ok_non, ok_bl, ok_int, ok_str, ok_tp, ok_pp, ok_ls, ok_n0, ok_cc, flat, List.all_cons, List.all_nil, List.any_cons, List.any_nil,
  startD, List.map_cons, List.map_nil, List.length_cons, List.length_nil, List.replicate_succ, List.replicate_zero, List.cons_append, List.nil_append, List.set_cons_zero, List.set_cons_succ, List.getElem?_cons_zero, List.getElem?_cons_succ, Nat.reduceAdd, Nat.reduceSub, Nat.reduceLeDiff, Nat.reduceMul,
  Bool.and_true, Bool.true_and, Bool.and_false, Bool.false_and, Bool.or_true, Bool.true_or, Bool.or_false, Bool.false_or, Bool.not_true, Bool.not_false, decide_eq_true_eq, ↓reduceIte, true_and, and_true, Bool.false_eq_true, Bool.not_eq_true', Bool.not_not, beq_self_eq_true, and_self, ne_eq, reduceCtorEq, not_false_eq_true, not_true_eq_false, Int.reduceBEq, beq_iff_eq, beq_eq_false_iff_ne, decide_eq_false_iff_not, Int.reduceLT, Int.reduceLE, Int.reduceNeg, Int.reduceAdd, Int.reduceEq, Int.reduceToNat,  kb_NoneType_bool, kb_NoneType_int, kb_NoneType_str, kb_NoneType_tuple, kb_NoneType_list, kb_bool_bool, kb_bool_int, kb_bool_str, kb_bool_tuple, kb_bool_list, kb_int_bool, kb_int_int, kb_int_str, kb_int_tuple, kb_int_list, kb_str_bool, kb_str_int, kb_str_str, kb_str_tuple, kb_str_list, kb_tuple_bool, kb_tuple_int, kb_tuple_str, kb_tuple_tuple, kb_tuple_list, kb_list_bool, kb_list_int, kb_list_str, kb_list_tuple, kb_list_list, sq_k_e, sq_kw_e, sq_kww_e, sk_k, sk_kw, sk_kww, sl_k, sl_kw, sl_kww, sk_e, cut_2_2_None, ncut_2_2_None, cut_2_None_1, ncut_2_None_1, cut_3_2_None, ncut_3_2_None, cut_3_None_1, ncut_3_None_1, cut_3_3_None, ncut_3_3_None, cut_4_2_None, ncut_4_2_None, cut_4_None_1, ncut_4_None_1, cut_4_None_3, ncut_4_None_3, cut_4_3_None, ncut_4_3_None, cut_5_2_None, ncut_5_2_None, cut_5_None_1, ncut_5_None_1, cut_5_None_3, ncut_5_None_3, cut_5_3_None, ncut_5_3_None, cut_6_2_None, ncut_6_2_None, cut_6_None_1, ncut_6_None_1, cut_6_None_3, ncut_6_None_3, cut_6_None_5, ncut_6_None_5, cut_6_3_None, ncut_6_3_None, sq_get_put, sq_get_add, sq_get_swap, sq_get_look, sq_get_split, sq_get_join, sq_put_get, sq_put_add, sq_put_swap, sq_put_look, sq_put_split, sq_put_join, sq_add_get, sq_add_put, sq_add_swap, sq_add_look, sq_add_split, sq_add_join, sq_swap_get, sq_swap_put, sq_swap_add, sq_swap_look, sq_swap_split, sq_swap_join, sq_look_get, sq_look_put, sq_look_add, sq_look_swap, sq_look_split, sq_look_join, sq_split_get, sq_split_put, sq_split_add, sq_split_swap, sq_split_look, sq_split_join, sq_join_get, sq_join_put, sq_join_add, sq_join_swap, sq_join_look, sq_join_split, ls0, ls1, ls2, ls3, ls4, ls5, ls6, ls7, ls8, ls9, ls10, nc0, nc1, nc2, nc3, nc4, nc5, nc6, nc7, nc8, nc9, nc10, sk_get, sk_put, sk_add, sk_swap, sk_look, sk_split, sk_join])


/-! ### the text of a history -/
def AnB : An → Prop
  | .int i => small i
  | .bl _ => True
  | .look l => l.length ≤ 12 ∧ ∀ i ∈ l, small i
structure RowB (r : Row) : Prop where
  b : small r.beg
  f : ∀ p, r.fin = some p → small p.1 ∧ AnB p.2
def Dq.name : Dq → Str
  | .pl (.get _) => "get"
  | .pl (.put _ _) => "put"
  | .pl (.add _ _) => "add"
  | .pl (.swap _ _ _) => "swap"
  | .look _ => "look"
def Dq.parts : Dq → List Wd
  | .pl (.get k) => [.int k]
  | .pl (.put k w) => [.int k, .int w]
  | .pl (.add k w) => [.int k, .int w]
  | .pl (.swap k a b) => [.int k, .int a, .int b]
  | .look ks => [.look ks]
theorem enc_parts (d : Dq) : d.enc = .tup (.str d.name :: d.parts.map Wd.enc) := by
  cases d with
  | look ks => rfl
  | pl d => cases d <;> rfl
theorem parts_ok {d : Dq} (h : d.ok) : (∀ w ∈ d.parts, w.ok) ∧ d.parts.length ≤ 3 := by
  have sm : ∀ {n i : Int}, isW n i → n ≤ 1000 → small i := fun h1 h2 => by unfold isW at h1; unfold small; omega
  cases d with
  | look ks =>
    obtain ⟨l1, l2, so, hk⟩ := h
    refine ⟨fun w hw => ?_, by simp [Dq.parts]⟩
    rw [show Dq.parts (.look ks) = [.look ks] from rfl, List.mem_singleton] at hw
    rw [hw]
    exact ⟨by omega, fun i hi => sm (hk i hi) (by decide)⟩
  | pl d =>
    cases d with
    | get k =>
      refine ⟨fun w hw => ?_, by simp [Dq.parts]⟩
      simp only [Dq.parts, List.mem_cons, List.not_mem_nil, or_false] at hw
      subst hw
      exact sm h (by decide)
    | put k w =>
      refine ⟨fun w hw => ?_, by simp [Dq.parts]⟩
      simp only [Dq.parts, List.mem_cons, List.not_mem_nil, or_false] at hw
      rcases hw with rfl | rfl
      · exact sm h.1 (by decide)
      · exact sm h.2 (by decide)
    | add k w =>
      refine ⟨fun w hw => ?_, by simp [Dq.parts]⟩
      simp only [Dq.parts, List.mem_cons, List.not_mem_nil, or_false] at hw
      rcases hw with rfl | rfl
      · exact sm h.1 (by decide)
      · exact sm h.2 (by decide)
    | swap k a b =>
      refine ⟨fun w hw => ?_, by simp [Dq.parts]⟩
      simp only [Dq.parts, List.mem_cons, List.not_mem_nil, or_false] at hw
      rcases hw with rfl | rfl | rfl
      · exact sm h.1 (by decide)
      · exact sm h.2.1 (by decide)
      · exact sm h.2.2 (by decide)
def Row.endW (r : Row) : Wd := match r.fin with | some p => .int p.1 | none => .non
def Row.ansW (r : Row) : Wd := match r.fin with | some (_, .int i) => .int i | some (_, .bl b) => .bl b | some (_, .look l) => .look l | none => .non
theorem endW_enc (r : Row) : r.endW.enc = r.endD := by
  unfold Row.endW Row.endD
  cases r.fin <;> rfl
theorem ansW_enc (r : Row) : r.ansW.enc = r.ansD := by
  unfold Row.ansW Row.ansD
  cases r.fin with
  | none => rfl
  | some p => obtain ⟨e, a⟩ := p; cases a <;> rfl
theorem endW_ok {r : Row} (h : RowB r) : r.endW.ok := by
  unfold Row.endW
  cases e : r.fin with
  | none => trivial
  | some p => exact (h.f p e).1
theorem ansW_ok {r : Row} (h : RowB r) : r.ansW.ok := by
  unfold Row.ansW
  cases e : r.fin with
  | none => trivial
  | some p =>
    have q := (h.f p e).2
    obtain ⟨e', a⟩ := p
    cases a with
    | int i => exact q
    | bl b => trivial
    | look l => exact q
def wordsR (r : Row) : List Str := [numT r.asker, numT r.beg, r.endW.txt, r.deed.name] ++ r.deed.parts.map Wd.txt ++ [r.ansW.txt]
def sp_words_of : DSp := fun ds S R => ∃ r : Row, ds = [r.enc] ∧ RowOk r ∧ RowB r ∧ R (.lst ((wordsR r).map D.str)) S
def rd_words_of_1 : DS :=
 (dRet (d2 rAddD (d2 rAddD (dLst (dCons (dCB rStrID (dCons (dVar 1) dNil)) (dCons (dCB rStrID (dCons (dVar 3) dNil)) (dCons (dCall sp_word_of (dCons (dVar 4) dNil)) (dCons (d2 rIxD (dVar 2) (dC (.int 0))) dNil))))) (dVar 6)) (dLst (dCons (dCall sp_word_of (dCons (dVar 5) dNil)) dNil))))
def rd_words_of : DS :=
 (dSeq (dAsg (dVar 0) (.tp [1, 2, 3, 4, 5]))
 (dSeq (dSet 6 (dLc (itemsI (dSl (dVar 2) (dPart (dC (.int 1))) dNoPart)) (.nm 7) dYes (dCall sp_word_of (dCons (dVar 7) dNil)) [7]))
 rd_words_of_1))
theorem slice1 {a : D} {l : List D} {S : Store} {Q : DK} (h : Q (.tup l) S) : rSlD (.tup (a :: l)) (some 1) none S Q := by
  have s1 : HT.sIx (a :: l).length 0 (some 1) = 1 := by
    unfold HT.sIx
    simp
  have s2 : HT.sIx (a :: l).length (a :: l).length none = (a :: l).length := rfl
  have c : cutD (a :: l) (some 1) none = l := by
    unfold cutD
    rw [s1, s2]
    simp
  unfold rSlD
  rw [deref_tp]
  refine ⟨fun z => ?_, by rw [c]; exact h⟩
  rw [s1] at z
  exact absurd z.1 (by decide)
theorem ok_words_of (ds : List D) (S : Store) (R : DK) (h : sp_words_of ds S R) : rd_words_of (ends R) (startD ["row", "asker", "deed", "begin", "end", "answer", "parts", "part"] ds) S := by
  obtain ⟨r, rfl, ok, rb, h⟩ := h
  have ae : small r.asker := ⟨ok.a0, by have := ok.a1; omega⟩
  obtain ⟨pok, pl⟩ := parts_ok ok.dk
  unfold rd_words_of Row.enc
  rw [← endW_enc, ← ansW_enc, enc_parts]
  simp only [dSeq, dAsg, dVar, startD, List.map_cons, List.map_nil, List.length_cons, List.length_nil, Nat.reduceAdd, Nat.reduceSub, List.replicate_succ, List.replicate_zero, List.cons_append, List.nil_append, List.getElem?_cons_zero, Tg.d, ↓reduceIte, sets, List.set_cons_zero, List.set_cons_succ, dSet, dLc, dComp, itemsI, dSl, dPart, dNoPart, dC, List.getElem?_cons_succ]
  refine slice1 ?_
  simp only []
  refine ⟨by rw [List.length_map]; exact len_ok (by omega), ?_⟩
  refine comp_pure Wd.enc (fun _ => true) (fun w => .str w.txt) r.deed.parts (fun w hw => ?_) ?_
  · simp only [Tg.d, wipeD, List.set_cons_zero, List.set_cons_succ, dYes, dCall, dCons, dNil, dVar, List.getElem?_cons_zero, List.getElem?_cons_succ]
    intro G
    exact ⟨fun g => g, fun G _ g => ⟨w, rfl, pok w hw, g⟩⟩
  · have e : List.map (fun w => D.str (Wd.txt w)) (List.filter (fun _ => true) r.deed.parts) = (r.deed.parts.map Wd.txt).map D.str := by
      rw [List.map_map, List.filter_eq_self.mpr (fun _ _ => rfl)]; rfl
    rw [e]
    unfold rd_words_of_1
    walk_at "dm"
    simp only [rStrID]
    refine ⟨num_log ae, num_log rb.b, ⟨r.endW, rfl, endW_ok rb, ?_⟩⟩
    simp only [rIxD, deref_tp, rItem, atI0]
    try walk_at "dm"
    have l1 : ((r.deed.parts.map Wd.txt).map D.str).length ≤ 3 := by rw [List.length_map, List.length_map]; exact pl
    refine ⟨len_ok (by omega), ⟨r.ansW, rfl, ansW_ok rb, ?_⟩⟩
    try walk_at "dm"
    refine ⟨len_ok (by simp; omega), ?_⟩
    have e2 : (D.str (numT r.asker) :: D.str (numT r.beg) :: D.str r.endW.txt :: D.str r.deed.name :: ((r.deed.parts.map Wd.txt).map D.str)) ++ [D.str r.ansW.txt] = (wordsR r).map D.str := by
      unfold wordsR
      simp
    have h' := fin_of h
    rw [← e2] at h'
    exact h'
def lineR (r : Row) : Str := Txt.join " " (wordsR r)
def textOf (H : List Row) : Str := Txt.join "\n" (H.map lineR)
theorem join_len {a : Str} {ys : List Str} {k n : Nat} (hk : ∀ y ∈ ys, y.length ≤ k) (hn : ys.length ≤ n) : (Txt.join a ys).length ≤ n * k + n * a.length := by
  have h0 : (Txt.join a ys).length ≤ (ys.map (·.length)).sum + ys.length * a.length := by
    rw [TL.join_eq]
    exact StrLaws.join_length_le a ys
  have h1 : (ys.map (·.length)).sum ≤ ys.length * k := by
    have := sum_le_mul (l := ys.map (·.length)) (k := k) fun x hx => by
      obtain ⟨y, hy, rfl⟩ := List.mem_map.mp hx
      exact hk y hy
    rwa [List.length_map] at this
  have h2 : ys.length * k ≤ n * k := Nat.mul_le_mul_right _ hn
  have h3 : ys.length * a.length ≤ n * a.length := Nat.mul_le_mul_right _ hn
  omega
theorem l_non : Str.length ("-" : Str) = 1 := by decide +kernel
theorem l_yes : Str.length ("yes" : Str) = 3 := by decide +kernel
theorem l_no : Str.length ("no" : Str) = 2 := by decide +kernel
theorem l_com : Str.length ("," : Str) = 1 := by decide +kernel
theorem l_sp : Str.length (" " : Str) = 1 := by decide +kernel
theorem l_nl : Str.length ("\n" : Str) = 1 := by decide +kernel
theorem wd_len {w : Wd} (h : w.ok) : w.txt.length ≤ 60 := by
  cases w with
  | non => exact Nat.le_trans (Nat.le_of_eq l_non) (by decide)
  | bl b => cases b
            · exact Nat.le_trans (Nat.le_of_eq l_no) (by decide)
            · exact Nat.le_trans (Nat.le_of_eq l_yes) (by decide)
  | int i => exact Nat.le_trans (num_len h) (by decide)
  | look l =>
    have := join_len (a := ",") (ys := l.map numT) (k := 4) (n := 12) (fun y hy => by
      obtain ⟨i, hi, rfl⟩ := List.mem_map.mp hy
      exact num_len (h.2 i hi)) (by rw [List.length_map]; exact h.1)
    rw [l_com] at this
    exact this
theorem name_len (d : Dq) : d.name.length ≤ 60 := by
  have h : Str.length ("get" : Str) = 3 ∧ Str.length ("put" : Str) = 3 ∧ Str.length ("add" : Str) = 3 ∧ Str.length ("swap" : Str) = 4 ∧ Str.length ("look" : Str) = 4 := by decide +kernel
  obtain ⟨h1, h2, h3, h4, h5⟩ := h
  cases d with
  | look ks => exact Nat.le_trans (Nat.le_of_eq h5) (by decide)
  | pl d => cases d with
    | get k => exact Nat.le_trans (Nat.le_of_eq h1) (by decide)
    | put k w => exact Nat.le_trans (Nat.le_of_eq h2) (by decide)
    | add k w => exact Nat.le_trans (Nat.le_of_eq h3) (by decide)
    | swap k a b => exact Nat.le_trans (Nat.le_of_eq h4) (by decide)
theorem words_len {r : Row} (ok : RowOk r) (rb : RowB r) : (∀ y ∈ wordsR r, y.length ≤ 60) ∧ (wordsR r).length ≤ 8 := by
  obtain ⟨pok, pl⟩ := parts_ok ok.dk
  have ae : small r.asker := ⟨ok.a0, by have := ok.a1; omega⟩
  refine ⟨fun y hy => ?_, by unfold wordsR; simp; omega⟩
  unfold wordsR at hy
  simp only [List.mem_append, List.mem_cons, List.not_mem_nil, or_false] at hy
  rcases hy with ((rfl | rfl | rfl | rfl) | hy) | rfl
  · exact Nat.le_trans (num_len ae) (by decide)
  · exact Nat.le_trans (num_len rb.b) (by decide)
  · exact wd_len (endW_ok rb)
  · exact name_len _
  · obtain ⟨w, hw, rfl⟩ := List.mem_map.mp hy
    exact wd_len (pok w hw)
  · exact wd_len (ansW_ok rb)
def spy_written : DSy := fun ds S R RE => ∃ (H : List Row) (rest : List D), ds = [.lst (H.map Row.enc ++ rest)] ∧ HistOk H ∧
  ((rest = [] ∧ (∀ r ∈ H, RowB r) ∧ R (.str (textOf H)) S) ∨ ∃ bad more, rest = bad :: more ∧ BadNext H bad ∧ RE "BadHistory" [.int (H.length : Int)] S)
def rd_written_1 : DS :=
 (dRet (dMS rJoinD (dC (.str "
")) (dCons (dLc (itemsI (dVar 0)) (.nm 1) dYes (dMS rJoinD (dC (.str " ")) (dCons (dCall sp_words_of (dCons (dVar 1) dNil)) dNil)) [1]) dNil)))
def rd_written : DS :=
 (dSeq (dExpY (dCallY spy_need_history (dCons (dVar 0) dNil)))
 rd_written_1)
theorem oky_written (ds : List D) (S : Store) (R : DK) (RE : Str → List D → Store → Prop) (h : spy_written ds S R RE) : rd_written (endsy R RE) (startD ["rows", "row"] ds) S := by
  obtain ⟨H, rest, rfl, ok, h⟩ := h
  unfold rd_written
  walk_at "dm"
  simp only [dExpY, dCallY]
  try walk_at "dm"
  refine ⟨H, rest, rfl, ok, ?_⟩
  rcases h with ⟨rfl, hb, h⟩ | ⟨bad, more, e, bn, h⟩
  · refine .inl ⟨rfl, ?_⟩
    have h12 := ok.len
    rw [List.append_nil]
    try walk_at "dm"
    unfold rd_written_1
    walk_at "dm"
    simp only [dMS]
    walk_at "dm"
    refine ⟨by rw [List.length_map]; exact len_ok (by omega), ?_⟩
    refine comp_pure Row.enc (fun _ => true) (fun r => .str (lineR r)) H (fun r hr => ?_) ?_
    · walk_at "dm"
      intro G
      refine ⟨fun g => g, fun G _ g => ⟨trivial, r, rfl, ok.rows r hr, hb r hr, ?_⟩⟩
      obtain ⟨w1, w2⟩ := words_len (ok.rows r hr) (hb r hr)
      simp only [rJoinD, items_lst]
      exact ⟨wordsR r, rfl, join_room w1 w2 (by rw [l_sp]; decide), g⟩
    · have e : List.map (fun r => D.str (lineR r)) (List.filter (fun _ => true) H) = (H.map lineR).map D.str := by
        rw [List.map_map, List.filter_eq_self.mpr (fun _ _ => rfl)]; rfl
      rw [e]
      simp only [rJoinD, items_lst]
      refine ⟨H.map lineR, rfl, join_room (k := 488) (n := 12) (fun y hy => ?_) (by rw [List.length_map]; exact h12) (by rw [l_nl]; decide), fin_of h⟩
      obtain ⟨r, hr, rfl⟩ := List.mem_map.mp hy
      obtain ⟨w1, w2⟩ := words_len (ok.rows r hr) (hb r hr)
      have := join_len (a := " ") w1 w2
      rw [l_sp] at this
      exact this
  · exact .inr ⟨bad, more, e, bn, S, .refl S, h⟩
end Dl.D4

set_option Elab.async false
set_option linter.all false
set_option maxRecDepth 100000
namespace Dl.D4
open PySem PySem.Spec PyProof.Rows L2 LamX Dl
local macro_rules | `(tactic| walk_at "dl") => `(tactic| simp (config := { maxSteps := 1000000 }) only [dSeq, dIfS, dRet, dRetN, dSet, dNext, dDrop, dVar, dC, d2, dTest, dAnd, dOr, dNot, dAndV, dOrV, dNotV, dIf, dChain, dChain3, dCall, dCons, dNil, dTup, dLst, dLstR, dAsg, Tg.d, sets, dFor, dYes, dNever, dBrk, dCnt,
  dSortKey, dLc, dLcR, dComp, wipeD, itemsI, rangeI1, enumI, dCB, rLenD, rIntD, rAbsD, rM2D, rTupD, rTupPD, rAllD, dIsi, tyD, rIxD, rItem, dSl, dPart, dNoPart, rSlD, rII, rAddD, rMulD, rMulDR, rEqG, rIsN, rInD, dNeg, dGet2, rAddXD, rListD, rListRD, dPar, dNewK, dNewT, dAsgNS, dMemo0, itR, dForR, dLcX, dLcXR, dCompR, dTupRg, dLstRg, dLstRgR, dInRg, dMemoSet, dDisp, dPairs, keyPairs, keyOf, dML, dSetIx,
  atI0, atI1, atI2, atI3, atI4, atI5, atIm2, atIm3, atIm4, deref_non, deref_bl, deref_int, deref_str, deref_tp, deref_ptp, deref_lst, items_tup, items_ptp, items_lst, dq_ii, dq_bb, dq_ss, dq_tt, dq_tp, dq_pt, dq_pp, dq_ll, dq_n0, dq_nc, dq_cn, dq_cc, ok_non, ok_bl, ok_int, ok_str, ok_tp, ok_pp, ok_ls, ok_n0, ok_cc, flat, List.all_cons, List.all_nil, List.any_cons, List.any_nil,
  startD, List.map_cons, List.map_nil, List.length_cons, List.length_nil, List.replicate_succ, List.replicate_zero, List.cons_append, List.nil_append, List.set_cons_zero, List.set_cons_succ, List.getElem?_cons_zero, List.getElem?_cons_succ, Nat.reduceAdd, Nat.reduceSub, Nat.reduceLeDiff, Nat.reduceMul,
  Bool.and_true, Bool.true_and, Bool.and_false, Bool.false_and, Bool.or_true, Bool.true_or, Bool.or_false, Bool.false_or, Bool.not_true, Bool.not_false, decide_eq_true_eq, ↓reduceIte, true_and, and_true, Bool.false_eq_true, Bool.not_eq_true', Bool.not_not, beq_self_eq_true, and_self, ne_eq, reduceCtorEq, not_false_eq_true, not_true_eq_false, Int.reduceBEq, beq_iff_eq, beq_eq_false_iff_ne, decide_eq_false_iff_not, Int.reduceLT, Int.reduceLE, Int.reduceNeg, Int.reduceAdd, Int.reduceEq, Int.reduceToNat,  kb_NoneType_bool, kb_NoneType_int, kb_NoneType_str, kb_NoneType_tuple, kb_NoneType_list, kb_bool_bool, kb_bool_int, kb_bool_str, kb_bool_tuple, kb_bool_list, kb_int_bool, kb_int_int, kb_int_str, kb_int_tuple, kb_int_list, kb_str_bool, kb_str_int, kb_str_str, kb_str_tuple, kb_str_list, kb_tuple_bool, kb_tuple_int, kb_tuple_str, kb_tuple_tuple, kb_tuple_list, kb_list_bool, kb_list_int, kb_list_str, kb_list_tuple, kb_list_list, sq_k_e, sq_kw_e, sq_kww_e, sk_k, sk_kw, sk_kww, sl_k, sl_kw, sl_kww, sk_e, cut_2_2_None, ncut_2_2_None, cut_2_None_1, ncut_2_None_1, cut_3_2_None, ncut_3_2_None, cut_3_None_1, ncut_3_None_1, cut_3_3_None, ncut_3_3_None, cut_4_2_None, ncut_4_2_None, cut_4_None_1, ncut_4_None_1, cut_4_None_3, ncut_4_None_3, cut_4_3_None, ncut_4_3_None, cut_5_2_None, ncut_5_2_None, cut_5_None_1, ncut_5_None_1, cut_5_None_3, ncut_5_None_3, cut_5_3_None, ncut_5_3_None, cut_6_2_None, ncut_6_2_None, cut_6_None_1, ncut_6_None_1, cut_6_None_3, ncut_6_None_3, cut_6_None_5, ncut_6_None_5, cut_6_3_None, ncut_6_3_None, sq_get_put, sq_get_add, sq_get_swap, sq_get_look, sq_get_split, sq_get_join, sq_put_get, sq_put_add, sq_put_swap, sq_put_look, sq_put_split, sq_put_join, sq_add_get, sq_add_put, sq_add_swap, sq_add_look, sq_add_split, sq_add_join, sq_swap_get, sq_swap_put, sq_swap_add, sq_swap_look, sq_swap_split, sq_swap_join, sq_look_get, sq_look_put, sq_look_add, sq_look_swap, sq_look_split, sq_look_join, sq_split_get, sq_split_put, sq_split_add, sq_split_swap, sq_split_look, sq_split_join, sq_join_get, sq_join_put, sq_join_add, sq_join_swap, sq_join_look, sq_join_split, ls0, ls1, ls2, ls3, ls4, ls5, ls6, ls7, ls8, ls9, ls10, nc0, nc1, nc2, nc3, nc4, nc5, nc6, nc7, nc8, nc9, nc10, sk_get, sk_put, sk_add, sk_swap, sk_look, sk_split, sk_join])


local macro_rules | `(tactic| walk_at "dm") => `(tactic| simp (config := { maxSteps := 1000000 }) only [dSeq, dIfS, dRet, dRetN, dSet, dNext, dDrop, dVar, dC, d2, dTest, dAnd, dOr, dNot, dAndV, dOrV, dNotV, dIf, dChain, dChain3, dCall, dCons, dNil, dTup, dLst, dLstR, dAsg, Tg.d, sets, dFor, dYes, dNever, dBrk, dCnt,
  dSortKey, dLc, dLcR, dComp, wipeD, itemsI, rangeI1, enumI, dCB, rLenD, rIntD, rAbsD, rM2D, rTupD, rTupPD, rAllD, dIsi, tyD, rItem, dSl, dPart, dNoPart, rSlD, rII, rAddD, rMulD, rMulDR, rEqG, rInD, dNeg, dGet2, rAddXD, rListD, rListRD, dPar, dNewK, dNewT, dAsgNS, dMemo0, itR, dForR, dLcX, dLcXR, dCompR, dTupRg, dLstRg, dLstRgR, dInRg, dMemoSet, dDisp, dPairs, keyPairs, keyOf, dML, dSetIx,
  atI0, atI1, atI2, atI3, atI4, atI5, atIm2, atIm3, atIm4, deref_non, deref_bl, deref_int, deref_str, deref_tp, deref_ptp, deref_lst, items_tup, items_ptp, items_lst, dq_ii, dq_bb, dq_ss, dq_tt, dq_tp, dq_pt, dq_pp, dq_ll, dq_n0, dq_nc, dq_cn, dq_cc, ok_non, ok_bl, ok_int, ok_str, ok_tp, ok_pp, ok_ls, ok_n0, ok_cc, flat, List.all_cons, List.all_nil, List.any_cons, List.any_nil,
  startD, List.map_cons, List.map_nil, List.length_cons, List.length_nil, List.replicate_succ, List.replicate_zero, List.cons_append, List.nil_append, List.set_cons_zero, List.set_cons_succ, List.getElem?_cons_zero, List.getElem?_cons_succ, Nat.reduceAdd, Nat.reduceSub, Nat.reduceLeDiff, Nat.reduceMul,
  Bool.and_true, Bool.true_and, Bool.and_false, Bool.false_and, Bool.or_true, Bool.true_or, Bool.or_false, Bool.false_or, Bool.not_true, Bool.not_false, decide_eq_true_eq, ↓reduceIte, true_and, and_true, Bool.false_eq_true, Bool.not_eq_true', Bool.not_not, beq_self_eq_true, and_self, ne_eq, reduceCtorEq, not_false_eq_true, not_true_eq_false, Int.reduceBEq, beq_iff_eq, beq_eq_false_iff_ne, decide_eq_false_iff_not, Int.reduceLT, Int.reduceLE, Int.reduceNeg, Int.reduceAdd, Int.reduceEq, Int.reduceToNat,  kb_NoneType_bool, kb_NoneType_int, kb_NoneType_str, kb_NoneType_tuple, kb_NoneType_list, kb_bool_bool, kb_bool_int, kb_bool_str, kb_bool_tuple, kb_bool_list, kb_int_bool, kb_int_int, kb_int_str, kb_int_tuple, kb_int_list, kb_str_bool, kb_str_int, kb_str_str, kb_str_tuple, kb_str_list, kb_tuple_bool, kb_tuple_int, kb_tuple_str, kb_tuple_tuple, kb_tuple_list, kb_list_bool, kb_list_int, kb_list_str, kb_list_tuple, kb_list_list, sq_k_e, sq_kw_e, sq_kww_e, sk_k, sk_kw, sk_kww, sl_k, sl_kw, sl_kww, sk_e, cut_2_2_None, ncut_2_2_None, cut_2_None_1, ncut_2_None_1, cut_3_2_None, ncut_3_2_None, cut_3_None_1, ncut_3_None_1, cut_3_3_None, ncut_3_3_None, cut_4_2_None, ncut_4_2_None, cut_4_None_1, ncut_4_None_1, cut_4_None_3, ncut_4_None_3, cut_4_3_None, ncut_4_3_None, cut_5_2_None, ncut_5_2_None, cut_5_None_1, ncut_5_None_1, cut_5_None_3, ncut_5_None_3, cut_5_3_None, ncut_5_3_None, cut_6_2_None, ncut_6_2_None, cut_6_None_1, ncut_6_None_1, cut_6_None_3, ncut_6_None_3, cut_6_None_5, ncut_6_None_5, cut_6_3_None, ncut_6_3_None, sq_get_put, sq_get_add, sq_get_swap, sq_get_look, sq_get_split, sq_get_join, sq_put_get, sq_put_add, sq_put_swap, sq_put_look, sq_put_split, sq_put_join, sq_add_get, sq_add_put, sq_add_swap, sq_add_look, sq_add_split, sq_add_join, sq_swap_get, sq_swap_put, sq_swap_add, sq_swap_look, sq_swap_split, sq_swap_join, sq_look_get, sq_look_put, sq_look_add, sq_look_swap, sq_look_split, sq_look_join, sq_split_get, sq_split_put, sq_split_add, sq_split_swap, sq_split_look, sq_split_join, sq_join_get, sq_join_put, sq_join_add, sq_join_swap, sq_join_look, sq_join_split, ls0, ls1, ls2, ls3, ls4, ls5, ls6, ls7, ls8, ls9, ls10, nc0, nc1, nc2, nc3, nc4, nc5, nc6, nc7, nc8, nc9, nc10, sk_get, sk_put, sk_add, sk_swap, sk_look, sk_split, sk_join])


/-! ### alike: ints, and answers -/
def sp_alike : Nat → DSp
  | 0 => fun ds S R => ∃ i j : Int, ds = [.int i, .int j] ∧ R (.bl (decide (i = j))) S
  | _ + 1 => fun ds S R => ∃ a b : An, ds = [a.enc, b.enc] ∧ (∀ l, b = .look l → l.length ≤ 900) ∧ R (.bl (decide (a = b))) S
def rd__law_alike0_1 : DS :=
 dNever
def rd__law_alike0_2 : DS :=
 (dSeq (dIfS (dTest (d2 (rEqG true) (dCB rLenD (dCons (dVar 0) dNil)) (dCB rLenD (dCons (dVar 1) dNil))))
 (dRet (dC (.bl false)))
 dNext)
 rd__law_alike0_1)
def rd__law_alike0_3 : DS :=
 (dSeq (dIfS (dOr (dTest (d2 (rEqG true) (dIsi "tuple" (dVar 1)) (dIsi "tuple" (dVar 0)))) (dTest (d2 (rEqG true) (dIsi "list" (dVar 1)) (dIsi "list" (dVar 0)))))
 (dRet (dC (.bl false)))
 dNext)
 rd__law_alike0_2)
def rd__law_alike0_4 : DS :=
 (dSeq (dIfS (dTest (dIsi "str" (dVar 1)))
 (dRet (dAndV (dIsi "str" (dVar 0)) (d2 (rEqG false) (dVar 0) (dVar 1))))
 dNext)
 rd__law_alike0_3)
def rd__law_alike0_5 : DS :=
 (dSeq (dIfS (dTest (dIsi "int" (dVar 1)))
 (dRet (dAndV (dIsi "int" (dVar 0)) (dAndV (dNotV (dIsi "bool" (dVar 0))) (d2 (rEqG false) (dVar 0) (dVar 1)))))
 dNext)
 rd__law_alike0_4)
def rd__law_alike0_6 : DS :=
 (dSeq (dIfS (dTest (dIsi "bool" (dVar 1)))
 (dRet (dAndV (dIsi "bool" (dVar 0)) (d2 (rEqG false) (dVar 0) (dVar 1))))
 dNext)
 rd__law_alike0_5)
def rd__law_alike0 : DS :=
 (dSeq (dIfS (dTest (d2 (rIsN false) (dVar 1) (dC .non)))
 (dRet (d2 (rIsN false) (dVar 0) (dC .non)))
 dNext)
 rd__law_alike0_6)
def rd__law_alike_1 (n : Nat) : DS :=
 (dRet (dCB rAllD (dCons (dLc (rangeI1 (dCons (dCB rLenD (dCons (dVar 1) dNil)) dNil)) (.nm 2) dYes (dCall (sp_alike n) (dCons (d2 rIxD (dVar 0) (dVar 2)) (dCons (d2 rIxD (dVar 1) (dVar 2)) dNil))) [2]) dNil)))
def rd__law_alike_2 (n : Nat) : DS :=
 (dSeq (dIfS (dTest (d2 (rEqG true) (dCB rLenD (dCons (dVar 0) dNil)) (dCB rLenD (dCons (dVar 1) dNil))))
 (dRet (dC (.bl false)))
 dNext)
 (rd__law_alike_1 n))
def rd__law_alike_3 (n : Nat) : DS :=
 (dSeq (dIfS (dOr (dTest (d2 (rEqG true) (dIsi "tuple" (dVar 1)) (dIsi "tuple" (dVar 0)))) (dTest (d2 (rEqG true) (dIsi "list" (dVar 1)) (dIsi "list" (dVar 0)))))
 (dRet (dC (.bl false)))
 dNext)
 (rd__law_alike_2 n))
def rd__law_alike_4 (n : Nat) : DS :=
 (dSeq (dIfS (dTest (dIsi "str" (dVar 1)))
 (dRet (dAndV (dIsi "str" (dVar 0)) (d2 (rEqG false) (dVar 0) (dVar 1))))
 dNext)
 (rd__law_alike_3 n))
def rd__law_alike_5 (n : Nat) : DS :=
 (dSeq (dIfS (dTest (dIsi "int" (dVar 1)))
 (dRet (dAndV (dIsi "int" (dVar 0)) (dAndV (dNotV (dIsi "bool" (dVar 0))) (d2 (rEqG false) (dVar 0) (dVar 1)))))
 dNext)
 (rd__law_alike_4 n))
def rd__law_alike_6 (n : Nat) : DS :=
 (dSeq (dIfS (dTest (dIsi "bool" (dVar 1)))
 (dRet (dAndV (dIsi "bool" (dVar 0)) (d2 (rEqG false) (dVar 0) (dVar 1))))
 dNext)
 (rd__law_alike_5 n))
def rd__law_alike (n : Nat) : DS :=
 (dSeq (dIfS (dTest (d2 (rIsN false) (dVar 1) (dC .non)))
 (dRet (d2 (rIsN false) (dVar 0) (dC .non)))
 dNext)
 (rd__law_alike_6 n))
theorem ok__law_alike0 (ds : List D) (S : Store) (R : DK) (h : sp_alike 0 ds S R) : rd__law_alike0 (ends R) (startD ["_law_found", "_law_due", "_law_k"] ds) S := by
  obtain ⟨i, j, rfl, h⟩ := h
  unfold rd__law_alike0; walk_at "dl"; unfold rd__law_alike0_6; walk_at "dl"; unfold rd__law_alike0_5; walk_at "dl"
  exact fin_of h
theorem bls_dec (l m : List Int) (n : Nat) : blsOf ((List.range n).map fun k => D.bl (decide (l.getD k 0 = m.getD k 0))) = some ((List.range n).map fun k => decide (l.getD k 0 = m.getD k 0)) := by
  generalize List.range n = r
  induction r with
  | nil => rfl
  | cons a r ih => rw [List.map_cons, blsOf, ih]; rfl
theorem all_dec {l m : List Int} (h : l.length = m.length) : ((List.range m.length).map fun k => decide (l.getD k 0 = m.getD k 0)).all id = decide (l = m) := by
  rw [Bool.eq_iff_iff]
  simp only [List.all_map, List.all_eq_true, Function.comp, id, decide_eq_true_eq, List.mem_range]
  constructor
  · intro q
    refine List.ext_getElem h fun i h1 h2 => ?_
    have := q i h2
    simpa [h1, h2] using this
  · rintro rfl k hk
    rfl
theorem look_look (S : Store) (R : DK) (l m : List Int) (lm : m.length ≤ 900) (h : R (.bl (decide (An.look l = An.look m))) S) : if ¬((List.map D.int l).length : Int) = ((List.map D.int m).length : Int) then ∃ S'', Sub S'' S ∧ R (.bl false) S''
    else rd__law_alike_1 0 (ends R) [some (.tup (List.map D.int l)), some (.tup (List.map D.int m)), none] S := by
  rw [List.length_map, List.length_map]
  by_cases c : l.length = m.length
  · rw [if_neg (by simp [c])]
    unfold rd__law_alike_1
    walk_at "dl"
    refine ⟨by omega, by rw [List.length_map]; omega, by rw [intsFrom_length, List.length_map]; exact len_ok (by simp; omega), ?_⟩
    rw [List.length_map, Int.toNat_natCast, intsFrom_eq]
    refine comp_pure (fun i : Nat => D.int (0 + i)) (fun _ => true) (fun k => D.bl (decide (l.getD k 0 = m.getD k 0))) (List.range m.length) (fun i hi => ?_) ?_
    · have hi := List.mem_range.mp hi
      have il : i < l.length := by omega
      rw [Int.zero_add]
      refine fun G => ⟨fun g => g, fun G _ g => ?_⟩
      show dCall (sp_alike 0) _ [some (.tup (l.map D.int)), some (.tup (m.map D.int)), some (.int i)] S G
      have e1 : atI (l.map D.int) (i : Int) = some (.int (l.getD i 0)) := by rw [atI_n (by rw [List.length_map]; exact il), List.getElem?_map]; simp [il]
      have e2 : atI (m.map D.int) (i : Int) = some (.int (m.getD i 0)) := by rw [atI_n (by rw [List.length_map]; exact hi), List.getElem?_map]; simp [hi]
      walk_at "dl"
      simp only [e1, e2]
      exact ⟨_, _, rfl, g⟩
    · rw [List.filter_eq_self.mpr fun _ _ => rfl, bls_dec]
      simp only [all_dec c]
      have e : decide (l = m) = decide (An.look l = An.look m) := by simp
      rw [e]
      exact fin_of h
  · rw [if_pos (by omega)]
    have e : decide (An.look l = An.look m) = false := by
      rw [decide_eq_false_iff_not]
      rintro ⟨⟩
      exact c rfl
    rw [e] at h
    exact fin_of h
theorem ok__law_alike (ds : List D) (S : Store) (R : DK) (h : sp_alike 1 ds S R) : rd__law_alike 0 (ends R) (startD ["_law_found", "_law_due", "_law_k"] ds) S := by
  obtain ⟨a, b, rfl, lb, h⟩ := h
  cases b with
  | int j =>
    cases a with
    | int i => unfold An.enc; unfold rd__law_alike; walk_at "dl"; unfold rd__law_alike_6; walk_at "dl"; unfold rd__law_alike_5; walk_at "dl"; rw [show (i == j) = decide (An.int i = An.int j) by by_cases c : i = j <;> simp [c]]; exact fin_of h
    | bl i => unfold An.enc; unfold rd__law_alike; walk_at "dl"; unfold rd__law_alike_6; walk_at "dl"; unfold rd__law_alike_5; walk_at "dl"; exact fin_of (by simpa using h)
    | look i => unfold An.enc; unfold rd__law_alike; walk_at "dl"; unfold rd__law_alike_6; walk_at "dl"; unfold rd__law_alike_5; walk_at "dl"; exact fin_of (by simpa using h)
  | bl j =>
    cases a with
    | int i => unfold An.enc; unfold rd__law_alike; walk_at "dl"; unfold rd__law_alike_6; walk_at "dl"; exact fin_of (by simpa using h)
    | bl i => unfold An.enc; unfold rd__law_alike; walk_at "dl"; unfold rd__law_alike_6; walk_at "dl"; rw [show (i == j) = decide (An.bl i = An.bl j) by cases i <;> cases j <;> rfl]; exact fin_of h
    | look i => unfold An.enc; unfold rd__law_alike; walk_at "dl"; unfold rd__law_alike_6; walk_at "dl"; exact fin_of (by simpa using h)
  | look m =>
    cases a with
    | int i => unfold An.enc; unfold rd__law_alike; walk_at "dl"; unfold rd__law_alike_6; walk_at "dl"; unfold rd__law_alike_5; walk_at "dl"; unfold rd__law_alike_4; walk_at "dl"; unfold rd__law_alike_3; walk_at "dl"; exact fin_of (by simpa using h)
    | bl i => unfold An.enc; unfold rd__law_alike; walk_at "dl"; unfold rd__law_alike_6; walk_at "dl"; unfold rd__law_alike_5; walk_at "dl"; unfold rd__law_alike_4; walk_at "dl"; unfold rd__law_alike_3; walk_at "dl"; exact fin_of (by simpa using h)
    | look l => unfold An.enc; unfold rd__law_alike; walk_at "dl"; unfold rd__law_alike_6; walk_at "dl"; unfold rd__law_alike_5; walk_at "dl"; unfold rd__law_alike_4; walk_at "dl"; unfold rd__law_alike_3; walk_at "dl"; unfold rd__law_alike_2; walk_at "dl"; exact look_look S R l m (lb m rfl) h
/-! ### what is due -/
def sp__law_done : DSp := fun ds S R => ∃ (ws : Ws) (dq : Dq), ds = [.ptp (ws.map encP), dq.enc] ∧ WsOk ws ∧ ws.length ≤ 60 ∧ dq.ok ∧ R (.tup [(dq.ans ws).enc, .ptp ((dq.next ws).map encP)]) S
def rd__law_done_1 : DS :=
 (dRet (dTup (dCons (dVar 6) (dCons (dCB rTupPD (dCons (dLc (itemsI (dCB rSortKD (dCons (dVar 2) dNil))) (.nm 3) (dTest (d2 rGtD (d2 rIxD (dVar 2) (dVar 3)) (dC (.int 0)))) (dTup (dCons (dVar 3) (dCons (d2 rIxD (dVar 2) (dVar 3)) dNil))) [3]) dNil)) dNil))))
def rd__law_done_2 : DS :=
 (dSeq (dSet 6 (d2 rIxD (dDisp [((dC (.str "get")), (dVar 4)), ((dC (.str "put")), (dVar 4)), ((dC (.str "add")), (dVar 5)), ((dC (.str "swap")), (dAndV (d2 (rEqG false) (d2 rIxD (dVar 1) (dC (.int 0))) (dC (.str "swap"))) (d2 (rEqG false) (dVar 4) (d2 rIxD (dVar 1) (dC (.int 2))))))]) (d2 rIxD (dVar 1) (dC (.int 0)))))
 rd__law_done_1)
def rd__law_done_3 : DS :=
 (dSeq (dPut (dVar 5) (dVar 2) (d2 rIxD (dVar 1) (dC (.int 1))))
 rd__law_done_2)
def rd__law_done_4 : DS :=
 (dSeq (dIfS (dAnd (dTest (d2 (rEqG false) (d2 rIxD (dVar 1) (dC (.int 0))) (dC (.str "swap")))) (dTest (d2 (rEqG true) (dVar 4) (d2 rIxD (dVar 1) (dC (.int 2))))))
 (dSet 5 (dVar 4))
 dNext)
 rd__law_done_3)
def rd__law_done_5 : DS :=
 (dSeq (dSet 5 (d2 rIxD (dDisp [((dC (.str "get")), (dVar 4)), ((dC (.str "put")), (d2 rIxD (dVar 1) (dNeg (dC (.int 1))))), ((dC (.str "add")), (d2 rModD (d2 rAddD (dVar 4) (d2 rIxD (dVar 1) (dNeg (dC (.int 1))))) (dC (.int 1000)))), ((dC (.str "swap")), (d2 rIxD (dVar 1) (dNeg (dC (.int 1)))))]) (d2 rIxD (dVar 1) (dC (.int 0)))))
 rd__law_done_4)
def rd__law_done_6 : DS :=
 (dSeq (dSet 4 (dGet2 (dVar 2) (d2 rIxD (dVar 1) (dC (.int 1))) (dC (.int 0))))
 rd__law_done_5)
def rd__law_done_7 : DS :=
 (dSeq (dIfS (dTest (d2 (rEqG false) (d2 rIxD (dVar 1) (dC (.int 0))) (dC (.str "look"))))
 (dRet (dTup (dCons (dCB rTupD (dCons (dLc (itemsI (d2 rIxD (dVar 1) (dC (.int 1)))) (.nm 3) dYes (dGet2 (dVar 2) (dVar 3) (dC (.int 0))) [3]) dNil)) (dCons (dVar 0) dNil))))
 dNext)
 rd__law_done_6)
def rd__law_done : DS :=
 (dSeq (dSet 2 (dCB rDictD (dCons (dVar 0) dNil)))
 rd__law_done_7)
/-- the end: what is known, sorted, without the zeros -/
theorem done_1 {S S' : Store} {p : Addr} {ws : List (Int × Int)} {a b x w m : D} {j : Option D} {R : DK} (k : Kn S S' p ws) (nd : (ws.map (·.1)).Nodup) (hl : ws.length ≤ 61)
    (h : ∀ ws' : List (Int × Int), ws'.Pairwise ltW → (∀ p : Int × Int, p ∈ ws' ↔ (p.1 ∈ ws.map (·.1) ∧ p.2 = getW ws p.1 ∧ 0 < p.2)) → ws'.length ≤ ws.length → R (.tup [x, .ptp (ws'.map encP)]) S) :
    rd__law_done_1 (ends R) [some a, some b, some (.ref p), j, some w, some m, some x] S' := by
  unfold rd__law_done_1
  walk_at "dl"
  unfold rSortKD
  simp only [k.kn]
  refine ⟨ws.map (·.1), by simp [Function.comp], by rw [List.length_map]; omega, fun out pm so => ?_⟩
  have ol : out.length = ws.length := by rw [pm.length_eq, List.length_map]
  have strict : out.Pairwise (· < ·) := strict_of (f := fun i => i) so ((pm.pairwise_iff (fun h => h.symm)).mpr nd)
  refine ⟨by rw [List.length_map]; exact len_ok (by omega), ?_⟩
  refine comp_pure D.int (fun i => decide (0 < getW ws i)) (fun i => encP (i, getW ws i)) out (fun i hi => ?_) ?_
  · have hv : valD (ws.map kdW) (.inl i) = some (.int (getW ws i)) := getW_val (pm.mem_iff.mp hi)
    have ix : ∀ (G : DK), G (.int (getW ws i)) S' → rIxD (.ref p) (.int i) S' G := fun G g => ix_rfK k.kn rfl hv g
    refine fun G => ⟨fun g => ix _ ⟨trivial, g⟩, fun G _ g => ?_⟩
    refine ix (fun d S2 => _ ≤ sizeLine ∧ _) ⟨len_ok (by simp), g⟩
  · have e : ((out.filter fun i => decide (0 < getW ws i)).map fun i => encP (i, getW ws i)) = (((out.filter fun i => decide (0 < getW ws i)).map fun i => (i, getW ws i))).map encP := by rw [List.map_map]; rfl
    rw [e]
    refine fin_sub (h _ ?_ ?_ ?_) k.sub
    · exact List.pairwise_map.mpr ((strict.filter _).imp fun h => h)
    · intro q
      rw [List.mem_map]
      constructor
      · rintro ⟨i, hi, rfl⟩
        obtain ⟨h1, h2⟩ := List.mem_filter.mp hi
        exact ⟨pm.mem_iff.mp h1, rfl, by simpa using h2⟩
      · rintro ⟨h1, h2, h3⟩
        exact ⟨q.1, List.mem_filter.mpr ⟨pm.mem_iff.mpr h1, by simp only [decide_eq_true_eq]; omega⟩, by rw [← h2]⟩
    · rw [List.length_map]
      have := List.length_filter_le (fun i => decide (0 < getW ws i)) out
      omega
theorem done_3 {S S' : Store} {p : Addr} {ws : List (Int × Int)} {a z w : D} {r : List D} {key m : Int} {j1 j2 : Option D} {R : DK} (k : Kn S S' p ws) (hl : ws.length ≤ 60)
    (h : ∀ S2 ws2, Kn S S2 p ws2 → ws2.length ≤ ws.length + 1 → (∀ k, k ∈ ws2.map (·.1) ↔ k = key ∨ k ∈ ws.map (·.1)) → ((ws.map (·.1)).Nodup → (ws2.map (·.1)).Nodup) → (∀ k, getW ws2 k = if k = key then m else getW ws k) →
      rd__law_done_2 (ends R) [some a, some (.tup (z :: .int key :: r)), some (.ref p), j1, some w, some (.int m), j2] S2) :
    rd__law_done_3 (ends R) [some a, some (.tup (z :: .int key :: r)), some (.ref p), j1, some w, some (.int m), j2] S' := by
  unfold rd__law_done_3
  walk_at "dl"
  simp only [dPut]
  walk_at "dl"
  simp only [k.kn]
  obtain ⟨ws2, e1, e2, e3, e4, e5⟩ := putD_ws (ws := ws) key m
  rw [e1]
  refine ⟨by rw [List.length_map]; exact Nat.lt_of_lt_of_le (Nat.lt_succ_of_le hl) (len_ok (by omega)), ?_⟩
  refine h _ ws2 ⟨fun x o e => ?_, k.new, ups_same⟩ e2 e3 e4 e5
  have ne : x ≠ p := fun q => by rw [q, k.new] at e; cases e
  rw [ups_ne ne]
  exact k.sub x o e
theorem okP__law_done (ds : List D) (S : Store) (R : DK) (h : Dl.sp__law_done ds S R) : rd__law_done (ends R) (startD ["_law_worths", "_law_deed", "_law_known", "_law_key", "_law_worth", "_law_more", "_law_answer"] ds) S := by
  obtain ⟨k, dd, rfl, hs, hl, hp, h⟩ := h
  unfold rd__law_done
  walk_at "dl"
  simp only [rDictD, pairs_ws, dict_ws hs]
  intro p hq
  have kn : Kn S (ups S p (.dK (k.ws.map kdW))) p k.ws := ⟨sub_ups hq, hq, ups_same⟩
  generalize ups S p (.dK (k.ws.map kdW)) = S1 at kn ⊢
  have nd : (k.ws.map (·.1)).Nodup := by
    refine List.pairwise_map.mpr (hs.imp fun h => ?_)
    unfold ltW at h
    omega
  have fin : ∀ (S2 S3 : Store) (ws2 : List (Int × Int)) (x w' m : D), Kn S S2 p ws2 → ws2.length ≤ k.ws.length + 1 → (∀ i, i ∈ ws2.map (·.1) ↔ i = dd.key ∨ i ∈ k.ws.map (·.1)) → ((k.ws.map (·.1)).Nodup → (ws2.map (·.1)).Nodup) → (∀ i, getW ws2 i = if i = dd.key then dd.new (getW k.ws dd.key) else getW k.ws i) →
      x = dd.ans (getW k.ws dd.key) → rd__law_done_1 (ends R) [some (.ptp (k.ws.map encP)), some dd.enc, some (.ref p), none, some w', some m, some x] S2 := by
    rintro S2 S3 ws2 x w' m kn2 l2 m2 n2 g2 rfl
    refine done_1 kn2 (n2 nd) (by omega) fun ws' a1 a2 a3 => h ws' a1 (fun q => ?_) (by omega)
    rw [a2, m2, g2]
    by_cases e : q.1 = dd.key
    · rw [if_pos e]
      constructor
      · rintro ⟨_, h2, h3⟩
        exact .inr ⟨by omega, Prod.ext e h2⟩
      · rintro (⟨_, h2⟩ | ⟨h1, rfl⟩)
        · exact absurd e h2
        · exact ⟨.inl rfl, rfl, h1⟩
    · rw [if_neg e]
      constructor
      · rintro ⟨h1, h2, h3⟩
        obtain ⟨r, hr, er⟩ := List.mem_map.mp (h1.resolve_left e)
        have g := getW_mem hs hr
        have er : r.1 = q.1 := er
        rw [er] at g
        refine .inl ⟨?_, e⟩
        have : q = r := Prod.ext er.symm (by rw [h2, g])
        rw [this]; exact hr
      · rintro (⟨h1, _⟩ | ⟨_, rfl⟩)
        · exact ⟨.inr (List.mem_map.mpr ⟨q, h1, rfl⟩), (getW_mem hs h1).symm, hp q h1⟩
        · exact absurd rfl e
  cases dd with
  | get key =>
    unfold Dd.enc at fin ⊢
    unfold rd__law_done_7
    walk_at "dl"
    unfold rd__law_done_6
    walk_at "dl"
    simp only [kn.kn, val_ws]
    unfold rd__law_done_5
    walk_at "dl"
    simp only [mergeS]
    intro p2 hp2
    simp only [deref_rfK ups_same, ups_same, vs_get]
    have kn2 := fun o => kn.ups (o := o) hp2
    unfold rd__law_done_4
    walk_at "dl"
    refine done_3 (kn2 _) hl fun S2 ws2 kn3 l3 m3 n3 g3 => ?_
    unfold rd__law_done_2
    walk_at "dl"
    simp only [mergeS]
    intro p3 hp3
    simp only [deref_rfK ups_same, ups_same, vs_get]
    exact fin _ S2 ws2 _ _ _ (kn3.ups hp3) l3 m3 n3 g3 rfl
  | put key x =>
    unfold Dd.enc at fin ⊢
    unfold rd__law_done_7
    walk_at "dl"
    unfold rd__law_done_6
    walk_at "dl"
    simp only [kn.kn, val_ws]
    unfold rd__law_done_5
    walk_at "dl"
    simp only [mergeS]
    intro p2 hp2
    simp only [deref_rfK ups_same, ups_same, vs_put]
    have kn2 := fun o => kn.ups (o := o) hp2
    unfold rd__law_done_4
    walk_at "dl"
    refine done_3 (kn2 _) hl fun S2 ws2 kn3 l3 m3 n3 g3 => ?_
    unfold rd__law_done_2
    walk_at "dl"
    simp only [mergeS]
    intro p3 hp3
    simp only [deref_rfK ups_same, ups_same, vs_put]
    exact fin _ S2 ws2 _ _ _ (kn3.ups hp3) l3 m3 n3 g3 rfl
  | add key x =>
    unfold Dd.enc at fin ⊢
    unfold rd__law_done_7
    walk_at "dl"
    unfold rd__law_done_6
    walk_at "dl"
    simp only [kn.kn, val_ws]
    unfold rd__law_done_5
    walk_at "dl"
    simp only [mergeS]
    intro p2 hp2
    simp only [deref_rfK ups_same, ups_same, vs_add]
    have kn2 := fun o => kn.ups (o := o) hp2
    unfold rd__law_done_4
    walk_at "dl"
    refine done_3 (kn2 _) hl fun S2 ws2 kn3 l3 m3 n3 g3 => ?_
    unfold rd__law_done_2
    walk_at "dl"
    simp only [mergeS]
    intro p3 hp3
    simp only [deref_rfK ups_same, ups_same, vs_add]
    exact fin _ S2 ws2 _ _ _ (kn3.ups hp3) l3 m3 n3 g3 rfl
  | swap key a b =>
    unfold Dd.enc at fin ⊢
    unfold rd__law_done_7
    walk_at "dl"
    unfold rd__law_done_6
    walk_at "dl"
    simp only [kn.kn, val_ws]
    unfold rd__law_done_5
    walk_at "dl"
    simp only [mergeS]
    intro p2 hp2
    simp only [deref_rfK ups_same, ups_same, vs_swap]
    have kn2 := fun o => kn.ups (o := o) hp2
    unfold rd__law_done_4
    walk_at "dl"
    split
    · rename_i e
      have e' : ¬ getW k.ws key = a := by simpa using e
      refine done_3 (kn2 _) hl fun S2 ws2 kn3 l3 m3 n3 g3 => ?_
      unfold rd__law_done_2
      walk_at "dl"
      simp only [mergeS]
      intro p3 hp3
      simp only [deref_rfK ups_same, ups_same, vs_swap]
      refine fin _ S2 ws2 _ _ _ (kn3.ups hp3) l3 m3 n3 (fun i => (g3 i).trans ?_) rfl
      simp only [Dd.new, Dd.key, e', ↓reduceIte]
    · rename_i e
      have e' : getW k.ws key = a := by simpa using e
      refine done_3 (kn2 _) hl fun S2 ws2 kn3 l3 m3 n3 g3 => ?_
      unfold rd__law_done_2
      walk_at "dl"
      simp only [mergeS]
      intro p3 hp3
      simp only [deref_rfK ups_same, ups_same, vs_swap]
      refine fin _ S2 ws2 _ _ _ (kn3.ups hp3) l3 m3 n3 (fun i => (g3 i).trans ?_) rfl
      simp only [Dd.new, Dd.key, e', ↓reduceIte]

theorem ok__law_done (ds : List D) (S : Store) (R : DK) (h : sp__law_done ds S R) : rd__law_done (ends R) (startD ["_law_worths", "_law_deed", "_law_known", "_law_key", "_law_worth", "_law_more", "_law_answer"] ds) S := by
  obtain ⟨ws, dq, rfl, wk, hl, dok, h⟩ := h
  cases dq with
  | pl dd =>
    have h2 : R (.tup [(ansD dd (getW ws dd.key)).enc, .ptp ((putW ws dd.key (dd.new (getW ws dd.key))).map encP)]) S := h
    rw [ansD_enc] at h2
    refine okP__law_done _ S R ⟨⟨0, 0, 0, 0, ws, []⟩, dd, rfl, wk.so, hl, wk.pos, fun ws' a1 a2 _ => ?_⟩
    have e : ws' = putW ws dd.key (dd.new (getW ws dd.key)) := ws_ext a1 (putW_sorted wk.so _ _) fun p => (a2 p).trans (putW_mem _ _ _ _).symm
    rw [e]
    exact h2
  | look ks =>
    unfold rd__law_done
    walk_at "dl"
    simp only [rDictD, pairs_ws, dict_ws wk.so]
    intro p hp
    have kn : (ups S p (.dK (ws.map kdW))) p = some (.dK (ws.map kdW)) := ups_same
    have sb : Sub S (ups S p (.dK (ws.map kdW))) := sub_ups hp
    generalize ups S p (.dK (ws.map kdW)) = S1 at kn sb ⊢
    unfold Dq.enc
    unfold rd__law_done_7
    walk_at "dl"
    refine ⟨by rw [List.length_map]; have := dok.2.1; exact len_ok (by omega), ?_⟩
    refine comp_pure D.int (fun _ => true) (fun k => D.int (getW ws k)) ks (fun k hk => ?_) ?_
    · walk_at "dl"
      refine fun G => ⟨fun g => g, fun G _ g => ?_⟩
      simp only [kn, val_ws]
      exact ⟨trivial, g⟩
    · rw [List.filter_eq_self.mpr fun _ _ => rfl]
      have e : ((Dq.look ks).ans ws).enc = .tup (ks.map fun k => D.int (getW ws k)) := by
        show D.tup ((ks.map (getW ws)).map D.int) = _
        rw [List.map_map]; rfl
      rw [e] at h
      exact fin_sub h sb
end Dl.D4

set_option Elab.async false
set_option linter.all false
set_option maxRecDepth 100000
namespace Dl.D4
open PySem PySem.Spec PyProof.Rows L2 LamX Dl
local macro_rules | `(tactic| walk_at "dl") => `(tactic| simp (config := { maxSteps := 1000000 }) only [dSeq, dIfS, dRet, dRetN, dSet, dNext, dDrop, dVar, dC, d2, dTest, dAnd, dOr, dNot, dAndV, dOrV, dNotV, dIf, dChain, dChain3, dCall, dCons, dNil, dTup, dLst, dLstR, dAsg, Tg.d, sets, dFor, dYes, dNever, dBrk, dCnt,
  dSortKey, dLc, dLcR, dComp, wipeD, itemsI, rangeI1, enumI, dCB, rLenD, rIntD, rAbsD, rM2D, rTupD, rTupPD, rAllD, dIsi, tyD, rIxD, rItem, dSl, dPart, dNoPart, rSlD, rII, rAddD, rMulD, rMulDR, rEqG, rIsN, rInD, dNeg, dGet2, rAddXD, rListD, rListRD, dPar, dNewK, dNewT, dAsgNS, dMemo0, itR, dForR, dLcX, dLcXR, dCompR, dTupRg, dLstRg, dLstRgR, dInRg, dMemoSet, dDisp, dPairs, keyPairs, keyOf, dML, dSetIx,
  atI0, atI1, atI2, atI3, atI4, atI5, atIm2, atIm3, atIm4, deref_non, deref_bl, deref_int, deref_str, deref_tp, deref_ptp, deref_lst, items_tup, items_ptp, items_lst, dq_ii, dq_bb, dq_ss, dq_tt, dq_tp, dq_pt, dq_pp, dq_ll, dq_n0, dq_nc, dq_cn, dq_cc, ok_non, ok_bl, ok_int, ok_str, ok_tp, ok_pp, ok_ls, ok_n0, ok_cc, flat, List.all_cons, List.all_nil, List.any_cons, List.any_nil,
  startD, List.map_cons, List.map_nil, List.length_cons, List.length_nil, List.replicate_succ, List.replicate_zero, List.cons_append, List.nil_append, List.set_cons_zero, List.set_cons_succ, List.getElem?_cons_zero, List.getElem?_cons_succ, Nat.reduceAdd, Nat.reduceSub, Nat.reduceLeDiff, Nat.reduceMul,
  Bool.and_true, Bool.true_and, Bool.and_false, Bool.false_and, Bool.or_true, Bool.true_or, Bool.or_false, Bool.false_or, Bool.not_true, Bool.not_false, decide_eq_true_eq, ↓reduceIte, true_and, and_true, Bool.false_eq_true, Bool.not_eq_true', Bool.not_not, beq_self_eq_true, and_self, ne_eq, reduceCtorEq, not_false_eq_true, not_true_eq_false, Int.reduceBEq, beq_iff_eq, beq_eq_false_iff_ne, decide_eq_false_iff_not, Int.reduceLT, Int.reduceLE, Int.reduceNeg, Int.reduceAdd, Int.reduceEq, Int.reduceToNat,  kb_NoneType_bool, kb_NoneType_int, kb_NoneType_str, kb_NoneType_tuple, kb_NoneType_list, kb_bool_bool, kb_bool_int, kb_bool_str, kb_bool_tuple, kb_bool_list, kb_int_bool, kb_int_int, kb_int_str, kb_int_tuple, kb_int_list, kb_str_bool, kb_str_int, kb_str_str, kb_str_tuple, kb_str_list, kb_tuple_bool, kb_tuple_int, kb_tuple_str, kb_tuple_tuple, kb_tuple_list, kb_list_bool, kb_list_int, kb_list_str, kb_list_tuple, kb_list_list, sq_k_e, sq_kw_e, sq_kww_e, sk_k, sk_kw, sk_kww, sl_k, sl_kw, sl_kww, sk_e, cut_2_2_None, ncut_2_2_None, cut_2_None_1, ncut_2_None_1, cut_3_2_None, ncut_3_2_None, cut_3_None_1, ncut_3_None_1, cut_3_3_None, ncut_3_3_None, cut_4_2_None, ncut_4_2_None, cut_4_None_1, ncut_4_None_1, cut_4_None_3, ncut_4_None_3, cut_4_3_None, ncut_4_3_None, cut_5_2_None, ncut_5_2_None, cut_5_None_1, ncut_5_None_1, cut_5_None_3, ncut_5_None_3, cut_5_3_None, ncut_5_3_None, cut_6_2_None, ncut_6_2_None, cut_6_None_1, ncut_6_None_1, cut_6_None_3, ncut_6_None_3, cut_6_None_5, ncut_6_None_5, cut_6_3_None, ncut_6_3_None, sq_get_put, sq_get_add, sq_get_swap, sq_get_look, sq_get_split, sq_get_join, sq_put_get, sq_put_add, sq_put_swap, sq_put_look, sq_put_split, sq_put_join, sq_add_get, sq_add_put, sq_add_swap, sq_add_look, sq_add_split, sq_add_join, sq_swap_get, sq_swap_put, sq_swap_add, sq_swap_look, sq_swap_split, sq_swap_join, sq_look_get, sq_look_put, sq_look_add, sq_look_swap, sq_look_split, sq_look_join, sq_split_get, sq_split_put, sq_split_add, sq_split_swap, sq_split_look, sq_split_join, sq_join_get, sq_join_put, sq_join_add, sq_join_swap, sq_join_look, sq_join_split, ls0, ls1, ls2, ls3, ls4, ls5, ls6, ls7, ls8, ls9, ls10, nc0, nc1, nc2, nc3, nc4, nc5, nc6, nc7, nc8, nc9, nc10, sk_get, sk_put, sk_add, sk_swap, sk_look, sk_split, sk_join])


local macro_rules | `(tactic| walk_at "dm") => `(tactic| simp (config := { maxSteps := 1000000 }) only [dSeq, dIfS, dRet, dRetN, dSet, dNext, dDrop, dVar, dC, d2, dTest, dAnd, dOr, dNot, dAndV, dOrV, dNotV, dIf, dChain, dChain3, dCall, dCons, dNil, dTup, dLst, dLstR, dAsg, Tg.d, sets, dFor, dYes, dNever, dBrk, dCnt,
  dSortKey, dLc, dLcR, dComp, wipeD, itemsI, rangeI1, enumI, dCB, rLenD, rIntD, rAbsD, rM2D, rTupD, rTupPD, rAllD, dIsi, tyD, rItem, dSl, dPart, dNoPart, rSlD, rII, rAddD, rMulD, rMulDR, rEqG, rInD, dNeg, dGet2, rAddXD, rListD, rListRD, dPar, dNewK, dNewT, dAsgNS, dMemo0, itR, dForR, dLcX, dLcXR, dCompR, dTupRg, dLstRg, dLstRgR, dInRg, dMemoSet, dDisp, dPairs, keyPairs, keyOf, dML, dSetIx,
  atI0, atI1, atI2, atI3, atI4, atI5, atIm2, atIm3, atIm4, deref_non, deref_bl, deref_int, deref_str, deref_tp, deref_ptp, deref_lst, items_tup, items_ptp, items_lst, dq_ii, dq_bb, dq_ss, dq_tt, dq_tp, dq_pt, dq_pp, dq_ll, dq_n0, dq_nc, dq_cn, dq_cc, ok_non, ok_bl, ok_int, ok_str, ok_tp, ok_pp, ok_ls, ok_n0, ok_cc, flat, List.all_cons, List.all_nil, List.any_cons, List.any_nil,
  startD, List.map_cons, List.map_nil, List.length_cons, List.length_nil, List.replicate_succ, List.replicate_zero, List.cons_append, List.nil_append, List.set_cons_zero, List.set_cons_succ, List.getElem?_cons_zero, List.getElem?_cons_succ, Nat.reduceAdd, Nat.reduceSub, Nat.reduceLeDiff, Nat.reduceMul,
  Bool.and_true, Bool.true_and, Bool.and_false, Bool.false_and, Bool.or_true, Bool.true_or, Bool.or_false, Bool.false_or, Bool.not_true, Bool.not_false, decide_eq_true_eq, ↓reduceIte, true_and, and_true, Bool.false_eq_true, Bool.not_eq_true', Bool.not_not, beq_self_eq_true, and_self, ne_eq, reduceCtorEq, not_false_eq_true, not_true_eq_false, Int.reduceBEq, beq_iff_eq, beq_eq_false_iff_ne, decide_eq_false_iff_not, Int.reduceLT, Int.reduceLE, Int.reduceNeg, Int.reduceAdd, Int.reduceEq, Int.reduceToNat,  kb_NoneType_bool, kb_NoneType_int, kb_NoneType_str, kb_NoneType_tuple, kb_NoneType_list, kb_bool_bool, kb_bool_int, kb_bool_str, kb_bool_tuple, kb_bool_list, kb_int_bool, kb_int_int, kb_int_str, kb_int_tuple, kb_int_list, kb_str_bool, kb_str_int, kb_str_str, kb_str_tuple, kb_str_list, kb_tuple_bool, kb_tuple_int, kb_tuple_str, kb_tuple_tuple, kb_tuple_list, kb_list_bool, kb_list_int, kb_list_str, kb_list_tuple, kb_list_list, sq_k_e, sq_kw_e, sq_kww_e, sk_k, sk_kw, sk_kww, sl_k, sl_kw, sl_kww, sk_e, cut_2_2_None, ncut_2_2_None, cut_2_None_1, ncut_2_None_1, cut_3_2_None, ncut_3_2_None, cut_3_None_1, ncut_3_None_1, cut_3_3_None, ncut_3_3_None, cut_4_2_None, ncut_4_2_None, cut_4_None_1, ncut_4_None_1, cut_4_None_3, ncut_4_None_3, cut_4_3_None, ncut_4_3_None, cut_5_2_None, ncut_5_2_None, cut_5_None_1, ncut_5_None_1, cut_5_None_3, ncut_5_None_3, cut_5_3_None, ncut_5_3_None, cut_6_2_None, ncut_6_2_None, cut_6_None_1, ncut_6_None_1, cut_6_None_3, ncut_6_None_3, cut_6_None_5, ncut_6_None_5, cut_6_3_None, ncut_6_3_None, sq_get_put, sq_get_add, sq_get_swap, sq_get_look, sq_get_split, sq_get_join, sq_put_get, sq_put_add, sq_put_swap, sq_put_look, sq_put_split, sq_put_join, sq_add_get, sq_add_put, sq_add_swap, sq_add_look, sq_add_split, sq_add_join, sq_swap_get, sq_swap_put, sq_swap_add, sq_swap_look, sq_swap_split, sq_swap_join, sq_look_get, sq_look_put, sq_look_add, sq_look_swap, sq_look_split, sq_look_join, sq_split_get, sq_split_put, sq_split_add, sq_split_swap, sq_split_look, sq_split_join, sq_join_get, sq_join_put, sq_join_add, sq_join_swap, sq_join_look, sq_join_split, ls0, ls1, ls2, ls3, ls4, ls5, ls6, ls7, ls8, ls9, ls10, nc0, nc1, nc2, nc3, nc4, nc5, nc6, nc7, nc8, nc9, nc10, sk_get, sk_put, sk_add, sk_swap, sk_look, sk_split, sk_join])


/-! ### how many ways, at most -/
theorem lt_len : ∀ (k : Nat) (l : List Nat), l.Nodup → (∀ x ∈ l, x < k) → l.length ≤ k
  | 0, l, _, h => by
    cases l with
    | nil => exact Nat.zero_le _
    | cons a r => exact absurd (h a List.mem_cons_self) (Nat.not_lt_zero _)
  | k + 1, l, nd, h => by
    have ih := lt_len k (l.filter (· != k)) (nd.filter _) fun x hx => by
      obtain ⟨h1, h2⟩ := List.mem_filter.mp hx
      have := h x h1
      have : x ≠ k := by simpa using h2
      omega
    have e : l.length ≤ (l.filter (· != k)).length + 1 := by
      clear ih h
      induction l with
      | nil => exact Nat.zero_le _
      | cons a r ih =>
        obtain ⟨na, nr⟩ := List.nodup_cons.mp nd
        by_cases c : a = k
        · have e2 : r.filter (· != k) = r := List.filter_eq_self.mpr fun x hx => by
            have : x ≠ k := fun z => na (by rw [c, ← z]; exact hx)
            simpa using this
          rw [List.filter_cons_of_neg (by simp [c]), e2, List.length_cons]
          exact Nat.le_refl _
        · rw [List.filter_cons_of_pos (by simp [c]), List.length_cons, List.length_cons]
          have := ih nr
          omega
    omega
theorem sum_bound {α : Type} (f : α → Nat) (B : Nat) : ∀ (l : List α), (∀ x ∈ l, f x ≤ B) → (l.map f).sum ≤ l.length * B
  | [], _ => by simp
  | a :: r, h => by
    have ih := sum_bound f B r fun x hx => h x (List.mem_cons_of_mem _ hx)
    have := h a List.mem_cons_self
    rw [List.map_cons, List.sum_cons, List.length_cons, Nat.succ_mul]
    omega
def geo (w : Nat) : Nat → Nat
  | 0 => 1
  | n + 1 => 1 + w * geo w n
def fct : Nat → Nat → Nat
  | 0, _ => 1
  | n + 1, m => 1 + m * fct n (m - 1)
theorem cnt_fct (H : List Row) : ∀ (n m : Nat) (left : List Nat), left.length ≤ m → cnt H n left ≤ fct n m
  | 0, _, _, _ => Nat.le_refl _
  | n + 1, m, left, h => by
    rw [cnt, fct]
    have q := sum_bound (fun k => cnt H n (left.filter (· != k))) (fct n (m - 1)) (left.filter (mayB H left)) fun k hk => cnt_fct H n (m - 1) _ (by
      have := less_len (List.mem_filter.mp hk).1
      unfold less at this
      omega)
    have l1 := List.length_filter_le (mayB H left) left
    have := Nat.mul_le_mul_right (fct n (m - 1)) (Nat.le_trans l1 h)
    omega
theorem cnt_geo (H : List Row) (w : Nat) (hw : ∀ left : List Nat, left.Nodup → (∀ n ∈ left, n < H.length) → (left.filter (mayB H left)).length ≤ w) : ∀ (n : Nat) (left : List Nat), left.Nodup → (∀ k ∈ left, k < H.length) → cnt H n left ≤ geo w n
  | 0, _, _, _ => Nat.le_refl _
  | n + 1, left, nd, hl => by
    rw [cnt, geo]
    have q := sum_bound (fun k => cnt H n (left.filter (· != k))) (geo w n) (left.filter (mayB H left)) fun k hk => cnt_geo H w hw n _ (nd.filter _) fun x hx => hl x (List.mem_filter.mp hx).1
    have := Nat.mul_le_mul_right (geo w n) (hw left nd hl)
    omega
theorem width {H : List Row} (st : Steps H) {first : Int} {many : Nat} (ha : ∀ r ∈ H, first ≤ r.asker ∧ r.asker < first + many) (left : List Nat) (nd : left.Nodup) (hl : ∀ n ∈ left, n < H.length) : (left.filter (mayB H left)).length ≤ many := by
  have key : ∀ i j (ri rj : Row), i ∈ left → H[i]? = some ri → H[j]? = some rj → mayB H left j = true → i < j → ri.asker ≠ rj.asker := by
    intro i j ri rj hi ei ej mj lt e
    have hi' : i < H.length := (List.getElem?_eq_some_iff.mp ei).1
    have hj' : j < H.length := (List.getElem?_eq_some_iff.mp ej).1
    have q := List.pairwise_iff_getElem.mp st i j hi' hj' lt
    rw [(List.getElem?_eq_some_iff.mp ei).2, (List.getElem?_eq_some_iff.mp ej).2] at q
    obtain ⟨p, ep, lp⟩ := q e
    unfold mayB at mj
    have := List.all_eq_true.mp mj p.1 (List.mem_filterMap.mpr ⟨i, hi, by rw [endOf_row ei, ep]; rfl⟩)
    rw [begOf_row ej] at this
    simp only [decide_eq_true_eq] at this
    omega
  let f : Nat → Nat := fun n => match H[n]? with | some r => (r.asker - first).toNat | none => 0
  have hf : ∀ n r, H[n]? = some r → f n = (r.asker - first).toNat := fun n r e => by show (match H[n]? with | some r => (r.asker - first).toNat | none => 0) = _; rw [e]
  have e : (left.filter (mayB H left)).length = ((left.filter (mayB H left)).map f).length := by rw [List.length_map]
  rw [e]
  refine lt_len many _ (List.pairwise_map.mpr (List.Pairwise.imp_of_mem ?_ (nd.filter (mayB H left)))) fun x hx => ?_
  · intro i j hi hj ne
    obtain ⟨hi1, hi2⟩ := List.mem_filter.mp hi
    obtain ⟨hj1, hj2⟩ := List.mem_filter.mp hj
    obtain ⟨ri, ei⟩ := row_at (hl i hi1)
    obtain ⟨rj, ej⟩ := row_at (hl j hj1)
    have ai := ha ri (List.mem_of_getElem? ei)
    have aj := ha rj (List.mem_of_getElem? ej)
    rw [hf i ri ei, hf j rj ej]
    have : ri.asker ≠ rj.asker := by
      rcases Nat.lt_or_gt_of_ne ne with lt | lt
      · exact key i j ri rj hi1 ei ej hj2 lt
      · exact (key j i rj ri hj1 ej ei hi2 lt).symm
    omega
  · obtain ⟨i, hi, rfl⟩ := List.mem_map.mp hx
    obtain ⟨hi1, hi2⟩ := List.mem_filter.mp hi
    obtain ⟨ri, ei⟩ := row_at (hl i hi1)
    have ai := ha ri (List.mem_of_getElem? ei)
    rw [hf i ri ei]
    omega
/-- a history that the law draws -/
structure Good (H : List Row) : Prop where
  ok : HistOk H
  few : (∃ first : Int, ∀ r ∈ H, first ≤ r.asker ∧ r.asker < first + (3 : Nat)) ∨ H.length ≤ 8
  b0 : ∀ r ∈ H, 0 ≤ r.beg
theorem Good.cnt {H : List Row} (g : Good H) : cnt H 12 (List.range H.length) < 16000000 := by
  rcases g.few with ⟨first, h⟩ | h
  · have := cnt_geo H 3 (fun left nd hl => width g.ok.steps h left nd hl) 12 (List.range H.length) List.nodup_range fun k hk => List.mem_range.mp hk
    have e : geo 3 12 = 797161 := by decide
    omega
  · have := cnt_fct H 12 8 (List.range H.length) (by rw [List.length_range]; exact h)
    have e : fct 12 8 = 109601 := by decide
    omega
/-- all moments later -/
def Row.later (l : Int) (r : Row) : Row := ⟨r.asker, r.deed, r.beg + l, r.fin.map fun p => (p.1 + l, p.2)⟩
theorem Good.later {H : List Row} (g : Good H) {l : Int} (h : 0 ≤ l) : Good (H.map (Row.later l)) := by
  refine ⟨⟨by rw [List.length_map]; exact g.ok.len, fun r hr => ?_, ?_⟩, ?_, fun r hr => ?_⟩
  · obtain ⟨q, hq, rfl⟩ := List.mem_map.mp hr
    have k := g.ok.rows q hq
    refine ⟨k.a0, k.a1, k.dk, fun p hp => ?_⟩
    obtain ⟨p', e, rfl⟩ := Option.map_eq_some_iff.mp hp
    have := k.be p' e
    show q.beg + l < p'.1 + l
    omega
  · refine List.pairwise_map.mpr (g.ok.steps.imp fun {r q} h e => ?_)
    obtain ⟨p, ep, lp⟩ := h e
    refine ⟨(p.1 + l, p.2), by unfold Row.later; rw [ep]; rfl, ?_⟩
    show p.1 + l < q.beg + l
    omega
  · rcases g.few with ⟨first, q⟩ | q
    · refine .inl ⟨first, fun r hr => ?_⟩
      obtain ⟨r', hr', rfl⟩ := List.mem_map.mp hr
      exact q r' hr'
    · exact .inr (by rw [List.length_map]; exact q)
  · obtain ⟨q, hq, rfl⟩ := List.mem_map.mp hr
    have := g.b0 q hq
    show 0 ≤ q.beg + l
    omega
end Dl.D4

set_option Elab.async false
set_option linter.all false
set_option maxRecDepth 100000
namespace Dl.D4
open PySem PySem.Spec PyProof.Rows L2 LamX Dl
local macro_rules | `(tactic| walk_at "dl") => `(tactic| simp (config := { maxSteps := 1000000 }) only [dSeq, dIfS, dRet, dRetN, dSet, dNext, dDrop, dVar, dC, d2, dTest, dAnd, dOr, dNot, dAndV, dOrV, dNotV, dIf, dChain, dChain3, dCall, dCons, dNil, dTup, dLst, dLstR, dAsg, Tg.d, sets, dFor, dYes, dNever, dBrk, dCnt,
  dSortKey, dLc, dLcR, dComp, wipeD, itemsI, rangeI1, enumI, dCB, rLenD, rIntD, rAbsD, rM2D, rTupD, rTupPD, rAllD, dIsi, tyD, rIxD, rItem, dSl, dPart, dNoPart, rSlD, rII, rAddD, rMulD, rMulDR, rEqG, rIsN, rInD, dNeg, dGet2, rAddXD, rListD, rListRD, dPar, dNewK, dNewT, dAsgNS, dMemo0, itR, dForR, dLcX, dLcXR, dCompR, dTupRg, dLstRg, dLstRgR, dInRg, dMemoSet, dDisp, dPairs, keyPairs, keyOf, dML, dSetIx,
  atI0, atI1, atI2, atI3, atI4, atI5, atIm2, atIm3, atIm4, deref_non, deref_bl, deref_int, deref_str, deref_tp, deref_ptp, deref_lst, items_tup, items_ptp, items_lst, dq_ii, dq_bb, dq_ss, dq_tt, dq_tp, dq_pt, dq_pp, dq_ll, dq_n0, dq_nc, dq_cn, dq_cc, ok_non, ok_bl, ok_int, ok_str, ok_tp, ok_pp, ok_ls, ok_n0, ok_cc, flat, List.all_cons, List.all_nil, List.any_cons, List.any_nil,
  startD, List.map_cons, List.map_nil, List.length_cons, List.length_nil, List.replicate_succ, List.replicate_zero, List.cons_append, List.nil_append, List.set_cons_zero, List.set_cons_succ, List.getElem?_cons_zero, List.getElem?_cons_succ, Nat.reduceAdd, Nat.reduceSub, Nat.reduceLeDiff, Nat.reduceMul,
  Bool.and_true, Bool.true_and, Bool.and_false, Bool.false_and, Bool.or_true, Bool.true_or, Bool.or_false, Bool.false_or, Bool.not_true, Bool.not_false, decide_eq_true_eq, ↓reduceIte, true_and, and_true, Bool.false_eq_true, Bool.not_eq_true', Bool.not_not, beq_self_eq_true, and_self, ne_eq, reduceCtorEq, not_false_eq_true, not_true_eq_false, Int.reduceBEq, beq_iff_eq, beq_eq_false_iff_ne, decide_eq_false_iff_not, Int.reduceLT, Int.reduceLE, Int.reduceNeg, Int.reduceAdd, Int.reduceEq, Int.reduceToNat,  kb_NoneType_bool, kb_NoneType_int, kb_NoneType_str, kb_NoneType_tuple, kb_NoneType_list, kb_bool_bool, kb_bool_int, kb_bool_str, kb_bool_tuple, kb_bool_list, kb_int_bool, kb_int_int, kb_int_str, kb_int_tuple, kb_int_list, kb_str_bool, kb_str_int, kb_str_str, kb_str_tuple, kb_str_list, kb_tuple_bool, kb_tuple_int, kb_tuple_str, kb_tuple_tuple, kb_tuple_list, kb_list_bool, kb_list_int, kb_list_str, kb_list_tuple, kb_list_list, sq_k_e, sq_kw_e, sq_kww_e, sk_k, sk_kw, sk_kww, sl_k, sl_kw, sl_kww, sk_e, cut_2_2_None, ncut_2_2_None, cut_2_None_1, ncut_2_None_1, cut_3_2_None, ncut_3_2_None, cut_3_None_1, ncut_3_None_1, cut_3_3_None, ncut_3_3_None, cut_4_2_None, ncut_4_2_None, cut_4_None_1, ncut_4_None_1, cut_4_None_3, ncut_4_None_3, cut_4_3_None, ncut_4_3_None, cut_5_2_None, ncut_5_2_None, cut_5_None_1, ncut_5_None_1, cut_5_None_3, ncut_5_None_3, cut_5_3_None, ncut_5_3_None, cut_6_2_None, ncut_6_2_None, cut_6_None_1, ncut_6_None_1, cut_6_None_3, ncut_6_None_3, cut_6_None_5, ncut_6_None_5, cut_6_3_None, ncut_6_3_None, sq_get_put, sq_get_add, sq_get_swap, sq_get_look, sq_get_split, sq_get_join, sq_put_get, sq_put_add, sq_put_swap, sq_put_look, sq_put_split, sq_put_join, sq_add_get, sq_add_put, sq_add_swap, sq_add_look, sq_add_split, sq_add_join, sq_swap_get, sq_swap_put, sq_swap_add, sq_swap_look, sq_swap_split, sq_swap_join, sq_look_get, sq_look_put, sq_look_add, sq_look_swap, sq_look_split, sq_look_join, sq_split_get, sq_split_put, sq_split_add, sq_split_swap, sq_split_look, sq_split_join, sq_join_get, sq_join_put, sq_join_add, sq_join_swap, sq_join_look, sq_join_split, ls0, ls1, ls2, ls3, ls4, ls5, ls6, ls7, ls8, ls9, ls10, nc0, nc1, nc2, nc3, nc4, nc5, nc6, nc7, nc8, nc9, nc10, sk_get, sk_put, sk_add, sk_swap, sk_look, sk_split, sk_join])


local macro_rules | `(tactic| walk_at "dm") => `(tactic| simp (config := { maxSteps := 1000000 }) only [dSeq, dIfS, dRet, dRetN, dSet, dNext, dDrop, dVar, dC, d2, dTest, dAnd, dOr, dNot, dAndV, dOrV, dNotV, dIf, dChain, dChain3, dCall, dCons, dNil, dTup, dLst, dLstR, dAsg, Tg.d, sets, dFor, dYes, dNever, dBrk, dCnt,
  dSortKey, dLc, dLcR, dComp, wipeD, itemsI, rangeI1, enumI, dCB, rLenD, rIntD, rAbsD, rM2D, rTupD, rTupPD, rAllD, dIsi, tyD, rItem, dSl, dPart, dNoPart, rSlD, rII, rAddD, rMulD, rMulDR, rEqG, rInD, dNeg, dGet2, rAddXD, rListD, rListRD, dPar, dNewK, dNewT, dAsgNS, dMemo0, itR, dForR, dLcX, dLcXR, dCompR, dTupRg, dLstRg, dLstRgR, dInRg, dMemoSet, dDisp, dPairs, keyPairs, keyOf, dML, dSetIx,
  atI0, atI1, atI2, atI3, atI4, atI5, atIm2, atIm3, atIm4, deref_non, deref_bl, deref_int, deref_str, deref_tp, deref_ptp, deref_lst, items_tup, items_ptp, items_lst, dq_ii, dq_bb, dq_ss, dq_tt, dq_tp, dq_pt, dq_pp, dq_ll, dq_n0, dq_nc, dq_cn, dq_cc, ok_non, ok_bl, ok_int, ok_str, ok_tp, ok_pp, ok_ls, ok_n0, ok_cc, flat, List.all_cons, List.all_nil, List.any_cons, List.any_nil,
  startD, List.map_cons, List.map_nil, List.length_cons, List.length_nil, List.replicate_succ, List.replicate_zero, List.cons_append, List.nil_append, List.set_cons_zero, List.set_cons_succ, List.getElem?_cons_zero, List.getElem?_cons_succ, Nat.reduceAdd, Nat.reduceSub, Nat.reduceLeDiff, Nat.reduceMul,
  Bool.and_true, Bool.true_and, Bool.and_false, Bool.false_and, Bool.or_true, Bool.true_or, Bool.or_false, Bool.false_or, Bool.not_true, Bool.not_false, decide_eq_true_eq, ↓reduceIte, true_and, and_true, Bool.false_eq_true, Bool.not_eq_true', Bool.not_not, beq_self_eq_true, and_self, ne_eq, reduceCtorEq, not_false_eq_true, not_true_eq_false, Int.reduceBEq, beq_iff_eq, beq_eq_false_iff_ne, decide_eq_false_iff_not, Int.reduceLT, Int.reduceLE, Int.reduceNeg, Int.reduceAdd, Int.reduceEq, Int.reduceToNat,  kb_NoneType_bool, kb_NoneType_int, kb_NoneType_str, kb_NoneType_tuple, kb_NoneType_list, kb_bool_bool, kb_bool_int, kb_bool_str, kb_bool_tuple, kb_bool_list, kb_int_bool, kb_int_int, kb_int_str, kb_int_tuple, kb_int_list, kb_str_bool, kb_str_int, kb_str_str, kb_str_tuple, kb_str_list, kb_tuple_bool, kb_tuple_int, kb_tuple_str, kb_tuple_tuple, kb_tuple_list, kb_list_bool, kb_list_int, kb_list_str, kb_list_tuple, kb_list_list, sq_k_e, sq_kw_e, sq_kww_e, sk_k, sk_kw, sk_kww, sl_k, sl_kw, sl_kww, sk_e, cut_2_2_None, ncut_2_2_None, cut_2_None_1, ncut_2_None_1, cut_3_2_None, ncut_3_2_None, cut_3_None_1, ncut_3_None_1, cut_3_3_None, ncut_3_3_None, cut_4_2_None, ncut_4_2_None, cut_4_None_1, ncut_4_None_1, cut_4_None_3, ncut_4_None_3, cut_4_3_None, ncut_4_3_None, cut_5_2_None, ncut_5_2_None, cut_5_None_1, ncut_5_None_1, cut_5_None_3, ncut_5_None_3, cut_5_3_None, ncut_5_3_None, cut_6_2_None, ncut_6_2_None, cut_6_None_1, ncut_6_None_1, cut_6_None_3, ncut_6_None_3, cut_6_None_5, ncut_6_None_5, cut_6_3_None, ncut_6_3_None, sq_get_put, sq_get_add, sq_get_swap, sq_get_look, sq_get_split, sq_get_join, sq_put_get, sq_put_add, sq_put_swap, sq_put_look, sq_put_split, sq_put_join, sq_add_get, sq_add_put, sq_add_swap, sq_add_look, sq_add_split, sq_add_join, sq_swap_get, sq_swap_put, sq_swap_add, sq_swap_look, sq_swap_split, sq_swap_join, sq_look_get, sq_look_put, sq_look_add, sq_look_swap, sq_look_split, sq_look_join, sq_split_get, sq_split_put, sq_split_add, sq_split_swap, sq_split_look, sq_split_join, sq_join_get, sq_join_put, sq_join_add, sq_join_swap, sq_join_look, sq_join_split, ls0, ls1, ls2, ls3, ls4, ls5, ls6, ls7, ls8, ls9, ls10, nc0, nc1, nc2, nc3, nc4, nc5, nc6, nc7, nc8, nc9, nc10, sk_get, sk_put, sk_add, sk_swap, sk_look, sk_split, sk_join])


/-! ### a history that is drawn -/
def encE : Option Int → D
  | some x => .int x
  | none => .non
def sp__law_history : DSp := fun ds S R => ∃ (p q : Addr) (most : Int), ds = [.ref p, .int most] ∧ Dice S p q ∧ 0 ≤ most ∧ most ≤ 12 ∧ ∀ H a S', Good H → Dice S' p q → S' a = some (.lst (H.map Row.enc)) → a ≠ p → a ≠ q → (∀ r ∈ H, RowB r) → R (.ref a) S'
def rd__law_history_1 : DS :=
 (dSet 14 (dTup (dCons (d2 rAddD (dVar 3) (dVar 10)) (dCons (dVar 11) (dCons (dVar 12) (dCons (dC .non) (dCons (dC .non) dNil)))))))
def rd__law_history_2 : DS :=
 (dDrop (dML rAppendD (dVar 4) (dCons (dVar 14) dNil)))
def rd__law_history_3 : DS :=
 (dSeq (dIfS (dTest (d2 (rEqG false) (dCall sp__law_off (dCons (dVar 0) (dCons (dC (.int 6)) dNil))) (dC (.int 0))))
 (dSeq (dSetIx (dC .non) (dVar 5) (dVar 10))
 rd__law_history_1)
 dNext)
 rd__law_history_2)
def rd__law_history_4 : DS :=
 (dSeq (dSet 14 (dTup (dCons (d2 rAddD (dVar 3) (dVar 10)) (dCons (dVar 11) (dCons (dVar 12) (dCons (d2 rIxD (dVar 5) (dVar 10)) (dCons (dVar 13) dNil)))))))
 rd__law_history_3)
def rd__law_history_5 : DS :=
 (dSeq (dSetIx (dCB rMaxD (dCons (d2 rAddD (dVar 12) (dC (.int 1))) (dCons (d2 rAddD (dVar 7) (dCall sp__law_off (dCons (dVar 0) (dCons (dC (.int 6)) dNil)))) dNil))) (dVar 5) (dVar 10))
 rd__law_history_4)
def rd__law_history_6 : DS :=
 (dSeq (dIfS (dNot (dTest (dVar 8)))
 (dSet 13 (d2 rIxD (dCall sp__law_done (dCons (dC (.ptp [])) (dCons (dVar 11) dNil))) (dC (.int 0))))
 dNext)
 rd__law_history_5)
def rd__law_history_7 : DS :=
 (dSeq (dAsg (dCall sp__law_done (dCons (dVar 6) (dCons (dVar 11) dNil))) (.tp [13, 6]))
 rd__law_history_6)
def rd__law_history_8 : DS :=
 (dSeq (dSet 12 (dCB rMaxD (dCons (d2 rAddD (d2 rIxD (dVar 5) (dVar 10)) (dC (.int 1))) (dCons (d2 rSubD (dVar 7) (dCall sp__law_off (dCons (dVar 0) (dCons (dC (.int 6)) dNil)))) dNil))))
 rd__law_history_7)
def rd__law_history_9 : DS :=
 (dSeq (dSet 7 (d2 rAddD (d2 rAddD (dVar 7) (dC (.int 1))) (dCall sp__law_off (dCons (dVar 0) (dCons (dC (.int 2)) dNil)))))
 rd__law_history_8)
def rd__law_history_10 : DS :=
 (dIfS (dTest (d2 (rIsN true) (d2 rIxD (dVar 5) (dVar 10)) (dC .non)))
 (dSeq (dSet 11 (dIf (dTest (d2 rGtD (dCall sp__law_off (dCons (dVar 0) (dCons (dC (.int 4)) dNil))) (dC (.int 0)))) (dCall sp__law_plain (dCons (dVar 0) (dCons (dC (.int 2)) dNil))) (dTup (dCons (dC (.str "look")) (dCons (dTup (dCons (dC (.int 20)) (dCons (dC (.int 60)) dNil))) dNil)))))
 rd__law_history_9)
 dNext)
def rd__law_history_11 : DS :=
 (dRet (dVar 4))
def rd__law_history_12 : DS :=
 (dSeq (dFor (rangeI1 (dCons (dCall sp__law_off (dCons (dVar 0) (dCons (d2 rAddD (dVar 1) (dC (.int 1))) dNil))) dNil)) (.nm 9)
 (dSeq (dSet 10 (dCall sp__law_off (dCons (dVar 0) (dCons (dVar 2) dNil))))
 rd__law_history_10))
 rd__law_history_11)
def rd__law_history_13 : DS :=
 (dSeq (dSet 8 (d2 rGtD (dCall sp__law_off (dCons (dVar 0) (dCons (dC (.int 3)) dNil))) (dC (.int 0))))
 rd__law_history_12)
def rd__law_history_14 : DS :=
 (dSeq (dSet 7 (dC (.int 0)))
 rd__law_history_13)
def rd__law_history_15 : DS :=
 (dSeq (dSet 6 (dC (.ptp [])))
 rd__law_history_14)
def rd__law_history_16 : DS :=
 (dSeq (dSet 5 (d2 rMulDR (dLst (dCons (dC (.int 0)) dNil)) (dVar 2)))
 rd__law_history_15)
def rd__law_history_17 : DS :=
 (dSeq (dSet 4 (dLstR dNil))
 rd__law_history_16)
def rd__law_history_18 : DS :=
 (dSeq (dSet 3 (d2 rIxD (dLst (dCons (dC (.int 0)) (dCons (dC (.int 0)) (dCons (dC (.int 97)) dNil)))) (dCall sp__law_off (dCons (dVar 0) (dCons (dC (.int 3)) dNil)))))
 rd__law_history_17)
def rd__law_history : DS :=
 (dSeq (dSet 2 (d2 rAddD (dC (.int 1)) (dCall sp__law_off (dCons (dVar 0) (dCons (dC (.int 3)) dNil)))))
 rd__law_history_18)
structure Hs (S : Store) (p q a b : Addr) (many : Nat) (first moment : Int) (turn : Nat) (H : List Row) (E : List (Option Int)) (ws : Ws) : Prop where
  dice : Dice S p q
  ra : S a = some (.lst (H.map Row.enc))
  rb : S b = some (.lst (E.map encE))
  ap : a ≠ p
  aq : a ≠ q
  bp : b ≠ p
  bq : b ≠ q
  el : E.length = many
  hl : H.length ≤ turn
  wk : WsOk ws
  wl : ws.length ≤ turn
  rows : ∀ r ∈ H, RowOk r
  steps : Steps H
  b0 : ∀ r ∈ H, 0 ≤ r.beg
  few : ∀ r ∈ H, first ≤ r.asker ∧ r.asker < first + many
  ends : ∀ (k : Nat) (x : Int), E[k]? = some (some x) → ∀ r ∈ H, r.asker = first + k → ∃ pr, r.fin = some pr ∧ pr.1 ≤ x
  e0 : ∀ (k : Nat) (x : Int), E[k]? = some (some x) → 0 ≤ x
  m0 : 0 ≤ moment
  mb : moment ≤ 2 * turn
  eb : ∀ (k : Nat) (x : Int), E[k]? = some (some x) → x ≤ 2 * turn + 5
  bb : ∀ r ∈ H, r.beg ≤ 2 * turn + 5 ∧ ∀ p, r.fin = some p → p.1 ≤ 2 * turn + 5 ∧ AnB p.2
  wb : ∀ p ∈ ws, p.2 < 1000
theorem getW_b {ws : Ws} (h : WsOk ws) (hb : ∀ p ∈ ws, p.2 < 1000) (k : Int) : 0 ≤ getW ws k ∧ getW ws k < 1000 := by
  unfold getW
  cases e : ws.find? fun p => decide (p.1 = k) with
  | none => simp
  | some p =>
    have m := List.mem_of_find?_eq_some e
    have h1 := h.pos p m
    have h2 := hb p m
    simp
    omega
theorem ans_b {ws : Ws} (h : WsOk ws) (hb : ∀ p ∈ ws, p.2 < 1000) {dq : Dq} (ok : dq.ok) : AnB (dq.ans ws) := by
  cases dq with
  | look ks =>
    refine ⟨by rw [List.length_map]; have := ok.2.1; omega, fun i hi => ?_⟩
    obtain ⟨k, hk, rfl⟩ := List.mem_map.mp hi
    have := getW_b h hb k
    exact ⟨this.1, by omega⟩
  | pl d =>
    have g := getW_b h hb d.key
    unfold Dq.ans
    cases d with
    | get k => exact ⟨g.1, by have := g.2; simp only [Dd.key] at this ⊢; omega⟩
    | put k w => exact ⟨g.1, by have := g.2; simp only [Dd.key] at this ⊢; omega⟩
    | add k w =>
      show small ((getW ws k + w) % 1000)
      unfold small
      omega
    | swap k a b => trivial
theorem next_b {ws : Ws} (h : WsOk ws) (hb : ∀ p ∈ ws, p.2 < 1000) {dq : Dq} (ok : dq.ok) : ∀ p ∈ dq.next ws, p.2 < 1000 := by
  cases dq with
  | look ks => exact hb
  | pl d =>
    intro p hp
    rcases (putW_mem _ _ _ _).mp hp with ⟨m, _⟩ | ⟨m, rfl⟩
    · exact hb p m
    · have g := getW_b h hb d.key
      show d.new (getW ws d.key) < 1000
      cases d with
      | get k => exact g.2
      | put k w => exact ok.2.2
      | add k w =>
        show (getW ws k + w) % 1000 < 1000
        omega
      | swap k a b =>
        show (if getW ws k = a then b else getW ws k) < 1000
        split
        · exact ok.2.2.2
        · exact g.2
theorem Hs.frm {S S' : Store} {p q a b : Addr} {many : Nat} {first moment : Int} {turn : Nat} {H : List Row} {E : List (Option Int)} {ws : Ws} (h : Hs S p q a b many first moment turn H E ws) (d : Dice S' p q) (f : Frm S S' p q) : Hs S' p q a b many first moment turn H E ws :=
  { h with dice := d, ra := by rw [f a h.ap h.aq]; exact h.ra, rb := by rw [f b h.bp h.bq]; exact h.rb }
theorem Hs.ab {S : Store} {p q a b : Addr} {many : Nat} {first moment : Int} {turn : Nat} {H : List Row} {E : List (Option Int)} {ws : Ws} (h : Hs S p q a b many first moment turn H E ws) (hm : 0 < many) : a ≠ b := by
  rintro rfl
  have e := h.ra.symm.trans h.rb
  injection e with e
  injection e with e
  have el := h.el
  cases E with
  | nil => simp at el; omega
  | cons o E =>
    cases H with
    | nil => cases e
    | cons r H =>
      rw [List.map_cons, List.map_cons] at e
      injection e with e _
      cases o <;> cases e
abbrev τh (p : Addr) (most : Int) (many : Nat) (first : Int) (a b : Addr) (ws : Ws) (moment : Int) (honest : Bool) (j9 j10 j11 j12 j13 j14 : Option D) : DSt :=
  [some (.ref p), some (.int most), some (.int many), some (.int first), some (.ref a), some (.ref b), some (.ptp (ws.map encP)), some (.int moment), some (.bl honest), j9, j10, j11, j12, j13, j14]
theorem e_ix {S : Store} {b : Addr} {E : List (Option Int)} {v : Nat} {o : Option Int} {Q : DK} (rb : S b = some (.lst (E.map encE))) (e : E[v]? = some o) (g : Q (encE o) S) : rIxD (.ref b) (.int (v : Int)) S Q := by
  have hi : v < E.length := (List.getElem?_eq_some_iff.mp e).1
  unfold rIxD
  simp only [deref_rf rb, rItem]
  rw [atI_n (by rw [List.length_map]; exact hi), List.getElem?_map, e]
  exact g
theorem dice_ups {S : Store} {p q c : Addr} {o : MO} (h : Dice S p q) (cp : c ≠ p) (cq : c ≠ q) : Dice (ups S c o) p q := by
  obtain ⟨a, b, ns, h1, h2, h3⟩ := h
  exact ⟨a, b, ns, by rw [ups_ne cp.symm]; exact h1, by rw [ups_ne cq.symm]; exact h2, h3⟩
section
variable {p q a b : Addr} {many : Nat} {first moment most : Int} {turn : Nat} {H : List Row} {E : List (Option Int)} {ws : Ws} {honest : Bool} {j9 j10 j11 j12 j13 j14 : Option D}
/-- a row is added -/
theorem Hs.add {S S' : Store} (h : Hs S p q a b many first moment turn H E ws) {v : Nat} {x : Int} (hx : E[v]? = some (some x)) {r : Row} (rok : RowOk r) (ra : r.asker = first + v) (rb : x < r.beg) {ws' : Ws} (wk : WsOk ws') (wl : ws'.length ≤ turn + 1) {moment' : Int} (n0 : 0 ≤ moment') (nb : moment' ≤ 2 * turn + 2) (bb' : r.beg ≤ 2 * turn + 6) (fb : ∀ p, r.fin = some p → p.1 ≤ 2 * turn + 7 ∧ AnB p.2) (wb' : ∀ p ∈ ws', p.2 < 1000)
    (d : Dice S' p q) (s1 : S' a = some (.lst ((H ++ [r]).map Row.enc))) (s2 : S' b = some (.lst ((E.set v (r.fin.map (·.1))).map encE))) : Hs S' p q a b many first moment' (turn + 1) (H ++ [r]) (E.set v (r.fin.map (·.1))) ws' := by
  have hv : v < E.length := (List.getElem?_eq_some_iff.mp hx).1
  have x0 := h.e0 v x hx
  have mem : ∀ {P : Row → Prop}, (∀ q ∈ H, P q) → P r → ∀ q ∈ H ++ [r], P q := fun h1 h2 q hq => by
    rcases List.mem_append.mp hq with hq | hq
    · exact h1 q hq
    · rw [List.mem_singleton.mp hq]; exact h2
  refine ⟨d, s1, s2, h.ap, h.aq, h.bp, h.bq, by rw [List.length_set]; exact h.el, by rw [List.length_append]; have := h.hl; simp; omega, wk, wl, mem h.rows rok, ?_, mem h.b0 (by omega), mem h.few (by have := h.el; omega), ?_, ?_, n0, by omega, ?_, mem (fun r hr => ⟨by have := (h.bb r hr).1; omega, fun p hp => ⟨by have := ((h.bb r hr).2 p hp).1; omega, ((h.bb r hr).2 p hp).2⟩⟩) ⟨by omega, fun p hp => ⟨by have := (fb p hp).1; omega, (fb p hp).2⟩⟩, wb'⟩
  · refine List.pairwise_append.mpr ⟨h.steps, List.pairwise_singleton _ _, fun z hz y hy e => ?_⟩
    rw [List.mem_singleton.mp hy] at e ⊢
    obtain ⟨pr, e1, e2⟩ := h.ends v x hx z hz (by omega)
    exact ⟨pr, e1, by omega⟩
  · intro k y hk z hz ez
    by_cases c : k = v
    · subst c
      rw [List.getElem?_set_self hv] at hk
      injection hk with hk
      obtain ⟨pr, e1, e2⟩ := Option.map_eq_some_iff.mp hk
      have be := rok.be pr e1
      rcases List.mem_append.mp hz with hz | hz
      · obtain ⟨pz, e3, e4⟩ := h.ends k x hx z hz ez
        exact ⟨pz, e3, by omega⟩
      · rw [List.mem_singleton.mp hz]
        exact ⟨pr, e1, by omega⟩
    · rw [List.getElem?_set_ne (Ne.symm c)] at hk
      rcases List.mem_append.mp hz with hz | hz
      · exact h.ends k y hk z hz ez
      · rw [List.mem_singleton.mp hz, ra] at ez
        omega
  · intro k y hk
    by_cases c : k = v
    · subst c
      rw [List.getElem?_set_self hv] at hk
      injection hk with hk
      obtain ⟨pr, e1, e2⟩ := Option.map_eq_some_iff.mp hk
      have be := rok.be pr e1
      omega
    · rw [List.getElem?_set_ne (Ne.symm c)] at hk
      exact h.e0 k y hk
  · intro k y hk
    by_cases c : k = v
    · subst c
      rw [List.getElem?_set_self hv] at hk
      injection hk with hk
      obtain ⟨pr, e1, e2⟩ := Option.map_eq_some_iff.mp hk
      have be := (fb pr e1).1
      omega
    · rw [List.getElem?_set_ne (Ne.symm c)] at hk
      have := h.eb k y hk
      omega
theorem hist_5 {S : Store} {EE : DEnds} (hm : 0 < many) (h12 : turn < 12) (h : Hs S p q a b many first moment turn H E ws) {v : Nat} {x beg : Int} (hx : E[v]? = some (some x)) (lt : x < beg) {dq : Dq} (dok : dq.ok) (f0 : 0 ≤ first) (f1 : first + many ≤ 100) {ws' : Ws} (wk : WsOk ws') (wl : ws'.length ≤ turn + 1) (an : An) {m' : Int} (n0 : 0 ≤ m') (nb : m' ≤ 2 * turn + 2) (hbeg : beg ≤ 2 * turn + 6) (anb : AnB an) (wb' : ∀ p ∈ ws', p.2 < 1000)
    (nx : ∀ S' H' E' j10 j11 j12 j13 j14, Hs S' p q a b many first m' (turn + 1) H' E' ws' → EE.nx (τh p most many first a b ws' m' honest j9 j10 j11 j12 j13 j14) S') :
    rd__law_history_5 EE (τh p most many first a b ws' m' honest j9 (some (.int v)) (some dq.enc) (some (.int beg)) (some an.enc) j14) S := by
  have hv : v < E.length := (List.getElem?_eq_some_iff.mp hx).1
  unfold rd__law_history_5
  walk_at "dm"
  refine off_use h.dice (by decide) (by decide) fun u S1 u0 u1 d1 f1 => ?_
  have h1 := h.frm d1 f1
  have ab := h.ab hm
  try walk_at "dm"
  simp only [h1.rb, List.length_map, ixN_n hv]
  obtain ⟨e, he⟩ : ∃ e : Int, e = (if m' + u > beg + 1 then m' + u else beg + 1) := ⟨_, rfl⟩
  have lte : beg < e := by rw [he]; split <;> omega
  rw [← he]
  have es : ∀ o : Option Int, (E.map encE).set v (encE o) = (E.set v o).map encE := fun o => by rw [List.map_set]
  have es1 := es (some e)
  simp only [encE] at es1
  rw [es1]
  have rb2 : (ups S1 b (.lst ((E.set v (some e)).map encE))) b = some (.lst ((E.set v (some e)).map encE)) := ups_same
  have ra2 : (ups S1 b (.lst ((E.set v (some e)).map encE))) a = some (.lst (H.map Row.enc)) := by rw [ups_ne ab]; exact h1.ra
  have d2 := dice_ups (o := .lst ((E.set v (some e)).map encE)) h1.dice h1.bp h1.bq
  generalize ups S1 b (.lst ((E.set v (some e)).map encE)) = S2 at rb2 ra2 d2 ⊢
  have hx2 : (E.set v (some e))[v]? = some (some e) := List.getElem?_set_self hv
  unfold rd__law_history_4
  walk_at "dm"
  refine e_ix rb2 hx2 ?_
  simp only [encE]
  unfold rd__law_history_3
  walk_at "dm"
  refine off_use d2 (by decide) (by decide) fun w S3 w0 w1 d3 f3 => ?_
  have rb3 : S3 b = some (.lst ((E.set v (some e)).map encE)) := by rw [f3 b h.bp h.bq]; exact rb2
  have ra3 : S3 a = some (.lst (H.map Row.enc)) := by rw [f3 a h.ap h.aq]; exact ra2
  try walk_at "dm"
  have eB : e ≤ 2 * turn + 7 := by rw [he]; split <;> omega
  have fin : ∀ (r : Row) (Sx : Store), RowOk r → r.beg ≤ 2 * turn + 6 → (∀ p, r.fin = some p → p.1 ≤ 2 * turn + 7 ∧ AnB p.2) → r.asker = first + v → x < r.beg → Dice Sx p q → Sx a = some (.lst (H.map Row.enc)) → Sx b = some (.lst ((E.set v (r.fin.map (·.1))).map encE)) →
      rd__law_history_2 EE (τh p most many first a b ws' m' honest j9 (some (.int v)) (some dq.enc) (some (.int beg)) (some an.enc) (some r.enc)) Sx := by
    intro r Sx rok rB fB era erb dx rax rbx
    unfold rd__law_history_2
    walk_at "dm"
    unfold isLst
    simp only [deref_rf rax, rAppendD, rax]
    have l1 := h.hl
    refine ⟨trivial, by rw [List.length_map, sizeLine_eq]; omega, nx _ (H ++ [r]) _ _ _ _ _ _ (h.add hx rok era erb wk wl n0 nb rB fB wb' (dice_ups dx h.ap h.aq) ?_ ?_)⟩
    · rw [ups_same, List.map_append]; rfl
    · rw [ups_ne (Ne.symm ab)]; exact rbx
  have x0 := h.e0 v x hx
  by_cases c : w = 0
  · rw [if_pos c]
    simp only [rb3, List.length_map, List.length_set, ixN_n hv]
    unfold rd__law_history_1
    walk_at "dm"
    have es2 : ((E.set v (some e)).map encE).set v .non = (E.set v none).map encE := by rw [← es (some e), List.set_set, ← es none]; rfl
    rw [es2]
    exact fin ⟨first + v, dq, beg, none⟩ _ ⟨by show 0 ≤ first + (v : Int); omega, by show first + (v : Int) < 100; have := h.el; omega, dok, fun p hp => by cases hp⟩ hbeg (fun p hp => by cases hp) rfl lt (dice_ups d3 h.bp h.bq) (by rw [ups_ne ab]; exact ra3) ups_same
  · rw [if_neg c]
    exact fin ⟨first + v, dq, beg, some (e, an)⟩ _ ⟨by show 0 ≤ first + (v : Int); omega, by show first + (v : Int) < 100; have := h.el; omega, dok, fun p hp => by cases hp; exact lte⟩ hbeg (fun p hp => by cases hp; exact ⟨eB, anb⟩) rfl lt d3 ra3 rb3
theorem hist_9 {S : Store} {EE : DEnds} (hm : 0 < many) (h12 : turn < 12) (h : Hs S p q a b many first moment turn H E ws) {v : Nat} {x : Int} (hx : E[v]? = some (some x)) {dq : Dq} (dok : dq.ok) (f0 : 0 ≤ first) (f1 : first + many ≤ 100)
    (nx : ∀ S' H' E' ws' m' j10 j11 j12 j13 j14, Hs S' p q a b many first m' (turn + 1) H' E' ws' → EE.nx (τh p most many first a b ws' m' honest j9 j10 j11 j12 j13 j14) S') :
    rd__law_history_9 EE (τh p most many first a b ws moment honest j9 (some (.int v)) (some dq.enc) j12 j13 j14) S := by
  unfold rd__law_history_9
  walk_at "dm"
  refine off_use h.dice (by decide) (by decide) fun u S1 u0 u1 d1 f1' => ?_
  have h1 := h.frm d1 f1'
  try walk_at "dm"
  unfold rd__law_history_8
  walk_at "dm"
  refine e_ix h1.rb hx ?_
  simp only [encE]
  refine off_use h1.dice (by decide) (by decide) fun w S2 w0 w1 d2 f2 => ?_
  have h2 := h1.frm d2 f2
  have wl := h2.wl
  try walk_at "dm"
  obtain ⟨beg, hb⟩ : ∃ beg : Int, beg = (if moment + 1 + u - w > x + 1 then moment + 1 + u - w else x + 1) := ⟨_, rfl⟩
  have lt : x < beg := by rw [hb]; split <;> omega
  rw [← hb]
  unfold rd__law_history_7
  walk_at "dm"
  refine ⟨ws, dq, rfl, h2.wk, by omega, dok, ?_⟩
  try walk_at "dm"
  unfold rd__law_history_6
  have nl := next_len ws dq
  have mo := h2.m0
  have mB := h2.mb
  have xB := h2.eb v x hx
  have hbeg : beg ≤ 2 * turn + 6 := by rw [hb]; split <;> omega
  have fin : ∀ an : An, AnB an → rd__law_history_5 EE (τh p most many first a b (dq.next ws) (moment + 1 + u) honest j9 (some (.int v)) (some dq.enc) (some (.int beg)) (some an.enc) j14) S2 := fun an anb =>
    hist_5 hm h12 h2 hx lt dok f0 f1 (h2.wk.next dq) (by omega) an (by omega) (by omega) hbeg anb (next_b h2.wk h2.wb dok) fun S' H' E' j10 j11 j12 j13 j14 hs => nx S' H' E' _ _ _ _ _ _ _ hs
  cases honest with
  | true => walk_at "dm"; exact fin _ (ans_b h2.wk h2.wb dok)
  | false =>
    walk_at "dm"
    refine ⟨[], dq, rfl, ⟨.nil, fun _ h => by cases h⟩, by simp, dok, ?_⟩
    simp only [rIxD, deref_tp, rItem, atI0]
    exact fin _ (ans_b (ws := []) ⟨.nil, fun _ h => by cases h⟩ (fun _ h => by cases h) dok)
theorem look_ok : Dq.ok (.look [20, 60]) := ⟨by simp, by simp, by simp, fun k hk => by
  simp only [List.mem_cons, List.not_mem_nil, or_false] at hk
  unfold isW
  omega⟩
theorem hist_10 {S : Store} {EE : DEnds} (hm : 0 < many) (h12 : turn < 12) (h : Hs S p q a b many first moment turn H E ws) {v : Nat} (hv : v < many) (f0 : 0 ≤ first) (f1 : first + many ≤ 100)
    (nx : ∀ S' H' E' ws' m' j10 j11 j12 j13 j14, Hs S' p q a b many first m' (turn + 1) H' E' ws' → EE.nx (τh p most many first a b ws' m' honest j9 j10 j11 j12 j13 j14) S') :
    rd__law_history_10 EE (τh p most many first a b ws moment honest j9 (some (.int v)) j11 j12 j13 j14) S := by
  have hv2 : v < E.length := by rw [h.el]; exact hv
  obtain ⟨o, ho⟩ : ∃ o, E[v]? = some o := ⟨E[v], List.getElem?_eq_getElem hv2⟩
  unfold rd__law_history_10
  walk_at "dm"
  refine e_ix h.rb ho ?_
  cases o with
  | none =>
    have hl := h.hl
    have wl := h.wl
    exact nx S H E ws moment _ _ _ _ _ { h with hl := by omega, wl := by omega, mb := by have := h.mb; omega, eb := fun k x hk => by have := h.eb k x hk; omega, bb := fun r hr => ⟨by have := (h.bb r hr).1; omega, fun p hp => ⟨by have := ((h.bb r hr).2 p hp).1; omega, ((h.bb r hr).2 p hp).2⟩⟩ }
  | some x =>
    simp only [encE, rIsN, ↓reduceIte]
    refine off_use h.dice (by decide) (by decide) fun u S1 u0 u1 d1 f1' => ?_
    have h1 := h.frm d1 f1'
    try walk_at "dm"
    split
    · refine ⟨p, q, 2, rfl, d1, by decide, by decide, fun dd S2 dok d2 f2 => ?_⟩
      exact hist_9 hm h12 (h1.frm d2 f2) ho (dq := .pl dd) dok f0 f1 nx
    · have e : D.tup [D.str (Str.ofString "look"), D.tup [D.int 20, D.int 60]] = Dq.enc (.look [20, 60]) := rfl
      rw [e]
      exact hist_9 hm h12 h1 ho (dq := .look [20, 60]) look_ok f0 f1 nx
end
theorem ok__law_history (ds : List D) (S : Store) (R : DK) (h : sp__law_history ds S R) : rd__law_history (ends R) (startD ["_law_d", "_law_most", "_law_many", "_law_first", "_law_rows", "_law_ends", "_law_worths", "_law_moment", "_law_honest", "_law_turn", "_law_asker", "_law_deed", "_law_begin", "_law_answer", "_law_row"] ds) S := by
  obtain ⟨p, q, most, rfl, hd, m0, m1, h⟩ := h
  unfold rd__law_history
  walk_at "dm"
  refine off_use hd (by decide) (by decide) fun v S1 v0 v1 d1 f1 => ?_
  try walk_at "dm"
  obtain ⟨many, hm⟩ : ∃ many : Nat, (many : Int) = 1 + v := ⟨(1 + v).toNat, by omega⟩
  rw [← hm]
  unfold rd__law_history_18
  walk_at "dm"
  refine off_use d1 (by decide) (by decide) fun u S2 u0 u1 d2 f2 => ?_
  have fst3 : ∃ first : Int, (0 ≤ first ∧ first ≤ 97) ∧ atI [D.int 0, D.int 0, D.int 97] u = some (.int first) := by
    obtain ⟨x, hx, e⟩ := atI_in (l := [D.int 0, D.int 0, D.int 97]) u0 (by simp; omega)
    simp only [List.mem_cons, List.not_mem_nil, or_false] at hx
    rcases hx with rfl | rfl | rfl <;> exact ⟨_, by omega, e⟩
  obtain ⟨first, hf, ef⟩ := fst3
  simp only [rIxD, deref_lst, rItem, ef]
  unfold rd__law_history_17
  walk_at "dm"
  intro a ha
  unfold rd__law_history_16
  walk_at "dm"
  refine ⟨by omega, by omega, by rw [sizeLine_eq]; simp; omega, ?_⟩
  intro b hb
  unfold rd__law_history_15
  walk_at "dm"
  unfold rd__law_history_14
  walk_at "dm"
  unfold rd__law_history_13
  walk_at "dm"
  have ap : a ≠ p := fun z => by obtain ⟨_, _, _, e, _⟩ := d2; rw [← z, ha] at e; cases e
  have aq : a ≠ q := fun z => by obtain ⟨_, _, _, _, e, _⟩ := d2; rw [← z, ha] at e; cases e
  have d3 := dice_ups (o := .lst []) d2 ap aq
  have bp : b ≠ p := fun z => by obtain ⟨_, _, _, e, _⟩ := d3; rw [← z, hb] at e; cases e
  have bq : b ≠ q := fun z => by obtain ⟨_, _, _, _, e, _⟩ := d3; rw [← z, hb] at e; cases e
  have ab : a ≠ b := fun z => by rw [← z, ups_same] at hb; cases hb
  have rep : (List.replicate (many : Int).toNat [D.int 0]).flatten = ((List.replicate many (some 0)).map encE) := by
    rw [Int.toNat_natCast]
    clear hm
    induction many with
    | zero => rfl
    | succ n ih => rw [List.replicate_succ, List.replicate_succ, List.flatten_cons, ih]; rfl
  rw [rep]
  have hs : Hs (ups (ups S2 a (.lst [])) b (.lst ((List.replicate many (some 0)).map encE))) p q a b many first 0 0 [] (List.replicate many (some 0)) [] := by
    refine ⟨dice_ups d3 bp bq, by rw [ups_ne ab, ups_same]; rfl, ups_same, ap, aq, bp, bq, List.length_replicate, Nat.le_refl _, ⟨.nil, fun _ h => (by cases h)⟩, Nat.le_refl _, fun _ h => (by cases h), .nil, fun _ h => (by cases h), fun _ h => (by cases h), fun _ _ _ _ h => (by cases h), fun k x hk => ?_, Int.le_refl _, by omega, fun k x hk => ?_, fun _ h => (by cases h), fun _ h => (by cases h)⟩
    · rw [List.getElem?_replicate] at hk
      split at hk
      · cases hk; exact Int.le_refl _
      · cases hk
    · rw [List.getElem?_replicate] at hk
      split at hk
      · cases hk; omega
      · cases hk
  generalize ups (ups S2 a (.lst [])) b (.lst ((List.replicate many (some 0)).map encE)) = S3 at hs ⊢
  refine off_use hs.dice (by decide) (by decide) fun w S4 w0 w1 d4 f4 => ?_
  have h4 := hs.frm d4 f4
  try walk_at "dm"
  obtain ⟨honest, hh⟩ : ∃ b, b = decide (0 < w) := ⟨_, rfl⟩
  rw [← hh]
  unfold rd__law_history_12
  walk_at "dm"
  refine off_use h4.dice (by omega) (by omega) fun z S5 z0 z1 d5 f5 => ?_
  have h5 := h4.frm d5 f5
  try walk_at "dm"
  refine ⟨by omega, by omega, ?_⟩
  have zn : z.toNat ≤ 12 := by omega
  have many3 : many ≤ 3 := by omega
  refine loop_ind (fun rest τ S' => ∃ (t k : Nat) (H : List Row) (E : List (Option Int)) (ws : Ws) (moment : Int) (j9 j10 j11 j12 j13 j14 : Option D), rest = intsFrom (t : Int) k ∧ t + k ≤ 12 ∧ τ = τh p most many first a b ws moment honest j9 j10 j11 j12 j13 j14 ∧ Hs S' p q a b many first moment t H E ws) ?_ ?_ _ _ _ ⟨0, z.toNat, [], _, [], 0, _, _, _, _, _, _, rfl, by omega, rfl, h5⟩
  · rintro τ S' ⟨t, k, H, E, ws, moment, j9, j10, j11, j12, j13, j14, er, tk, rfl, hs⟩
    dsimp only
    unfold rd__law_history_11
    walk_at "dm"
    refine fin_of (h H a S' ⟨⟨?_, hs.rows, hs.steps⟩, .inl ⟨first, fun r hr => ?_⟩, hs.b0⟩ hs.dice hs.ra hs.ap hs.aq fun r hr => ?_)
    · have := hs.hl
      omega
    · have := hs.few r hr
      omega
    · have b0 := hs.b0 r hr
      have bB := (hs.bb r hr).1
      refine ⟨⟨b0, by omega⟩, fun p hp => ?_⟩
      have be := (hs.rows r hr).be p hp
      obtain ⟨f1, f2⟩ := (hs.bb r hr).2 p hp
      exact ⟨⟨by omega, by omega⟩, f2⟩
  · rintro x rest τ S' N ⟨t, k, H, E, ws, moment, j9, j10, j11, j12, j13, j14, er, tk, rfl, hs⟩ next
    cases k with
    | zero => cases er
    | succ k =>
    rw [intsFrom] at er
    injection er with e1 e2
    subst e1
    subst e2
    walk_at "dm"
    refine off_use hs.dice (by omega) (by omega) fun v S6 v0 v1 d6 f6 => ?_
    have h6 := hs.frm d6 f6
    obtain ⟨n, rfl⟩ : ∃ n : Nat, v = n := ⟨v.toNat, by omega⟩
    try walk_at "dm"
    refine hist_10 (by omega) (by omega) h6 (v := n) (by omega) hf.1 (by omega) fun S7 H' E' ws' m' j10 j11 j12 j13 j14 h7 => ?_
    exact next _ _ ⟨t + 1, k, H', E', ws', m', _, _, _, _, _, _, rfl, by omega, rfl, h7⟩
end Dl.D4

set_option Elab.async false
set_option linter.all false
set_option maxRecDepth 100000
namespace Dl.D4
open PySem PySem.Spec PyProof.Rows L2 LamX Dl
local macro_rules | `(tactic| walk_at "dl") => `(tactic| simp (config := { maxSteps := 1000000 }) only [dSeq, dIfS, dRet, dRetN, dSet, dNext, dDrop, dVar, dC, d2, dTest, dAnd, dOr, dNot, dAndV, dOrV, dNotV, dIf, dChain, dChain3, dCall, dCons, dNil, dTup, dLst, dLstR, dAsg, Tg.d, sets, dFor, dYes, dNever, dBrk, dCnt,
  dSortKey, dLc, dLcR, dComp, wipeD, itemsI, rangeI1, enumI, dCB, rLenD, rIntD, rAbsD, rM2D, rTupD, rTupPD, rAllD, dIsi, tyD, rIxD, rItem, dSl, dPart, dNoPart, rSlD, rII, rAddD, rMulD, rMulDR, rEqG, rIsN, rInD, dNeg, dGet2, rAddXD, rListD, rListRD, dPar, dNewK, dNewT, dAsgNS, dMemo0, itR, dForR, dLcX, dLcXR, dCompR, dTupRg, dLstRg, dLstRgR, dInRg, dMemoSet, dDisp, dPairs, keyPairs, keyOf, dML, dSetIx,
  atI0, atI1, atI2, atI3, atI4, atI5, atIm2, atIm3, atIm4, deref_non, deref_bl, deref_int, deref_str, deref_tp, deref_ptp, deref_lst, items_tup, items_ptp, items_lst, dq_ii, dq_bb, dq_ss, dq_tt, dq_tp, dq_pt, dq_pp, dq_ll, dq_n0, dq_nc, dq_cn, dq_cc, ok_non, ok_bl, ok_int, ok_str, ok_tp, ok_pp, ok_ls, ok_n0, ok_cc, flat, List.all_cons, List.all_nil, List.any_cons, List.any_nil,
  startD, List.map_cons, List.map_nil, List.length_cons, List.length_nil, List.replicate_succ, List.replicate_zero, List.cons_append, List.nil_append, List.set_cons_zero, List.set_cons_succ, List.getElem?_cons_zero, List.getElem?_cons_succ, Nat.reduceAdd, Nat.reduceSub, Nat.reduceLeDiff, Nat.reduceMul,
  Bool.and_true, Bool.true_and, Bool.and_false, Bool.false_and, Bool.or_true, Bool.true_or, Bool.or_false, Bool.false_or, Bool.not_true, Bool.not_false, decide_eq_true_eq, ↓reduceIte, true_and, and_true, Bool.false_eq_true, Bool.not_eq_true', Bool.not_not, beq_self_eq_true, and_self, ne_eq, reduceCtorEq, not_false_eq_true, not_true_eq_false, Int.reduceBEq, beq_iff_eq, beq_eq_false_iff_ne, decide_eq_false_iff_not, Int.reduceLT, Int.reduceLE, Int.reduceNeg, Int.reduceAdd, Int.reduceEq, Int.reduceToNat,  kb_NoneType_bool, kb_NoneType_int, kb_NoneType_str, kb_NoneType_tuple, kb_NoneType_list, kb_bool_bool, kb_bool_int, kb_bool_str, kb_bool_tuple, kb_bool_list, kb_int_bool, kb_int_int, kb_int_str, kb_int_tuple, kb_int_list, kb_str_bool, kb_str_int, kb_str_str, kb_str_tuple, kb_str_list, kb_tuple_bool, kb_tuple_int, kb_tuple_str, kb_tuple_tuple, kb_tuple_list, kb_list_bool, kb_list_int, kb_list_str, kb_list_tuple, kb_list_list, sq_k_e, sq_kw_e, sq_kww_e, sk_k, sk_kw, sk_kww, sl_k, sl_kw, sl_kww, sk_e, cut_2_2_None, ncut_2_2_None, cut_2_None_1, ncut_2_None_1, cut_3_2_None, ncut_3_2_None, cut_3_None_1, ncut_3_None_1, cut_3_3_None, ncut_3_3_None, cut_4_2_None, ncut_4_2_None, cut_4_None_1, ncut_4_None_1, cut_4_None_3, ncut_4_None_3, cut_4_3_None, ncut_4_3_None, cut_5_2_None, ncut_5_2_None, cut_5_None_1, ncut_5_None_1, cut_5_None_3, ncut_5_None_3, cut_5_3_None, ncut_5_3_None, cut_6_2_None, ncut_6_2_None, cut_6_None_1, ncut_6_None_1, cut_6_None_3, ncut_6_None_3, cut_6_None_5, ncut_6_None_5, cut_6_3_None, ncut_6_3_None, sq_get_put, sq_get_add, sq_get_swap, sq_get_look, sq_get_split, sq_get_join, sq_put_get, sq_put_add, sq_put_swap, sq_put_look, sq_put_split, sq_put_join, sq_add_get, sq_add_put, sq_add_swap, sq_add_look, sq_add_split, sq_add_join, sq_swap_get, sq_swap_put, sq_swap_add, sq_swap_look, sq_swap_split, sq_swap_join, sq_look_get, sq_look_put, sq_look_add, sq_look_swap, sq_look_split, sq_look_join, sq_split_get, sq_split_put, sq_split_add, sq_split_swap, sq_split_look, sq_split_join, sq_join_get, sq_join_put, sq_join_add, sq_join_swap, sq_join_look, sq_join_split, ls0, ls1, ls2, ls3, ls4, ls5, ls6, ls7, ls8, ls9, ls10, nc0, nc1, nc2, nc3, nc4, nc5, nc6, nc7, nc8, nc9, nc10, sk_get, sk_put, sk_add, sk_swap, sk_look, sk_split, sk_join])


local macro_rules | `(tactic| walk_at "dm") => `(tactic| simp (config := { maxSteps := 1000000 }) only [dSeq, dIfS, dRet, dRetN, dSet, dNext, dDrop, dVar, dC, d2, dTest, dAnd, dOr, dNot, dAndV, dOrV, dNotV, dIf, dChain, dChain3, dCall, dCons, dNil, dTup, dLst, dLstR, dAsg, Tg.d, sets, dFor, dYes, dNever, dBrk, dCnt,
  dSortKey, dLc, dLcR, dComp, wipeD, itemsI, rangeI1, enumI, dCB, rLenD, rIntD, rAbsD, rM2D, rTupD, rTupPD, rAllD, dIsi, tyD, rItem, dSl, dPart, dNoPart, rSlD, rII, rAddD, rMulD, rMulDR, rEqG, rInD, dNeg, dGet2, rAddXD, rListD, rListRD, dPar, dNewK, dNewT, dAsgNS, dMemo0, itR, dForR, dLcX, dLcXR, dCompR, dTupRg, dLstRg, dLstRgR, dInRg, dMemoSet, dDisp, dPairs, keyPairs, keyOf, dML, dSetIx,
  atI0, atI1, atI2, atI3, atI4, atI5, atIm2, atIm3, atIm4, deref_non, deref_bl, deref_int, deref_str, deref_tp, deref_ptp, deref_lst, items_tup, items_ptp, items_lst, dq_ii, dq_bb, dq_ss, dq_tt, dq_tp, dq_pt, dq_pp, dq_ll, dq_n0, dq_nc, dq_cn, dq_cc, ok_non, ok_bl, ok_int, ok_str, ok_tp, ok_pp, ok_ls, ok_n0, ok_cc, flat, List.all_cons, List.all_nil, List.any_cons, List.any_nil,
  startD, List.map_cons, List.map_nil, List.length_cons, List.length_nil, List.replicate_succ, List.replicate_zero, List.cons_append, List.nil_append, List.set_cons_zero, List.set_cons_succ, List.getElem?_cons_zero, List.getElem?_cons_succ, Nat.reduceAdd, Nat.reduceSub, Nat.reduceLeDiff, Nat.reduceMul,
  Bool.and_true, Bool.true_and, Bool.and_false, Bool.false_and, Bool.or_true, Bool.true_or, Bool.or_false, Bool.false_or, Bool.not_true, Bool.not_false, decide_eq_true_eq, ↓reduceIte, true_and, and_true, Bool.false_eq_true, Bool.not_eq_true', Bool.not_not, beq_self_eq_true, and_self, ne_eq, reduceCtorEq, not_false_eq_true, not_true_eq_false, Int.reduceBEq, beq_iff_eq, beq_eq_false_iff_ne, decide_eq_false_iff_not, Int.reduceLT, Int.reduceLE, Int.reduceNeg, Int.reduceAdd, Int.reduceEq, Int.reduceToNat,  kb_NoneType_bool, kb_NoneType_int, kb_NoneType_str, kb_NoneType_tuple, kb_NoneType_list, kb_bool_bool, kb_bool_int, kb_bool_str, kb_bool_tuple, kb_bool_list, kb_int_bool, kb_int_int, kb_int_str, kb_int_tuple, kb_int_list, kb_str_bool, kb_str_int, kb_str_str, kb_str_tuple, kb_str_list, kb_tuple_bool, kb_tuple_int, kb_tuple_str, kb_tuple_tuple, kb_tuple_list, kb_list_bool, kb_list_int, kb_list_str, kb_list_tuple, kb_list_list, sq_k_e, sq_kw_e, sq_kww_e, sk_k, sk_kw, sk_kww, sl_k, sl_kw, sl_kww, sk_e, cut_2_2_None, ncut_2_2_None, cut_2_None_1, ncut_2_None_1, cut_3_2_None, ncut_3_2_None, cut_3_None_1, ncut_3_None_1, cut_3_3_None, ncut_3_3_None, cut_4_2_None, ncut_4_2_None, cut_4_None_1, ncut_4_None_1, cut_4_None_3, ncut_4_None_3, cut_4_3_None, ncut_4_3_None, cut_5_2_None, ncut_5_2_None, cut_5_None_1, ncut_5_None_1, cut_5_None_3, ncut_5_None_3, cut_5_3_None, ncut_5_3_None, cut_6_2_None, ncut_6_2_None, cut_6_None_1, ncut_6_None_1, cut_6_None_3, ncut_6_None_3, cut_6_None_5, ncut_6_None_5, cut_6_3_None, ncut_6_3_None, sq_get_put, sq_get_add, sq_get_swap, sq_get_look, sq_get_split, sq_get_join, sq_put_get, sq_put_add, sq_put_swap, sq_put_look, sq_put_split, sq_put_join, sq_add_get, sq_add_put, sq_add_swap, sq_add_look, sq_add_split, sq_add_join, sq_swap_get, sq_swap_put, sq_swap_add, sq_swap_look, sq_swap_split, sq_swap_join, sq_look_get, sq_look_put, sq_look_add, sq_look_swap, sq_look_split, sq_look_join, sq_split_get, sq_split_put, sq_split_add, sq_split_swap, sq_split_look, sq_split_join, sq_join_get, sq_join_put, sq_join_add, sq_join_swap, sq_join_look, sq_join_split, ls0, ls1, ls2, ls3, ls4, ls5, ls6, ls7, ls8, ls9, ls10, nc0, nc1, nc2, nc3, nc4, nc5, nc6, nc7, nc8, nc9, nc10, sk_get, sk_put, sk_add, sk_swap, sk_look, sk_split, sk_join])


/-! ### a row that cannot stand at a place -/
def sp__law_bad_row : DSp := fun ds S R => ∃ (p q : Addr) (H : List Row) (n : Nat), ds = [.ref p, .lst (H.map Row.enc), .int (n : Int)] ∧ Dice S p q ∧ Good H ∧ n ≤ H.length ∧ ∀ bad S', BadNext (H.take n) bad → Dice S' p q → R bad S'
def rd__law_bad_row_1 : DS :=
 (dRet (d2 rIxD (dVar 5) (dCall sp__law_off (dCons (dVar 0) (dCons (dCB rLenD (dCons (dVar 5) dNil)) dNil)))))
def rd__law_bad_row_2 : DS :=
 (dSeq (dFor (itemsI (dCB rSortKD (dCons (dVar 3) dNil))) (.nm 7)
 (dIfS (dTest (d2 (rIsN false) (d2 rIxD (dVar 3) (dVar 7)) (dC .non)))
 (dSet 5 (d2 rAddD (dVar 5) (d2 rMulD (dLst (dCons (dTup (dCons (dVar 7) (dCons (dTup (dCons (dC (.str "get")) (dCons (dC (.int 5)) dNil))) (dCons (dC (.int 990)) (dCons (dC (.int 999)) (dCons (dC (.int 0)) dNil)))))) dNil)) (dC (.int 3)))))
 (dSet 5 (d2 rAddD (dVar 5) (dLst (dCons (dTup (dCons (dVar 7) (dCons (dTup (dCons (dC (.str "get")) (dCons (dC (.int 5)) dNil))) (dCons (d2 rIxD (dVar 3) (dVar 7)) (dCons (dC (.int 999)) (dCons (dC (.int 0)) dNil)))))) (dCons (dTup (dCons (dVar 7) (dCons (dTup (dCons (dC (.str "get")) (dCons (dC (.int 5)) dNil))) (dCons (dC (.int 0)) (dCons (dC .non) (dCons (dC .non) dNil)))))) dNil)))))))
 rd__law_bad_row_1)
def rd__law_bad_row_3 : DS :=
 (dSeq (dFor (itemsI (dLst (dCons (d2 rSubD (dNeg (dC (.int 1))) (dVar 6)) (dCons (dC (.int 100)) (dCons (d2 rAddD (dC (.int 100)) (dVar 6)) (dCons (dC (.int 9999)) (dCons (dC (.bl true)) (dCons (dC .non) (dCons (dC (.str "1")) (dCons (dTup (dCons (dC (.int 1)) dNil)) dNil)))))))))) (.nm 7)
 (dSet 5 (d2 rAddD (dVar 5) (dLst (dCons (dTup (dCons (dVar 7) (dCons (dTup (dCons (dC (.str "get")) (dCons (dC (.int 5)) dNil))) (dCons (dC (.int 900)) (dCons (dC (.int 901)) (dCons (dC (.int 5)) dNil)))))) (dCons (dTup (dCons (dVar 7) (dCons (dTup (dCons (dC (.str "look")) (dCons (dTup (dCons (dC (.int 5)) dNil)) dNil))) (dCons (dC (.int 900)) (dCons (dC .non) (dCons (dC .non) dNil)))))) dNil))))))
 rd__law_bad_row_2)
def rd__law_bad_row_4 : DS :=
 (dSeq (dSet 6 (dCB rMaxD (dCons (dC (.int 0)) (dCons (d2 rSubD (dCall sp__law_off (dCons (dVar 0) (dCons (d2 rPowD (dC (.int 10)) (dC (.int 6))) dNil))) (dC (.int 500000))) dNil))))
 rd__law_bad_row_3)
def rd__law_bad_row_5 : DS :=
 (dSeq (dSet 5 (d2 rAddD (dVar 5) (dLst (dCons (dTup (dCons (dC (.int 1)) (dCons (dTup (dCons (dC (.str "get")) (dCons (dC (.int 5)) dNil))) (dCons (dC (.int 900)) (dCons (dC (.int 901)) (dCons (dC .non) dNil)))))) (dCons (dTup (dCons (dC (.int 1)) (dCons (dTup (dCons (dC (.str "join")) (dCons (dC (.int 5)) dNil))) (dCons (dC (.int 900)) (dCons (dC .non) (dCons (dC .non) dNil)))))) (dCons (dTup (dCons (dC (.int 1)) (dCons (dC (.ptp [])) (dCons (dC (.int 900)) (dCons (dC (.int 901)) (dCons (dC (.int 5)) dNil)))))) dNil))))))
 rd__law_bad_row_4)
def rd__law_bad_row_6 : DS :=
 (dSeq (dSet 5 (d2 rAddD (dVar 5) (dLst (dCons (dTup (dCons (dC (.int 1)) (dCons (dTup (dCons (dC (.str "get")) (dCons (dC (.int 5)) dNil))) (dCons (dC (.int 900)) (dCons (dC (.int 900)) (dCons (dC (.int 5)) dNil)))))) (dCons (dTup (dCons (dC (.int 1)) (dCons (dTup (dCons (dC (.str "get")) (dCons (dC (.int 5)) dNil))) (dCons (dC (.int 901)) (dCons (dC (.int 900)) (dCons (dC (.int 5)) dNil)))))) (dCons (dTup (dCons (dC (.int 1)) (dCons (dTup (dCons (dC (.str "get")) (dCons (dC (.int 5)) dNil))) (dCons (dC (.int 900)) (dCons (dC .non) (dCons (dC (.int 5)) dNil)))))) dNil))))))
 rd__law_bad_row_5)
def rd__law_bad_row_7 : DS :=
 (dSeq (dSet 5 (dLst (dCons (dC (.ptp [])) (dCons (dTup (dCons (dC (.int 1)) (dCons (dTup (dCons (dC (.str "get")) (dCons (dC (.int 5)) dNil))) (dCons (dC (.int 900)) (dCons (dC (.int 901)) dNil))))) (dCons (dTup (dCons (dC (.int 1)) (dCons (dTup (dCons (dC (.str "get")) (dCons (dC (.int 100)) dNil))) (dCons (dC (.int 900)) (dCons (dC (.int 901)) (dCons (dC (.int 5)) dNil)))))) (dCons (dTup (dCons (dC (.int 1)) (dCons (dTup (dCons (dC (.str "split")) (dCons (dC (.int 5)) dNil))) (dCons (dC (.int 900)) (dCons (dC (.int 901)) (dCons (dC (.int 5)) dNil)))))) dNil))))))
 rd__law_bad_row_6)
def rd__law_bad_row_8 : DS :=
 (dSeq (dFor (itemsI (dSl (dVar 1) dNoPart (dPart (dVar 2)))) (.nm 4)
 (dPut (d2 rIxD (dVar 4) (dC (.int 3))) (dVar 3) (d2 rIxD (dVar 4) (dC (.int 0)))))
 rd__law_bad_row_7)
def rd__law_bad_row : DS :=
 (dSeq (dSet 3 dNewK)
 rd__law_bad_row_8)
abbrev get5 : Dq := .pl (.get 5)
theorem get5_ok : get5.ok := ⟨by decide, by decide⟩
abbrev look5 : Dq := .look [5]
theorem look5_ok : look5.ok := ⟨by simp, by simp, by simp, fun k hk => by
  simp only [List.mem_cons, List.not_mem_nil, or_false] at hk
  subst hk
  exact ⟨by decide, by decide⟩⟩
def AllBad (H : List Row) (L : List D) : Prop := ∀ x ∈ L, BadNext H x
theorem AllBad.app {H : List Row} {L M : List D} (h : AllBad H L) (h' : AllBad H M) : AllBad H (L ++ M) := fun x hx => (List.mem_append.mp hx).elim (h x) (h' x)
theorem AllBad.nil {H : List Row} : AllBad H [] := fun x hx => by cases hx
theorem AllBad.cons {H : List Row} {d : D} {L : List D} (h : BadNext H d) (h' : AllBad H L) : AllBad H (d :: L) := fun x hx => (List.mem_cons.mp hx).elim (fun e => e ▸ h) (h' x)
/-- the ends, as the law keeps them -/
structure EndsAt (T : List Row) (kvs : List (L2.Key × D)) : Prop where
  v : ∀ a, valD kvs (.inl a) = (lastR T a).map Row.endD
  k : ∃ ns : List Int, kvs.map (·.1) = ns.map Sum.inl ∧ ∀ a ∈ ns, (lastR T a).isSome = true
  l : kvs.length ≤ T.length
theorem putD_keys {κ : Type} [DecidableEq κ] (kvs : List (κ × D)) (k : κ) (v : D) : (putD kvs k v).map (·.1) = if (kvs.any fun kv => decide (kv.1 = k)) = true then kvs.map (·.1) else kvs.map (·.1) ++ [k] := by
  unfold putD
  split
  · rw [List.map_map]
    refine List.map_congr_left fun kv _ => ?_
    simp only [Function.comp]
    split <;> rfl
  · simp
theorem EndsAt.add {T : List Row} {kvs : List (L2.Key × D)} (h : EndsAt T kvs) (r : Row) : EndsAt (T ++ [r]) (putD kvs (.inl r.asker) r.endD) := by
  refine ⟨fun a => ?_, ?_, ?_⟩
  · rw [valD_put4, lastR_app]
    by_cases c : a = r.asker
    · rw [if_pos (by rw [c]), if_pos c]; rfl
    · rw [if_neg (fun z => c (Sum.inl.inj z)), if_neg c]; exact h.v a
  · obtain ⟨ns, e, hn⟩ := h.k
    have up : ∀ a, (lastR T a).isSome = true → (lastR (T ++ [r]) a).isSome = true := fun a q => by
      rw [lastR_app]
      split
      · rfl
      · exact q
    rw [putD_keys]
    split
    · exact ⟨ns, e, fun a ha => up a (hn a ha)⟩
    · refine ⟨ns ++ [r.asker], by rw [e, List.map_append]; rfl, fun a ha => ?_⟩
      rcases List.mem_append.mp ha with ha | ha
      · exact up a (hn a ha)
      · rw [List.mem_singleton.mp ha, lastR_app, if_pos rfl]; rfl
  · have := putD_len kvs (.inl r.asker) r.endD
    have := h.l
    rw [List.length_append]
    simp only [List.length_cons, List.length_nil]
    omega
abbrev τb (p : Addr) (H : List Row) (n : Nat) (e : Addr) (j4 j5 j6 j7 : Option D) : DSt := [some (.ref p), some (.lst (H.map Row.enc)), some (.int (n : Int)), some (.ref e), j4, j5, j6, j7]
theorem bad_1 {E : DEnds} {p q e : Addr} {H T : List Row} {n : Nat} {L : List D} {S : Store} {j4 j6 j7 : Option D} (d : Dice S p q) (hL : AllBad T L) (ne : L ≠ []) (few : L.length ≤ 1000) (k : ∀ bad S', BadNext T bad → Dice S' p q → E.rt bad S') : rd__law_bad_row_1 E (τb p H n e j4 (some (.lst L)) j6 j7) S := by
  unfold rd__law_bad_row_1
  walk_at "dm"
  have pos : 0 < L.length := List.length_pos_iff.mpr ne
  refine off_use d (by omega) (by omega) fun v S1 v0 v1 d1 f1 => ?_
  obtain ⟨x, hx, ex⟩ := atI_in v0 v1
  simp only [rIxD, deref_lst, rItem, ex]
  exact k x S1 (hL x hx) d1
/-- a row of an asker that has rows already -/
theorem clash_open {T : List Row} {a : Int} {q : Row} (hq : lastR T a = some q) (hr : RowOk q) (ho : q.fin = none) : BadNext T (.tup [.int a, .tup [.str "get", .int 5], .int 990, .int 999, .int 0]) := by
  have e := (lastR_mem hq).2
  refine .inr (.inr ⟨⟨a, get5, 990, some (999, .int 0)⟩, rfl, ⟨?_, ?_, get5_ok, fun p hp => by cases hp; show (990 : Int) < 999; decide⟩, q, hq, .inl ho⟩)
  · rw [← e]; exact hr.a0
  · rw [← e]; exact hr.a1
theorem clash_at {T : List Row} {a : Int} {q : Row} (hq : lastR T a = some q) (hr : RowOk q) {pr : Int × An} (ho : q.fin = some pr) : BadNext T (.tup [.int a, .tup [.str "get", .int 5], .int pr.1, .int 999, .int 0]) := by
  have e := (lastR_mem hq).2
  have a0 : 0 ≤ a ∧ a < 100 := by rw [← e]; exact ⟨hr.a0, hr.a1⟩
  by_cases c : pr.1 < 999
  · exact .inr (.inr ⟨⟨a, get5, pr.1, some (999, .int 0)⟩, rfl, ⟨a0.1, a0.2, get5_ok, fun p hp => by cases hp; exact c⟩, q, hq, .inr ⟨pr, ho, Int.le_refl _⟩⟩)
  · exact .inr (.inl (.late a a0 get5 get5_ok pr.1 999 c (.int 0)))
theorem clash_0 {T : List Row} {a : Int} {q : Row} (hq : lastR T a = some q) (hr : RowOk q) (b0 : 0 ≤ q.beg) {pr : Int × An} (ho : q.fin = some pr) : BadNext T (.tup [.int a, .tup [.str "get", .int 5], .int 0, .non, .non]) := by
  have e := (lastR_mem hq).2
  have a0 : 0 ≤ a ∧ a < 100 := by rw [← e]; exact ⟨hr.a0, hr.a1⟩
  have := hr.be pr ho
  exact .inr (.inr ⟨⟨a, get5, 0, none⟩, rfl, ⟨a0.1, a0.2, get5_ok, fun p hp => by cases hp⟩, q, hq, .inr ⟨pr, ho, by show 0 ≤ pr.1; omega⟩⟩)
theorem bad_2 {E : DEnds} {p q e : Addr} {H T : List Row} {n : Nat} {L : List D} {S : Store} {kvs : List (L2.Key × D)} {j4 j6 j7 : Option D} (d : Dice S p q) (he : S e = some (.dK kvs)) (ep : e ≠ p) (eq : e ≠ q) (ea : EndsAt T kvs) (tl : T.length ≤ 12) (rows : ∀ r ∈ T, RowOk r) (b0 : ∀ r ∈ T, 0 ≤ r.beg)
    (hL : AllBad T L) (ne : L ≠ []) (few : L.length ≤ 200) (k : ∀ bad S', BadNext T bad → Dice S' p q → E.rt bad S') : rd__law_bad_row_2 E (τb p H n e j4 (some (.lst L)) j6 j7) S := by
  unfold rd__law_bad_row_2
  walk_at "dm"
  obtain ⟨ns, ek, hn⟩ := ea.k
  simp only [rSortKD, he]
  have kl := ea.l
  have nl : ns.length = kvs.length := by
    have := congrArg List.length ek
    simpa using this.symm
  refine ⟨ns, ek, by omega, fun out pm _ => ?_⟩
  have ol := pm.length_eq
  try walk_at "dm"
  refine loop_ind (fun rest τ S' => ∃ (ms : List Int) (L : List D) (j7 : Option D), rest = ms.map D.int ∧ (∀ a ∈ ms, (lastR T a).isSome = true) ∧ τ = τb p H n e j4 (some (.lst L)) j6 j7 ∧ S' = S ∧ AllBad T L ∧ L ≠ [] ∧ L.length + 3 * ms.length ≤ 300) ?_ ?_ _ _ _ ⟨out, L, j7, rfl, fun a ha => hn a (pm.subset ha), rfl, rfl, hL, ne, by omega⟩
  · rintro τ S' ⟨ms, L, j7, er, hm, rfl, rfl, hL, ne, fl⟩
    exact bad_1 (H := H) (n := n) (e := e) (j4 := j4) (j6 := j6) (j7 := j7) d hL ne (by omega) k
  · rintro x rest τ S' N ⟨ms, L, j7, er, hm, rfl, rfl, hL, ne, fl⟩ next
    cases ms with
    | nil => cases er
    | cons a ms =>
      injection er with e1 e2
      subst e1
      subst e2
      simp only [List.length_cons] at fl
      obtain ⟨r, hr⟩ := Option.isSome_iff_exists.mp (hm a List.mem_cons_self)
      have va := ea.v a
      rw [hr] at va
      have va : valD kvs (.inl a) = some r.endD := va
      have ro := rows r (lastR_mem hr).1
      have nx : ∀ (M : List D) (τ2 : DSt), AllBad T M → M.length ≤ 3 → τ2 = τb p H n e j4 (some (.lst (L ++ M))) j6 (some (.int a)) → N τ2 S' := fun M τ2 hM lM eτ => by
        rw [eτ]
        exact next _ _ ⟨ms, L ++ M, _, rfl, fun b hb => hm b (List.mem_cons_of_mem _ hb), rfl, rfl, hL.app hM, by simp [ne], by rw [List.length_append]; omega⟩
      have big : ∀ m : Nat, m ≤ 1000 → m ≤ sizeLine := fun m hm => len_ok hm
      walk_at "dm"
      refine ix_rfK he rfl va ?_
      cases hf : r.fin with
      | none =>
        have en : r.endD = .non := by unfold Row.endD; rw [hf]
        rw [en]
        simp only [rIsN, Bool.not_false, ↓reduceIte]
        try walk_at "dm"
        refine ⟨by first | decide | exact big _ (by simp), by first | decide | exact big _ (by simp), big _ (by simp; omega), ?_⟩
        have b := clash_open hr ro hf
        exact nx _ _ (AllBad.cons b (.cons b (.cons b .nil))) (by simp) rfl
      | some pr =>
        have en : r.endD = .int pr.1 := by unfold Row.endD; rw [hf]
        rw [en] at va ⊢
        simp only [rIsN, Bool.false_eq_true, ↓reduceIte]
        try walk_at "dm"
        refine ix_rfK he rfl va ?_
        try walk_at "dm"
        refine ⟨big _ (by simp; omega), ?_⟩
        exact nx _ _ (AllBad.cons (clash_at hr ro hf) (.cons (clash_0 hr ro (b0 r (lastR_mem hr).1) hf) .nil)) (by simp) rfl
def NoAsker (a : D) : Prop := (∃ i : Int, a = .int i ∧ ¬ (0 ≤ i ∧ i < 100)) ∨ NoInt a
theorem bad_3 {E : DEnds} {p q e : Addr} {H T : List Row} {n : Nat} {L : List D} {S : Store} {kvs : List (L2.Key × D)} {far : Int} {j4 j7 : Option D} (d : Dice S p q) (he : S e = some (.dK kvs)) (ep : e ≠ p) (eq : e ≠ q) (ea : EndsAt T kvs) (tl : T.length ≤ 12) (rows : ∀ r ∈ T, RowOk r) (b0 : ∀ r ∈ T, 0 ≤ r.beg)
    (hL : AllBad T L) (f0 : 0 ≤ far) (few : L.length ≤ 100) (k : ∀ bad S', BadNext T bad → Dice S' p q → E.rt bad S') : rd__law_bad_row_3 E (τb p H n e j4 (some (.lst L)) (some (.int far)) j7) S := by
  unfold rd__law_bad_row_3
  walk_at "dm"
  have big : ∀ m : Nat, m ≤ 1000 → m ≤ sizeLine := fun m hm => len_ok hm
  refine loop_ind (fun rest τ S' => ∃ (L : List D) (j7 : Option D), (∀ a ∈ rest, NoAsker a) ∧ τ = τb p H n e j4 (some (.lst L)) (some (.int far)) j7 ∧ S' = S ∧ AllBad T L ∧ L.length + 2 * rest.length ≤ 120 ∧ (rest = [] → L ≠ [])) ?_ ?_ _ _ _ ⟨L, j7, ?_, rfl, rfl, hL, by simp; omega, fun z => by cases z⟩
  · rintro τ S' ⟨L, j7, hm, rfl, rfl, hL, fl, ne⟩
    exact bad_2 (H := H) (n := n) (e := e) (j4 := j4) (j7 := j7) d he ep eq ea tl rows b0 hL (ne rfl) (by simp at fl; omega) k
  · rintro a rest τ S' N ⟨L, j7, hm, rfl, rfl, hL, fl, ne⟩ next
    simp only [List.length_cons] at fl
    walk_at "dm"
    refine ⟨big _ (by simp; omega), ?_⟩
    have na := hm a List.mem_cons_self
    refine next _ _ ⟨_, _, fun b hb => hm b (List.mem_cons_of_mem _ hb), rfl, rfl, hL.app (AllBad.cons (.inr (.inl (.asker a na get5 get5_ok (.int 900) (.int 901) (.int 5)))) (.cons (.inr (.inl (.asker a na look5 look5_ok (.int 900) .non .non))) .nil)), by rw [List.length_append]; simp; omega, fun _ => by simp⟩
  · intro a ha
    simp only [List.mem_cons, List.not_mem_nil, or_false] at ha
    rcases ha with rfl | rfl | rfl | rfl | rfl | rfl | rfl | rfl
    · exact .inl ⟨_, rfl, by omega⟩
    · exact .inl ⟨_, rfl, by omega⟩
    · exact .inl ⟨_, rfl, by omega⟩
    · exact .inl ⟨_, rfl, by omega⟩
    · exact .inr (.inl ⟨_, rfl⟩)
    · exact .inr (.inr (.inl rfl))
    · exact .inr (.inr (.inr (.inl ⟨_, rfl⟩)))
    · exact .inr (.inr (.inr (.inr (.inl ⟨_, rfl⟩))))
theorem one_ok : (0 : Int) ≤ 1 ∧ (1 : Int) < 100 := by decide
theorem ok__law_bad_row (ds : List D) (S : Store) (R : DK) (h : sp__law_bad_row ds S R) : rd__law_bad_row (ends R) (startD ["_law_d", "_law_rows", "_law_at", "_law_ends", "_law_row", "_law_some", "_law_far", "_law_asker"] ds) S := by
  obtain ⟨p, q, H, n, rfl, hd, g, hn, h⟩ := h
  have hl := g.ok.len
  have tl : (H.take n).length ≤ 12 := by rw [List.length_take]; omega
  have rows : ∀ r ∈ H.take n, RowOk r := fun r hr => g.ok.rows r (List.mem_of_mem_take hr)
  have b0 : ∀ r ∈ H.take n, 0 ≤ r.beg := fun r hr => g.b0 r (List.mem_of_mem_take hr)
  have big : ∀ m : Nat, m ≤ 1000 → m ≤ sizeLine := fun m hm => len_ok hm
  unfold rd__law_bad_row
  walk_at "dm"
  intro e he
  have ep : e ≠ p := fun z => by obtain ⟨_, _, _, e1, _⟩ := hd; rw [← z, he] at e1; cases e1
  have eq : e ≠ q := fun z => by obtain ⟨_, _, _, _, e1, _⟩ := hd; rw [← z, he] at e1; cases e1
  have d1 := dice_ups (o := .dK []) hd ep eq
  unfold rd__law_bad_row_8
  walk_at "dm"
  have ct : cutD (H.map Row.enc) none (some (n : Int)) = (H.take n).map Row.enc := by
    unfold cutD
    rw [HT.sIx_none, HT.sIx_nat, List.length_map, List.drop_zero, Nat.sub_zero, List.map_take]
    congr 1
    omega
  rw [ct]
  generalize hT : H.take n = T at tl rows b0 h ⊢
  refine loop_ind (fun rest τ S' => ∃ (seen more : List Row) (kvs : List (L2.Key × D)) (j4 : Option D), T = seen ++ more ∧ rest = more.map Row.enc ∧ τ = τb p H n e j4 none none none ∧ Dice S' p q ∧ S' e = some (.dK kvs) ∧ EndsAt seen kvs) ?_ ?_ _ _ _ ⟨[], T, [], none, rfl, rfl, rfl, d1, ups_same, ⟨fun a => rfl, ⟨[], rfl, fun a ha => by cases ha⟩, Nat.le_refl _⟩⟩
  · rintro τ S' ⟨seen, more, kvs, j4, eT, er, rfl, d2, he2, ea⟩
    have em : more = [] := by
      cases more with
      | nil => rfl
      | cons a l => cases er
    rw [em, List.append_nil] at eT
    subst eT
    dsimp only
    unfold rd__law_bad_row_7
    walk_at "dm"
    unfold rd__law_bad_row_6
    walk_at "dm"
    unfold rd__law_bad_row_5
    walk_at "dm"
    unfold rd__law_bad_row_4
    walk_at "dm"
    refine ⟨⟨by decide, by decide, by decide⟩, ?_⟩
    refine off_use d2 (by decide) (by decide) fun v S3 v0 v1 d3 f3 => ?_
    try walk_at "dm"
    obtain ⟨far, hf⟩ : ∃ far : Int, far = (if v - 500000 > 0 then v - 500000 else 0) := ⟨_, rfl⟩
    rw [← hf]
    have f0 : 0 ≤ far := by rw [hf]; split <;> omega
    have nr : ∀ {d : D}, NoRow d → BadNext T d := fun h => .inr (.inl h)
    refine bad_3 (H := H) (n := n) (e := e) (kvs := kvs) d3 (by rw [f3 e ep eq]; exact he2) ep eq ea tl rows b0 ?_ f0 (by simp) fun bad S' hb hd => fin_of (h bad S' hb hd)
    refine .cons (nr .empty) (.cons (nr (.short _ _ _ _)) (.cons (nr (.deed (.int 1) (.get 100) trivial (by decide) _ _ _)) (.cons (nr (.cut (.int 1) true 5 _ _ _)) ?_)))
    refine .cons (nr (.late 1 one_ok get5 get5_ok 900 900 (by decide) _)) (.cons (nr (.late 1 one_ok get5 get5_ok 901 900 (by decide) _)) (.cons (nr (.open_ 1 one_ok get5 get5_ok _ 5)) ?_))
    exact .cons (nr (.mute 1 one_ok get5 get5_ok 900 901)) (.cons (nr (.cut (.int 1) false 5 _ _ _)) (.cons (nr (.deed (.int 1) .none trivial rfl _ _ _)) .nil))
  · rintro x rest τ S' N ⟨seen, more, kvs, j4, eT, er, rfl, d2, he2, ea⟩ next
    cases more with
    | nil => cases er
    | cons r more =>
      injection er with e1 e2
      subst e1
      subst e2
      have sl : seen.length ≤ 12 := by rw [eT, List.length_append] at tl; omega
      have kl := ea.l
      walk_at "dm"
      simp only [dPut, Dl.d2, dVar, dC, List.getElem?_cons_zero, List.getElem?_cons_succ]
      refine row_3 (row_0 ?_)
      simp only [keyOf, he2]
      exact ⟨by rw [sizeLine_eq]; omega, next _ _ ⟨seen ++ [r], more, _, _, by rw [eT]; simp, rfl, rfl, dice_ups d2 ep eq, ups_same, ea.add r⟩⟩
end Dl.D4

set_option Elab.async false
set_option linter.all false
set_option maxRecDepth 100000
namespace Dl.D4
open PySem PySem.Spec PyProof.Rows L2 LamX Dl
local macro_rules | `(tactic| walk_at "dl") => `(tactic| simp (config := { maxSteps := 1000000 }) only [dSeq, dIfS, dRet, dRetN, dSet, dNext, dDrop, dVar, dC, d2, dTest, dAnd, dOr, dNot, dAndV, dOrV, dNotV, dIf, dChain, dChain3, dCall, dCons, dNil, dTup, dLst, dLstR, dAsg, Tg.d, sets, dFor, dYes, dNever, dBrk, dCnt,
  dSortKey, dLc, dLcR, dComp, wipeD, itemsI, rangeI1, enumI, dCB, rLenD, rIntD, rAbsD, rM2D, rTupD, rTupPD, rAllD, dIsi, tyD, rIxD, rItem, dSl, dPart, dNoPart, rSlD, rII, rAddD, rMulD, rMulDR, rEqG, rIsN, rInD, dNeg, dGet2, rAddXD, rListD, rListRD, dPar, dNewK, dNewT, dAsgNS, dMemo0, itR, dForR, dLcX, dLcXR, dCompR, dTupRg, dLstRg, dLstRgR, dInRg, dMemoSet, dDisp, dPairs, keyPairs, keyOf, dML, dSetIx,
  atI0, atI1, atI2, atI3, atI4, atI5, atIm2, atIm3, atIm4, deref_non, deref_bl, deref_int, deref_str, deref_tp, deref_ptp, deref_lst, items_tup, items_ptp, items_lst, dq_ii, dq_bb, dq_ss, dq_tt, dq_tp, dq_pt, dq_pp, dq_ll, dq_n0, dq_nc, dq_cn, dq_cc, ok_non, ok_bl, ok_int, ok_str, ok_tp, ok_pp, ok_ls, ok_n0, ok_cc, flat, List.all_cons, List.all_nil, List.any_cons, List.any_nil,
  startD, List.map_cons, List.map_nil, List.length_cons, List.length_nil, List.replicate_succ, List.replicate_zero, List.cons_append, List.nil_append, List.set_cons_zero, List.set_cons_succ, List.getElem?_cons_zero, List.getElem?_cons_succ, Nat.reduceAdd, Nat.reduceSub, Nat.reduceLeDiff, Nat.reduceMul,
  Bool.and_true, Bool.true_and, Bool.and_false, Bool.false_and, Bool.or_true, Bool.true_or, Bool.or_false, Bool.false_or, Bool.not_true, Bool.not_false, decide_eq_true_eq, ↓reduceIte, true_and, and_true, Bool.false_eq_true, Bool.not_eq_true', Bool.not_not, beq_self_eq_true, and_self, ne_eq, reduceCtorEq, not_false_eq_true, not_true_eq_false, Int.reduceBEq, beq_iff_eq, beq_eq_false_iff_ne, decide_eq_false_iff_not, Int.reduceLT, Int.reduceLE, Int.reduceNeg, Int.reduceAdd, Int.reduceEq, Int.reduceToNat,  kb_NoneType_bool, kb_NoneType_int, kb_NoneType_str, kb_NoneType_tuple, kb_NoneType_list, kb_bool_bool, kb_bool_int, kb_bool_str, kb_bool_tuple, kb_bool_list, kb_int_bool, kb_int_int, kb_int_str, kb_int_tuple, kb_int_list, kb_str_bool, kb_str_int, kb_str_str, kb_str_tuple, kb_str_list, kb_tuple_bool, kb_tuple_int, kb_tuple_str, kb_tuple_tuple, kb_tuple_list, kb_list_bool, kb_list_int, kb_list_str, kb_list_tuple, kb_list_list, sq_k_e, sq_kw_e, sq_kww_e, sk_k, sk_kw, sk_kww, sl_k, sl_kw, sl_kww, sk_e, cut_2_2_None, ncut_2_2_None, cut_2_None_1, ncut_2_None_1, cut_3_2_None, ncut_3_2_None, cut_3_None_1, ncut_3_None_1, cut_3_3_None, ncut_3_3_None, cut_4_2_None, ncut_4_2_None, cut_4_None_1, ncut_4_None_1, cut_4_None_3, ncut_4_None_3, cut_4_3_None, ncut_4_3_None, cut_5_2_None, ncut_5_2_None, cut_5_None_1, ncut_5_None_1, cut_5_None_3, ncut_5_None_3, cut_5_3_None, ncut_5_3_None, cut_6_2_None, ncut_6_2_None, cut_6_None_1, ncut_6_None_1, cut_6_None_3, ncut_6_None_3, cut_6_None_5, ncut_6_None_5, cut_6_3_None, ncut_6_3_None, sq_get_put, sq_get_add, sq_get_swap, sq_get_look, sq_get_split, sq_get_join, sq_put_get, sq_put_add, sq_put_swap, sq_put_look, sq_put_split, sq_put_join, sq_add_get, sq_add_put, sq_add_swap, sq_add_look, sq_add_split, sq_add_join, sq_swap_get, sq_swap_put, sq_swap_add, sq_swap_look, sq_swap_split, sq_swap_join, sq_look_get, sq_look_put, sq_look_add, sq_look_swap, sq_look_split, sq_look_join, sq_split_get, sq_split_put, sq_split_add, sq_split_swap, sq_split_look, sq_split_join, sq_join_get, sq_join_put, sq_join_add, sq_join_swap, sq_join_look, sq_join_split, ls0, ls1, ls2, ls3, ls4, ls5, ls6, ls7, ls8, ls9, ls10, nc0, nc1, nc2, nc3, nc4, nc5, nc6, nc7, nc8, nc9, nc10, sk_get, sk_put, sk_add, sk_swap, sk_look, sk_split, sk_join])


theorem rk_deed : PyData.strOk ("deed" : Str) = true := by decide +kernel
theorem rk_range : PyData.strOk ("range" : Str) = true := by decide +kernel
theorem rk_house : PyData.strOk ("house" : Str) = true := by decide +kernel
theorem rk_asker : PyData.strOk ("asker" : Str) = true := by decide +kernel
theorem rk_busy : PyData.strOk ("busy" : Str) = true := by decide +kernel
theorem rk_letter : PyData.strOk ("letter" : Str) = true := by decide +kernel
theorem rk_history : PyData.strOk ("history" : Str) = true := by decide +kernel
theorem rk_text : PyData.strOk ("text" : Str) = true := by decide +kernel
theorem rq_history_deed : (("history" : Str) == ("deed" : Str)) = false := by decide +kernel
theorem rq_history_range : (("history" : Str) == ("range" : Str)) = false := by decide +kernel
theorem rq_history_house : (("history" : Str) == ("house" : Str)) = false := by decide +kernel
theorem rq_history_asker : (("history" : Str) == ("asker" : Str)) = false := by decide +kernel
theorem rq_history_busy : (("history" : Str) == ("busy" : Str)) = false := by decide +kernel
theorem rq_history_letter : (("history" : Str) == ("letter" : Str)) = false := by decide +kernel
theorem rq_history_text : (("history" : Str) == ("text" : Str)) = false := by decide +kernel
theorem re_BadHistory_BadDeed : subE "BadHistory" "BadDeed" = false := by decide +kernel
theorem re_BadHistory_BadRange : subE "BadHistory" "BadRange" = false := by decide +kernel
theorem re_BadHistory_BadHouse : subE "BadHistory" "BadHouse" = false := by decide +kernel
theorem re_BadHistory_BadAsker : subE "BadHistory" "BadAsker" = false := by decide +kernel
theorem re_BadHistory_Busy : subE "BadHistory" "Busy" = false := by decide +kernel
theorem re_BadHistory_BadLetter : subE "BadHistory" "BadLetter" = false := by decide +kernel
theorem re_BadHistory_BadHistory : subE "BadHistory" "BadHistory" = true := by decide +kernel
theorem re_BadHistory_BadText : subE "BadHistory" "BadText" = false := by decide +kernel
theorem re_BadHistory_SplitError : subE "BadHistory" "SplitError" = true := by decide +kernel
theorem re_BadHistory_ValueError : subE "BadHistory" "ValueError" = true := by decide +kernel
local macro_rules | `(tactic| walk_at "rs") => `(tactic| simp only [rk_deed, rk_range, rk_house, rk_asker, rk_busy, rk_letter, rk_history, rk_text, rq_history_deed, rq_history_range, rq_history_house, rq_history_asker, rq_history_busy, rq_history_letter, rq_history_text, re_BadHistory_BadDeed, re_BadHistory_BadRange, re_BadHistory_BadHouse, re_BadHistory_BadAsker, re_BadHistory_Busy, re_BadHistory_BadLetter, re_BadHistory_BadHistory, re_BadHistory_BadText, re_BadHistory_SplitError, re_BadHistory_ValueError])
/-! ### what is refused -/
def sp_alike_i : DSp := fun ds S R => ∃ i j : Int, ds = [.int i, .int j] ∧ R (.bl (decide (i = j))) S
def rd__law_alike_h : DS :=
 (dSeq (dIfS (dTest (d2 (rIsN false) (dVar 1) (dC .non)))
 (dRet (d2 (rIsN false) (dVar 0) (dC .non)))
 dNext)
 (dSeq (dIfS (dTest (dIsi "bool" (dVar 1)))
 (dRet (dAndV (dIsi "bool" (dVar 0)) (d2 (rEqG false) (dVar 0) (dVar 1))))
 dNext)
 (dSeq (dIfS (dTest (dIsi "int" (dVar 1)))
 (dRet (dAndV (dIsi "int" (dVar 0)) (dAndV (dNotV (dIsi "bool" (dVar 0))) (d2 (rEqG false) (dVar 0) (dVar 1)))))
 dNext)
 dNever)))
theorem ok__law_alike_h (ds : List D) (S : Store) (R : DK) (h : sp_alike_i ds S R) : rd__law_alike_h (ends R) (startD ["_law_found", "_law_due", "_law_k"] ds) S := by
  obtain ⟨i, j, rfl, h⟩ := h
  unfold rd__law_alike_h
  walk_at "dl"
  refine fin_of ?_
  have e : (i == j) = decide (i = j) := by
    by_cases c : i = j
    · rw [decide_eq_true c]; exact beq_iff_eq.mpr c
    · rw [decide_eq_false c]; exact beq_eq_false_iff_ne.mpr c
  rw [e]
  exact h
abbrev RN : List Str := ["BadHistory"]
def spg__law_refused : DBe → DSp := fun be rest S R => ∃ v : Int, rest = [.str "history", .int v] ∧ ∃ Pd : Store → Prop, (∀ (R' : DK) (RE' : Str → List D → Store → Prop), (∀ S', Pd S' → RE' "BadHistory" [.int v] S') → be S R' RE') ∧ ∀ S', Pd S' → R (.bl true) S'
def rd__law_refused_1 (F : LF) (ws : List V) (dws : List D) (b : DSy) : DS :=
 (dRet (dC (.bl false)))
def rd__law_refused (F : LF) (ws : List V) (dws : List D) (b : DSy) : DS :=
 (dSeq (dTryA0 RN "SplitError" 3 (dExpY (dAct 0 F ws dws b))
 (fun a d nm => (dSeq (dSet 4 (dLst (dCons (dIsiE a d nm 3 "BadDeed") (dCons (dIsiE a d nm 3 "BadRange") (dCons (dIsiE a d nm 3 "BadHouse") (dCons (dIsiE a d nm 3 "BadAsker") dNil))))))
 (dSeq (dSet 4 (d2 rAddD (dVar 4) (dLst (dCons (dIsiE a d nm 3 "Busy") (dCons (dIsiE a d nm 3 "BadLetter") (dCons (dIsiE a d nm 3 "BadHistory") dNil))))))
 (dSeq (dSet 5 (dLst (dCons (dC (.str "deed")) (dCons (dC (.str "range")) (dCons (dC (.str "house")) (dCons (dC (.str "asker")) (dCons (dC (.str "busy")) (dCons (dC (.str "letter")) (dCons (dC (.str "history")) (dCons (dC (.str "text")) dNil))))))))))
 (dSeq (dIfS (dOr (dNot (dTest (dIsiE a d nm 3 "ValueError"))) (dTest (d2 (rEqG true) (d2 rAddD (dVar 4) (dLst (dCons (dIsiE a d nm 3 "BadText") dNil))) (dLc (itemsLI (dVar 5)) (.nm 6) dYes (d2 (rEqG false) (dVar 1) (dVar 6)) [6]))))
 (dRet (dC (.bl false)))
 dNext)
 (dSeq (dIfS (dTest (d2 (rEqG false) (dVar 1) (dC (.str "history"))))
 (dRet (dCall sp_alike_i (dCons (fun τ S Q => nm ∈ (["BadHistory", "BadText"] : List Str) ∧ dExF a d nm 3 "number" τ S Q) (dCons (dVar 2) dNil))))
 dNext)
 (dRet (dOrV (d2 (rEqG true) (dVar 1) (dC (.str "text"))) (dCall sp_alike_i (dCons (fun τ S Q => nm ∈ (["BadHistory", "BadText"] : List Str) ∧ dExF a d nm 3 "row" τ S Q) (dCons (dVar 2) dNil))))))))))))
 (rd__law_refused_1 F ws dws b))
theorem okg__law_refused (F : LF) (ws : List V) (dws : List D) (b : DSy) (rest : List D) (S : Store) (R : DK) (h : spg__law_refused (b dws) rest S R) : rd__law_refused F ws dws b (ends R) (startD ["_law_work", "_law_word", "_law_value", "e", "_law_kinds", "_law_words", "_law_one"] (.fn F ws dws :: rest)) S := by
  obtain ⟨v, rfl, Pd, hb, h⟩ := h
  unfold rd__law_refused
  walk_at "dl"
  simp only [dTryA0, dTryAs, dExpY, dAct]
  walk_at "dl"
  refine hb _ _ fun S' pd => ?_
  refine ⟨List.mem_singleton.mpr rfl, ?_⟩
  walk_at "rs"
  try walk_at "dl"
  intro a d
  simp only [dIsiE]
  walk_at "rs"
  try walk_at "dl"
  refine ⟨⟨_, rfl⟩, ⟨_, rfl⟩, ⟨_, rfl⟩, ⟨_, rfl⟩, ⟨_, rfl⟩, ⟨_, rfl⟩, ⟨_, rfl⟩, ⟨_, rfl⟩, ⟨_, rfl⟩, ?_⟩
  simp only [itemsLI]
  try walk_at "dl"
  simp only [compD]
  walk_at "dl"
  walk_at "rs"
  try walk_at "dl"
  try walk_at "rs"
  refine ⟨by simp [okds, okd], ?_⟩
  refine ⟨.int v, ?_, rfl, v, v, rfl, ?_⟩
  · decide +kernel
  · rw [decide_eq_true rfl]
    exact fin_of (h S' pd)
end Dl.D4

set_option Elab.async false
set_option linter.all false
set_option maxRecDepth 100000
namespace Dl.D4
open PySem PySem.Spec PyProof.Rows L2 LamX Dl
local macro_rules | `(tactic| walk_at "dl") => `(tactic| simp (config := { maxSteps := 1000000 }) only [dSeq, dIfS, dRet, dRetN, dSet, dNext, dDrop, dVar, dC, d2, dTest, dAnd, dOr, dNot, dAndV, dOrV, dNotV, dIf, dChain, dChain3, dCall, dCons, dNil, dTup, dLst, dLstR, dAsg, Tg.d, sets, dFor, dYes, dNever, dBrk, dCnt,
  dSortKey, dLc, dLcR, dComp, wipeD, itemsI, rangeI1, enumI, dCB, rLenD, rIntD, rAbsD, rM2D, rTupD, rTupPD, rAllD, dIsi, tyD, rIxD, rItem, dSl, dPart, dNoPart, rSlD, rII, rAddD, rMulD, rMulDR, rEqG, rIsN, rInD, dNeg, dGet2, rAddXD, rListD, rListRD, dPar, dNewK, dNewT, dAsgNS, dMemo0, itR, dForR, dLcX, dLcXR, dCompR, dTupRg, dLstRg, dLstRgR, dInRg, dMemoSet, dDisp, dPairs, keyPairs, keyOf, dML, dSetIx,
  atI0, atI1, atI2, atI3, atI4, atI5, atIm2, atIm3, atIm4, deref_non, deref_bl, deref_int, deref_str, deref_tp, deref_ptp, deref_lst, items_tup, items_ptp, items_lst, dq_ii, dq_bb, dq_ss, dq_tt, dq_tp, dq_pt, dq_pp, dq_ll, dq_n0, dq_nc, dq_cn, dq_cc, ok_non, ok_bl, ok_int, ok_str, ok_tp, ok_pp, ok_ls, ok_n0, ok_cc, flat, List.all_cons, List.all_nil, List.any_cons, List.any_nil,
  startD, List.map_cons, List.map_nil, List.length_cons, List.length_nil, List.replicate_succ, List.replicate_zero, List.cons_append, List.nil_append, List.set_cons_zero, List.set_cons_succ, List.getElem?_cons_zero, List.getElem?_cons_succ, Nat.reduceAdd, Nat.reduceSub, Nat.reduceLeDiff, Nat.reduceMul,
  Bool.and_true, Bool.true_and, Bool.and_false, Bool.false_and, Bool.or_true, Bool.true_or, Bool.or_false, Bool.false_or, Bool.not_true, Bool.not_false, decide_eq_true_eq, ↓reduceIte, true_and, and_true, Bool.false_eq_true, Bool.not_eq_true', Bool.not_not, beq_self_eq_true, and_self, ne_eq, reduceCtorEq, not_false_eq_true, not_true_eq_false, Int.reduceBEq, beq_iff_eq, beq_eq_false_iff_ne, decide_eq_false_iff_not, Int.reduceLT, Int.reduceLE, Int.reduceNeg, Int.reduceAdd, Int.reduceEq, Int.reduceToNat,  kb_NoneType_bool, kb_NoneType_int, kb_NoneType_str, kb_NoneType_tuple, kb_NoneType_list, kb_bool_bool, kb_bool_int, kb_bool_str, kb_bool_tuple, kb_bool_list, kb_int_bool, kb_int_int, kb_int_str, kb_int_tuple, kb_int_list, kb_str_bool, kb_str_int, kb_str_str, kb_str_tuple, kb_str_list, kb_tuple_bool, kb_tuple_int, kb_tuple_str, kb_tuple_tuple, kb_tuple_list, kb_list_bool, kb_list_int, kb_list_str, kb_list_tuple, kb_list_list, sq_k_e, sq_kw_e, sq_kww_e, sk_k, sk_kw, sk_kww, sl_k, sl_kw, sl_kww, sk_e, cut_2_2_None, ncut_2_2_None, cut_2_None_1, ncut_2_None_1, cut_3_2_None, ncut_3_2_None, cut_3_None_1, ncut_3_None_1, cut_3_3_None, ncut_3_3_None, cut_4_2_None, ncut_4_2_None, cut_4_None_1, ncut_4_None_1, cut_4_None_3, ncut_4_None_3, cut_4_3_None, ncut_4_3_None, cut_5_2_None, ncut_5_2_None, cut_5_None_1, ncut_5_None_1, cut_5_None_3, ncut_5_None_3, cut_5_3_None, ncut_5_3_None, cut_6_2_None, ncut_6_2_None, cut_6_None_1, ncut_6_None_1, cut_6_None_3, ncut_6_None_3, cut_6_None_5, ncut_6_None_5, cut_6_3_None, ncut_6_3_None, sq_get_put, sq_get_add, sq_get_swap, sq_get_look, sq_get_split, sq_get_join, sq_put_get, sq_put_add, sq_put_swap, sq_put_look, sq_put_split, sq_put_join, sq_add_get, sq_add_put, sq_add_swap, sq_add_look, sq_add_split, sq_add_join, sq_swap_get, sq_swap_put, sq_swap_add, sq_swap_look, sq_swap_split, sq_swap_join, sq_look_get, sq_look_put, sq_look_add, sq_look_swap, sq_look_split, sq_look_join, sq_split_get, sq_split_put, sq_split_add, sq_split_swap, sq_split_look, sq_split_join, sq_join_get, sq_join_put, sq_join_add, sq_join_swap, sq_join_look, sq_join_split, ls0, ls1, ls2, ls3, ls4, ls5, ls6, ls7, ls8, ls9, ls10, nc0, nc1, nc2, nc3, nc4, nc5, nc6, nc7, nc8, nc9, nc10, sk_get, sk_put, sk_add, sk_swap, sk_look, sk_split, sk_join])


local macro_rules | `(tactic| walk_at "dm") => `(tactic| simp (config := { maxSteps := 1000000 }) only [dSeq, dIfS, dRet, dRetN, dSet, dNext, dDrop, dVar, dC, d2, dTest, dAnd, dOr, dNot, dAndV, dOrV, dNotV, dIf, dChain, dChain3, dCall, dCons, dNil, dTup, dLst, dLstR, dAsg, Tg.d, sets, dFor, dYes, dNever, dBrk, dCnt,
  dSortKey, dLc, dLcR, dComp, wipeD, itemsI, rangeI1, enumI, dCB, rLenD, rIntD, rAbsD, rM2D, rTupD, rTupPD, rAllD, dIsi, tyD, rItem, dSl, dPart, dNoPart, rSlD, rII, rAddD, rMulD, rMulDR, rEqG, rInD, dNeg, dGet2, rAddXD, rListD, rListRD, dPar, dNewK, dNewT, dAsgNS, dMemo0, itR, dForR, dLcX, dLcXR, dCompR, dTupRg, dLstRg, dLstRgR, dInRg, dMemoSet, dDisp, dPairs, keyPairs, keyOf, dML, dSetIx,
  atI0, atI1, atI2, atI3, atI4, atI5, atIm2, atIm3, atIm4, deref_non, deref_bl, deref_int, deref_str, deref_tp, deref_ptp, deref_lst, items_tup, items_ptp, items_lst, dq_ii, dq_bb, dq_ss, dq_tt, dq_tp, dq_pt, dq_pp, dq_ll, dq_n0, dq_nc, dq_cn, dq_cc, ok_non, ok_bl, ok_int, ok_str, ok_tp, ok_pp, ok_ls, ok_n0, ok_cc, flat, List.all_cons, List.all_nil, List.any_cons, List.any_nil,
  startD, List.map_cons, List.map_nil, List.length_cons, List.length_nil, List.replicate_succ, List.replicate_zero, List.cons_append, List.nil_append, List.set_cons_zero, List.set_cons_succ, List.getElem?_cons_zero, List.getElem?_cons_succ, Nat.reduceAdd, Nat.reduceSub, Nat.reduceLeDiff, Nat.reduceMul,
  Bool.and_true, Bool.true_and, Bool.and_false, Bool.false_and, Bool.or_true, Bool.true_or, Bool.or_false, Bool.false_or, Bool.not_true, Bool.not_false, decide_eq_true_eq, ↓reduceIte, true_and, and_true, Bool.false_eq_true, Bool.not_eq_true', Bool.not_not, beq_self_eq_true, and_self, ne_eq, reduceCtorEq, not_false_eq_true, not_true_eq_false, Int.reduceBEq, beq_iff_eq, beq_eq_false_iff_ne, decide_eq_false_iff_not, Int.reduceLT, Int.reduceLE, Int.reduceNeg, Int.reduceAdd, Int.reduceEq, Int.reduceToNat,  kb_NoneType_bool, kb_NoneType_int, kb_NoneType_str, kb_NoneType_tuple, kb_NoneType_list, kb_bool_bool, kb_bool_int, kb_bool_str, kb_bool_tuple, kb_bool_list, kb_int_bool, kb_int_int, kb_int_str, kb_int_tuple, kb_int_list, kb_str_bool, kb_str_int, kb_str_str, kb_str_tuple, kb_str_list, kb_tuple_bool, kb_tuple_int, kb_tuple_str, kb_tuple_tuple, kb_tuple_list, kb_list_bool, kb_list_int, kb_list_str, kb_list_tuple, kb_list_list, sq_k_e, sq_kw_e, sq_kww_e, sk_k, sk_kw, sk_kww, sl_k, sl_kw, sl_kww, sk_e, cut_2_2_None, ncut_2_2_None, cut_2_None_1, ncut_2_None_1, cut_3_2_None, ncut_3_2_None, cut_3_None_1, ncut_3_None_1, cut_3_3_None, ncut_3_3_None, cut_4_2_None, ncut_4_2_None, cut_4_None_1, ncut_4_None_1, cut_4_None_3, ncut_4_None_3, cut_4_3_None, ncut_4_3_None, cut_5_2_None, ncut_5_2_None, cut_5_None_1, ncut_5_None_1, cut_5_None_3, ncut_5_None_3, cut_5_3_None, ncut_5_3_None, cut_6_2_None, ncut_6_2_None, cut_6_None_1, ncut_6_None_1, cut_6_None_3, ncut_6_None_3, cut_6_None_5, ncut_6_None_5, cut_6_3_None, ncut_6_3_None, sq_get_put, sq_get_add, sq_get_swap, sq_get_look, sq_get_split, sq_get_join, sq_put_get, sq_put_add, sq_put_swap, sq_put_look, sq_put_split, sq_put_join, sq_add_get, sq_add_put, sq_add_swap, sq_add_look, sq_add_split, sq_add_join, sq_swap_get, sq_swap_put, sq_swap_add, sq_swap_look, sq_swap_split, sq_swap_join, sq_look_get, sq_look_put, sq_look_add, sq_look_swap, sq_look_split, sq_look_join, sq_split_get, sq_split_put, sq_split_add, sq_split_swap, sq_split_look, sq_split_join, sq_join_get, sq_join_put, sq_join_add, sq_join_swap, sq_join_look, sq_join_split, ls0, ls1, ls2, ls3, ls4, ls5, ls6, ls7, ls8, ls9, ls10, nc0, nc1, nc2, nc3, nc4, nc5, nc6, nc7, nc8, nc9, nc10, sk_get, sk_put, sk_add, sk_swap, sk_look, sk_split, sk_join])


/-! ### the law -/
def beJ : DSy := fun dws S R RE => dCallY spy_judged (dCons (dVar 0) dNil) (dws.map some) S R RE
def beW : DSy := fun dws S R RE => dCallY spy_written (dCons (dVar 1) dNil) (some (.int 0) :: dws.map some) S R RE
def Kn_law (L : Nat → Addr → Option Addr → LF) (F : LF) (js : List Nat) (b : DSy) : Prop := ((∃ c, F = L 1 c none) ∧ js = [5] ∧ b = beJ) ∨ ((∃ c t, F = L 0 c (some t)) ∧ js = [5] ∧ b = beW) ∨ ((∃ c, F = L 3 c none) ∧ js = [8] ∧ b = beJ) ∨ ((∃ c t, F = L 2 c (some t)) ∧ js = [8] ∧ b = beW)
def rd_law_1 (L : Nat → Addr → Option Addr → LF) : DS :=
 (dIfS (dOr (dNot (dTest (dIsi "str" (dCallN2 spy_written (dCons (dVar 3) dNil))))) (dTest (d2 (rIsN false) (dCallN2 spy_judged (dCons (dSl (dVar 8) dNoPart (dPart (dC (.int 12)))) dNil)) (dC .non))))
 (dRet (dC (.bl false)))
 dNext)
def rd_law_2 (L : Nat → Addr → Option Addr → LF) : DS :=
 (dSeq (dIfS (dTest (d2 (rEqG true) (dLc (itemsI (dVar 6)) (.nm 7) (dNot (dTest (dCallG (Kn_law L) spg__law_refused (dCons (dVar 7) (dCons (dC (.str "history")) (dCons (dC (.int 12)) dNil)))))) (dVar 7) [7]) (dLst dNil)))
 (dRet (dC (.bl false)))
 dNext)
 (rd_law_1 L))
def rd_law_3 (L : Nat → Addr → Option Addr → LF) : DS :=
 (dSeq (dSet 6 (dLst (dCons (dLam (L 3)) (dCons (dLamD (L 2)) dNil))))
 (rd_law_2 L))
def rd_law_4 (L : Nat → Addr → Option Addr → LF) : DS :=
 (dSeq (dSet 8 (dLc (rangeI1 (dCons (d2 rAddD (dC (.int 13)) (dCall sp__law_off (dCons (dVar 1) (dCons (dC (.int 3)) dNil)))) dNil)) (.nm 9) dYes (dTup (dCons (dC (.int 2)) (dCons (dTup (dCons (dC (.str "get")) (dCons (dC (.int 7)) dNil))) (dCons (d2 rMulD (dC (.int 2)) (dVar 9)) (dCons (d2 rAddD (d2 rMulD (dC (.int 2)) (dVar 9)) (dC (.int 1))) (dCons (dC (.int 0)) dNil)))))) [9]))
 (rd_law_3 L))
def rd_law_5 (L : Nat → Addr → Option Addr → LF) : DS :=
 (dSeq (dIfS (dTest (d2 (rEqG true) (dLc (itemsI (dVar 6)) (.nm 7) (dNot (dTest (dCallG (Kn_law L) spg__law_refused (dCons (dVar 7) (dCons (dC (.str "history")) (dCons (dVar 4) dNil)))))) (dVar 7) [7]) (dLst dNil)))
 (dRet (dC (.bl false)))
 dNext)
 (rd_law_4 L))
def rd_law_6 (L : Nat → Addr → Option Addr → LF) : DS :=
 (dSeq (dSet 6 (dLst (dCons (dLam (L 1)) (dCons (dLamD (L 0)) dNil))))
 (rd_law_5 L))
def rd_law_7 (L : Nat → Addr → Option Addr → LF) : DS :=
 (dSeq (dSet 5 (d2 rAddD (d2 rAddD (d2 rAddD (dSl (dVar 3) dNoPart (dPart (dVar 4))) (dLst (dCons (dCall sp__law_bad_row (dCons (dVar 1) (dCons (dVar 3) (dCons (dVar 4) dNil)))) dNil))) (dSl (dVar 3) (dPart (dVar 4)) dNoPart)) (d2 rMulD (dLst (dCons (dC (.ptp [])) dNil)) (dCall sp__law_off (dCons (dVar 1) (dCons (dC (.int 2)) dNil))))))
 (rd_law_6 L))
def rd_law_8 (L : Nat → Addr → Option Addr → LF) : DS :=
 (dSeq (dSet 4 (dCall sp__law_off (dCons (dVar 1) (dCons (d2 rAddD (dCB rLenD (dCons (dVar 3) dNil)) (dC (.int 1))) dNil))))
 (rd_law_7 L))
def rd_law_9 (L : Nat → Addr → Option Addr → LF) : DS :=
 (dRet (dC (.bl true)))
def rd_law_10 (L : Nat → Addr → Option Addr → LF) : DS :=
 (dSeq (dFor (rangeI1 (dCons (dC (.int 6)) dNil)) (.nm 2)
 (dSeq (dSet 3 (dFrz (dCall sp__law_history (dCons (dVar 1) (dCons (dC (.int 11)) dNil)))))
 (rd_law_8 L)))
 (rd_law_9 L))
def rd_law (L : Nat → Addr → Option Addr → LF) : DS :=
 (dSeq (dSet 1 (dCall sp__law_dice (dCons (dVar 0) (dCons (dC (.int 0)) dNil))))
 (rd_law_10 L))
/-- a history with a bad row behind it is refused -/
theorem be_bad {H : List Row} {bad : D} {more : List D} {n : Int} {S : Store} {Q : DK} {b : DSy} (hb : b = beJ ∨ b = beW) (g : HistOk H) (bn : BadNext H bad) (hn : (H.length : Int) = n) (q : Q (.bl true) S) : spg__law_refused (b [.lst (H.map Row.enc ++ bad :: more)]) [.str "history", .int n] S Q := by
  refine ⟨n, rfl, (· = S), fun R' RE' he => ?_, fun S' e => by rw [e]; exact q⟩
  rcases hb with rfl | rfl
  · unfold beJ
    simp only [dCallY]
    walk_at "dm"
    refine ⟨H, bad :: more, rfl, g, .inr ⟨bad, more, rfl, bn, ?_⟩⟩
    rw [hn]; exact he S rfl
  · unfold beW
    simp only [dCallY]
    walk_at "dm"
    refine ⟨H, bad :: more, rfl, g, .inr ⟨bad, more, rfl, bn, ?_⟩⟩
    rw [hn]; exact he S rfl
/-! thirteen rows -/
def longR (k : Nat) : Row := ⟨2, .pl (.get 7), 2 * (k : Int), some (2 * (k : Int) + 1, .int 0)⟩
def long (n : Nat) : List Row := (List.range n).map longR
theorem long_ok : HistOk (long 12) := by
  refine ⟨by decide, fun r hr => ?_, ?_⟩
  · obtain ⟨k, _, rfl⟩ := List.mem_map.mp hr
    exact ⟨show (0 : Int) ≤ 2 by decide, show (2 : Int) < 100 by decide, (⟨by decide, by decide⟩ : (Dq.pl (.get 7)).ok), fun p hp => by cases hp; show 2 * (k : Int) < 2 * (k : Int) + 1; omega⟩
  · refine List.pairwise_map.mpr ?_
    refine List.Pairwise.imp (R := fun a b : Nat => a < b) (fun {a b} h _ => ⟨_, rfl, ?_⟩) List.pairwise_lt_range
    show 2 * (a : Int) + 1 < 2 * (b : Int)
    omega
theorem long_good : Good (long 12) := by
  refine ⟨long_ok, .inl ⟨2, fun r hr => ?_⟩, fun r hr => ?_⟩
  · obtain ⟨k, _, rfl⟩ := List.mem_map.mp hr
    show (2 : Int) ≤ 2 ∧ (2 : Int) < 2 + 3
    decide
  · obtain ⟨k, _, rfl⟩ := List.mem_map.mp hr
    show 0 ≤ 2 * (k : Int)
    omega
theorem long_fit : Fit (long 12) (List.range 12) [] (List.range 12) := by
  have step : ∀ n l l' o, endsOf (long 12) l ≠ [] → n ∈ l → (long 12)[n]? = some (longR n) → mayB (long 12) l n = true → l.filter (· != n) = l' → Fit (long 12) l' [] o → Fit (long 12) l [] (n :: o) := fun n l l' o h1 h2 h3 h4 h5 h6 => by
    refine Fit.cons h1 h2 h3 h4 ?_ ?_
    · intro p hp
      cases hp
      rfl
    · rw [h5]; exact h6
  have e : List.range 12 = [0, 1, 2, 3, 4, 5, 6, 7, 8, 9, 10, 11] := by decide
  rw [e]
  refine step 0 _ [1, 2, 3, 4, 5, 6, 7, 8, 9, 10, 11] _ (by decide) (by decide) rfl (by decide) rfl ?_
  refine step 1 _ [2, 3, 4, 5, 6, 7, 8, 9, 10, 11] _ (by decide) (by decide) rfl (by decide) rfl ?_
  refine step 2 _ [3, 4, 5, 6, 7, 8, 9, 10, 11] _ (by decide) (by decide) rfl (by decide) rfl ?_
  refine step 3 _ [4, 5, 6, 7, 8, 9, 10, 11] _ (by decide) (by decide) rfl (by decide) rfl ?_
  refine step 4 _ [5, 6, 7, 8, 9, 10, 11] _ (by decide) (by decide) rfl (by decide) rfl ?_
  refine step 5 _ [6, 7, 8, 9, 10, 11] _ (by decide) (by decide) rfl (by decide) rfl ?_
  refine step 6 _ [7, 8, 9, 10, 11] _ (by decide) (by decide) rfl (by decide) rfl ?_
  refine step 7 _ [8, 9, 10, 11] _ (by decide) (by decide) rfl (by decide) rfl ?_
  refine step 8 _ [9, 10, 11] _ (by decide) (by decide) rfl (by decide) rfl ?_
  refine step 9 _ [10, 11] _ (by decide) (by decide) rfl (by decide) rfl ?_
  refine step 10 _ [11] _ (by decide) (by decide) rfl (by decide) rfl ?_
  refine step 11 _ [] _ (by decide) (by decide) rfl (by decide) rfl ?_
  exact Fit.nil rfl
theorem long_cut {n : Nat} (h : 12 < n) : ∃ more, (long n).map Row.enc = (long 12).map Row.enc ++ (longR 12).enc :: more := by
  obtain ⟨m, rfl⟩ : ∃ m, n = 12 + (1 + m) := ⟨n - 13, by omega⟩
  refine ⟨((List.range m).map fun k => longR (13 + k)).map Row.enc, ?_⟩
  unfold long
  rw [List.range_add, List.map_append, List.map_append, List.range_add]
  simp only [List.map_append, List.map_map, List.range_one, List.map_cons, List.map_nil, List.singleton_append, List.cons_append, List.nil_append]
  congr 2
  refine List.map_congr_left fun k _ => ?_
  simp only [Function.comp]
  congr 2
  omega
abbrev τl (ns : List Int) (p : Addr) (j2 : Option D) (H : List Row) (j4 j5 j6 j7 j8 j9 : Option D) : DSt := [some (.scr ns), some (.ref p), j2, some (.lst (H.map Row.enc)), j4, j5, j6, j7, j8, j9]
theorem law_1 {L : Nat → Addr → Option Addr → LF} {E : DEnds} {ns : List Int} {p q : Addr} {j2 j4 j5 j6 j7 j9 : Option D} {H : List Row} {n : Nat} {S : Store} (g : Good H) (rb : ∀ r ∈ H, RowB r) (d : Dice S p q) (hn : 12 < n)
    (nx : ∀ S', Dice S' p q → E.nx (τl ns p j2 H j4 j5 j6 j7 (some (.lst ((long n).map Row.enc))) j9) S') : rd_law_1 L E (τl ns p j2 H j4 j5 j6 j7 (some (.lst ((long n).map Row.enc))) j9) S := by
  unfold rd_law_1
  walk_at "dm"
  simp only [dCallN2]
  walk_at "dm"
  refine ⟨H, [], by rw [List.append_nil], g.ok, .inl ⟨rfl, rb, ?_⟩⟩
  try walk_at "dm"
  have ct : cutD ((long n).map Row.enc) none (some 12) = (long 12).map Row.enc := by
    obtain ⟨more, e⟩ := long_cut hn
    rw [e]
    rfl
  simp only [ct]
  refine ⟨long 12, [], by rw [List.append_nil], long_ok, .inl ⟨rfl, long_good.cnt, fun S' sb => ?_⟩⟩
  have d2 : Dice S' p q := by
    obtain ⟨x, y, l, h1, h2, r⟩ := d
    exact ⟨x, y, l, sb _ _ h1, sb _ _ h2, r⟩
  refine ⟨fun nf => absurd long_fit (nf _), fun o a ha ea f => ?_⟩
  try walk_at "dm"
  exact nx S' d2
/-- both lambdas are refused -/
theorem law_2 {L : Nat → Addr → Option Addr → LF} {E : DEnds} {ns : List Int} {p q : Addr} {c c' t : Addr} {j2 j4 j5 j7 j9 : Option D} {H : List Row} {n : Nat} {S : Store} (g : Good H) (rb : ∀ r ∈ H, RowB r) (d : Dice S p q) (hn : 12 < n)
    (nx : ∀ j7 S', Dice S' p q → E.nx (τl ns p j2 H j4 j5 (some (.lst [.fn (L 3 c none) [] [], .fn (L 2 c' (some t)) [] []])) j7 (some (.lst ((long n).map Row.enc))) j9) S') : rd_law_2 L E (τl ns p j2 H j4 j5 (some (.lst [.fn (L 3 c none) [] [], .fn (L 2 c' (some t)) [] []])) j7 (some (.lst ((long n).map Row.enc))) j9) S := by
  obtain ⟨more, el⟩ := long_cut hn
  have q : ∀ b : DSy, b = beJ ∨ b = beW → ∀ Q : DK, Q (.bl true) S → spg__law_refused (b [.lst ((long n).map Row.enc)]) [.str "history", .int 12] S Q := fun b hb Q hQ => by
    rw [el]
    exact be_bad hb long_ok (.inl (by decide)) (by decide) hQ
  unfold rd_law_2
  walk_at "dm"
  simp only [compD, Tg.d, List.set_cons_succ, List.set_cons_zero, dCallG]
  walk_at "dm"
  refine ⟨[8], beJ, [.lst ((long n).map Row.enc)], .inr (.inr (.inl ⟨⟨c, rfl⟩, rfl, rfl⟩)), rfl, q beJ (.inl rfl) _ ?_⟩
  try walk_at "dm"
  refine ⟨[8], beW, [.lst ((long n).map Row.enc)], .inr (.inr (.inr ⟨⟨c', t, rfl⟩, rfl, rfl⟩)), rfl, q beW (.inr rfl) _ ?_⟩
  try walk_at "dm"
  exact law_1 g rb d hn (nx _)
theorem law_4 {L : Nat → Addr → Option Addr → LF} {E : DEnds} {ns : List Int} {p q : Addr} {j2 j4 j5 j6 j7 j8 j9 : Option D} {H : List Row} {S : Store} (g : Good H) (rb : ∀ r ∈ H, RowB r) (d : Dice S p q)
    (nx : ∀ j6 j7 j8 j9 S', Dice S' p q → E.nx (τl ns p j2 H j4 j5 j6 j7 j8 j9) S') : rd_law_4 L E (τl ns p j2 H j4 j5 j6 j7 j8 j9) S := by
  unfold rd_law_4
  walk_at "dm"
  refine off_use d (by decide) (by decide) fun v S1 v0 v1 d1 f1 => ?_
  try walk_at "dm"
  obtain ⟨u, rfl⟩ : ∃ u : Nat, v = u := ⟨v.toNat, by omega⟩
  have en : (13 + (u : Int)).toNat = 13 + u := by omega
  rw [en, ints_range]
  refine ⟨by omega, by omega, by rw [List.length_map, List.length_range, sizeLine_eq]; omega, ?_⟩
  refine comp_pure encN (fun _ => true) (fun k => (longR k).enc) (List.range (13 + u)) (fun k hk => ?_) ?_
  · refine fun G => ⟨fun g => g, fun G _ g => ?_⟩
    have hk := List.mem_range.mp hk
    walk_at "dm"
    have cm : CMul 2 (k : Int) := by simp only [CMul]; omega
    exact ⟨cm, cm, g⟩
  rw [List.filter_eq_self.mpr fun _ _ => rfl]
  have em : ((List.range (13 + u)).map fun k => (longR k).enc) = (long (13 + u)).map Row.enc := by unfold long; rw [List.map_map]; rfl
  rw [em]
  unfold rd_law_3
  try walk_at "dm"
  simp only [dLam, dLamD]
  intro c
  try walk_at "dm"
  intro c' t
  try walk_at "dm"
  exact law_2 g rb d1 (by omega) fun j7 S' d => nx _ _ _ _ S' d
theorem cut_at (X : List D) (n : Nat) (h : n ≤ X.length) : cutD X none (some (n : Int)) = X.take n ∧ cutD X (some (n : Int)) none = X.drop n := by
  refine ⟨?_, ?_⟩
  · unfold cutD
    rw [HT.sIx_none, HT.sIx_nat, List.drop_zero, Nat.sub_zero]
    congr 1
    omega
  · unfold cutD
    rw [HT.sIx_none, HT.sIx_nat]
    have e : min n X.length = n := by omega
    rw [List.take_of_length_le (by rw [List.length_drop]; simp <;> omega)]
    congr 1
theorem law_8 {L : Nat → Addr → Option Addr → LF} {E : DEnds} {ns : List Int} {p q : Addr} {j2 j4 j5 j6 j7 j8 j9 : Option D} {H : List Row} {S : Store} (g : Good H) (rb : ∀ r ∈ H, RowB r) (d : Dice S p q)
    (nx : ∀ j4 j5 j6 j7 j8 j9 S', Dice S' p q → E.nx (τl ns p j2 H j4 j5 j6 j7 j8 j9) S') : rd_law_8 L E (τl ns p j2 H j4 j5 j6 j7 j8 j9) S := by
  have h12 := g.ok.len
  unfold rd_law_8
  walk_at "dm"
  rw [List.length_map]
  refine off_use d (by omega) (by omega) fun v S1 v0 v1 d1 f1 => ?_
  obtain ⟨n, rfl⟩ : ∃ n : Nat, v = n := ⟨v.toNat, by omega⟩
  have hn : n ≤ H.length := by omega
  unfold rd_law_7
  walk_at "dm"
  obtain ⟨ct1, ct2⟩ := cut_at (H.map Row.enc) n (by rw [List.length_map]; exact hn)
  have big : ∀ m : Nat, m ≤ 1000 → m ≤ sizeLine := fun m hm => len_ok hm
  rw [ct1, ct2]
  refine ⟨p, q, H, n, rfl, d1, g, hn, fun bad S2 bn d2 => ?_⟩
  refine ⟨big _ (by simp; omega), big _ (by simp; omega), ?_⟩
  refine off_use d2 (by decide) (by decide) fun u S3 u0 u1 d3 f3 => ?_
  obtain ⟨u, rfl⟩ : ∃ m : Nat, u = m := ⟨u.toNat, by omega⟩
  dsimp only
  have ll : (List.replicate (u : Int).toNat [D.ptp []]).flatten.length ≤ 1 := by
    have : u ≤ 1 := by omega
    rcases Nat.le_one_iff_eq_zero_or_eq_one.mp this with rfl | rfl <;> decide
  refine ⟨by omega, by omega, big _ (by simp; omega), big _ (by simp only [List.length_append, List.length_take, List.length_drop, List.length_map, List.length_cons, List.length_nil]; omega), ?_⟩
  obtain ⟨more, hm⟩ : ∃ more, (List.map Row.enc H).drop n ++ (List.replicate (u : Int).toNat [D.ptp []]).flatten = more := ⟨_, rfl⟩
  have eX : (List.map Row.enc H).take n ++ [bad] ++ (List.map Row.enc H).drop n ++ (List.replicate (u : Int).toNat [D.ptp []]).flatten = (H.take n).map Row.enc ++ bad :: more := by
    rw [← hm, List.map_take]; simp
  rw [eX]
  have gt : HistOk (H.take n) := ⟨by rw [List.length_take]; omega, fun r hr => g.ok.rows r (List.mem_of_mem_take hr), g.ok.steps.sublist (List.take_sublist n H)⟩
  have lt : ((H.take n).length : Int) = n := by rw [List.length_take]; omega
  unfold rd_law_6
  try walk_at "dm"
  simp only [dLam, dLamD]
  intro c
  try walk_at "dm"
  intro c' t
  try walk_at "dm"
  unfold rd_law_5
  walk_at "dm"
  simp only [compD, Tg.d, List.set_cons_succ, List.set_cons_zero, dCallG]
  walk_at "dm"
  refine ⟨[5], beJ, [.lst ((H.take n).map Row.enc ++ bad :: more)], .inl ⟨⟨c, rfl⟩, rfl, rfl⟩, rfl, be_bad (.inl rfl) gt bn lt ?_⟩
  try walk_at "dm"
  refine ⟨[5], beW, [.lst ((H.take n).map Row.enc ++ bad :: more)], .inr (.inl ⟨⟨c', t, rfl⟩, rfl, rfl⟩), rfl, be_bad (.inr rfl) gt bn lt ?_⟩
  try walk_at "dm"
  exact law_4 g rb d3 fun j6 j7 j8 j9 S' d => nx _ _ _ _ _ _ S' d
theorem dice_hide {S : Store} {p q a : Addr} (h : Dice S p q) (ap : a ≠ p) (aq : a ≠ q) : Dice (hide S a) p q := by
  obtain ⟨x, y, ns, h1, h2, r⟩ := h
  exact ⟨x, y, ns, by unfold hide; rw [if_neg (Ne.symm ap)]; exact h1, by unfold hide; rw [if_neg (Ne.symm aq)]; exact h2, r⟩
theorem ok_law (L : Nat → Addr → Option Addr → LF) (ds : List D) (S : Store) (R : DK) (h : spLaw ds S R) : rd_law L (ends R) (startD ["_law_script", "_law_d", "_law_turn", "_law_rows", "_law_at", "_law_bad", "_law_works", "_law_work", "_law_long", "_law_k"] ds) S := by
  obtain ⟨ns, rfl, hl, _, h⟩ := h
  unfold rd_law
  walk_at "dm"
  refine ⟨ns, 0, rfl, hl, by decide, by decide, fun p q S1 d1 => ?_⟩
  try walk_at "dm"
  unfold rd_law_10
  walk_at "dm"
  refine ⟨by decide, by decide, ?_⟩
  refine loop_ind (fun rest τ S' => ∃ j2 j3 j4 j5 j6 j7 j8 j9, τ = [some (.scr ns), some (.ref p), j2, j3, j4, j5, j6, j7, j8, j9] ∧ Dice S' p q) ?_ ?_ _ _ _ ⟨_, _, _, _, _, _, _, _, rfl, d1⟩
  · rintro τ S' ⟨j2, j3, j4, j5, j6, j7, j8, j9, rfl, d⟩
    dsimp only
    unfold rd_law_9
    walk_at "dm"
    exact fin_of (h S')
  · rintro x rest τ S' N ⟨j2, j3, j4, j5, j6, j7, j8, j9, rfl, d⟩ next
    walk_at "dm"
    simp only [dFrz]
    walk_at "dm"
    refine ⟨p, q, 11, rfl, d, by decide, by decide, fun H a S3 g d3 ea ap aq rb => ?_⟩
    simp only [ea]
    have d4 := dice_hide d3 ap aq
    generalize hide S3 a = S4 at d4 ⊢
    exact law_8 g rb d4 fun j4 j5 j6 j7 j8 j9 S' d => next _ _ ⟨_, _, _, _, _, _, _, _, rfl, d⟩
end Dl.D4

set_option Elab.async false
set_option linter.all false
set_option maxRecDepth 100000
namespace K05
open PySem PySem.Spec PyProof.Rows L2 LamX Dl
abbrev sT (i : Nat) : Stmt := PySem.Challenge.pw_splitranges_k05_histories_refused.main.body.getD i (.Pass ⟨0, 0, 0, 0⟩)
theorem dp1 {A : Around} {k : Nat} (hr : Room k A) : A.depth + 1 < recursionLimit := by have := hr.dp; omega
structure Bm (mg : Str → Option Value) : Prop where
  ValueError : mg "ValueError" = none
  abs : mg "abs" = none
  all : mg "all" = none
  bool : mg "bool" = none
  dict : mg "dict" = none
  enumerate : mg "enumerate" = none
  int : mg "int" = none
  isinstance : mg "isinstance" = none
  len : mg "len" = none
  list : mg "list" = none
  max : mg "max" = none
  range : mg "range" = none
  set : mg "set" = none
  sorted : mg "sorted" = none
  str : mg "str" = none
  tuple : mg "tuple" = none
structure Cm (K : PySem.W.Frag) (w : World) (mg : Str → Option Value) : Prop where
  KEYS : ∃ v u, mg "KEYS" = some u ∧ RelV v u ∧ ∀ Z H S, Rep K Z H S v (.int 100)
  MOST_WORTH : ∃ v u, mg "MOST_WORTH" = some u ∧ RelV v u ∧ ∀ Z H S, Rep K Z H S v (.int 1000)
  PLAIN : ∃ v u, mg "PLAIN" = some u ∧ RelV v u ∧ ∀ Z H S, Rep K Z H S v (.tup [.str "get", .str "put", .str "add", .str "swap"])
  MOST_LOOK : ∃ v u, mg "MOST_LOOK" = some u ∧ RelV v u ∧ ∀ Z H S, Rep K Z H S v (.int 6)
  MOST_ROWS : ∃ v u, mg "MOST_ROWS" = some u ∧ RelV v u ∧ ∀ Z H S, Rep K Z H S v (.int 12)
  ASKERS : ∃ v u, mg "ASKERS" = some u ∧ RelV v u ∧ ∀ Z H S, Rep K Z H S v (.int 100)
  NONE : ∃ v u, mg "NONE" = some u ∧ RelV v u ∧ ∀ Z H S, Rep K Z H S v (.str "-")
  SHAPES : ∃ (d : Addr) (ee : Array DictEntry) (n : Nat), mg "SHAPES" = some (.ref d) ∧ KDict K w d ee n ∧ ∀ p ∈ tb_SHAPES, KAns K d p.1 p.2
theorem room_hot {k : Nat} {A : Around} (r : Room k A) (h : Option Value) : L2H.RoomH k (A.mark h) := by
  have a := r.dp
  have b := r.un
  exact ⟨a, b⟩
theorem hot_units {k : Nat} {A : Around} (r : L2H.RoomH k A) : A.units + 64 < cLine := by
  have a := r.un
  omega
abbrev CSk : List Str := ["BadDeed", "BadRange", "BadHouse", "BadAsker", "Busy", "BadLetter", "BadHistory", "BadText"]
theorem w_init_BadHistory {P : Program} {w : World} {K : PySem.W.Frag} {mg : Str → Option Value} {base : Heap} {f SC : Addr} {fd : FuncData} (F : Fun K "__init__" "BadHistory.__init__" (inClass (sT 8) 0) f fd) (hm : mg "SplitError" = some (.ref SC)) (hsp : PySem.W.specialIn K (.ref SC) "__getattribute__" = some (some (.builtin "type.__getattribute__"))) (hr : PySem.W.readsIn K SC (.type "type") = true) (vV : PySem.W.findCls K (.ref SC) (.type "type") "__init__" = some (.val (.builtin "ValueError.__init__"))) : FnOk P w K mg base CX0 1 f fd ["self", "number"] (spInit K "number") :=
  fn_init F ⟨rfl, rfl, rfl, by decide +kernel, rfl, by decide +kernel, by decide +kernel⟩ rfl ⟨_, fun env => rfl⟩ (by decide +kernel) (by decide +kernel) (by decide +kernel) (by decide) (by decide) hm hsp hr vV
abbrev N_is_below : List Str := ["part", "bound"]
theorem sc_is_below : FnScope N_is_below ["part", "bound"] (defScope (sT 16)) := ⟨rfl, rfl, rfl, by decide +kernel, rfl, by decide +kernel, by decide +kernel⟩
theorem w_is_below {P : Program} {w : World} {K : PySem.W.Frag} {mg : Str → Option Value} {base : Heap} {T : Tb} {f : Addr} {fd : FuncData} (F : Fun K "is_below" "is_below" (sT 16) f fd) (B : Bm mg) (C : Cm K w mg) : FnOk P w K mg base CX0 1 f fd ["part", "bound"] (lsp K T sp_is_below) := by
  refine fn_d F sc_is_below (fun ds S Q h => ?_) fun cdv A outer s H E hr => ⟨rd_is_below, ?_, fun ds S R h => ok_is_below ds S R h⟩
  · rcases h with ⟨_, _, rfl, _⟩ | ⟨_, _, rfl, _⟩ <;> rfl
  · exact (s_one (s_ret (x_and (x_isi (C := "int") (xv 0) (by rfl) B.isinstance (by rfl) B.int (by decide +kernel)) (x_and (x_not (x_isi (C := "bool") (xv 0) (by rfl) B.isinstance (by rfl) B.bool (by decide +kernel))) (x_one (x_chain op_le d_le op_lt d_lt x_int (xv 0) (xv 1)))))))
abbrev N_is_deed : List Str := ["deed", "key", "shape", "part"]
theorem sc_is_deed : FnScope N_is_deed ["deed"] (defScope (sT 17)) := ⟨rfl, rfl, rfl, by decide +kernel, rfl, by decide +kernel, by decide +kernel⟩
theorem w_is_deed {P : Program} {w : World} {K : PySem.W.Frag} {mg : Str → Option Value} {base : Heap} {T : Tb} {f : Addr} {fd : FuncData} (F : Fun K "is_deed" "is_deed" (sT 17) f fd) (B : Bm mg) (C : Cm K w mg) (F_is_below : DFn P w K mg base T 1 "is_below" sp_is_below) : FnOk P w K mg base CX0 2 f fd ["deed"] (lsp K T D4.sp_is_deed) := by
  obtain ⟨SHAPES_a, _, _, SHAPES_m, SHAPES_d, SHAPES_t⟩ := C.SHAPES
  refine fn_d F sc_is_deed (fun ds S Q h => ?_) fun cdv A outer s H E hr => ⟨D4.rd_is_deed, ?_, fun ds S R h => D4.ok_is_deed ds S R h⟩
  · simp only [D4.sp_is_deed] at h; first | (obtain ⟨_, rfl, _⟩ := h; rfl) | (obtain ⟨_, _, rfl, _⟩ := h; rfl) | (obtain ⟨_, _, _, rfl, _⟩ := h; rfl) | (obtain ⟨_, _, _, _, rfl, _⟩ := h; rfl)
  · exact (s_cons (s_if (w_or (t_not (t_val (x_isi (C := "tuple") (xv 0) (by rfl) B.isinstance (by rfl) B.tuple (by decide +kernel)))) (w_or (t_cmp (op_eqD hr.units) d_eq (xv 0) (x_tup a_nil) (nomark _)) (w_or1 (t_not (t_val (x_isi (C := "str") (x_ix (hu_of hr) (xv 0) x_int (fun _ _ => rfl)) (by rfl) B.isinstance (by rfl) B.str (by decide +kernel))))))).pt
       (s_one (s_ret x_bl))
       s_nil)
       (s_cons (s_if (t_cmp (op_eqD hr.units) d_eq (x_ix (hu_of hr) (xv 0) x_int (fun _ _ => rfl)) x_str (nomark _))
       (s_cons (s_if (w_or (t_cmp (op_neD hr.units) d_ne (x_callB call_len d_len (by rfl) B.len (by decide +kernel) (a_cons (xv 0) a_nil)) x_int (nomark _)) (w_or (t_not (t_val (x_isi (C := "tuple") (x_ix (hu_of hr) (xv 0) x_int (fun _ _ => rfl)) (by rfl) B.isinstance (by rfl) B.tuple (by decide +kernel)))) (w_or1 (t_not (t_chain op_le d_le op_le d_le x_int (x_callB call_len d_len (by rfl) B.len (by decide +kernel) (a_cons (x_ix (hu_of hr) (xv 0) x_int (fun _ _ => rfl)) a_nil)) (x_glob (by rfl) (by exact C.MOST_LOOK))))))).pt
       (s_one (s_ret x_bl))
       s_nil)
       (s_cons (s_if (t_cmp (op_neD hr.units) d_ne (x_lc (tg := (.nm 1)) (own := [("key", 1)]) rfl sc_is_deed.nd (i_seq (x_ix (hu_of hr) (xv 0) x_int (fun _ _ => rfl))) (blkOk_by (own := [("key", 1)]) (N := N_is_deed) (sc := defScope (sT 17)) (by decide +kernel)) (fun _ _ _ _ _ => (pg_name (i := 1) sc_is_deed.nd rfl (by first | exact Or.inl rfl | exact Or.inr rfl)))
       (fun _ _ _ _ _ => (ts_one (t_not (t_val (x_call F_is_below (hr.mono (by decide)) (by rfl) (a_cons (xv 1) (a_cons (x_glob (by rfl) (by exact C.KEYS)) a_nil)))))))
       (fun _ _ _ _ _ => (xv 1)) (by decide)) (x_lst a_nil) (nomark _))
       (s_one (s_ret x_bl))
       s_nil)
       (s_one (s_ret (x_cmp (op_eqD hr.units) d_eq (x_callTy call_list_of d_list (by rfl) B.list (by decide +kernel) (a_cons (x_ix (hu_of hr) (xv 0) x_int (fun _ _ => rfl)) a_nil)) (x_sortSet rfl (by rfl) B.sorted (by rfl) B.set (x_ix (hu_of hr) (xv 0) x_int (fun _ _ => rfl))) (nomark _))))))
       s_nil)
       (s_cons (s_set (i := 2) sc_is_deed.nd rfl (by first | exact Or.inl rfl | exact Or.inr rfl) (x_kget (by rfl) SHAPES_m SHAPES_d SHAPES_t (x_ix (hu_of hr) (xv 0) x_int (fun _ _ => rfl)) x_str ⟨rfl, rfl, rfl, rfl⟩))
       (s_cons (s_if (w_or (t_cmp (op_eqD hr.units) d_eq (xv 2) x_str (nomark _)) (w_or (t_cmp (op_neD hr.units) d_ne (x_callB call_len d_len (by rfl) B.len (by decide +kernel) (a_cons (xv 0) a_nil)) (x_op op_addV d_add (x_callB call_len d_len (by rfl) B.len (by decide +kernel) (a_cons (xv 2) a_nil)) x_int) (nomark _)) (w_or1 (t_not (t_val (x_call F_is_below (hr.mono (by decide)) (by rfl) (a_cons (x_ix (hu_of hr) (xv 0) x_int (fun _ _ => rfl)) (a_cons (x_glob (by rfl) (by exact C.KEYS)) a_nil)))))))).pt
       (s_one (s_ret x_bl))
       s_nil)
       (s_cons (s_if (w_and (t_cmp op_in_seq (d_in false) (x_ix (hu_of hr) (xv 0) x_int (fun _ _ => rfl)) (x_tup (a_cons x_str (a_cons x_str a_nil))) (by rfl)) (w_and1 (t_cmp (op_eqD hr.units) d_eq (x_ix (hu_of hr) (xv 0) x_int (fun _ _ => rfl)) x_int (nomark _)))).pt
       (s_one (s_ret x_bl))
       s_nil)
       (s_one (s_ret (x_cmp (op_eqD hr.units) d_eq (x_lc (tg := (.nm 3)) (own := [("part", 3)]) rfl sc_is_deed.nd (i_seq (x_slice (xv 0) (o_some x_int) o_none)) (blkOk_by (own := [("part", 3)]) (N := N_is_deed) (sc := defScope (sT 17)) (by decide +kernel)) (fun _ _ _ _ _ => (pg_name (i := 3) sc_is_deed.nd rfl (by first | exact Or.inl rfl | exact Or.inr rfl)))
       (fun _ _ _ _ _ => (ts_one (t_not (t_val (x_call F_is_below (hr.mono (by decide)) (by rfl) (a_cons (xv 3) (a_cons (x_glob (by rfl) (by exact C.MOST_WORTH)) a_nil)))))))
       (fun _ _ _ _ _ => (xv 3)) (by decide)) (x_lst a_nil) (nomark _)))))))))
abbrev N_worth_behind : List Str := ["deed", "worth", "more"]
theorem sc_worth_behind : FnScope N_worth_behind ["deed", "worth"] (defScope (sT 18)) := ⟨rfl, rfl, rfl, by decide +kernel, rfl, by decide +kernel, by decide +kernel⟩
theorem w_worth_behind {P : Program} {w : World} {K : PySem.W.Frag} {mg : Str → Option Value} {base : Heap} {T : Tb} {f : Addr} {fd : FuncData} (F : Fun K "worth_behind" "worth_behind" (sT 18) f fd) (B : Bm mg) (C : Cm K w mg) : FnOk P w K mg base CX0 1 f fd ["deed", "worth"] (lsp K T sp_worth_behind) := by
  refine fn_d F sc_worth_behind (fun ds S Q h => ?_) fun cdv A outer s H E hr => ⟨rd_worth_behind, ?_, fun ds S R h => ok_worth_behind ds S R h⟩
  · simp only [sp_worth_behind] at h; first | (obtain ⟨_, rfl, _⟩ := h; rfl) | (obtain ⟨_, _, rfl, _⟩ := h; rfl) | (obtain ⟨_, _, _, rfl, _⟩ := h; rfl) | (obtain ⟨_, _, _, _, rfl, _⟩ := h; rfl)
  · exact (s_cons (s_if (t_cmp (op_eqD hr.units) d_eq (x_ix (hu_of hr) (xv 0) x_int (fun _ _ => rfl)) x_str (nomark _))
       (s_one (s_ret (x_tup (a_cons (xv 1) (a_cons (xv 1) a_nil)))))
       s_nil)
       (s_cons (s_if (t_cmp (op_eqD hr.units) d_eq (x_ix (hu_of hr) (xv 0) x_int (fun _ _ => rfl)) x_str (nomark _))
       (s_one (s_ret (x_tup (a_cons (xv 1) (a_cons (x_ix (hu_of hr) (xv 0) x_int (fun _ _ => rfl)) a_nil)))))
       s_nil)
       (s_cons (s_if (t_cmp (op_eqD hr.units) d_eq (x_ix (hu_of hr) (xv 0) x_int (fun _ _ => rfl)) x_str (nomark _))
       (s_cons (s_set (i := 2) sc_worth_behind.nd rfl (by first | exact Or.inl rfl | exact Or.inr rfl) (x_op op_mod d_mod (x_op op_addV d_add (xv 1) (x_ix (hu_of hr) (xv 0) x_int (fun _ _ => rfl))) (x_glob (by rfl) (by exact C.MOST_WORTH))))
       (s_one (s_ret (x_tup (a_cons (xv 2) (a_cons (xv 2) a_nil))))))
       s_nil)
       (s_one (s_ret (x_if (t_cmp (op_eqD hr.units) d_eq (xv 1) (x_ix (hu_of hr) (xv 0) x_int (fun _ _ => rfl)) (nomark _)) (x_tup (a_cons x_bl (a_cons (x_ix (hu_of hr) (xv 0) x_int (fun _ _ => rfl)) a_nil))) (x_tup (a_cons x_bl (a_cons (xv 1) a_nil)))))))))
abbrev N_is_row : List Str := ["row", "begin", "end", "answer"]
theorem sc_is_row : FnScope N_is_row ["row"] (defScope (sT 22)) := ⟨rfl, rfl, rfl, by decide +kernel, rfl, by decide +kernel, by decide +kernel⟩
theorem w_is_row {P : Program} {w : World} {K : PySem.W.Frag} {mg : Str → Option Value} {base : Heap} {T : Tb} {f : Addr} {fd : FuncData} (F : Fun K "is_row" "is_row" (sT 22) f fd) (B : Bm mg) (C : Cm K w mg) (F_is_below : DFn P w K mg base T 1 "is_below" sp_is_below) (F_is_deed : DFn P w K mg base T 2 "is_deed" D4.sp_is_deed) : FnOk P w K mg base CX0 3 f fd ["row"] (lsp K T D4.sp_is_row) := by
  refine fn_d F sc_is_row (fun ds S Q h => ?_) fun cdv A outer s H E hr => ⟨D4.rd_is_row, ?_, fun ds S R h => D4.ok_is_row ds S R h⟩
  · rcases h with ⟨_, rfl, _⟩ | ⟨_, rfl, _⟩ <;> rfl
  · exact (s_cons (s_if (w_or (t_not (t_val (x_isi (C := "tuple") (xv 0) (by rfl) B.isinstance (by rfl) B.tuple (by decide +kernel)))) (w_or (t_cmp (op_neD hr.units) d_ne (x_callB call_len d_len (by rfl) B.len (by decide +kernel) (a_cons (xv 0) a_nil)) x_int (nomark _)) (w_or (t_not (t_val (x_call F_is_deed (hr.mono (by decide)) (by rfl) (a_cons (x_ix (hu_of hr) (xv 0) x_int (fun _ _ => rfl)) a_nil)))) (w_or1 (t_cmp op_notIn_seq (d_in true) (x_ix (hu_of hr) (x_ix (hu_of hr) (xv 0) x_int (fun _ _ => rfl)) x_int (fun _ _ => rfl)) (x_op op_addV d_add (x_glob (by rfl) (by exact C.PLAIN)) (x_tup (a_cons x_str a_nil))) (by rfl)))))).pt
       (s_one (s_ret x_bl))
       s_nil)
       (s_cons (s_asg (tg := (.tp [1, 2, 3])) (x_slice (xv 0) (o_some x_int) o_none) (pg_tup rfl (pgs_cons (pg_name (i := 1) sc_is_row.nd rfl (by first | exact Or.inl rfl | exact Or.inr rfl)) (pgs_cons (pg_name (i := 2) sc_is_row.nd rfl (by first | exact Or.inl rfl | exact Or.inr rfl)) (pgs_cons (pg_name (i := 3) sc_is_row.nd rfl (by first | exact Or.inl rfl | exact Or.inr rfl)) pgs_nil)))))
       (s_cons (s_if (t_not (t_val (x_call F_is_below (hr.mono (by decide)) (by rfl) (a_cons (x_ix (hu_of hr) (xv 0) x_int (fun _ _ => rfl)) (a_cons (x_glob (by rfl) (by exact C.ASKERS)) a_nil)))))
       (s_one (s_ret x_bl))
       s_nil)
       (s_cons (s_if (t_cmp op_isN d_isN (xv 2) x_non (nomark _))
       (s_one (s_ret (x_cmp op_isN d_isN (xv 3) x_non (nomark _))))
       s_nil)
       (s_one (s_ret (x_and (x_cmp op_lt d_lt (xv 1) (xv 2) (nomark _)) (x_one (x_cmp op_notN d_notN (xv 3) x_non (nomark _))))))))))
abbrev N_need_history : List Str := ["rows", "ends", "number", "row"]
theorem sc_need_history : FnScope N_need_history ["rows"] (defScope (sT 23)) := ⟨rfl, rfl, rfl, by decide +kernel, rfl, by decide +kernel, by decide +kernel⟩
theorem w_need_history {P : Program} {w : World} {K : PySem.W.Frag} {mg : Str → Option Value} {base : Heap} {T : Tb} {f : Addr} {fd : FuncData} (F : Fun K "need_history" "need_history" (sT 23) f fd) (B : Bm mg) (C : Cm K w mg) {C_BadHistory : Addr} (EP_BadHistory : Epay P w K mg base "BadHistory" C_BadHistory) (F_is_row : DFn P w K mg base T 3 "is_row" D4.sp_is_row) : FnOk P w K mg base (L2N.CX P w) 4 f fd ["rows"] (lspy K T mg D4.spy_need_history) := by
  refine fn_dy F sc_need_history (fun ds S Q E h => ?_) fun cdv A outer s H E hr => ⟨D4.rd_need_history, ?_, fun ds S R RE h => D4.oky_need_history ds S R RE h⟩
  · obtain ⟨_, _, rfl, _⟩ := h; rfl
  · exact (sy_cons (XS.y (s_set (i := 1) sc_need_history.nd rfl (by first | exact Or.inl rfl | exact Or.inr rfl) x_newK))
       (sy_one (sy_for (tg := (.tp [2, 3])) (passes_of rfl) rfl (i_enum (by rfl) B.enumerate (a_cons (xv 0) a_nil)) (pg_tup rfl (pgs_cons (pg_name (i := 2) sc_need_history.nd rfl (by first | exact Or.inl rfl | exact Or.inr rfl)) (pgs_cons (pg_name (i := 3) sc_need_history.nd rfl (by first | exact Or.inl rfl | exact Or.inr rfl)) pgs_nil)))
       (sy_cons (sy_if (w_or (t_cmp op_ge d_ge (xv 2) (x_glob (by rfl) (by exact C.MOST_ROWS)) (nomark _)) (w_or1 (t_not (t_val (x_call F_is_row (hr.mono (by decide)) (by rfl) (a_cons (xv 3) a_nil)))))).pt
       (sy_one (sy_raiseP rfl (L2N.takes_of rfl rfl rfl rfl) EP_BadHistory (hr.mono (by decide)) (by rfl) (xv 2)))
       sy_nil)
       (sy_cons (sy_if (w_and (t_cmp (op_inK (hu_of hr)) (d_inK false) (x_ix (hu_of hr) (xv 3) x_int (fun _ _ => rfl)) (xv 1) (by rfl)) (w_and1 (w_or (t_cmp op_isN d_isN (x_ix (hu_of hr) (xv 1) (x_ix (hu_of hr) (xv 3) x_int (fun _ _ => rfl)) (fun _ _ => rfl)) x_non (nomark _)) (w_or1 (t_cmp op_ge d_ge (x_ix (hu_of hr) (xv 1) (x_ix (hu_of hr) (xv 3) x_int (fun _ _ => rfl)) (fun _ _ => rfl)) (x_ix (hu_of hr) (xv 3) x_int (fun _ _ => rfl)) (nomark _)))).pt)).pt
       (sy_one (sy_raiseP rfl (L2N.takes_of rfl rfl rfl rfl) EP_BadHistory (hr.mono (by decide)) (by rfl) (xv 2)))
       sy_nil)
       (XSs.y (s_one (s_dput (hu_of hr) (xv 1) (x_ix (hu_of hr) (xv 3) x_int (fun _ _ => rfl)) (x_ix (hu_of hr) (xv 3) x_int (fun _ _ => rfl))))))))))
abbrev N_done : List Str := ["worths", "deed", "known", "key", "answer", "worth", "rest", "pair"]
theorem sc_done : FnScope N_done ["worths", "deed"] (defScope (sT 24)) := ⟨rfl, rfl, rfl, by decide +kernel, rfl, by decide +kernel, by decide +kernel⟩
theorem w_done {P : Program} {w : World} {K : PySem.W.Frag} {mg : Str → Option Value} {base : Heap} {T : Tb} {f : Addr} {fd : FuncData} (F : Fun K "done" "done" (sT 24) f fd) (B : Bm mg) (C : Cm K w mg) (F_worth_behind : DFn P w K mg base T 1 "worth_behind" sp_worth_behind) : FnOk P w K mg base CX0 2 f fd ["worths", "deed"] (lsp K T D4.sp_done) := by
  refine fn_d F sc_done (fun ds S Q h => ?_) fun cdv A outer s H E hr => ⟨D4.rd_done, ?_, fun ds S R h => D4.ok_done ds S R h⟩
  · simp only [D4.sp_done] at h; first | (obtain ⟨_, rfl, _⟩ := h; rfl) | (obtain ⟨_, _, rfl, _⟩ := h; rfl) | (obtain ⟨_, _, _, rfl, _⟩ := h; rfl) | (obtain ⟨_, _, _, _, rfl, _⟩ := h; rfl)
  · exact (s_cons (s_set (i := 2) sc_done.nd rfl (by first | exact Or.inl rfl | exact Or.inr rfl) (x_callTy (call_dictT rfl) d_dict (by rfl) B.dict (by decide +kernel) (a_cons (xv 0) a_nil)))
       (s_cons (s_if (t_cmp (op_eqD hr.units) d_eq (x_ix (hu_of hr) (xv 1) x_int (fun _ _ => rfl)) x_str (nomark _))
       (s_one (s_ret (x_tup (a_cons (x_callTy call_tuple_of d_tup (by rfl) B.tuple (by decide +kernel) (a_cons (x_lc (tg := (.nm 3)) (own := [("key", 3)]) rfl sc_done.nd (i_seq (x_ix (hu_of hr) (xv 1) x_int (fun _ _ => rfl))) (blkOk_by (own := [("key", 3)]) (N := N_done) (sc := defScope (sT 24)) (by decide +kernel)) (fun _ _ _ _ _ => (pg_name (i := 3) sc_done.nd rfl (by first | exact Or.inl rfl | exact Or.inr rfl)))
       (fun _ _ _ _ _ => ts_nil)
       (fun _ _ _ _ _ => (x_get2 (hu_of hr) (xv 2) (xv 3) x_int ⟨rfl, rfl, rfl, rfl⟩)) (by decide)) a_nil)) (a_cons (xv 0) a_nil)))))
       s_nil)
       (s_cons (s_asg (tg := (.tp [4, 5])) (x_call F_worth_behind (hr.mono (by decide)) (by rfl) (a_cons (xv 1) (a_cons (x_get2 (hu_of hr) (xv 2) (x_ix (hu_of hr) (xv 1) x_int (fun _ _ => rfl)) x_int ⟨rfl, rfl, rfl, rfl⟩) a_nil))) (pg_tup rfl (pgs_cons (pg_name (i := 4) sc_done.nd rfl (by first | exact Or.inl rfl | exact Or.inr rfl)) (pgs_cons (pg_name (i := 5) sc_done.nd rfl (by first | exact Or.inl rfl | exact Or.inr rfl)) pgs_nil))))
       (s_cons (s_setLc (i := 6) (tg := (.nm 7)) (own := [("pair", 7)]) rfl sc_done.nd rfl (by rfl) (sw_true rfl rfl rfl (by decide +kernel)) (i_seq (xv 0)) (blkOk_by (own := [("pair", 7)]) (N := N_done) (sc := defScope (sT 24)) (by decide +kernel)) (fun _ _ _ _ _ => (pg_name (i := 7) sc_done.nd rfl (by first | exact Or.inl rfl | exact Or.inr rfl)))
       (fun _ _ _ _ _ => (ts_one (t_cmp (op_neD hr.units) d_ne (x_ix (hu_of hr) (xv 7) x_int (fun _ _ => rfl)) (x_ix (hu_of hr) (xv 1) x_int (fun _ _ => rfl)) (nomark _))))
       (fun _ _ _ _ _ => (xv 7)) (by decide))
       (s_one (s_ret (x_tup (a_cons (xv 4) (a_cons (x_callTy call_tupleP d_tupP (by rfl) B.tuple (by decide +kernel) (a_cons (x_callB cr_sortPV d_sortP (by rfl) B.sorted (by decide +kernel) (a_cons (x_op op_addV d_add (xv 6) (x_op op_mulV d_mul (x_lst (a_cons (x_tup (a_cons (x_ix (hu_of hr) (xv 1) x_int (fun _ _ => rfl)) (a_cons (xv 5) a_nil))) a_nil)) (x_callTy call_int1 d_int (by rfl) B.int (by decide +kernel) (a_cons (x_cmp op_gt d_gt (xv 5) x_int (nomark _)) a_nil)))) a_nil)) a_nil)) a_nil)))))))))
abbrev N_may_be_next : List Str := ["rows", "left", "ends", "number", "end"]
theorem sc_may_be_next : FnScope N_may_be_next ["rows", "left"] (defScope (sT 25)) := ⟨rfl, rfl, rfl, by decide +kernel, rfl, by decide +kernel, by decide +kernel⟩
theorem w_may_be_next {P : Program} {w : World} {K : PySem.W.Frag} {mg : Str → Option Value} {base : Heap} {T : Tb} {f : Addr} {fd : FuncData} (F : Fun K "may_be_next" "may_be_next" (sT 25) f fd) (B : Bm mg) (C : Cm K w mg) : FnOk P w K mg base CX0 1 f fd ["rows", "left"] (lsp K T D4.sp_may_be_next) := by
  refine fn_d F sc_may_be_next (fun ds S Q h => ?_) fun cdv A outer s H E hr => ⟨D4.rd_may_be_next, ?_, fun ds S R h => D4.ok_may_be_next ds S R h⟩
  · simp only [D4.sp_may_be_next] at h; first | (obtain ⟨_, rfl, _⟩ := h; rfl) | (obtain ⟨_, _, rfl, _⟩ := h; rfl) | (obtain ⟨_, _, _, rfl, _⟩ := h; rfl) | (obtain ⟨_, _, _, _, rfl, _⟩ := h; rfl)
  · exact (s_cons (s_set (i := 2) sc_may_be_next.nd rfl (by first | exact Or.inl rfl | exact Or.inr rfl) (x_lc (tg := (.nm 3)) (own := [("number", 3)]) rfl sc_may_be_next.nd (i_seq (xv 1)) (blkOk_by (own := [("number", 3)]) (N := N_may_be_next) (sc := defScope (sT 25)) (by decide +kernel)) (fun _ _ _ _ _ => (pg_name (i := 3) sc_may_be_next.nd rfl (by first | exact Or.inl rfl | exact Or.inr rfl)))
       (fun _ _ _ _ _ => (ts_one (t_cmp op_notN d_notN (x_ix (hu_of hr) (x_ix (hu_of hr) (xv 0) (xv 3) (fun _ _ => rfl)) x_int (fun _ _ => rfl)) x_non (nomark _))))
       (fun _ _ _ _ _ => (x_ix (hu_of hr) (x_ix (hu_of hr) (xv 0) (xv 3) (fun _ _ => rfl)) x_int (fun _ _ => rfl))) (by decide)))
       (s_one (s_ret (x_lc (tg := (.nm 3)) (own := [("number", 3)]) rfl sc_may_be_next.nd (i_seq (xv 1)) (blkOk_by (own := [("number", 3)]) (N := N_may_be_next) (sc := defScope (sT 25)) (by decide +kernel)) (fun _ _ _ _ _ => (pg_name (i := 3) sc_may_be_next.nd rfl (by first | exact Or.inl rfl | exact Or.inr rfl)))
       (fun _ _ _ _ _ => (ts_one (t_cmp (op_eqD hr.units) d_eq (x_lc (tg := (.nm 4)) (own := [("end", 4)]) rfl sc_may_be_next.nd (i_seq (xv 2)) (blkOk_rel (blkOk_by (own := [("end", 4)]) (N := N_may_be_next) (by decide +kernel))) (fun _ _ _ _ _ => (pg_name (i := 4) sc_may_be_next.nd rfl (by first | exact Or.inl rfl | exact Or.inr rfl)))
       (fun _ _ _ _ _ => (ts_one (t_cmp op_lt d_lt (xv 4) (x_ix (hu_of hr) (x_ix (hu_of hr) (xv 0) (xv 3) (fun _ _ => rfl)) x_int (fun _ _ => rfl)) (nomark _))))
       (fun _ _ _ _ _ => (xv 4)) (by decide)) (x_lst a_nil) (nomark _))))
       (fun _ _ _ _ _ => (xv 3)) (by decide)))))
abbrev N_like : List Str := ["one", "other"]
theorem sc_like : FnScope N_like ["one", "other"] (defScope (sT 26)) := ⟨rfl, rfl, rfl, by decide +kernel, rfl, by decide +kernel, by decide +kernel⟩
theorem w_like {P : Program} {w : World} {K : PySem.W.Frag} {mg : Str → Option Value} {base : Heap} {T : Tb} {f : Addr} {fd : FuncData} (F : Fun K "like" "like" (sT 26) f fd) (B : Bm mg) (C : Cm K w mg) : FnOk P w K mg base CX0 1 f fd ["one", "other"] (lsp K T D4.sp_like) := by
  refine fn_d F sc_like (fun ds S Q h => ?_) fun cdv A outer s H E hr => ⟨D4.rd_like, ?_, fun ds S R h => D4.ok_like ds S R h⟩
  · simp only [D4.sp_like] at h; first | (obtain ⟨_, rfl, _⟩ := h; rfl) | (obtain ⟨_, _, rfl, _⟩ := h; rfl) | (obtain ⟨_, _, _, rfl, _⟩ := h; rfl) | (obtain ⟨_, _, _, _, rfl, _⟩ := h; rfl)
  · exact (s_one (s_ret (x_and (x_cmp (op_eqD hr.units) d_eq (xv 0) (xv 1) (nomark _)) (x_one (x_cmp (op_eqD hr.units) d_eq (x_isi (C := "bool") (xv 0) (by rfl) B.isinstance (by rfl) B.bool (by decide +kernel)) (x_isi (C := "bool") (xv 1) (by rfl) B.isinstance (by rfl) B.bool (by decide +kernel)) (nomark _))))))
abbrev N_od0 : List Str := ["rows", "left", "worths", "dead", "number", "answer", "behind", "rest", "one", "order"]
theorem sc_od0 : FnScope N_od0 ["rows", "left", "worths", "dead"] (defScope (sT 27)) := ⟨rfl, rfl, rfl, by decide +kernel, rfl, by decide +kernel, by decide +kernel⟩
theorem w_od0 {P : Program} {w : World} {K : PySem.W.Frag} {mg : Str → Option Value} {base : Heap} {T : Tb} {f : Addr} {fd : FuncData} (F : Fun K "order_of" "order_of" (sT 27) f fd) (B : Bm mg) (C : Cm K w mg) : FnOk P w K mg base CX0 1 f fd ["rows", "left", "worths", "dead"] (lsp K T (D4.sp_order_of 0)) := by
  refine fn_d F sc_od0 (fun ds S Q h => ?_) fun cdv A outer s H E hr => ⟨D4.rd_order_of0, ?_, fun ds S R h => D4.ok_order_of0 ds S R h⟩
  · obtain ⟨_, _, _, _, _, _, rfl, _⟩ := h; rfl
  · exact (s_cons (s_if (t_cmp (op_eqD hr.units) d_eq (x_lc (tg := (.nm 4)) (own := [("number", 4)]) rfl sc_od0.nd (i_seq (xv 1)) (blkOk_by (own := [("number", 4)]) (N := N_od0) (sc := defScope (sT 27)) (by decide +kernel)) (fun _ _ _ _ _ => (pg_name (i := 4) sc_od0.nd rfl (by first | exact Or.inl rfl | exact Or.inr rfl)))
       (fun _ _ _ _ _ => (ts_one (t_cmp op_notN d_notN (x_ix (hu_of hr) (x_ix (hu_of hr) (xv 0) (xv 4) (fun _ _ => rfl)) x_int (fun _ _ => rfl)) x_non (nomark _))))
       (fun _ _ _ _ _ => (xv 4)) (by decide)) (x_lst a_nil) (nomark _))
       (s_one (s_ret (x_lstR a_nil)))
       s_nil)
       ss_never)
abbrev N_od1 : List Str := ["rows", "left", "worths", "dead", "number", "answer", "behind", "rest", "one", "order"]
theorem sc_od1 : FnScope N_od1 ["rows", "left", "worths", "dead"] (defScope (sT 27)) := ⟨rfl, rfl, rfl, by decide +kernel, rfl, by decide +kernel, by decide +kernel⟩
theorem w_od1 {P : Program} {w : World} {K : PySem.W.Frag} {mg : Str → Option Value} {base : Heap} {T : Tb} {f : Addr} {fd : FuncData} (F : Fun K "order_of" "order_of" (sT 27) f fd) (B : Bm mg) (C : Cm K w mg) (F_done : DFn P w K mg base T 2 "done" D4.sp_done) (F_like : DFn P w K mg base T 1 "like" D4.sp_like) (F_may_be_next : DFn P w K mg base T 1 "may_be_next" D4.sp_may_be_next) (F_od0 : DFn P w K mg base T 1 "order_of" (D4.sp_order_of 0)) : FnOk P w K mg base CX0 3 f fd ["rows", "left", "worths", "dead"] (lsp K T (D4.sp_order_of 1)) := by
  refine fn_d F sc_od1 (fun ds S Q h => ?_) fun cdv A outer s H E hr => ⟨(D4.rd_order_of 0), ?_, fun ds S R h => D4.ok_order_of 0 ds S R h⟩
  · obtain ⟨_, _, _, _, _, _, rfl, _⟩ := h; rfl
  · exact (s_cons (s_if (t_cmp (op_eqD hr.units) d_eq (x_lc (tg := (.nm 4)) (own := [("number", 4)]) rfl sc_od1.nd (i_seq (xv 1)) (blkOk_by (own := [("number", 4)]) (N := N_od1) (sc := defScope (sT 27)) (by decide +kernel)) (fun _ _ _ _ _ => (pg_name (i := 4) sc_od1.nd rfl (by first | exact Or.inl rfl | exact Or.inr rfl)))
       (fun _ _ _ _ _ => (ts_one (t_cmp op_notN d_notN (x_ix (hu_of hr) (x_ix (hu_of hr) (xv 0) (xv 4) (fun _ _ => rfl)) x_int (fun _ _ => rfl)) x_non (nomark _))))
       (fun _ _ _ _ _ => (xv 4)) (by decide)) (x_lst a_nil) (nomark _))
       (s_one (s_ret (x_lstR a_nil)))
       s_nil)
       (s_cons (s_if (t_cmp (op_memoIn (hu9_of hr)) (d_memoIn false) (x_tup (a_cons (xv 1) (a_cons (xv 2) a_nil))) (xv 3) (by rfl))
       (s_one (s_ret x_non))
       s_nil)
       (s_cons (s_for (tg := (.nm 4)) PassesOwn.never rfl (i_seq (x_call F_may_be_next (hr.mono (by decide)) (by rfl) (a_cons (xv 0) (a_cons (xv 1) a_nil)))) (pg_name (i := 4) sc_od1.nd rfl (by first | exact Or.inl rfl | exact Or.inr rfl))
       (s_cons (s_asg (tg := (.tp [5, 6])) (x_call F_done (hr.mono (by decide)) (by rfl) (a_cons (xv 2) (a_cons (x_ix (hu_of hr) (x_ix (hu_of hr) (xv 0) (xv 4) (fun _ _ => rfl)) x_int (fun _ _ => rfl)) a_nil))) (pg_tup rfl (pgs_cons (pg_name (i := 5) sc_od1.nd rfl (by first | exact Or.inl rfl | exact Or.inr rfl)) (pgs_cons (pg_name (i := 6) sc_od1.nd rfl (by first | exact Or.inl rfl | exact Or.inr rfl)) pgs_nil))))
       (s_one (s_if (w_or (t_cmp op_isN d_isN (x_ix (hu_of hr) (x_ix (hu_of hr) (xv 0) (xv 4) (fun _ _ => rfl)) x_int (fun _ _ => rfl)) x_non (nomark _)) (w_or1 (t_val (x_call F_like (hr.mono (by decide)) (by rfl) (a_cons (x_ix (hu_of hr) (x_ix (hu_of hr) (xv 0) (xv 4) (fun _ _ => rfl)) x_int (fun _ _ => rfl)) (a_cons (xv 5) a_nil)))))).pt
       (s_cons (s_set (i := 7) sc_od1.nd rfl (by first | exact Or.inl rfl | exact Or.inr rfl) (x_callTy call_tuple_of d_tup (by rfl) B.tuple (by decide +kernel) (a_cons (x_lc (tg := (.nm 8)) (own := [("one", 8)]) rfl sc_od1.nd (i_seq (xv 1)) (blkOk_by (own := [("one", 8)]) (N := N_od1) (sc := defScope (sT 27)) (by decide +kernel)) (fun _ _ _ _ _ => (pg_name (i := 8) sc_od1.nd rfl (by first | exact Or.inl rfl | exact Or.inr rfl)))
       (fun _ _ _ _ _ => (ts_one (t_cmp (op_neD hr.units) d_ne (xv 8) (xv 4) (nomark _))))
       (fun _ _ _ _ _ => (xv 8)) (by decide)) a_nil)))
       (s_cons (s_set (i := 9) sc_od1.nd rfl (by first | exact Or.inl rfl | exact Or.inr rfl) (x_call F_od0 (hr.mono (by decide)) (by rfl) (a_cons (xv 0) (a_cons (xv 7) (a_cons (xv 6) (a_cons (xv 3) a_nil))))))
       (s_one (s_if (t_cmp op_notN d_notN (xv 9) x_non (nomark _))
       (s_one (s_ret (x_op op_addX d_catR (x_lst (a_cons (xv 4) a_nil)) (xv 9))))
       s_nil))))
       s_nil))))
       (s_cons (s_memoSet (hu9_of hr) (xv 3) (x_tup (a_cons (xv 1) (a_cons (xv 2) a_nil))) x_bl)
       (s_one (s_ret x_non))))))
abbrev N_od2 : List Str := ["rows", "left", "worths", "dead", "number", "answer", "behind", "rest", "one", "order"]
theorem sc_od2 : FnScope N_od2 ["rows", "left", "worths", "dead"] (defScope (sT 27)) := ⟨rfl, rfl, rfl, by decide +kernel, rfl, by decide +kernel, by decide +kernel⟩
theorem w_od2 {P : Program} {w : World} {K : PySem.W.Frag} {mg : Str → Option Value} {base : Heap} {T : Tb} {f : Addr} {fd : FuncData} (F : Fun K "order_of" "order_of" (sT 27) f fd) (B : Bm mg) (C : Cm K w mg) (F_done : DFn P w K mg base T 2 "done" D4.sp_done) (F_like : DFn P w K mg base T 1 "like" D4.sp_like) (F_may_be_next : DFn P w K mg base T 1 "may_be_next" D4.sp_may_be_next) (F_od1 : DFn P w K mg base T 3 "order_of" (D4.sp_order_of 1)) : FnOk P w K mg base CX0 4 f fd ["rows", "left", "worths", "dead"] (lsp K T (D4.sp_order_of 2)) := by
  refine fn_d F sc_od2 (fun ds S Q h => ?_) fun cdv A outer s H E hr => ⟨(D4.rd_order_of 1), ?_, fun ds S R h => D4.ok_order_of 1 ds S R h⟩
  · obtain ⟨_, _, _, _, _, _, rfl, _⟩ := h; rfl
  · exact (s_cons (s_if (t_cmp (op_eqD hr.units) d_eq (x_lc (tg := (.nm 4)) (own := [("number", 4)]) rfl sc_od2.nd (i_seq (xv 1)) (blkOk_by (own := [("number", 4)]) (N := N_od2) (sc := defScope (sT 27)) (by decide +kernel)) (fun _ _ _ _ _ => (pg_name (i := 4) sc_od2.nd rfl (by first | exact Or.inl rfl | exact Or.inr rfl)))
       (fun _ _ _ _ _ => (ts_one (t_cmp op_notN d_notN (x_ix (hu_of hr) (x_ix (hu_of hr) (xv 0) (xv 4) (fun _ _ => rfl)) x_int (fun _ _ => rfl)) x_non (nomark _))))
       (fun _ _ _ _ _ => (xv 4)) (by decide)) (x_lst a_nil) (nomark _))
       (s_one (s_ret (x_lstR a_nil)))
       s_nil)
       (s_cons (s_if (t_cmp (op_memoIn (hu9_of hr)) (d_memoIn false) (x_tup (a_cons (xv 1) (a_cons (xv 2) a_nil))) (xv 3) (by rfl))
       (s_one (s_ret x_non))
       s_nil)
       (s_cons (s_for (tg := (.nm 4)) PassesOwn.never rfl (i_seq (x_call F_may_be_next (hr.mono (by decide)) (by rfl) (a_cons (xv 0) (a_cons (xv 1) a_nil)))) (pg_name (i := 4) sc_od2.nd rfl (by first | exact Or.inl rfl | exact Or.inr rfl))
       (s_cons (s_asg (tg := (.tp [5, 6])) (x_call F_done (hr.mono (by decide)) (by rfl) (a_cons (xv 2) (a_cons (x_ix (hu_of hr) (x_ix (hu_of hr) (xv 0) (xv 4) (fun _ _ => rfl)) x_int (fun _ _ => rfl)) a_nil))) (pg_tup rfl (pgs_cons (pg_name (i := 5) sc_od2.nd rfl (by first | exact Or.inl rfl | exact Or.inr rfl)) (pgs_cons (pg_name (i := 6) sc_od2.nd rfl (by first | exact Or.inl rfl | exact Or.inr rfl)) pgs_nil))))
       (s_one (s_if (w_or (t_cmp op_isN d_isN (x_ix (hu_of hr) (x_ix (hu_of hr) (xv 0) (xv 4) (fun _ _ => rfl)) x_int (fun _ _ => rfl)) x_non (nomark _)) (w_or1 (t_val (x_call F_like (hr.mono (by decide)) (by rfl) (a_cons (x_ix (hu_of hr) (x_ix (hu_of hr) (xv 0) (xv 4) (fun _ _ => rfl)) x_int (fun _ _ => rfl)) (a_cons (xv 5) a_nil)))))).pt
       (s_cons (s_set (i := 7) sc_od2.nd rfl (by first | exact Or.inl rfl | exact Or.inr rfl) (x_callTy call_tuple_of d_tup (by rfl) B.tuple (by decide +kernel) (a_cons (x_lc (tg := (.nm 8)) (own := [("one", 8)]) rfl sc_od2.nd (i_seq (xv 1)) (blkOk_by (own := [("one", 8)]) (N := N_od2) (sc := defScope (sT 27)) (by decide +kernel)) (fun _ _ _ _ _ => (pg_name (i := 8) sc_od2.nd rfl (by first | exact Or.inl rfl | exact Or.inr rfl)))
       (fun _ _ _ _ _ => (ts_one (t_cmp (op_neD hr.units) d_ne (xv 8) (xv 4) (nomark _))))
       (fun _ _ _ _ _ => (xv 8)) (by decide)) a_nil)))
       (s_cons (s_set (i := 9) sc_od2.nd rfl (by first | exact Or.inl rfl | exact Or.inr rfl) (x_call F_od1 (hr.mono (by decide)) (by rfl) (a_cons (xv 0) (a_cons (xv 7) (a_cons (xv 6) (a_cons (xv 3) a_nil))))))
       (s_one (s_if (t_cmp op_notN d_notN (xv 9) x_non (nomark _))
       (s_one (s_ret (x_op op_addX d_catR (x_lst (a_cons (xv 4) a_nil)) (xv 9))))
       s_nil))))
       s_nil))))
       (s_cons (s_memoSet (hu9_of hr) (xv 3) (x_tup (a_cons (xv 1) (a_cons (xv 2) a_nil))) x_bl)
       (s_one (s_ret x_non))))))
abbrev N_od3 : List Str := ["rows", "left", "worths", "dead", "number", "answer", "behind", "rest", "one", "order"]
theorem sc_od3 : FnScope N_od3 ["rows", "left", "worths", "dead"] (defScope (sT 27)) := ⟨rfl, rfl, rfl, by decide +kernel, rfl, by decide +kernel, by decide +kernel⟩
theorem w_od3 {P : Program} {w : World} {K : PySem.W.Frag} {mg : Str → Option Value} {base : Heap} {T : Tb} {f : Addr} {fd : FuncData} (F : Fun K "order_of" "order_of" (sT 27) f fd) (B : Bm mg) (C : Cm K w mg) (F_done : DFn P w K mg base T 2 "done" D4.sp_done) (F_like : DFn P w K mg base T 1 "like" D4.sp_like) (F_may_be_next : DFn P w K mg base T 1 "may_be_next" D4.sp_may_be_next) (F_od2 : DFn P w K mg base T 4 "order_of" (D4.sp_order_of 2)) : FnOk P w K mg base CX0 5 f fd ["rows", "left", "worths", "dead"] (lsp K T (D4.sp_order_of 3)) := by
  refine fn_d F sc_od3 (fun ds S Q h => ?_) fun cdv A outer s H E hr => ⟨(D4.rd_order_of 2), ?_, fun ds S R h => D4.ok_order_of 2 ds S R h⟩
  · obtain ⟨_, _, _, _, _, _, rfl, _⟩ := h; rfl
  · exact (s_cons (s_if (t_cmp (op_eqD hr.units) d_eq (x_lc (tg := (.nm 4)) (own := [("number", 4)]) rfl sc_od3.nd (i_seq (xv 1)) (blkOk_by (own := [("number", 4)]) (N := N_od3) (sc := defScope (sT 27)) (by decide +kernel)) (fun _ _ _ _ _ => (pg_name (i := 4) sc_od3.nd rfl (by first | exact Or.inl rfl | exact Or.inr rfl)))
       (fun _ _ _ _ _ => (ts_one (t_cmp op_notN d_notN (x_ix (hu_of hr) (x_ix (hu_of hr) (xv 0) (xv 4) (fun _ _ => rfl)) x_int (fun _ _ => rfl)) x_non (nomark _))))
       (fun _ _ _ _ _ => (xv 4)) (by decide)) (x_lst a_nil) (nomark _))
       (s_one (s_ret (x_lstR a_nil)))
       s_nil)
       (s_cons (s_if (t_cmp (op_memoIn (hu9_of hr)) (d_memoIn false) (x_tup (a_cons (xv 1) (a_cons (xv 2) a_nil))) (xv 3) (by rfl))
       (s_one (s_ret x_non))
       s_nil)
       (s_cons (s_for (tg := (.nm 4)) PassesOwn.never rfl (i_seq (x_call F_may_be_next (hr.mono (by decide)) (by rfl) (a_cons (xv 0) (a_cons (xv 1) a_nil)))) (pg_name (i := 4) sc_od3.nd rfl (by first | exact Or.inl rfl | exact Or.inr rfl))
       (s_cons (s_asg (tg := (.tp [5, 6])) (x_call F_done (hr.mono (by decide)) (by rfl) (a_cons (xv 2) (a_cons (x_ix (hu_of hr) (x_ix (hu_of hr) (xv 0) (xv 4) (fun _ _ => rfl)) x_int (fun _ _ => rfl)) a_nil))) (pg_tup rfl (pgs_cons (pg_name (i := 5) sc_od3.nd rfl (by first | exact Or.inl rfl | exact Or.inr rfl)) (pgs_cons (pg_name (i := 6) sc_od3.nd rfl (by first | exact Or.inl rfl | exact Or.inr rfl)) pgs_nil))))
       (s_one (s_if (w_or (t_cmp op_isN d_isN (x_ix (hu_of hr) (x_ix (hu_of hr) (xv 0) (xv 4) (fun _ _ => rfl)) x_int (fun _ _ => rfl)) x_non (nomark _)) (w_or1 (t_val (x_call F_like (hr.mono (by decide)) (by rfl) (a_cons (x_ix (hu_of hr) (x_ix (hu_of hr) (xv 0) (xv 4) (fun _ _ => rfl)) x_int (fun _ _ => rfl)) (a_cons (xv 5) a_nil)))))).pt
       (s_cons (s_set (i := 7) sc_od3.nd rfl (by first | exact Or.inl rfl | exact Or.inr rfl) (x_callTy call_tuple_of d_tup (by rfl) B.tuple (by decide +kernel) (a_cons (x_lc (tg := (.nm 8)) (own := [("one", 8)]) rfl sc_od3.nd (i_seq (xv 1)) (blkOk_by (own := [("one", 8)]) (N := N_od3) (sc := defScope (sT 27)) (by decide +kernel)) (fun _ _ _ _ _ => (pg_name (i := 8) sc_od3.nd rfl (by first | exact Or.inl rfl | exact Or.inr rfl)))
       (fun _ _ _ _ _ => (ts_one (t_cmp (op_neD hr.units) d_ne (xv 8) (xv 4) (nomark _))))
       (fun _ _ _ _ _ => (xv 8)) (by decide)) a_nil)))
       (s_cons (s_set (i := 9) sc_od3.nd rfl (by first | exact Or.inl rfl | exact Or.inr rfl) (x_call F_od2 (hr.mono (by decide)) (by rfl) (a_cons (xv 0) (a_cons (xv 7) (a_cons (xv 6) (a_cons (xv 3) a_nil))))))
       (s_one (s_if (t_cmp op_notN d_notN (xv 9) x_non (nomark _))
       (s_one (s_ret (x_op op_addX d_catR (x_lst (a_cons (xv 4) a_nil)) (xv 9))))
       s_nil))))
       s_nil))))
       (s_cons (s_memoSet (hu9_of hr) (xv 3) (x_tup (a_cons (xv 1) (a_cons (xv 2) a_nil))) x_bl)
       (s_one (s_ret x_non))))))
abbrev N_od4 : List Str := ["rows", "left", "worths", "dead", "number", "answer", "behind", "rest", "one", "order"]
theorem sc_od4 : FnScope N_od4 ["rows", "left", "worths", "dead"] (defScope (sT 27)) := ⟨rfl, rfl, rfl, by decide +kernel, rfl, by decide +kernel, by decide +kernel⟩
theorem w_od4 {P : Program} {w : World} {K : PySem.W.Frag} {mg : Str → Option Value} {base : Heap} {T : Tb} {f : Addr} {fd : FuncData} (F : Fun K "order_of" "order_of" (sT 27) f fd) (B : Bm mg) (C : Cm K w mg) (F_done : DFn P w K mg base T 2 "done" D4.sp_done) (F_like : DFn P w K mg base T 1 "like" D4.sp_like) (F_may_be_next : DFn P w K mg base T 1 "may_be_next" D4.sp_may_be_next) (F_od3 : DFn P w K mg base T 5 "order_of" (D4.sp_order_of 3)) : FnOk P w K mg base CX0 6 f fd ["rows", "left", "worths", "dead"] (lsp K T (D4.sp_order_of 4)) := by
  refine fn_d F sc_od4 (fun ds S Q h => ?_) fun cdv A outer s H E hr => ⟨(D4.rd_order_of 3), ?_, fun ds S R h => D4.ok_order_of 3 ds S R h⟩
  · obtain ⟨_, _, _, _, _, _, rfl, _⟩ := h; rfl
  · exact (s_cons (s_if (t_cmp (op_eqD hr.units) d_eq (x_lc (tg := (.nm 4)) (own := [("number", 4)]) rfl sc_od4.nd (i_seq (xv 1)) (blkOk_by (own := [("number", 4)]) (N := N_od4) (sc := defScope (sT 27)) (by decide +kernel)) (fun _ _ _ _ _ => (pg_name (i := 4) sc_od4.nd rfl (by first | exact Or.inl rfl | exact Or.inr rfl)))
       (fun _ _ _ _ _ => (ts_one (t_cmp op_notN d_notN (x_ix (hu_of hr) (x_ix (hu_of hr) (xv 0) (xv 4) (fun _ _ => rfl)) x_int (fun _ _ => rfl)) x_non (nomark _))))
       (fun _ _ _ _ _ => (xv 4)) (by decide)) (x_lst a_nil) (nomark _))
       (s_one (s_ret (x_lstR a_nil)))
       s_nil)
       (s_cons (s_if (t_cmp (op_memoIn (hu9_of hr)) (d_memoIn false) (x_tup (a_cons (xv 1) (a_cons (xv 2) a_nil))) (xv 3) (by rfl))
       (s_one (s_ret x_non))
       s_nil)
       (s_cons (s_for (tg := (.nm 4)) PassesOwn.never rfl (i_seq (x_call F_may_be_next (hr.mono (by decide)) (by rfl) (a_cons (xv 0) (a_cons (xv 1) a_nil)))) (pg_name (i := 4) sc_od4.nd rfl (by first | exact Or.inl rfl | exact Or.inr rfl))
       (s_cons (s_asg (tg := (.tp [5, 6])) (x_call F_done (hr.mono (by decide)) (by rfl) (a_cons (xv 2) (a_cons (x_ix (hu_of hr) (x_ix (hu_of hr) (xv 0) (xv 4) (fun _ _ => rfl)) x_int (fun _ _ => rfl)) a_nil))) (pg_tup rfl (pgs_cons (pg_name (i := 5) sc_od4.nd rfl (by first | exact Or.inl rfl | exact Or.inr rfl)) (pgs_cons (pg_name (i := 6) sc_od4.nd rfl (by first | exact Or.inl rfl | exact Or.inr rfl)) pgs_nil))))
       (s_one (s_if (w_or (t_cmp op_isN d_isN (x_ix (hu_of hr) (x_ix (hu_of hr) (xv 0) (xv 4) (fun _ _ => rfl)) x_int (fun _ _ => rfl)) x_non (nomark _)) (w_or1 (t_val (x_call F_like (hr.mono (by decide)) (by rfl) (a_cons (x_ix (hu_of hr) (x_ix (hu_of hr) (xv 0) (xv 4) (fun _ _ => rfl)) x_int (fun _ _ => rfl)) (a_cons (xv 5) a_nil)))))).pt
       (s_cons (s_set (i := 7) sc_od4.nd rfl (by first | exact Or.inl rfl | exact Or.inr rfl) (x_callTy call_tuple_of d_tup (by rfl) B.tuple (by decide +kernel) (a_cons (x_lc (tg := (.nm 8)) (own := [("one", 8)]) rfl sc_od4.nd (i_seq (xv 1)) (blkOk_by (own := [("one", 8)]) (N := N_od4) (sc := defScope (sT 27)) (by decide +kernel)) (fun _ _ _ _ _ => (pg_name (i := 8) sc_od4.nd rfl (by first | exact Or.inl rfl | exact Or.inr rfl)))
       (fun _ _ _ _ _ => (ts_one (t_cmp (op_neD hr.units) d_ne (xv 8) (xv 4) (nomark _))))
       (fun _ _ _ _ _ => (xv 8)) (by decide)) a_nil)))
       (s_cons (s_set (i := 9) sc_od4.nd rfl (by first | exact Or.inl rfl | exact Or.inr rfl) (x_call F_od3 (hr.mono (by decide)) (by rfl) (a_cons (xv 0) (a_cons (xv 7) (a_cons (xv 6) (a_cons (xv 3) a_nil))))))
       (s_one (s_if (t_cmp op_notN d_notN (xv 9) x_non (nomark _))
       (s_one (s_ret (x_op op_addX d_catR (x_lst (a_cons (xv 4) a_nil)) (xv 9))))
       s_nil))))
       s_nil))))
       (s_cons (s_memoSet (hu9_of hr) (xv 3) (x_tup (a_cons (xv 1) (a_cons (xv 2) a_nil))) x_bl)
       (s_one (s_ret x_non))))))
abbrev N_od5 : List Str := ["rows", "left", "worths", "dead", "number", "answer", "behind", "rest", "one", "order"]
theorem sc_od5 : FnScope N_od5 ["rows", "left", "worths", "dead"] (defScope (sT 27)) := ⟨rfl, rfl, rfl, by decide +kernel, rfl, by decide +kernel, by decide +kernel⟩
theorem w_od5 {P : Program} {w : World} {K : PySem.W.Frag} {mg : Str → Option Value} {base : Heap} {T : Tb} {f : Addr} {fd : FuncData} (F : Fun K "order_of" "order_of" (sT 27) f fd) (B : Bm mg) (C : Cm K w mg) (F_done : DFn P w K mg base T 2 "done" D4.sp_done) (F_like : DFn P w K mg base T 1 "like" D4.sp_like) (F_may_be_next : DFn P w K mg base T 1 "may_be_next" D4.sp_may_be_next) (F_od4 : DFn P w K mg base T 6 "order_of" (D4.sp_order_of 4)) : FnOk P w K mg base CX0 7 f fd ["rows", "left", "worths", "dead"] (lsp K T (D4.sp_order_of 5)) := by
  refine fn_d F sc_od5 (fun ds S Q h => ?_) fun cdv A outer s H E hr => ⟨(D4.rd_order_of 4), ?_, fun ds S R h => D4.ok_order_of 4 ds S R h⟩
  · obtain ⟨_, _, _, _, _, _, rfl, _⟩ := h; rfl
  · exact (s_cons (s_if (t_cmp (op_eqD hr.units) d_eq (x_lc (tg := (.nm 4)) (own := [("number", 4)]) rfl sc_od5.nd (i_seq (xv 1)) (blkOk_by (own := [("number", 4)]) (N := N_od5) (sc := defScope (sT 27)) (by decide +kernel)) (fun _ _ _ _ _ => (pg_name (i := 4) sc_od5.nd rfl (by first | exact Or.inl rfl | exact Or.inr rfl)))
       (fun _ _ _ _ _ => (ts_one (t_cmp op_notN d_notN (x_ix (hu_of hr) (x_ix (hu_of hr) (xv 0) (xv 4) (fun _ _ => rfl)) x_int (fun _ _ => rfl)) x_non (nomark _))))
       (fun _ _ _ _ _ => (xv 4)) (by decide)) (x_lst a_nil) (nomark _))
       (s_one (s_ret (x_lstR a_nil)))
       s_nil)
       (s_cons (s_if (t_cmp (op_memoIn (hu9_of hr)) (d_memoIn false) (x_tup (a_cons (xv 1) (a_cons (xv 2) a_nil))) (xv 3) (by rfl))
       (s_one (s_ret x_non))
       s_nil)
       (s_cons (s_for (tg := (.nm 4)) PassesOwn.never rfl (i_seq (x_call F_may_be_next (hr.mono (by decide)) (by rfl) (a_cons (xv 0) (a_cons (xv 1) a_nil)))) (pg_name (i := 4) sc_od5.nd rfl (by first | exact Or.inl rfl | exact Or.inr rfl))
       (s_cons (s_asg (tg := (.tp [5, 6])) (x_call F_done (hr.mono (by decide)) (by rfl) (a_cons (xv 2) (a_cons (x_ix (hu_of hr) (x_ix (hu_of hr) (xv 0) (xv 4) (fun _ _ => rfl)) x_int (fun _ _ => rfl)) a_nil))) (pg_tup rfl (pgs_cons (pg_name (i := 5) sc_od5.nd rfl (by first | exact Or.inl rfl | exact Or.inr rfl)) (pgs_cons (pg_name (i := 6) sc_od5.nd rfl (by first | exact Or.inl rfl | exact Or.inr rfl)) pgs_nil))))
       (s_one (s_if (w_or (t_cmp op_isN d_isN (x_ix (hu_of hr) (x_ix (hu_of hr) (xv 0) (xv 4) (fun _ _ => rfl)) x_int (fun _ _ => rfl)) x_non (nomark _)) (w_or1 (t_val (x_call F_like (hr.mono (by decide)) (by rfl) (a_cons (x_ix (hu_of hr) (x_ix (hu_of hr) (xv 0) (xv 4) (fun _ _ => rfl)) x_int (fun _ _ => rfl)) (a_cons (xv 5) a_nil)))))).pt
       (s_cons (s_set (i := 7) sc_od5.nd rfl (by first | exact Or.inl rfl | exact Or.inr rfl) (x_callTy call_tuple_of d_tup (by rfl) B.tuple (by decide +kernel) (a_cons (x_lc (tg := (.nm 8)) (own := [("one", 8)]) rfl sc_od5.nd (i_seq (xv 1)) (blkOk_by (own := [("one", 8)]) (N := N_od5) (sc := defScope (sT 27)) (by decide +kernel)) (fun _ _ _ _ _ => (pg_name (i := 8) sc_od5.nd rfl (by first | exact Or.inl rfl | exact Or.inr rfl)))
       (fun _ _ _ _ _ => (ts_one (t_cmp (op_neD hr.units) d_ne (xv 8) (xv 4) (nomark _))))
       (fun _ _ _ _ _ => (xv 8)) (by decide)) a_nil)))
       (s_cons (s_set (i := 9) sc_od5.nd rfl (by first | exact Or.inl rfl | exact Or.inr rfl) (x_call F_od4 (hr.mono (by decide)) (by rfl) (a_cons (xv 0) (a_cons (xv 7) (a_cons (xv 6) (a_cons (xv 3) a_nil))))))
       (s_one (s_if (t_cmp op_notN d_notN (xv 9) x_non (nomark _))
       (s_one (s_ret (x_op op_addX d_catR (x_lst (a_cons (xv 4) a_nil)) (xv 9))))
       s_nil))))
       s_nil))))
       (s_cons (s_memoSet (hu9_of hr) (xv 3) (x_tup (a_cons (xv 1) (a_cons (xv 2) a_nil))) x_bl)
       (s_one (s_ret x_non))))))
abbrev N_od6 : List Str := ["rows", "left", "worths", "dead", "number", "answer", "behind", "rest", "one", "order"]
theorem sc_od6 : FnScope N_od6 ["rows", "left", "worths", "dead"] (defScope (sT 27)) := ⟨rfl, rfl, rfl, by decide +kernel, rfl, by decide +kernel, by decide +kernel⟩
theorem w_od6 {P : Program} {w : World} {K : PySem.W.Frag} {mg : Str → Option Value} {base : Heap} {T : Tb} {f : Addr} {fd : FuncData} (F : Fun K "order_of" "order_of" (sT 27) f fd) (B : Bm mg) (C : Cm K w mg) (F_done : DFn P w K mg base T 2 "done" D4.sp_done) (F_like : DFn P w K mg base T 1 "like" D4.sp_like) (F_may_be_next : DFn P w K mg base T 1 "may_be_next" D4.sp_may_be_next) (F_od5 : DFn P w K mg base T 7 "order_of" (D4.sp_order_of 5)) : FnOk P w K mg base CX0 8 f fd ["rows", "left", "worths", "dead"] (lsp K T (D4.sp_order_of 6)) := by
  refine fn_d F sc_od6 (fun ds S Q h => ?_) fun cdv A outer s H E hr => ⟨(D4.rd_order_of 5), ?_, fun ds S R h => D4.ok_order_of 5 ds S R h⟩
  · obtain ⟨_, _, _, _, _, _, rfl, _⟩ := h; rfl
  · exact (s_cons (s_if (t_cmp (op_eqD hr.units) d_eq (x_lc (tg := (.nm 4)) (own := [("number", 4)]) rfl sc_od6.nd (i_seq (xv 1)) (blkOk_by (own := [("number", 4)]) (N := N_od6) (sc := defScope (sT 27)) (by decide +kernel)) (fun _ _ _ _ _ => (pg_name (i := 4) sc_od6.nd rfl (by first | exact Or.inl rfl | exact Or.inr rfl)))
       (fun _ _ _ _ _ => (ts_one (t_cmp op_notN d_notN (x_ix (hu_of hr) (x_ix (hu_of hr) (xv 0) (xv 4) (fun _ _ => rfl)) x_int (fun _ _ => rfl)) x_non (nomark _))))
       (fun _ _ _ _ _ => (xv 4)) (by decide)) (x_lst a_nil) (nomark _))
       (s_one (s_ret (x_lstR a_nil)))
       s_nil)
       (s_cons (s_if (t_cmp (op_memoIn (hu9_of hr)) (d_memoIn false) (x_tup (a_cons (xv 1) (a_cons (xv 2) a_nil))) (xv 3) (by rfl))
       (s_one (s_ret x_non))
       s_nil)
       (s_cons (s_for (tg := (.nm 4)) PassesOwn.never rfl (i_seq (x_call F_may_be_next (hr.mono (by decide)) (by rfl) (a_cons (xv 0) (a_cons (xv 1) a_nil)))) (pg_name (i := 4) sc_od6.nd rfl (by first | exact Or.inl rfl | exact Or.inr rfl))
       (s_cons (s_asg (tg := (.tp [5, 6])) (x_call F_done (hr.mono (by decide)) (by rfl) (a_cons (xv 2) (a_cons (x_ix (hu_of hr) (x_ix (hu_of hr) (xv 0) (xv 4) (fun _ _ => rfl)) x_int (fun _ _ => rfl)) a_nil))) (pg_tup rfl (pgs_cons (pg_name (i := 5) sc_od6.nd rfl (by first | exact Or.inl rfl | exact Or.inr rfl)) (pgs_cons (pg_name (i := 6) sc_od6.nd rfl (by first | exact Or.inl rfl | exact Or.inr rfl)) pgs_nil))))
       (s_one (s_if (w_or (t_cmp op_isN d_isN (x_ix (hu_of hr) (x_ix (hu_of hr) (xv 0) (xv 4) (fun _ _ => rfl)) x_int (fun _ _ => rfl)) x_non (nomark _)) (w_or1 (t_val (x_call F_like (hr.mono (by decide)) (by rfl) (a_cons (x_ix (hu_of hr) (x_ix (hu_of hr) (xv 0) (xv 4) (fun _ _ => rfl)) x_int (fun _ _ => rfl)) (a_cons (xv 5) a_nil)))))).pt
       (s_cons (s_set (i := 7) sc_od6.nd rfl (by first | exact Or.inl rfl | exact Or.inr rfl) (x_callTy call_tuple_of d_tup (by rfl) B.tuple (by decide +kernel) (a_cons (x_lc (tg := (.nm 8)) (own := [("one", 8)]) rfl sc_od6.nd (i_seq (xv 1)) (blkOk_by (own := [("one", 8)]) (N := N_od6) (sc := defScope (sT 27)) (by decide +kernel)) (fun _ _ _ _ _ => (pg_name (i := 8) sc_od6.nd rfl (by first | exact Or.inl rfl | exact Or.inr rfl)))
       (fun _ _ _ _ _ => (ts_one (t_cmp (op_neD hr.units) d_ne (xv 8) (xv 4) (nomark _))))
       (fun _ _ _ _ _ => (xv 8)) (by decide)) a_nil)))
       (s_cons (s_set (i := 9) sc_od6.nd rfl (by first | exact Or.inl rfl | exact Or.inr rfl) (x_call F_od5 (hr.mono (by decide)) (by rfl) (a_cons (xv 0) (a_cons (xv 7) (a_cons (xv 6) (a_cons (xv 3) a_nil))))))
       (s_one (s_if (t_cmp op_notN d_notN (xv 9) x_non (nomark _))
       (s_one (s_ret (x_op op_addX d_catR (x_lst (a_cons (xv 4) a_nil)) (xv 9))))
       s_nil))))
       s_nil))))
       (s_cons (s_memoSet (hu9_of hr) (xv 3) (x_tup (a_cons (xv 1) (a_cons (xv 2) a_nil))) x_bl)
       (s_one (s_ret x_non))))))
abbrev N_od7 : List Str := ["rows", "left", "worths", "dead", "number", "answer", "behind", "rest", "one", "order"]
theorem sc_od7 : FnScope N_od7 ["rows", "left", "worths", "dead"] (defScope (sT 27)) := ⟨rfl, rfl, rfl, by decide +kernel, rfl, by decide +kernel, by decide +kernel⟩
theorem w_od7 {P : Program} {w : World} {K : PySem.W.Frag} {mg : Str → Option Value} {base : Heap} {T : Tb} {f : Addr} {fd : FuncData} (F : Fun K "order_of" "order_of" (sT 27) f fd) (B : Bm mg) (C : Cm K w mg) (F_done : DFn P w K mg base T 2 "done" D4.sp_done) (F_like : DFn P w K mg base T 1 "like" D4.sp_like) (F_may_be_next : DFn P w K mg base T 1 "may_be_next" D4.sp_may_be_next) (F_od6 : DFn P w K mg base T 8 "order_of" (D4.sp_order_of 6)) : FnOk P w K mg base CX0 9 f fd ["rows", "left", "worths", "dead"] (lsp K T (D4.sp_order_of 7)) := by
  refine fn_d F sc_od7 (fun ds S Q h => ?_) fun cdv A outer s H E hr => ⟨(D4.rd_order_of 6), ?_, fun ds S R h => D4.ok_order_of 6 ds S R h⟩
  · obtain ⟨_, _, _, _, _, _, rfl, _⟩ := h; rfl
  · exact (s_cons (s_if (t_cmp (op_eqD hr.units) d_eq (x_lc (tg := (.nm 4)) (own := [("number", 4)]) rfl sc_od7.nd (i_seq (xv 1)) (blkOk_by (own := [("number", 4)]) (N := N_od7) (sc := defScope (sT 27)) (by decide +kernel)) (fun _ _ _ _ _ => (pg_name (i := 4) sc_od7.nd rfl (by first | exact Or.inl rfl | exact Or.inr rfl)))
       (fun _ _ _ _ _ => (ts_one (t_cmp op_notN d_notN (x_ix (hu_of hr) (x_ix (hu_of hr) (xv 0) (xv 4) (fun _ _ => rfl)) x_int (fun _ _ => rfl)) x_non (nomark _))))
       (fun _ _ _ _ _ => (xv 4)) (by decide)) (x_lst a_nil) (nomark _))
       (s_one (s_ret (x_lstR a_nil)))
       s_nil)
       (s_cons (s_if (t_cmp (op_memoIn (hu9_of hr)) (d_memoIn false) (x_tup (a_cons (xv 1) (a_cons (xv 2) a_nil))) (xv 3) (by rfl))
       (s_one (s_ret x_non))
       s_nil)
       (s_cons (s_for (tg := (.nm 4)) PassesOwn.never rfl (i_seq (x_call F_may_be_next (hr.mono (by decide)) (by rfl) (a_cons (xv 0) (a_cons (xv 1) a_nil)))) (pg_name (i := 4) sc_od7.nd rfl (by first | exact Or.inl rfl | exact Or.inr rfl))
       (s_cons (s_asg (tg := (.tp [5, 6])) (x_call F_done (hr.mono (by decide)) (by rfl) (a_cons (xv 2) (a_cons (x_ix (hu_of hr) (x_ix (hu_of hr) (xv 0) (xv 4) (fun _ _ => rfl)) x_int (fun _ _ => rfl)) a_nil))) (pg_tup rfl (pgs_cons (pg_name (i := 5) sc_od7.nd rfl (by first | exact Or.inl rfl | exact Or.inr rfl)) (pgs_cons (pg_name (i := 6) sc_od7.nd rfl (by first | exact Or.inl rfl | exact Or.inr rfl)) pgs_nil))))
       (s_one (s_if (w_or (t_cmp op_isN d_isN (x_ix (hu_of hr) (x_ix (hu_of hr) (xv 0) (xv 4) (fun _ _ => rfl)) x_int (fun _ _ => rfl)) x_non (nomark _)) (w_or1 (t_val (x_call F_like (hr.mono (by decide)) (by rfl) (a_cons (x_ix (hu_of hr) (x_ix (hu_of hr) (xv 0) (xv 4) (fun _ _ => rfl)) x_int (fun _ _ => rfl)) (a_cons (xv 5) a_nil)))))).pt
       (s_cons (s_set (i := 7) sc_od7.nd rfl (by first | exact Or.inl rfl | exact Or.inr rfl) (x_callTy call_tuple_of d_tup (by rfl) B.tuple (by decide +kernel) (a_cons (x_lc (tg := (.nm 8)) (own := [("one", 8)]) rfl sc_od7.nd (i_seq (xv 1)) (blkOk_by (own := [("one", 8)]) (N := N_od7) (sc := defScope (sT 27)) (by decide +kernel)) (fun _ _ _ _ _ => (pg_name (i := 8) sc_od7.nd rfl (by first | exact Or.inl rfl | exact Or.inr rfl)))
       (fun _ _ _ _ _ => (ts_one (t_cmp (op_neD hr.units) d_ne (xv 8) (xv 4) (nomark _))))
       (fun _ _ _ _ _ => (xv 8)) (by decide)) a_nil)))
       (s_cons (s_set (i := 9) sc_od7.nd rfl (by first | exact Or.inl rfl | exact Or.inr rfl) (x_call F_od6 (hr.mono (by decide)) (by rfl) (a_cons (xv 0) (a_cons (xv 7) (a_cons (xv 6) (a_cons (xv 3) a_nil))))))
       (s_one (s_if (t_cmp op_notN d_notN (xv 9) x_non (nomark _))
       (s_one (s_ret (x_op op_addX d_catR (x_lst (a_cons (xv 4) a_nil)) (xv 9))))
       s_nil))))
       s_nil))))
       (s_cons (s_memoSet (hu9_of hr) (xv 3) (x_tup (a_cons (xv 1) (a_cons (xv 2) a_nil))) x_bl)
       (s_one (s_ret x_non))))))
abbrev N_od8 : List Str := ["rows", "left", "worths", "dead", "number", "answer", "behind", "rest", "one", "order"]
theorem sc_od8 : FnScope N_od8 ["rows", "left", "worths", "dead"] (defScope (sT 27)) := ⟨rfl, rfl, rfl, by decide +kernel, rfl, by decide +kernel, by decide +kernel⟩
theorem w_od8 {P : Program} {w : World} {K : PySem.W.Frag} {mg : Str → Option Value} {base : Heap} {T : Tb} {f : Addr} {fd : FuncData} (F : Fun K "order_of" "order_of" (sT 27) f fd) (B : Bm mg) (C : Cm K w mg) (F_done : DFn P w K mg base T 2 "done" D4.sp_done) (F_like : DFn P w K mg base T 1 "like" D4.sp_like) (F_may_be_next : DFn P w K mg base T 1 "may_be_next" D4.sp_may_be_next) (F_od7 : DFn P w K mg base T 9 "order_of" (D4.sp_order_of 7)) : FnOk P w K mg base CX0 10 f fd ["rows", "left", "worths", "dead"] (lsp K T (D4.sp_order_of 8)) := by
  refine fn_d F sc_od8 (fun ds S Q h => ?_) fun cdv A outer s H E hr => ⟨(D4.rd_order_of 7), ?_, fun ds S R h => D4.ok_order_of 7 ds S R h⟩
  · obtain ⟨_, _, _, _, _, _, rfl, _⟩ := h; rfl
  · exact (s_cons (s_if (t_cmp (op_eqD hr.units) d_eq (x_lc (tg := (.nm 4)) (own := [("number", 4)]) rfl sc_od8.nd (i_seq (xv 1)) (blkOk_by (own := [("number", 4)]) (N := N_od8) (sc := defScope (sT 27)) (by decide +kernel)) (fun _ _ _ _ _ => (pg_name (i := 4) sc_od8.nd rfl (by first | exact Or.inl rfl | exact Or.inr rfl)))
       (fun _ _ _ _ _ => (ts_one (t_cmp op_notN d_notN (x_ix (hu_of hr) (x_ix (hu_of hr) (xv 0) (xv 4) (fun _ _ => rfl)) x_int (fun _ _ => rfl)) x_non (nomark _))))
       (fun _ _ _ _ _ => (xv 4)) (by decide)) (x_lst a_nil) (nomark _))
       (s_one (s_ret (x_lstR a_nil)))
       s_nil)
       (s_cons (s_if (t_cmp (op_memoIn (hu9_of hr)) (d_memoIn false) (x_tup (a_cons (xv 1) (a_cons (xv 2) a_nil))) (xv 3) (by rfl))
       (s_one (s_ret x_non))
       s_nil)
       (s_cons (s_for (tg := (.nm 4)) PassesOwn.never rfl (i_seq (x_call F_may_be_next (hr.mono (by decide)) (by rfl) (a_cons (xv 0) (a_cons (xv 1) a_nil)))) (pg_name (i := 4) sc_od8.nd rfl (by first | exact Or.inl rfl | exact Or.inr rfl))
       (s_cons (s_asg (tg := (.tp [5, 6])) (x_call F_done (hr.mono (by decide)) (by rfl) (a_cons (xv 2) (a_cons (x_ix (hu_of hr) (x_ix (hu_of hr) (xv 0) (xv 4) (fun _ _ => rfl)) x_int (fun _ _ => rfl)) a_nil))) (pg_tup rfl (pgs_cons (pg_name (i := 5) sc_od8.nd rfl (by first | exact Or.inl rfl | exact Or.inr rfl)) (pgs_cons (pg_name (i := 6) sc_od8.nd rfl (by first | exact Or.inl rfl | exact Or.inr rfl)) pgs_nil))))
       (s_one (s_if (w_or (t_cmp op_isN d_isN (x_ix (hu_of hr) (x_ix (hu_of hr) (xv 0) (xv 4) (fun _ _ => rfl)) x_int (fun _ _ => rfl)) x_non (nomark _)) (w_or1 (t_val (x_call F_like (hr.mono (by decide)) (by rfl) (a_cons (x_ix (hu_of hr) (x_ix (hu_of hr) (xv 0) (xv 4) (fun _ _ => rfl)) x_int (fun _ _ => rfl)) (a_cons (xv 5) a_nil)))))).pt
       (s_cons (s_set (i := 7) sc_od8.nd rfl (by first | exact Or.inl rfl | exact Or.inr rfl) (x_callTy call_tuple_of d_tup (by rfl) B.tuple (by decide +kernel) (a_cons (x_lc (tg := (.nm 8)) (own := [("one", 8)]) rfl sc_od8.nd (i_seq (xv 1)) (blkOk_by (own := [("one", 8)]) (N := N_od8) (sc := defScope (sT 27)) (by decide +kernel)) (fun _ _ _ _ _ => (pg_name (i := 8) sc_od8.nd rfl (by first | exact Or.inl rfl | exact Or.inr rfl)))
       (fun _ _ _ _ _ => (ts_one (t_cmp (op_neD hr.units) d_ne (xv 8) (xv 4) (nomark _))))
       (fun _ _ _ _ _ => (xv 8)) (by decide)) a_nil)))
       (s_cons (s_set (i := 9) sc_od8.nd rfl (by first | exact Or.inl rfl | exact Or.inr rfl) (x_call F_od7 (hr.mono (by decide)) (by rfl) (a_cons (xv 0) (a_cons (xv 7) (a_cons (xv 6) (a_cons (xv 3) a_nil))))))
       (s_one (s_if (t_cmp op_notN d_notN (xv 9) x_non (nomark _))
       (s_one (s_ret (x_op op_addX d_catR (x_lst (a_cons (xv 4) a_nil)) (xv 9))))
       s_nil))))
       s_nil))))
       (s_cons (s_memoSet (hu9_of hr) (xv 3) (x_tup (a_cons (xv 1) (a_cons (xv 2) a_nil))) x_bl)
       (s_one (s_ret x_non))))))
abbrev N_od9 : List Str := ["rows", "left", "worths", "dead", "number", "answer", "behind", "rest", "one", "order"]
theorem sc_od9 : FnScope N_od9 ["rows", "left", "worths", "dead"] (defScope (sT 27)) := ⟨rfl, rfl, rfl, by decide +kernel, rfl, by decide +kernel, by decide +kernel⟩
theorem w_od9 {P : Program} {w : World} {K : PySem.W.Frag} {mg : Str → Option Value} {base : Heap} {T : Tb} {f : Addr} {fd : FuncData} (F : Fun K "order_of" "order_of" (sT 27) f fd) (B : Bm mg) (C : Cm K w mg) (F_done : DFn P w K mg base T 2 "done" D4.sp_done) (F_like : DFn P w K mg base T 1 "like" D4.sp_like) (F_may_be_next : DFn P w K mg base T 1 "may_be_next" D4.sp_may_be_next) (F_od8 : DFn P w K mg base T 10 "order_of" (D4.sp_order_of 8)) : FnOk P w K mg base CX0 11 f fd ["rows", "left", "worths", "dead"] (lsp K T (D4.sp_order_of 9)) := by
  refine fn_d F sc_od9 (fun ds S Q h => ?_) fun cdv A outer s H E hr => ⟨(D4.rd_order_of 8), ?_, fun ds S R h => D4.ok_order_of 8 ds S R h⟩
  · obtain ⟨_, _, _, _, _, _, rfl, _⟩ := h; rfl
  · exact (s_cons (s_if (t_cmp (op_eqD hr.units) d_eq (x_lc (tg := (.nm 4)) (own := [("number", 4)]) rfl sc_od9.nd (i_seq (xv 1)) (blkOk_by (own := [("number", 4)]) (N := N_od9) (sc := defScope (sT 27)) (by decide +kernel)) (fun _ _ _ _ _ => (pg_name (i := 4) sc_od9.nd rfl (by first | exact Or.inl rfl | exact Or.inr rfl)))
       (fun _ _ _ _ _ => (ts_one (t_cmp op_notN d_notN (x_ix (hu_of hr) (x_ix (hu_of hr) (xv 0) (xv 4) (fun _ _ => rfl)) x_int (fun _ _ => rfl)) x_non (nomark _))))
       (fun _ _ _ _ _ => (xv 4)) (by decide)) (x_lst a_nil) (nomark _))
       (s_one (s_ret (x_lstR a_nil)))
       s_nil)
       (s_cons (s_if (t_cmp (op_memoIn (hu9_of hr)) (d_memoIn false) (x_tup (a_cons (xv 1) (a_cons (xv 2) a_nil))) (xv 3) (by rfl))
       (s_one (s_ret x_non))
       s_nil)
       (s_cons (s_for (tg := (.nm 4)) PassesOwn.never rfl (i_seq (x_call F_may_be_next (hr.mono (by decide)) (by rfl) (a_cons (xv 0) (a_cons (xv 1) a_nil)))) (pg_name (i := 4) sc_od9.nd rfl (by first | exact Or.inl rfl | exact Or.inr rfl))
       (s_cons (s_asg (tg := (.tp [5, 6])) (x_call F_done (hr.mono (by decide)) (by rfl) (a_cons (xv 2) (a_cons (x_ix (hu_of hr) (x_ix (hu_of hr) (xv 0) (xv 4) (fun _ _ => rfl)) x_int (fun _ _ => rfl)) a_nil))) (pg_tup rfl (pgs_cons (pg_name (i := 5) sc_od9.nd rfl (by first | exact Or.inl rfl | exact Or.inr rfl)) (pgs_cons (pg_name (i := 6) sc_od9.nd rfl (by first | exact Or.inl rfl | exact Or.inr rfl)) pgs_nil))))
       (s_one (s_if (w_or (t_cmp op_isN d_isN (x_ix (hu_of hr) (x_ix (hu_of hr) (xv 0) (xv 4) (fun _ _ => rfl)) x_int (fun _ _ => rfl)) x_non (nomark _)) (w_or1 (t_val (x_call F_like (hr.mono (by decide)) (by rfl) (a_cons (x_ix (hu_of hr) (x_ix (hu_of hr) (xv 0) (xv 4) (fun _ _ => rfl)) x_int (fun _ _ => rfl)) (a_cons (xv 5) a_nil)))))).pt
       (s_cons (s_set (i := 7) sc_od9.nd rfl (by first | exact Or.inl rfl | exact Or.inr rfl) (x_callTy call_tuple_of d_tup (by rfl) B.tuple (by decide +kernel) (a_cons (x_lc (tg := (.nm 8)) (own := [("one", 8)]) rfl sc_od9.nd (i_seq (xv 1)) (blkOk_by (own := [("one", 8)]) (N := N_od9) (sc := defScope (sT 27)) (by decide +kernel)) (fun _ _ _ _ _ => (pg_name (i := 8) sc_od9.nd rfl (by first | exact Or.inl rfl | exact Or.inr rfl)))
       (fun _ _ _ _ _ => (ts_one (t_cmp (op_neD hr.units) d_ne (xv 8) (xv 4) (nomark _))))
       (fun _ _ _ _ _ => (xv 8)) (by decide)) a_nil)))
       (s_cons (s_set (i := 9) sc_od9.nd rfl (by first | exact Or.inl rfl | exact Or.inr rfl) (x_call F_od8 (hr.mono (by decide)) (by rfl) (a_cons (xv 0) (a_cons (xv 7) (a_cons (xv 6) (a_cons (xv 3) a_nil))))))
       (s_one (s_if (t_cmp op_notN d_notN (xv 9) x_non (nomark _))
       (s_one (s_ret (x_op op_addX d_catR (x_lst (a_cons (xv 4) a_nil)) (xv 9))))
       s_nil))))
       s_nil))))
       (s_cons (s_memoSet (hu9_of hr) (xv 3) (x_tup (a_cons (xv 1) (a_cons (xv 2) a_nil))) x_bl)
       (s_one (s_ret x_non))))))
abbrev N_od10 : List Str := ["rows", "left", "worths", "dead", "number", "answer", "behind", "rest", "one", "order"]
theorem sc_od10 : FnScope N_od10 ["rows", "left", "worths", "dead"] (defScope (sT 27)) := ⟨rfl, rfl, rfl, by decide +kernel, rfl, by decide +kernel, by decide +kernel⟩
theorem w_od10 {P : Program} {w : World} {K : PySem.W.Frag} {mg : Str → Option Value} {base : Heap} {T : Tb} {f : Addr} {fd : FuncData} (F : Fun K "order_of" "order_of" (sT 27) f fd) (B : Bm mg) (C : Cm K w mg) (F_done : DFn P w K mg base T 2 "done" D4.sp_done) (F_like : DFn P w K mg base T 1 "like" D4.sp_like) (F_may_be_next : DFn P w K mg base T 1 "may_be_next" D4.sp_may_be_next) (F_od9 : DFn P w K mg base T 11 "order_of" (D4.sp_order_of 9)) : FnOk P w K mg base CX0 12 f fd ["rows", "left", "worths", "dead"] (lsp K T (D4.sp_order_of 10)) := by
  refine fn_d F sc_od10 (fun ds S Q h => ?_) fun cdv A outer s H E hr => ⟨(D4.rd_order_of 9), ?_, fun ds S R h => D4.ok_order_of 9 ds S R h⟩
  · obtain ⟨_, _, _, _, _, _, rfl, _⟩ := h; rfl
  · exact (s_cons (s_if (t_cmp (op_eqD hr.units) d_eq (x_lc (tg := (.nm 4)) (own := [("number", 4)]) rfl sc_od10.nd (i_seq (xv 1)) (blkOk_by (own := [("number", 4)]) (N := N_od10) (sc := defScope (sT 27)) (by decide +kernel)) (fun _ _ _ _ _ => (pg_name (i := 4) sc_od10.nd rfl (by first | exact Or.inl rfl | exact Or.inr rfl)))
       (fun _ _ _ _ _ => (ts_one (t_cmp op_notN d_notN (x_ix (hu_of hr) (x_ix (hu_of hr) (xv 0) (xv 4) (fun _ _ => rfl)) x_int (fun _ _ => rfl)) x_non (nomark _))))
       (fun _ _ _ _ _ => (xv 4)) (by decide)) (x_lst a_nil) (nomark _))
       (s_one (s_ret (x_lstR a_nil)))
       s_nil)
       (s_cons (s_if (t_cmp (op_memoIn (hu9_of hr)) (d_memoIn false) (x_tup (a_cons (xv 1) (a_cons (xv 2) a_nil))) (xv 3) (by rfl))
       (s_one (s_ret x_non))
       s_nil)
       (s_cons (s_for (tg := (.nm 4)) PassesOwn.never rfl (i_seq (x_call F_may_be_next (hr.mono (by decide)) (by rfl) (a_cons (xv 0) (a_cons (xv 1) a_nil)))) (pg_name (i := 4) sc_od10.nd rfl (by first | exact Or.inl rfl | exact Or.inr rfl))
       (s_cons (s_asg (tg := (.tp [5, 6])) (x_call F_done (hr.mono (by decide)) (by rfl) (a_cons (xv 2) (a_cons (x_ix (hu_of hr) (x_ix (hu_of hr) (xv 0) (xv 4) (fun _ _ => rfl)) x_int (fun _ _ => rfl)) a_nil))) (pg_tup rfl (pgs_cons (pg_name (i := 5) sc_od10.nd rfl (by first | exact Or.inl rfl | exact Or.inr rfl)) (pgs_cons (pg_name (i := 6) sc_od10.nd rfl (by first | exact Or.inl rfl | exact Or.inr rfl)) pgs_nil))))
       (s_one (s_if (w_or (t_cmp op_isN d_isN (x_ix (hu_of hr) (x_ix (hu_of hr) (xv 0) (xv 4) (fun _ _ => rfl)) x_int (fun _ _ => rfl)) x_non (nomark _)) (w_or1 (t_val (x_call F_like (hr.mono (by decide)) (by rfl) (a_cons (x_ix (hu_of hr) (x_ix (hu_of hr) (xv 0) (xv 4) (fun _ _ => rfl)) x_int (fun _ _ => rfl)) (a_cons (xv 5) a_nil)))))).pt
       (s_cons (s_set (i := 7) sc_od10.nd rfl (by first | exact Or.inl rfl | exact Or.inr rfl) (x_callTy call_tuple_of d_tup (by rfl) B.tuple (by decide +kernel) (a_cons (x_lc (tg := (.nm 8)) (own := [("one", 8)]) rfl sc_od10.nd (i_seq (xv 1)) (blkOk_by (own := [("one", 8)]) (N := N_od10) (sc := defScope (sT 27)) (by decide +kernel)) (fun _ _ _ _ _ => (pg_name (i := 8) sc_od10.nd rfl (by first | exact Or.inl rfl | exact Or.inr rfl)))
       (fun _ _ _ _ _ => (ts_one (t_cmp (op_neD hr.units) d_ne (xv 8) (xv 4) (nomark _))))
       (fun _ _ _ _ _ => (xv 8)) (by decide)) a_nil)))
       (s_cons (s_set (i := 9) sc_od10.nd rfl (by first | exact Or.inl rfl | exact Or.inr rfl) (x_call F_od9 (hr.mono (by decide)) (by rfl) (a_cons (xv 0) (a_cons (xv 7) (a_cons (xv 6) (a_cons (xv 3) a_nil))))))
       (s_one (s_if (t_cmp op_notN d_notN (xv 9) x_non (nomark _))
       (s_one (s_ret (x_op op_addX d_catR (x_lst (a_cons (xv 4) a_nil)) (xv 9))))
       s_nil))))
       s_nil))))
       (s_cons (s_memoSet (hu9_of hr) (xv 3) (x_tup (a_cons (xv 1) (a_cons (xv 2) a_nil))) x_bl)
       (s_one (s_ret x_non))))))
abbrev N_od11 : List Str := ["rows", "left", "worths", "dead", "number", "answer", "behind", "rest", "one", "order"]
theorem sc_od11 : FnScope N_od11 ["rows", "left", "worths", "dead"] (defScope (sT 27)) := ⟨rfl, rfl, rfl, by decide +kernel, rfl, by decide +kernel, by decide +kernel⟩
theorem w_od11 {P : Program} {w : World} {K : PySem.W.Frag} {mg : Str → Option Value} {base : Heap} {T : Tb} {f : Addr} {fd : FuncData} (F : Fun K "order_of" "order_of" (sT 27) f fd) (B : Bm mg) (C : Cm K w mg) (F_done : DFn P w K mg base T 2 "done" D4.sp_done) (F_like : DFn P w K mg base T 1 "like" D4.sp_like) (F_may_be_next : DFn P w K mg base T 1 "may_be_next" D4.sp_may_be_next) (F_od10 : DFn P w K mg base T 12 "order_of" (D4.sp_order_of 10)) : FnOk P w K mg base CX0 13 f fd ["rows", "left", "worths", "dead"] (lsp K T (D4.sp_order_of 11)) := by
  refine fn_d F sc_od11 (fun ds S Q h => ?_) fun cdv A outer s H E hr => ⟨(D4.rd_order_of 10), ?_, fun ds S R h => D4.ok_order_of 10 ds S R h⟩
  · obtain ⟨_, _, _, _, _, _, rfl, _⟩ := h; rfl
  · exact (s_cons (s_if (t_cmp (op_eqD hr.units) d_eq (x_lc (tg := (.nm 4)) (own := [("number", 4)]) rfl sc_od11.nd (i_seq (xv 1)) (blkOk_by (own := [("number", 4)]) (N := N_od11) (sc := defScope (sT 27)) (by decide +kernel)) (fun _ _ _ _ _ => (pg_name (i := 4) sc_od11.nd rfl (by first | exact Or.inl rfl | exact Or.inr rfl)))
       (fun _ _ _ _ _ => (ts_one (t_cmp op_notN d_notN (x_ix (hu_of hr) (x_ix (hu_of hr) (xv 0) (xv 4) (fun _ _ => rfl)) x_int (fun _ _ => rfl)) x_non (nomark _))))
       (fun _ _ _ _ _ => (xv 4)) (by decide)) (x_lst a_nil) (nomark _))
       (s_one (s_ret (x_lstR a_nil)))
       s_nil)
       (s_cons (s_if (t_cmp (op_memoIn (hu9_of hr)) (d_memoIn false) (x_tup (a_cons (xv 1) (a_cons (xv 2) a_nil))) (xv 3) (by rfl))
       (s_one (s_ret x_non))
       s_nil)
       (s_cons (s_for (tg := (.nm 4)) PassesOwn.never rfl (i_seq (x_call F_may_be_next (hr.mono (by decide)) (by rfl) (a_cons (xv 0) (a_cons (xv 1) a_nil)))) (pg_name (i := 4) sc_od11.nd rfl (by first | exact Or.inl rfl | exact Or.inr rfl))
       (s_cons (s_asg (tg := (.tp [5, 6])) (x_call F_done (hr.mono (by decide)) (by rfl) (a_cons (xv 2) (a_cons (x_ix (hu_of hr) (x_ix (hu_of hr) (xv 0) (xv 4) (fun _ _ => rfl)) x_int (fun _ _ => rfl)) a_nil))) (pg_tup rfl (pgs_cons (pg_name (i := 5) sc_od11.nd rfl (by first | exact Or.inl rfl | exact Or.inr rfl)) (pgs_cons (pg_name (i := 6) sc_od11.nd rfl (by first | exact Or.inl rfl | exact Or.inr rfl)) pgs_nil))))
       (s_one (s_if (w_or (t_cmp op_isN d_isN (x_ix (hu_of hr) (x_ix (hu_of hr) (xv 0) (xv 4) (fun _ _ => rfl)) x_int (fun _ _ => rfl)) x_non (nomark _)) (w_or1 (t_val (x_call F_like (hr.mono (by decide)) (by rfl) (a_cons (x_ix (hu_of hr) (x_ix (hu_of hr) (xv 0) (xv 4) (fun _ _ => rfl)) x_int (fun _ _ => rfl)) (a_cons (xv 5) a_nil)))))).pt
       (s_cons (s_set (i := 7) sc_od11.nd rfl (by first | exact Or.inl rfl | exact Or.inr rfl) (x_callTy call_tuple_of d_tup (by rfl) B.tuple (by decide +kernel) (a_cons (x_lc (tg := (.nm 8)) (own := [("one", 8)]) rfl sc_od11.nd (i_seq (xv 1)) (blkOk_by (own := [("one", 8)]) (N := N_od11) (sc := defScope (sT 27)) (by decide +kernel)) (fun _ _ _ _ _ => (pg_name (i := 8) sc_od11.nd rfl (by first | exact Or.inl rfl | exact Or.inr rfl)))
       (fun _ _ _ _ _ => (ts_one (t_cmp (op_neD hr.units) d_ne (xv 8) (xv 4) (nomark _))))
       (fun _ _ _ _ _ => (xv 8)) (by decide)) a_nil)))
       (s_cons (s_set (i := 9) sc_od11.nd rfl (by first | exact Or.inl rfl | exact Or.inr rfl) (x_call F_od10 (hr.mono (by decide)) (by rfl) (a_cons (xv 0) (a_cons (xv 7) (a_cons (xv 6) (a_cons (xv 3) a_nil))))))
       (s_one (s_if (t_cmp op_notN d_notN (xv 9) x_non (nomark _))
       (s_one (s_ret (x_op op_addX d_catR (x_lst (a_cons (xv 4) a_nil)) (xv 9))))
       s_nil))))
       s_nil))))
       (s_cons (s_memoSet (hu9_of hr) (xv 3) (x_tup (a_cons (xv 1) (a_cons (xv 2) a_nil))) x_bl)
       (s_one (s_ret x_non))))))
abbrev N_od12 : List Str := ["rows", "left", "worths", "dead", "number", "answer", "behind", "rest", "one", "order"]
theorem sc_od12 : FnScope N_od12 ["rows", "left", "worths", "dead"] (defScope (sT 27)) := ⟨rfl, rfl, rfl, by decide +kernel, rfl, by decide +kernel, by decide +kernel⟩
theorem w_od12 {P : Program} {w : World} {K : PySem.W.Frag} {mg : Str → Option Value} {base : Heap} {T : Tb} {f : Addr} {fd : FuncData} (F : Fun K "order_of" "order_of" (sT 27) f fd) (B : Bm mg) (C : Cm K w mg) (F_done : DFn P w K mg base T 2 "done" D4.sp_done) (F_like : DFn P w K mg base T 1 "like" D4.sp_like) (F_may_be_next : DFn P w K mg base T 1 "may_be_next" D4.sp_may_be_next) (F_od11 : DFn P w K mg base T 13 "order_of" (D4.sp_order_of 11)) : FnOk P w K mg base CX0 14 f fd ["rows", "left", "worths", "dead"] (lsp K T (D4.sp_order_of 12)) := by
  refine fn_d F sc_od12 (fun ds S Q h => ?_) fun cdv A outer s H E hr => ⟨(D4.rd_order_of 11), ?_, fun ds S R h => D4.ok_order_of 11 ds S R h⟩
  · obtain ⟨_, _, _, _, _, _, rfl, _⟩ := h; rfl
  · exact (s_cons (s_if (t_cmp (op_eqD hr.units) d_eq (x_lc (tg := (.nm 4)) (own := [("number", 4)]) rfl sc_od12.nd (i_seq (xv 1)) (blkOk_by (own := [("number", 4)]) (N := N_od12) (sc := defScope (sT 27)) (by decide +kernel)) (fun _ _ _ _ _ => (pg_name (i := 4) sc_od12.nd rfl (by first | exact Or.inl rfl | exact Or.inr rfl)))
       (fun _ _ _ _ _ => (ts_one (t_cmp op_notN d_notN (x_ix (hu_of hr) (x_ix (hu_of hr) (xv 0) (xv 4) (fun _ _ => rfl)) x_int (fun _ _ => rfl)) x_non (nomark _))))
       (fun _ _ _ _ _ => (xv 4)) (by decide)) (x_lst a_nil) (nomark _))
       (s_one (s_ret (x_lstR a_nil)))
       s_nil)
       (s_cons (s_if (t_cmp (op_memoIn (hu9_of hr)) (d_memoIn false) (x_tup (a_cons (xv 1) (a_cons (xv 2) a_nil))) (xv 3) (by rfl))
       (s_one (s_ret x_non))
       s_nil)
       (s_cons (s_for (tg := (.nm 4)) PassesOwn.never rfl (i_seq (x_call F_may_be_next (hr.mono (by decide)) (by rfl) (a_cons (xv 0) (a_cons (xv 1) a_nil)))) (pg_name (i := 4) sc_od12.nd rfl (by first | exact Or.inl rfl | exact Or.inr rfl))
       (s_cons (s_asg (tg := (.tp [5, 6])) (x_call F_done (hr.mono (by decide)) (by rfl) (a_cons (xv 2) (a_cons (x_ix (hu_of hr) (x_ix (hu_of hr) (xv 0) (xv 4) (fun _ _ => rfl)) x_int (fun _ _ => rfl)) a_nil))) (pg_tup rfl (pgs_cons (pg_name (i := 5) sc_od12.nd rfl (by first | exact Or.inl rfl | exact Or.inr rfl)) (pgs_cons (pg_name (i := 6) sc_od12.nd rfl (by first | exact Or.inl rfl | exact Or.inr rfl)) pgs_nil))))
       (s_one (s_if (w_or (t_cmp op_isN d_isN (x_ix (hu_of hr) (x_ix (hu_of hr) (xv 0) (xv 4) (fun _ _ => rfl)) x_int (fun _ _ => rfl)) x_non (nomark _)) (w_or1 (t_val (x_call F_like (hr.mono (by decide)) (by rfl) (a_cons (x_ix (hu_of hr) (x_ix (hu_of hr) (xv 0) (xv 4) (fun _ _ => rfl)) x_int (fun _ _ => rfl)) (a_cons (xv 5) a_nil)))))).pt
       (s_cons (s_set (i := 7) sc_od12.nd rfl (by first | exact Or.inl rfl | exact Or.inr rfl) (x_callTy call_tuple_of d_tup (by rfl) B.tuple (by decide +kernel) (a_cons (x_lc (tg := (.nm 8)) (own := [("one", 8)]) rfl sc_od12.nd (i_seq (xv 1)) (blkOk_by (own := [("one", 8)]) (N := N_od12) (sc := defScope (sT 27)) (by decide +kernel)) (fun _ _ _ _ _ => (pg_name (i := 8) sc_od12.nd rfl (by first | exact Or.inl rfl | exact Or.inr rfl)))
       (fun _ _ _ _ _ => (ts_one (t_cmp (op_neD hr.units) d_ne (xv 8) (xv 4) (nomark _))))
       (fun _ _ _ _ _ => (xv 8)) (by decide)) a_nil)))
       (s_cons (s_set (i := 9) sc_od12.nd rfl (by first | exact Or.inl rfl | exact Or.inr rfl) (x_call F_od11 (hr.mono (by decide)) (by rfl) (a_cons (xv 0) (a_cons (xv 7) (a_cons (xv 6) (a_cons (xv 3) a_nil))))))
       (s_one (s_if (t_cmp op_notN d_notN (xv 9) x_non (nomark _))
       (s_one (s_ret (x_op op_addX d_catR (x_lst (a_cons (xv 4) a_nil)) (xv 9))))
       s_nil))))
       s_nil))))
       (s_cons (s_memoSet (hu9_of hr) (xv 3) (x_tup (a_cons (xv 1) (a_cons (xv 2) a_nil))) x_bl)
       (s_one (s_ret x_non))))))
abbrev N_judged : List Str := ["rows"]
theorem sc_judged : FnScope N_judged ["rows"] (defScope (sT 28)) := ⟨rfl, rfl, rfl, by decide +kernel, rfl, by decide +kernel, by decide +kernel⟩
theorem w_judged {P : Program} {w : World} {K : PySem.W.Frag} {mg : Str → Option Value} {base : Heap} {T : Tb} {f : Addr} {fd : FuncData} (F : Fun K "judged" "judged" (sT 28) f fd) (B : Bm mg) (C : Cm K w mg) (F_need_history : DFy P w K mg base T 4 "need_history" D4.spy_need_history) (F_od12 : DFn P w K mg base T 14 "order_of" (D4.sp_order_of 12)) : FnOk P w K mg base (L2N.CX P w) 15 f fd ["rows"] (lspy K T mg D4.spy_judged) := by
  refine fn_dy F sc_judged (fun ds S Q E h => ?_) fun cdv A outer s H E hr => ⟨D4.rd_judged, ?_, fun ds S R RE h => D4.oky_judged ds S R RE h⟩
  · obtain ⟨_, _, rfl, _⟩ := h; rfl
  · exact (sy_cons (sy_expr (xy_call (L2N.takes_of rfl rfl rfl rfl) F_need_history (hr.mono (by decide)) (by rfl) (a_cons (xv 0) a_nil)))
       (XSs.y (s_one (s_ret (x_call F_od12 (hr.mono (by decide)) (by rfl) (a_cons (xv 0) (a_cons (x_tupRg rfl (by rfl) B.tuple (by rfl) B.range (x_callB call_len d_len (by rfl) B.len (by decide +kernel) (a_cons (xv 0) a_nil))) (a_cons x_tupP0 (a_cons x_memo0 a_nil)))))))))
abbrev N_word_of : List Str := ["part", "one"]
theorem sc_word_of : FnScope N_word_of ["part"] (defScope (sT 31)) := ⟨rfl, rfl, rfl, by decide +kernel, rfl, by decide +kernel, by decide +kernel⟩
theorem w_word_of {P : Program} {w : World} {K : PySem.W.Frag} {mg : Str → Option Value} {base : Heap} {T : Tb} {f : Addr} {fd : FuncData} (F : Fun K "word_of" "word_of" (sT 31) f fd) (B : Bm mg) (C : Cm K w mg) : FnOk P w K mg base CX0 1 f fd ["part"] (lsp K T D4.sp_word_of) := by
  refine fn_d F sc_word_of (fun ds S Q h => ?_) fun cdv A outer s H E hr => ⟨D4.rd_word_of, ?_, fun ds S R h => D4.ok_word_of ds S R h⟩
  · simp only [D4.sp_word_of] at h; first | (obtain ⟨_, rfl, _⟩ := h; rfl) | (obtain ⟨_, _, rfl, _⟩ := h; rfl) | (obtain ⟨_, _, _, rfl, _⟩ := h; rfl) | (obtain ⟨_, _, _, _, rfl, _⟩ := h; rfl)
  · exact (s_cons (s_if (t_cmp op_isN d_isN (xv 0) x_non (nomark _))
       (s_one (s_ret (x_glob (by rfl) (by exact C.NONE))))
       s_nil)
       (s_cons (s_if (t_val (x_isi (C := "bool") (xv 0) (by rfl) B.isinstance (by rfl) B.bool (by decide +kernel)))
       (s_one (s_ret (x_if (t_val (xv 0)) x_str x_str)))
       s_nil)
       (s_cons (s_if (t_val (x_isi (C := "tuple") (xv 0) (by rfl) B.isinstance (by rfl) B.tuple (by decide +kernel)))
       (s_one (s_ret (x_ms PySem.F.slot_str_join PySem.F.type_str_join mt_join d_join x_str (a_cons (x_lc (tg := (.nm 1)) (own := [("one", 1)]) rfl sc_word_of.nd (i_seq (xv 0)) (blkOk_by (own := [("one", 1)]) (N := N_word_of) (sc := defScope (sT 31)) (by decide +kernel)) (fun _ _ _ _ _ => (pg_name (i := 1) sc_word_of.nd rfl (by first | exact Or.inl rfl | exact Or.inr rfl)))
       (fun _ _ _ _ _ => ts_nil)
       (fun _ _ _ _ _ => (x_callTy call_str_int d_strI (by rfl) B.str (by decide +kernel) (a_cons (xv 1) a_nil))) (by decide)) a_nil))))
       s_nil)
       (s_one (s_ret (x_callTy call_str_int d_strI (by rfl) B.str (by decide +kernel) (a_cons (xv 0) a_nil)))))))
abbrev N_words_of : List Str := ["row", "asker", "deed", "begin", "end", "answer", "parts", "part"]
theorem sc_words_of : FnScope N_words_of ["row"] (defScope (sT 32)) := ⟨rfl, rfl, rfl, by decide +kernel, rfl, by decide +kernel, by decide +kernel⟩
theorem w_words_of {P : Program} {w : World} {K : PySem.W.Frag} {mg : Str → Option Value} {base : Heap} {T : Tb} {f : Addr} {fd : FuncData} (F : Fun K "words_of" "words_of" (sT 32) f fd) (B : Bm mg) (C : Cm K w mg) (F_word_of : DFn P w K mg base T 1 "word_of" D4.sp_word_of) : FnOk P w K mg base CX0 2 f fd ["row"] (lsp K T D4.sp_words_of) := by
  refine fn_d F sc_words_of (fun ds S Q h => ?_) fun cdv A outer s H E hr => ⟨D4.rd_words_of, ?_, fun ds S R h => D4.ok_words_of ds S R h⟩
  · simp only [D4.sp_words_of] at h; first | (obtain ⟨_, rfl, _⟩ := h; rfl) | (obtain ⟨_, _, rfl, _⟩ := h; rfl) | (obtain ⟨_, _, _, rfl, _⟩ := h; rfl) | (obtain ⟨_, _, _, _, rfl, _⟩ := h; rfl)
  · exact (s_cons (s_asg (tg := (.tp [1, 2, 3, 4, 5])) (xv 0) (pg_tup rfl (pgs_cons (pg_name (i := 1) sc_words_of.nd rfl (by first | exact Or.inl rfl | exact Or.inr rfl)) (pgs_cons (pg_name (i := 2) sc_words_of.nd rfl (by first | exact Or.inl rfl | exact Or.inr rfl)) (pgs_cons (pg_name (i := 3) sc_words_of.nd rfl (by first | exact Or.inl rfl | exact Or.inr rfl)) (pgs_cons (pg_name (i := 4) sc_words_of.nd rfl (by first | exact Or.inl rfl | exact Or.inr rfl)) (pgs_cons (pg_name (i := 5) sc_words_of.nd rfl (by first | exact Or.inl rfl | exact Or.inr rfl)) pgs_nil)))))))
       (s_cons (s_setLc (i := 6) (tg := (.nm 7)) (own := [("part", 7)]) rfl sc_words_of.nd rfl (by rfl) (sw_true rfl rfl rfl (by decide +kernel)) (i_seq (x_slice (xv 2) (o_some x_int) o_none)) (blkOk_by (own := [("part", 7)]) (N := N_words_of) (sc := defScope (sT 32)) (by decide +kernel)) (fun _ _ _ _ _ => (pg_name (i := 7) sc_words_of.nd rfl (by first | exact Or.inl rfl | exact Or.inr rfl)))
       (fun _ _ _ _ _ => ts_nil)
       (fun _ _ _ _ _ => (x_call F_word_of (hr.mono (by decide)) (by rfl) (a_cons (xv 7) a_nil))) (by decide))
       (s_one (s_ret (x_op op_addV d_add (x_op op_addV d_add (x_lst (a_cons (x_callTy call_str_int d_strI (by rfl) B.str (by decide +kernel) (a_cons (xv 1) a_nil)) (a_cons (x_callTy call_str_int d_strI (by rfl) B.str (by decide +kernel) (a_cons (xv 3) a_nil)) (a_cons (x_call F_word_of (hr.mono (by decide)) (by rfl) (a_cons (xv 4) a_nil)) (a_cons (x_ix (hu_of hr) (xv 2) x_int (fun _ _ => rfl)) a_nil))))) (xv 6)) (x_lst (a_cons (x_call F_word_of (hr.mono (by decide)) (by rfl) (a_cons (xv 5) a_nil)) a_nil)))))))
abbrev N_written : List Str := ["rows", "row"]
theorem sc_written : FnScope N_written ["rows"] (defScope (sT 33)) := ⟨rfl, rfl, rfl, by decide +kernel, rfl, by decide +kernel, by decide +kernel⟩
theorem w_written {P : Program} {w : World} {K : PySem.W.Frag} {mg : Str → Option Value} {base : Heap} {T : Tb} {f : Addr} {fd : FuncData} (F : Fun K "written" "written" (sT 33) f fd) (B : Bm mg) (C : Cm K w mg) (F_need_history : DFy P w K mg base T 4 "need_history" D4.spy_need_history) (F_words_of : DFn P w K mg base T 2 "words_of" D4.sp_words_of) : FnOk P w K mg base (L2N.CX P w) 5 f fd ["rows"] (lspy K T mg D4.spy_written) := by
  refine fn_dy F sc_written (fun ds S Q E h => ?_) fun cdv A outer s H E hr => ⟨D4.rd_written, ?_, fun ds S R RE h => D4.oky_written ds S R RE h⟩
  · obtain ⟨_, _, rfl, _⟩ := h; rfl
  · exact (sy_cons (sy_expr (xy_call (L2N.takes_of rfl rfl rfl rfl) F_need_history (hr.mono (by decide)) (by rfl) (a_cons (xv 0) a_nil)))
       (XSs.y (s_one (s_ret (x_ms PySem.F.slot_str_join PySem.F.type_str_join mt_join d_join x_str (a_cons (x_lc (tg := (.nm 1)) (own := [("row", 1)]) rfl sc_written.nd (i_seq (xv 0)) (blkOk_by (own := [("row", 1)]) (N := N_written) (sc := defScope (sT 33)) (by decide +kernel)) (fun _ _ _ _ _ => (pg_name (i := 1) sc_written.nd rfl (by first | exact Or.inl rfl | exact Or.inr rfl)))
       (fun _ _ _ _ _ => ts_nil)
       (fun _ _ _ _ _ => (x_ms PySem.F.slot_str_join PySem.F.type_str_join mt_join d_join x_str (a_cons (x_call F_words_of (hr.mono (by decide)) (by rfl) (a_cons (xv 1) a_nil)) a_nil))) (by decide)) a_nil))))))
abbrev N__law_dice : List Str := ["_law_script", "_law_k", "_law_found", "_law_cell"]
theorem sc__law_dice : FnScope N__law_dice ["_law_script", "_law_k"] (defScope (sT 35)) := ⟨rfl, rfl, rfl, by decide +kernel, rfl, by decide +kernel, by decide +kernel⟩
theorem w__law_dice {P : Program} {w : World} {K : PySem.W.Frag} {mg : Str → Option Value} {base : Heap} {T : Tb} {f : Addr} {fd : FuncData} (F : Fun K "_law_dice" "_law_dice" (sT 35) f fd) (B : Bm mg) (C : Cm K w mg) : FnOk P w K mg base CX0 1 f fd ["_law_script", "_law_k"] (lsp K T sp__law_dice) := by
  refine fn_d F sc__law_dice (fun ds S Q h => ?_) fun cdv A outer s H E hr => ⟨rd__law_dice, ?_, fun ds S R h => ok__law_dice ds S R h⟩
  · simp only [sp__law_dice] at h; first | (obtain ⟨_, rfl, _⟩ := h; rfl) | (obtain ⟨_, _, rfl, _⟩ := h; rfl) | (obtain ⟨_, _, _, rfl, _⟩ := h; rfl) | (obtain ⟨_, _, _, _, rfl, _⟩ := h; rfl)
  · exact (s_cons (s_set (i := 2) sc__law_dice.nd rfl (by first | exact Or.inl rfl | exact Or.inr rfl) (xv 1))
       (s_cons (s_for (tg := (.nm 3)) PassesOwn.never rfl (i_seq (xv 0)) (pg_name (i := 3) sc__law_dice.nd rfl (by first | exact Or.inl rfl | exact Or.inr rfl))
       (s_one (s_set (i := 2) sc__law_dice.nd rfl (by first | exact Or.inl rfl | exact Or.inr rfl) (x_op op_mod d_mod (x_op op_addV d_add (x_op op_mulV d_mul (xv 2) x_int) (x_callB call_abs d_abs (by rfl) B.abs (by decide +kernel) (a_cons (xv 3) a_nil))) x_int))))
       (s_one (s_ret (x_lstR (a_cons (xv 2) (a_cons x_int (a_cons (x_lcR (tg := (.nm 3)) (own := [("_law_cell", 3)]) rfl sc__law_dice.nd (i_seq (xv 0)) (blkOk_by (own := [("_law_cell", 3)]) (N := N__law_dice) (sc := defScope (sT 35)) (by decide +kernel)) (fun _ _ _ _ _ => (pg_name (i := 3) sc__law_dice.nd rfl (by first | exact Or.inl rfl | exact Or.inr rfl)))
       (fun _ _ _ _ _ => (ts_one (t_cmp op_ge d_ge (xv 3) (x_op op_pow d_pow x_int x_int) (nomark _))))
       (fun _ _ _ _ _ => (xv 3)) (by decide)) a_nil))))))))
abbrev N__law_off : List Str := ["_law_d", "_law_most", "_law_found"]
theorem sc__law_off : FnScope N__law_off ["_law_d", "_law_most"] (defScope (sT 36)) := ⟨rfl, rfl, rfl, by decide +kernel, rfl, by decide +kernel, by decide +kernel⟩
theorem w__law_off {P : Program} {w : World} {K : PySem.W.Frag} {mg : Str → Option Value} {base : Heap} {T : Tb} {f : Addr} {fd : FuncData} (F : Fun K "_law_off" "_law_off" (sT 36) f fd) (B : Bm mg) (C : Cm K w mg) : FnOk P w K mg base CX0 1 f fd ["_law_d", "_law_most"] (lsp K T sp__law_off) := by
  refine fn_d F sc__law_off (fun ds S Q h => ?_) fun cdv A outer s H E hr => ⟨rd__law_off, ?_, fun ds S R h => ok__law_off ds S R h⟩
  · simp only [sp__law_off] at h; first | (obtain ⟨_, rfl, _⟩ := h; rfl) | (obtain ⟨_, _, rfl, _⟩ := h; rfl) | (obtain ⟨_, _, _, rfl, _⟩ := h; rfl) | (obtain ⟨_, _, _, _, rfl, _⟩ := h; rfl)
  · exact (s_cons (s_if (w_and (t_cmp (op_eqD hr.units) d_eq (x_ix (hu_of hr) (xv 0) x_int (fun _ _ => rfl)) x_int (nomark _)) (w_and1 (t_cmp (op_neD hr.units) d_ne (x_ix (hu_of hr) (xv 0) x_int (fun _ _ => rfl)) (x_lst a_nil) (nomark _)))).pt
       (s_one (s_setIx (xv 0) x_int (x_ml PySem.F.slot_list_pop PySem.F.type_list_pop mt_popAt d_popAt (x_ix (hu_of hr) (xv 0) x_int (fun _ _ => rfl)) (a_cons x_int a_nil))))
       s_nil)
       (s_cons (s_if (t_cmp op_gt d_gt (x_ix (hu_of hr) (xv 0) x_int (fun _ _ => rfl)) x_int (nomark _))
       (s_cons (s_set (i := 2) sc__law_off.nd rfl (by first | exact Or.inl rfl | exact Or.inr rfl) (x_op op_mod d_mod (x_ix (hu_of hr) (xv 0) x_int (fun _ _ => rfl)) (xv 1)))
       (s_cons (s_setIx (xv 0) x_int (x_op op_fdiv d_fdiv (x_ix (hu_of hr) (xv 0) x_int (fun _ _ => rfl)) (xv 1)))
       (s_one (s_ret (xv 2)))))
       s_nil)
       (s_cons (s_setIx (xv 0) x_int (x_op op_mod d_mod (x_op op_addV d_add (x_op op_mulV d_mul (x_ix (hu_of hr) (xv 0) x_int (fun _ _ => rfl)) x_int) x_int) x_int))
       (s_one (s_ret (x_op op_mod d_mod (x_op op_fdiv d_fdiv (x_ix (hu_of hr) (xv 0) x_int (fun _ _ => rfl)) x_int) (xv 1)))))))
abbrev N__law_alike_h : List Str := ["_law_found", "_law_due", "_law_k"]
theorem sc__law_alike_h : FnScope N__law_alike_h ["_law_found", "_law_due"] (defScope (sT 37)) := ⟨rfl, rfl, rfl, by decide +kernel, rfl, by decide +kernel, by decide +kernel⟩
theorem w__law_alike_h {P : Program} {w : World} {K : PySem.W.Frag} {mg : Str → Option Value} {base : Heap} {T : Tb} {f : Addr} {fd : FuncData} (F : Fun K "_law_alike" "_law_alike" (sT 37) f fd) (B : Bm mg) (C : Cm K w mg) : L2H.FnH P w K mg base CX0 1 f fd ["_law_found", "_law_due"] (lsp K T D4.sp_alike_i) := by
  refine fn_dH F sc__law_alike_h (fun ds S Q h => ?_) fun cdv A outer s H E p hp hr => ⟨D4.rd__law_alike_h, ?_, fun ds S R h => D4.ok__law_alike_h ds S R h⟩
  · obtain ⟨_, _, rfl, _⟩ := h; rfl
  · exact (s_cons (s_if (t_cmp op_isN d_isN (xv 1) x_non (nomark _))
       (s_one (s_ret (x_cmp op_isN d_isN (xv 0) x_non (nomark _))))
       s_nil)
       (s_cons (s_if (t_val (x_isi (C := "bool") (xv 1) (by rfl) B.isinstance (by rfl) B.bool (by decide +kernel)))
       (s_one (s_ret (x_and (x_isi (C := "bool") (xv 0) (by rfl) B.isinstance (by rfl) B.bool (by decide +kernel)) (x_one (x_cmp (op_eqD (hot_units hr)) d_eq (xv 0) (xv 1) (nomark _))))))
       s_nil)
       (s_cons (s_if (t_val (x_isi (C := "int") (xv 1) (by rfl) B.isinstance (by rfl) B.int (by decide +kernel)))
       (s_one (s_ret (x_and (x_isi (C := "int") (xv 0) (by rfl) B.isinstance (by rfl) B.int (by decide +kernel)) (x_and (x_not (x_isi (C := "bool") (xv 0) (by rfl) B.isinstance (by rfl) B.bool (by decide +kernel))) (x_one (x_cmp (op_eqD (hot_units hr)) d_eq (xv 0) (xv 1) (nomark _)))))))
       s_nil)
       ss_never)))
abbrev N__law_refused : List Str := ["_law_work", "_law_word", "_law_value", "e", "_law_kinds", "_law_words", "_law_one"]
theorem sc__law_refused : FnScope N__law_refused ["_law_work", "_law_word", "_law_value"] (defScope (sT 38)) := ⟨rfl, rfl, rfl, by decide +kernel, rfl, by decide +kernel, by decide +kernel⟩
theorem w__law_refused {P : Program} {w : World} {K : PySem.W.Frag} {mg : Str → Option Value} {base : Heap} {T : Tb} {f : Addr} {fd : FuncData} (F : Fun K "_law_refused" "_law_refused" (sT 38) f fd) (bi : Binds K fd ["_law_work", "_law_word", "_law_value"] []) (hm : mg "_law_refused" = some (.ref f)) (hk : PySem.W.keepIn K (.ref f) = true) (B : Bm mg) (C : Cm K w mg) {SC : Addr} (EF : ErrF K mg D4.RN CSk SC) (F__law_alike_h : DFnH P w K mg base T 1 "_law_alike" D4.sp_alike_i) : DGn P w K mg base T 16 "_law_refused" D4.spg__law_refused := by
  refine fn_g F sc__law_refused bi hm hk (fun b ds S Q h => ?_) fun cdv A outer s H F fr ws dws b hr LW CW nfW => ⟨D4.rd__law_refused F ws dws b, ?_, fun ds S R h => D4.okg__law_refused F ws dws b ds S R h⟩
  · obtain ⟨_, rfl, _⟩ := h; rfl
  · exact (s_cons (s_tryAs (RN := D4.RN) (i := 3) rfl rfl sc__law_refused.nd rfl rfl ⟨by rfl, by decide, .inl EF.s⟩ EF.exm (fun W pn xe tk _ => (sy_one (sy_expr (xy_act tk LW (hr.mono (by decide)) CW nfW (fun _ _ _ z => nomatch z) rfl (.inl rfl)))))
       (fun a oe nm C d pn hm g hz hf => (s_cons (s_set (i := 4) sc__law_refused.nd rfl (by first | exact Or.inl rfl | exact Or.inr rfl) (x_lst (a_cons (x_isiF EF hm g hz hf (by decide) (by rfl) B.isinstance (by rfl) (pv 3)) (a_cons (x_isiF EF hm g hz hf (by decide) (by rfl) B.isinstance (by rfl) (pv 3)) (a_cons (x_isiF EF hm g hz hf (by decide) (by rfl) B.isinstance (by rfl) (pv 3)) (a_cons (x_isiF EF hm g hz hf (by decide) (by rfl) B.isinstance (by rfl) (pv 3)) a_nil))))))
       (s_cons (s_set (i := 4) sc__law_refused.nd rfl (by first | exact Or.inl rfl | exact Or.inr rfl) (x_op op_addV d_add (xv 4) (x_lst (a_cons (x_isiF EF hm g hz hf (by decide) (by rfl) B.isinstance (by rfl) (pv 3)) (a_cons (x_isiF EF hm g hz hf (by decide) (by rfl) B.isinstance (by rfl) (pv 3)) (a_cons (x_isiF EF hm g hz hf (by decide) (by rfl) B.isinstance (by rfl) (pv 3)) a_nil))))))
       (s_cons (s_set (i := 5) sc__law_refused.nd rfl (by first | exact Or.inl rfl | exact Or.inr rfl) (x_lst (a_cons x_str (a_cons x_str (a_cons x_str (a_cons x_str (a_cons x_str (a_cons x_str (a_cons x_str (a_cons x_str a_nil))))))))))
       (s_cons (s_if (w_or (t_not (t_val (x_isiVE EF hm g hz hf (by rfl) B.isinstance (by rfl) B.ValueError (pv 3)))) (w_or1 (t_cmp (op_neD hr.units) d_ne (x_op op_addV d_add (xv 4) (x_lst (a_cons (x_isiF EF hm g hz hf (by decide) (by rfl) B.isinstance (by rfl) (pv 3)) a_nil))) (x_lcH (tg := (.nm 6)) (own := [("_law_one", 6)]) (hot_suite hz hf) sc__law_refused.nd (i_listH (xv 5)) (blkOk_by (own := [("_law_one", 6)]) (N := N__law_refused) (sc := defScope (sT 38)) (by decide +kernel)) (fun _ _ _ _ _ => (pg_name (i := 6) sc__law_refused.nd rfl (by first | exact Or.inl rfl | exact Or.inr rfl)))
       (fun _ _ _ _ _ => ts_nil)
       (fun _ _ _ _ _ => (x_cmp (op_eqD hr.units) d_eq (xv 1) (xv 6) (nomark _))) (by decide)) (nomark _)))).pt
       (s_one (s_ret x_bl))
       s_nil)
       (s_cons (s_if (t_cmp (op_eqD hr.units) d_eq (xv 1) x_str (nomark _))
       (s_one (s_ret (x_callH F__law_alike_h ((room_hot hr _).mono (by decide)) (hot_suite hz hf) (by rfl) (a_cons (x_exFF EF hm g hz hf (pv 3)) (a_cons (xv 2) a_nil)))))
       s_nil)
       (s_one (s_ret (x_or (x_cmp (op_neD hr.units) d_ne (xv 1) x_str (nomark _)) (x_one (x_callH F__law_alike_h ((room_hot hr _).mono (by decide)) (hot_suite hz hf) (by rfl) (a_cons (x_exFF EF hm g hz hf (pv 3)) (a_cons (xv 2) a_nil))))))))))))))
       (s_one (s_ret x_bl)))
abbrev N__law_plain : List Str := ["_law_d", "_law_few", "_law_key", "_law_worth", "_law_kind"]
theorem sc__law_plain : FnScope N__law_plain ["_law_d", "_law_few"] (defScope (sT 39)) := ⟨rfl, rfl, rfl, by decide +kernel, rfl, by decide +kernel, by decide +kernel⟩
theorem w__law_plain {P : Program} {w : World} {K : PySem.W.Frag} {mg : Str → Option Value} {base : Heap} {T : Tb} {f : Addr} {fd : FuncData} (F : Fun K "_law_plain" "_law_plain" (sT 39) f fd) (B : Bm mg) (C : Cm K w mg) (F__law_off : DFn P w K mg base T 1 "_law_off" sp__law_off) : FnOk P w K mg base CX0 2 f fd ["_law_d", "_law_few"] (lsp K T sp__law_plain) := by
  refine fn_d F sc__law_plain (fun ds S Q h => ?_) fun cdv A outer s H E hr => ⟨rd__law_plain, ?_, fun ds S R h => ok__law_plain ds S R h⟩
  · simp only [sp__law_plain] at h; first | (obtain ⟨_, rfl, _⟩ := h; rfl) | (obtain ⟨_, _, rfl, _⟩ := h; rfl) | (obtain ⟨_, _, _, rfl, _⟩ := h; rfl) | (obtain ⟨_, _, _, _, rfl, _⟩ := h; rfl)
  · exact (s_cons (s_set (i := 2) sc__law_plain.nd rfl (by first | exact Or.inl rfl | exact Or.inr rfl) (x_ix (hu_of hr) (x_lst (a_cons x_int (a_cons x_int (a_cons x_int (a_cons x_int a_nil))))) (x_call F__law_off (hr.mono (by decide)) (by rfl) (a_cons (xv 0) (a_cons (xv 1) a_nil))) (fun _ _ => rfl)))
       (s_cons (s_if (w_and (t_cmp (op_eqD hr.units) d_eq (xv 1) x_int (nomark _)) (w_and1 (t_cmp (op_eqD hr.units) d_eq (x_call F__law_off (hr.mono (by decide)) (by rfl) (a_cons (xv 0) (a_cons x_int a_nil))) x_int (nomark _)))).pt
       (s_one (s_set (i := 2) sc__law_plain.nd rfl (by first | exact Or.inl rfl | exact Or.inr rfl) (x_ix (hu_of hr) (x_lst (a_cons x_int (a_cons x_int (a_cons (x_call F__law_off (hr.mono (by decide)) (by rfl) (a_cons (xv 0) (a_cons x_int a_nil))) a_nil)))) (x_call F__law_off (hr.mono (by decide)) (by rfl) (a_cons (xv 0) (a_cons x_int a_nil))) (fun _ _ => rfl))))
       s_nil)
       (s_cons (s_set (i := 3) sc__law_plain.nd rfl (by first | exact Or.inl rfl | exact Or.inr rfl) (x_ix (hu_of hr) (x_lst (a_cons (x_call F__law_off (hr.mono (by decide)) (by rfl) (a_cons (xv 0) (a_cons x_int a_nil))) (a_cons (x_call F__law_off (hr.mono (by decide)) (by rfl) (a_cons (xv 0) (a_cons x_int a_nil))) a_nil))) (x_callTy call_int1 d_int (by rfl) B.int (by decide +kernel) (a_cons (x_cmp (op_eqD hr.units) d_eq (x_call F__law_off (hr.mono (by decide)) (by rfl) (a_cons (xv 0) (a_cons x_int a_nil))) x_int (nomark _)) a_nil)) (fun _ _ => rfl)))
       (s_cons (s_set (i := 4) sc__law_plain.nd rfl (by first | exact Or.inl rfl | exact Or.inr rfl) (x_call F__law_off (hr.mono (by decide)) (by rfl) (a_cons (xv 0) (a_cons x_int a_nil))))
       (s_cons (s_if (t_cmp op_lt d_lt (xv 4) x_int (nomark _))
       (s_one (s_ret (x_tup (a_cons x_str (a_cons (xv 2) a_nil)))))
       s_nil)
       (s_cons (s_if (t_cmp (op_eqD hr.units) d_eq (xv 4) x_int (nomark _))
       (s_one (s_ret (x_tup (a_cons x_str (a_cons (xv 2) (a_cons (xv 3) a_nil))))))
       s_nil)
       (s_cons (s_if (t_cmp op_lt d_lt (xv 4) x_int (nomark _))
       (s_one (s_ret (x_tup (a_cons x_str (a_cons (xv 2) (a_cons (x_ix (hu_of hr) (x_lst (a_cons (x_op op_addV d_add x_int (x_call F__law_off (hr.mono (by decide)) (by rfl) (a_cons (xv 0) (a_cons x_int a_nil)))) (a_cons (xv 3) a_nil))) (x_callTy call_int1 d_int (by rfl) B.int (by decide +kernel) (a_cons (x_or (x_cmp (op_eqD hr.units) d_eq (xv 3) x_int (nomark _)) (x_one (x_cmp op_gt d_gt (xv 3) x_int (nomark _)))) a_nil)) (fun _ _ => rfl)) a_nil))))))
       s_nil)
       (s_one (s_ret (x_tup (a_cons x_str (a_cons (xv 2) (a_cons (x_call F__law_off (hr.mono (by decide)) (by rfl) (a_cons (xv 0) (a_cons x_int a_nil))) (a_cons (xv 3) a_nil))))))))))))))
abbrev N__law_done : List Str := ["_law_worths", "_law_deed", "_law_known", "_law_key", "_law_worth", "_law_more", "_law_answer"]
theorem sc__law_done : FnScope N__law_done ["_law_worths", "_law_deed"] (defScope (sT 40)) := ⟨rfl, rfl, rfl, by decide +kernel, rfl, by decide +kernel, by decide +kernel⟩
theorem w__law_done {P : Program} {w : World} {K : PySem.W.Frag} {mg : Str → Option Value} {base : Heap} {T : Tb} {f : Addr} {fd : FuncData} (F : Fun K "_law_done" "_law_done" (sT 40) f fd) (B : Bm mg) (C : Cm K w mg) : FnOk P w K mg base CX0 1 f fd ["_law_worths", "_law_deed"] (lsp K T D4.sp__law_done) := by
  refine fn_d F sc__law_done (fun ds S Q h => ?_) fun cdv A outer s H E hr => ⟨D4.rd__law_done, ?_, fun ds S R h => D4.ok__law_done ds S R h⟩
  · simp only [D4.sp__law_done] at h; first | (obtain ⟨_, rfl, _⟩ := h; rfl) | (obtain ⟨_, _, rfl, _⟩ := h; rfl) | (obtain ⟨_, _, _, rfl, _⟩ := h; rfl) | (obtain ⟨_, _, _, _, rfl, _⟩ := h; rfl)
  · exact (s_cons (s_set (i := 2) sc__law_done.nd rfl (by first | exact Or.inl rfl | exact Or.inr rfl) (x_callTy (call_dictT rfl) d_dict (by rfl) B.dict (by decide +kernel) (a_cons (xv 0) a_nil)))
       (s_cons (s_if (t_cmp (op_eqD hr.units) d_eq (x_ix (hu_of hr) (xv 1) x_int (fun _ _ => rfl)) x_str (nomark _))
       (s_one (s_ret (x_tup (a_cons (x_callTy call_tuple_of d_tup (by rfl) B.tuple (by decide +kernel) (a_cons (x_lc (tg := (.nm 3)) (own := [("_law_key", 3)]) rfl sc__law_done.nd (i_seq (x_ix (hu_of hr) (xv 1) x_int (fun _ _ => rfl))) (blkOk_by (own := [("_law_key", 3)]) (N := N__law_done) (sc := defScope (sT 40)) (by decide +kernel)) (fun _ _ _ _ _ => (pg_name (i := 3) sc__law_done.nd rfl (by first | exact Or.inl rfl | exact Or.inr rfl)))
       (fun _ _ _ _ _ => ts_nil)
       (fun _ _ _ _ _ => (x_get2 (hu_of hr) (xv 2) (xv 3) x_int ⟨rfl, rfl, rfl, rfl⟩)) (by decide)) a_nil)) (a_cons (xv 0) a_nil)))))
       s_nil)
       (s_cons (s_set (i := 4) sc__law_done.nd rfl (by first | exact Or.inl rfl | exact Or.inr rfl) (x_get2 (hu_of hr) (xv 2) (x_ix (hu_of hr) (xv 1) x_int (fun _ _ => rfl)) x_int ⟨rfl, rfl, rfl, rfl⟩))
       (s_cons (s_set (i := 5) sc__law_done.nd rfl (by first | exact Or.inl rfl | exact Or.inr rfl) (x_ix (hu_of hr) (x_disp (xp_cons x_str (xv 4) (xp_cons x_str (x_ix (hu_of hr) (xv 1) (x_neg x_int) (fun _ _ => rfl)) (xp_cons x_str (x_op op_mod d_mod (x_op op_addV d_add (xv 4) (x_ix (hu_of hr) (xv 1) (x_neg x_int) (fun _ _ => rfl))) x_int) (xp_cons x_str (x_ix (hu_of hr) (xv 1) (x_neg x_int) (fun _ _ => rfl)) xp_nil)))) (by rfl) (by rfl) (fun z => by cases z) (by decide)) (x_ix (hu_of hr) (xv 1) x_int (fun _ _ => rfl)) (fun _ _ => rfl)))
       (s_cons (s_if (w_and (t_cmp (op_eqD hr.units) d_eq (x_ix (hu_of hr) (xv 1) x_int (fun _ _ => rfl)) x_str (nomark _)) (w_and1 (t_cmp (op_neD hr.units) d_ne (xv 4) (x_ix (hu_of hr) (xv 1) x_int (fun _ _ => rfl)) (nomark _)))).pt
       (s_one (s_set (i := 5) sc__law_done.nd rfl (by first | exact Or.inl rfl | exact Or.inr rfl) (xv 4)))
       s_nil)
       (s_cons (s_dput (hu_of hr) (xv 2) (x_ix (hu_of hr) (xv 1) x_int (fun _ _ => rfl)) (xv 5))
       (s_cons (s_set (i := 6) sc__law_done.nd rfl (by first | exact Or.inl rfl | exact Or.inr rfl) (x_ix (hu_of hr) (x_disp (xp_cons x_str (xv 4) (xp_cons x_str (xv 4) (xp_cons x_str (xv 5) (xp_cons x_str (x_and (x_cmp (op_eqD hr.units) d_eq (x_ix (hu_of hr) (xv 1) x_int (fun _ _ => rfl)) x_str (nomark _)) (x_one (x_cmp (op_eqD hr.units) d_eq (xv 4) (x_ix (hu_of hr) (xv 1) x_int (fun _ _ => rfl)) (nomark _)))) xp_nil)))) (by rfl) (by rfl) (fun z => by cases z) (by decide)) (x_ix (hu_of hr) (xv 1) x_int (fun _ _ => rfl)) (fun _ _ => rfl)))
       (s_one (s_ret (x_tup (a_cons (xv 6) (a_cons (x_callTy call_tupleP d_tupP (by rfl) B.tuple (by decide +kernel) (a_cons (x_lc (tg := (.nm 3)) (own := [("_law_key", 3)]) rfl sc__law_done.nd (i_seq (x_callB (call_sortedDI rfl) d_sortK (by rfl) B.sorted (by decide +kernel) (a_cons (xv 2) a_nil))) (blkOk_by (own := [("_law_key", 3)]) (N := N__law_done) (sc := defScope (sT 40)) (by decide +kernel)) (fun _ _ _ _ _ => (pg_name (i := 3) sc__law_done.nd rfl (by first | exact Or.inl rfl | exact Or.inr rfl)))
       (fun _ _ _ _ _ => (ts_one (t_cmp op_gt d_gt (x_ix (hu_of hr) (xv 2) (xv 3) (fun _ _ => rfl)) x_int (nomark _))))
       (fun _ _ _ _ _ => (x_tup (a_cons (xv 3) (a_cons (x_ix (hu_of hr) (xv 2) (xv 3) (fun _ _ => rfl)) a_nil)))) (by decide)) a_nil)) a_nil))))))))))))
abbrev N__law_history : List Str := ["_law_d", "_law_most", "_law_many", "_law_first", "_law_rows", "_law_ends", "_law_worths", "_law_moment", "_law_honest", "_law_turn", "_law_asker", "_law_deed", "_law_begin", "_law_answer", "_law_row"]
theorem sc__law_history : FnScope N__law_history ["_law_d", "_law_most"] (defScope (sT 41)) := ⟨rfl, rfl, rfl, by decide +kernel, rfl, by decide +kernel, by decide +kernel⟩
theorem w__law_history {P : Program} {w : World} {K : PySem.W.Frag} {mg : Str → Option Value} {base : Heap} {T : Tb} {f : Addr} {fd : FuncData} (F : Fun K "_law_history" "_law_history" (sT 41) f fd) (B : Bm mg) (C : Cm K w mg) (F__law_done : DFn P w K mg base T 1 "_law_done" D4.sp__law_done) (F__law_off : DFn P w K mg base T 1 "_law_off" sp__law_off) (F__law_plain : DFn P w K mg base T 2 "_law_plain" sp__law_plain) : FnOk P w K mg base CX0 3 f fd ["_law_d", "_law_most"] (lsp K T D4.sp__law_history) := by
  refine fn_d F sc__law_history (fun ds S Q h => ?_) fun cdv A outer s H E hr => ⟨D4.rd__law_history, ?_, fun ds S R h => D4.ok__law_history ds S R h⟩
  · simp only [D4.sp__law_history] at h; first | (obtain ⟨_, rfl, _⟩ := h; rfl) | (obtain ⟨_, _, rfl, _⟩ := h; rfl) | (obtain ⟨_, _, _, rfl, _⟩ := h; rfl) | (obtain ⟨_, _, _, _, rfl, _⟩ := h; rfl)
  · exact (s_cons (s_set (i := 2) sc__law_history.nd rfl (by first | exact Or.inl rfl | exact Or.inr rfl) (x_op op_addV d_add x_int (x_call F__law_off (hr.mono (by decide)) (by rfl) (a_cons (xv 0) (a_cons x_int a_nil)))))
       (s_cons (s_set (i := 3) sc__law_history.nd rfl (by first | exact Or.inl rfl | exact Or.inr rfl) (x_ix (hu_of hr) (x_lst (a_cons x_int (a_cons x_int (a_cons x_int a_nil)))) (x_call F__law_off (hr.mono (by decide)) (by rfl) (a_cons (xv 0) (a_cons x_int a_nil))) (fun _ _ => rfl)))
       (s_cons (s_set (i := 4) sc__law_history.nd rfl (by first | exact Or.inl rfl | exact Or.inr rfl) (x_lstR a_nil))
       (s_cons (s_set (i := 5) sc__law_history.nd rfl (by first | exact Or.inl rfl | exact Or.inr rfl) (x_op op_mulV d_mulR (x_lst (a_cons x_int a_nil)) (xv 2)))
       (s_cons (s_set (i := 6) sc__law_history.nd rfl (by first | exact Or.inl rfl | exact Or.inr rfl) x_tupP0)
       (s_cons (s_set (i := 7) sc__law_history.nd rfl (by first | exact Or.inl rfl | exact Or.inr rfl) x_int)
       (s_cons (s_set (i := 8) sc__law_history.nd rfl (by first | exact Or.inl rfl | exact Or.inr rfl) (x_cmp op_gt d_gt (x_call F__law_off (hr.mono (by decide)) (by rfl) (a_cons (xv 0) (a_cons x_int a_nil))) x_int (nomark _)))
       (s_cons (s_for (tg := (.nm 9)) PassesOwn.never rfl (i_range1 (by rfl) B.range (a_cons (x_call F__law_off (hr.mono (by decide)) (by rfl) (a_cons (xv 0) (a_cons (x_op op_addV d_add (xv 1) x_int) a_nil))) a_nil)) (pg_name (i := 9) sc__law_history.nd rfl (by first | exact Or.inl rfl | exact Or.inr rfl))
       (s_cons (s_set (i := 10) sc__law_history.nd rfl (by first | exact Or.inl rfl | exact Or.inr rfl) (x_call F__law_off (hr.mono (by decide)) (by rfl) (a_cons (xv 0) (a_cons (xv 2) a_nil))))
       (s_one (s_if (t_cmp op_notN d_notN (x_ix (hu_of hr) (xv 5) (xv 10) (fun _ _ => rfl)) x_non (nomark _))
       (s_cons (s_set (i := 11) sc__law_history.nd rfl (by first | exact Or.inl rfl | exact Or.inr rfl) (x_if (t_cmp op_gt d_gt (x_call F__law_off (hr.mono (by decide)) (by rfl) (a_cons (xv 0) (a_cons x_int a_nil))) x_int (nomark _)) (x_call F__law_plain (hr.mono (by decide)) (by rfl) (a_cons (xv 0) (a_cons x_int a_nil))) (x_tup (a_cons x_str (a_cons (x_tup (a_cons x_int (a_cons x_int a_nil))) a_nil)))))
       (s_cons (s_set (i := 7) sc__law_history.nd rfl (by first | exact Or.inl rfl | exact Or.inr rfl) (x_op op_addV d_add (x_op op_addV d_add (xv 7) x_int) (x_call F__law_off (hr.mono (by decide)) (by rfl) (a_cons (xv 0) (a_cons x_int a_nil)))))
       (s_cons (s_set (i := 12) sc__law_history.nd rfl (by first | exact Or.inl rfl | exact Or.inr rfl) (x_callB (call_max2 rfl) d_m2 (by rfl) B.max (by decide +kernel) (a_cons (x_op op_addV d_add (x_ix (hu_of hr) (xv 5) (xv 10) (fun _ _ => rfl)) x_int) (a_cons (x_op op_sub d_sub (xv 7) (x_call F__law_off (hr.mono (by decide)) (by rfl) (a_cons (xv 0) (a_cons x_int a_nil)))) a_nil))))
       (s_cons (s_asg (tg := (.tp [13, 6])) (x_call F__law_done (hr.mono (by decide)) (by rfl) (a_cons (xv 6) (a_cons (xv 11) a_nil))) (pg_tup rfl (pgs_cons (pg_name (i := 13) sc__law_history.nd rfl (by first | exact Or.inl rfl | exact Or.inr rfl)) (pgs_cons (pg_name (i := 6) sc__law_history.nd rfl (by first | exact Or.inl rfl | exact Or.inr rfl)) pgs_nil))))
       (s_cons (s_if (t_not (t_val (xv 8)))
       (s_one (s_set (i := 13) sc__law_history.nd rfl (by first | exact Or.inl rfl | exact Or.inr rfl) (x_ix (hu_of hr) (x_call F__law_done (hr.mono (by decide)) (by rfl) (a_cons x_tupP0 (a_cons (xv 11) a_nil))) x_int (fun _ _ => rfl))))
       s_nil)
       (s_cons (s_setIx (xv 5) (xv 10) (x_callB (call_max2 rfl) d_m2 (by rfl) B.max (by decide +kernel) (a_cons (x_op op_addV d_add (xv 12) x_int) (a_cons (x_op op_addV d_add (xv 7) (x_call F__law_off (hr.mono (by decide)) (by rfl) (a_cons (xv 0) (a_cons x_int a_nil)))) a_nil))))
       (s_cons (s_set (i := 14) sc__law_history.nd rfl (by first | exact Or.inl rfl | exact Or.inr rfl) (x_tup (a_cons (x_op op_addV d_add (xv 3) (xv 10)) (a_cons (xv 11) (a_cons (xv 12) (a_cons (x_ix (hu_of hr) (xv 5) (xv 10) (fun _ _ => rfl)) (a_cons (xv 13) a_nil)))))))
       (s_cons (s_if (t_cmp (op_eqD hr.units) d_eq (x_call F__law_off (hr.mono (by decide)) (by rfl) (a_cons (xv 0) (a_cons x_int a_nil))) x_int (nomark _))
       (s_cons (s_setIx (xv 5) (xv 10) x_non)
       (s_one (s_set (i := 14) sc__law_history.nd rfl (by first | exact Or.inl rfl | exact Or.inr rfl) (x_tup (a_cons (x_op op_addV d_add (xv 3) (xv 10)) (a_cons (xv 11) (a_cons (xv 12) (a_cons x_non (a_cons x_non a_nil)))))))))
       s_nil)
       (s_one (s_expr (x_ml PySem.F.slot_list_append PySem.F.type_list_append mt_append d_append (xv 4) (a_cons (xv 14) a_nil))))))))))))
       s_nil))))
       (s_one (s_ret (xv 4)))))))))))
abbrev N__law_bad_row : List Str := ["_law_d", "_law_rows", "_law_at", "_law_ends", "_law_row", "_law_some", "_law_far", "_law_asker"]
theorem sc__law_bad_row : FnScope N__law_bad_row ["_law_d", "_law_rows", "_law_at"] (defScope (sT 42)) := ⟨rfl, rfl, rfl, by decide +kernel, rfl, by decide +kernel, by decide +kernel⟩
theorem w__law_bad_row {P : Program} {w : World} {K : PySem.W.Frag} {mg : Str → Option Value} {base : Heap} {T : Tb} {f : Addr} {fd : FuncData} (F : Fun K "_law_bad_row" "_law_bad_row" (sT 42) f fd) (B : Bm mg) (C : Cm K w mg) (F__law_off : DFn P w K mg base T 1 "_law_off" sp__law_off) : FnOk P w K mg base CX0 2 f fd ["_law_d", "_law_rows", "_law_at"] (lsp K T D4.sp__law_bad_row) := by
  refine fn_d F sc__law_bad_row (fun ds S Q h => ?_) fun cdv A outer s H E hr => ⟨D4.rd__law_bad_row, ?_, fun ds S R h => D4.ok__law_bad_row ds S R h⟩
  · simp only [D4.sp__law_bad_row] at h; first | (obtain ⟨_, rfl, _⟩ := h; rfl) | (obtain ⟨_, _, rfl, _⟩ := h; rfl) | (obtain ⟨_, _, _, rfl, _⟩ := h; rfl) | (obtain ⟨_, _, _, _, rfl, _⟩ := h; rfl)
  · exact (s_cons (s_set (i := 3) sc__law_bad_row.nd rfl (by first | exact Or.inl rfl | exact Or.inr rfl) x_newK)
       (s_cons (s_for (tg := (.nm 4)) PassesOwn.never rfl (i_seq (x_slice (xv 1) o_none (o_some (xv 2)))) (pg_name (i := 4) sc__law_bad_row.nd rfl (by first | exact Or.inl rfl | exact Or.inr rfl))
       (s_one (s_dput (hu_of hr) (xv 3) (x_ix (hu_of hr) (xv 4) x_int (fun _ _ => rfl)) (x_ix (hu_of hr) (xv 4) x_int (fun _ _ => rfl)))))
       (s_cons (s_set (i := 5) sc__law_bad_row.nd rfl (by first | exact Or.inl rfl | exact Or.inr rfl) (x_lst (a_cons x_tupP0 (a_cons (x_tup (a_cons x_int (a_cons (x_tup (a_cons x_str (a_cons x_int a_nil))) (a_cons x_int (a_cons x_int a_nil))))) (a_cons (x_tup (a_cons x_int (a_cons (x_tup (a_cons x_str (a_cons x_int a_nil))) (a_cons x_int (a_cons x_int (a_cons x_int a_nil)))))) (a_cons (x_tup (a_cons x_int (a_cons (x_tup (a_cons x_str (a_cons x_int a_nil))) (a_cons x_int (a_cons x_int (a_cons x_int a_nil)))))) a_nil))))))
       (s_cons (s_set (i := 5) sc__law_bad_row.nd rfl (by first | exact Or.inl rfl | exact Or.inr rfl) (x_op op_addV d_add (xv 5) (x_lst (a_cons (x_tup (a_cons x_int (a_cons (x_tup (a_cons x_str (a_cons x_int a_nil))) (a_cons x_int (a_cons x_int (a_cons x_int a_nil)))))) (a_cons (x_tup (a_cons x_int (a_cons (x_tup (a_cons x_str (a_cons x_int a_nil))) (a_cons x_int (a_cons x_int (a_cons x_int a_nil)))))) (a_cons (x_tup (a_cons x_int (a_cons (x_tup (a_cons x_str (a_cons x_int a_nil))) (a_cons x_int (a_cons x_non (a_cons x_int a_nil)))))) a_nil))))))
       (s_cons (s_set (i := 5) sc__law_bad_row.nd rfl (by first | exact Or.inl rfl | exact Or.inr rfl) (x_op op_addV d_add (xv 5) (x_lst (a_cons (x_tup (a_cons x_int (a_cons (x_tup (a_cons x_str (a_cons x_int a_nil))) (a_cons x_int (a_cons x_int (a_cons x_non a_nil)))))) (a_cons (x_tup (a_cons x_int (a_cons (x_tup (a_cons x_str (a_cons x_int a_nil))) (a_cons x_int (a_cons x_non (a_cons x_non a_nil)))))) (a_cons (x_tup (a_cons x_int (a_cons x_tupP0 (a_cons x_int (a_cons x_int (a_cons x_int a_nil)))))) a_nil))))))
       (s_cons (s_set (i := 6) sc__law_bad_row.nd rfl (by first | exact Or.inl rfl | exact Or.inr rfl) (x_callB (call_max2 rfl) d_m2 (by rfl) B.max (by decide +kernel) (a_cons x_int (a_cons (x_op op_sub d_sub (x_call F__law_off (hr.mono (by decide)) (by rfl) (a_cons (xv 0) (a_cons (x_op op_pow d_pow x_int x_int) a_nil))) x_int) a_nil))))
       (s_cons (s_for (tg := (.nm 7)) PassesOwn.never rfl (i_seq (x_lst (a_cons (x_op op_sub d_sub (x_neg x_int) (xv 6)) (a_cons x_int (a_cons (x_op op_addV d_add x_int (xv 6)) (a_cons x_int (a_cons x_bl (a_cons x_non (a_cons x_str (a_cons (x_tup (a_cons x_int a_nil)) a_nil)))))))))) (pg_name (i := 7) sc__law_bad_row.nd rfl (by first | exact Or.inl rfl | exact Or.inr rfl))
       (s_one (s_set (i := 5) sc__law_bad_row.nd rfl (by first | exact Or.inl rfl | exact Or.inr rfl) (x_op op_addV d_add (xv 5) (x_lst (a_cons (x_tup (a_cons (xv 7) (a_cons (x_tup (a_cons x_str (a_cons x_int a_nil))) (a_cons x_int (a_cons x_int (a_cons x_int a_nil)))))) (a_cons (x_tup (a_cons (xv 7) (a_cons (x_tup (a_cons x_str (a_cons (x_tup (a_cons x_int a_nil)) a_nil))) (a_cons x_int (a_cons x_non (a_cons x_non a_nil)))))) a_nil)))))))
       (s_cons (s_for (tg := (.nm 7)) PassesOwn.never rfl (i_seq (x_callB (call_sortedDI rfl) d_sortK (by rfl) B.sorted (by decide +kernel) (a_cons (xv 3) a_nil))) (pg_name (i := 7) sc__law_bad_row.nd rfl (by first | exact Or.inl rfl | exact Or.inr rfl))
       (s_one (s_if (t_cmp op_isN d_isN (x_ix (hu_of hr) (xv 3) (xv 7) (fun _ _ => rfl)) x_non (nomark _))
       (s_one (s_set (i := 5) sc__law_bad_row.nd rfl (by first | exact Or.inl rfl | exact Or.inr rfl) (x_op op_addV d_add (xv 5) (x_op op_mulV d_mul (x_lst (a_cons (x_tup (a_cons (xv 7) (a_cons (x_tup (a_cons x_str (a_cons x_int a_nil))) (a_cons x_int (a_cons x_int (a_cons x_int a_nil)))))) a_nil)) x_int))))
       (s_one (s_set (i := 5) sc__law_bad_row.nd rfl (by first | exact Or.inl rfl | exact Or.inr rfl) (x_op op_addV d_add (xv 5) (x_lst (a_cons (x_tup (a_cons (xv 7) (a_cons (x_tup (a_cons x_str (a_cons x_int a_nil))) (a_cons (x_ix (hu_of hr) (xv 3) (xv 7) (fun _ _ => rfl)) (a_cons x_int (a_cons x_int a_nil)))))) (a_cons (x_tup (a_cons (xv 7) (a_cons (x_tup (a_cons x_str (a_cons x_int a_nil))) (a_cons x_int (a_cons x_non (a_cons x_non a_nil)))))) a_nil)))))))))
       (s_one (s_ret (x_ix (hu_of hr) (xv 5) (x_call F__law_off (hr.mono (by decide)) (by rfl) (a_cons (xv 0) (a_cons (x_callB call_len d_len (by rfl) B.len (by decide +kernel) (a_cons (xv 5) a_nil)) a_nil))) (fun _ _ => rfl))))))))))))
abbrev N_law : List Str := ["_law_script", "_law_d", "_law_turn", "_law_rows", "_law_at", "_law_bad", "_law_works", "_law_work", "_law_long", "_law_k"]
theorem sc_law : FnScope N_law ["_law_script"] (defScope (sT 43)) := ⟨rfl, rfl, rfl, by decide +kernel, rfl, by decide +kernel, by decide +kernel⟩
abbrev asgE (s : Stmt) : Expr := match s with | .Assign _ e _ => e | _ => .Name "" ⟨0, 0, 0, 0⟩
abbrev forB (s : Stmt) : List Stmt := match s with | .For _ _ b _ _ => b | _ => []
abbrev lstE (e : Expr) (i : Nat) : Expr := match e with | .List es _ => es.getD i (.Name "" ⟨0, 0, 0, 0⟩) | _ => e
abbrev lamP (e : Expr) : Arguments := match e with | .Lambda a _ _ _ => a | _ => { posonlyargs := [], args := [], vararg := none, kwonlyargs := [], kw_defaults := [], kwarg := none, defaults := [] }
abbrev lamB (e : Expr) : Expr := match e with | .Lambda _ b _ _ => b | _ => e
abbrev lamS (s0 : Scope) (e : Expr) : Scope := match e with | .Lambda _ _ s _ => s | _ => s0
abbrev lx0 : Expr := lstE (asgE ((forB ((defBody (sT 43)).getD 1 (.Pass ⟨0, 0, 0, 0⟩))).getD 3 (.Pass ⟨0, 0, 0, 0⟩))) 1
abbrev lx1 : Expr := lstE (asgE ((forB ((defBody (sT 43)).getD 1 (.Pass ⟨0, 0, 0, 0⟩))).getD 3 (.Pass ⟨0, 0, 0, 0⟩))) 0
abbrev lx2 : Expr := lstE (asgE ((forB ((defBody (sT 43)).getD 1 (.Pass ⟨0, 0, 0, 0⟩))).getD 6 (.Pass ⟨0, 0, 0, 0⟩))) 1
abbrev lx3 : Expr := lstE (asgE ((forB ((defBody (sT 43)).getD 1 (.Pass ⟨0, 0, 0, 0⟩))).getD 6 (.Pass ⟨0, 0, 0, 0⟩))) 0
abbrev Lk (cells : List (Str × Addr)) (qual : Str) (e : Expr) : Addr → Option Addr → LF := mkLF cells qual (lamP e) (lamB e) (lamS (defScope (sT 43)) e)
def Lw (cells : List (Str × Addr)) (qual : Str) : Nat → Addr → Option Addr → LF
  | 0 => Lk cells qual lx0
  | 1 => Lk cells qual lx1
  | 2 => Lk cells qual lx2
  | 3 => Lk cells qual lx3
  | _ => Lk cells qual lx0
theorem ns0 : NdefX.nscB ["_law_a", "_law_bad"] ["_law_a"] ["_law_bad"] (lamS (defScope (sT 43)) lx0) = true := by decide +kernel
theorem nf0 : NdefX.ndefB (defScope (sT 43)) (lamS (defScope (sT 43)) lx0) ["_law_bad"] = true := by decide +kernel
theorem ns1 : NdefX.nscB ["_law_bad"] [] ["_law_bad"] (lamS (defScope (sT 43)) lx1) = true := by decide +kernel
theorem nf1 : NdefX.ndefB (defScope (sT 43)) (lamS (defScope (sT 43)) lx1) ["_law_bad"] = true := by decide +kernel
theorem ns2 : NdefX.nscB ["_law_a", "_law_long"] ["_law_a"] ["_law_long"] (lamS (defScope (sT 43)) lx2) = true := by decide +kernel
theorem nf2 : NdefX.ndefB (defScope (sT 43)) (lamS (defScope (sT 43)) lx2) ["_law_long"] = true := by decide +kernel
theorem ns3 : NdefX.nscB ["_law_long"] [] ["_law_long"] (lamS (defScope (sT 43)) lx3) = true := by decide +kernel
theorem nf3 : NdefX.ndefB (defScope (sT 43)) (lamS (defScope (sT 43)) lx3) ["_law_long"] = true := by decide +kernel
theorem lo0 {P : Program} {w : World} {K : PySem.W.Frag} {mg : Str → Option Value} {base : Heap} {T : Tb} {cells : List (Str × Addr)} {qual : Str} (F : DFy P w K mg base T 5 "written" D4.spy_written) (c t : Addr) : LOk P w K mg base T 16 (Lw cells qual 0 c (some t)) ["_law_bad"] D4.beW :=
  lok_ofD (a := "_law_a") (F := Lw cells qual 0 c (some t)) (t := t) (Ψ := dCallY D4.spy_written (dCons (dVar 1) dNil)) (NdefX.nscope_by ns0) rfl (fun pm ctv u => ⟨_, rfl, rfl⟩) fun A outer s H f E hr => xy_call (L2N.takes_of rfl rfl rfl rfl) F (hr.mono (by decide)) (by rfl) (a_cons (xv 1) a_nil)
theorem lo1 {P : Program} {w : World} {K : PySem.W.Frag} {mg : Str → Option Value} {base : Heap} {T : Tb} {cells : List (Str × Addr)} {qual : Str} (F : DFy P w K mg base T 15 "judged" D4.spy_judged) (c : Addr) : LOk P w K mg base T 16 (Lw cells qual 1 c none) ["_law_bad"] D4.beJ :=
  lok_of (F := Lw cells qual 1 c none) (Ψ := dCallY D4.spy_judged (dCons (dVar 0) dNil)) (NdefX.nscope_by ns1) rfl (fun pm ctv => rfl) fun A outer s H f E hr => xy_call (L2N.takes_of rfl rfl rfl rfl) F (hr.mono (by decide)) (by rfl) (a_cons (xv 0) a_nil)
theorem lo2 {P : Program} {w : World} {K : PySem.W.Frag} {mg : Str → Option Value} {base : Heap} {T : Tb} {cells : List (Str × Addr)} {qual : Str} (F : DFy P w K mg base T 5 "written" D4.spy_written) (c t : Addr) : LOk P w K mg base T 16 (Lw cells qual 2 c (some t)) ["_law_long"] D4.beW :=
  lok_ofD (a := "_law_a") (F := Lw cells qual 2 c (some t)) (t := t) (Ψ := dCallY D4.spy_written (dCons (dVar 1) dNil)) (NdefX.nscope_by ns2) rfl (fun pm ctv u => ⟨_, rfl, rfl⟩) fun A outer s H f E hr => xy_call (L2N.takes_of rfl rfl rfl rfl) F (hr.mono (by decide)) (by rfl) (a_cons (xv 1) a_nil)
theorem lo3 {P : Program} {w : World} {K : PySem.W.Frag} {mg : Str → Option Value} {base : Heap} {T : Tb} {cells : List (Str × Addr)} {qual : Str} (F : DFy P w K mg base T 15 "judged" D4.spy_judged) (c : Addr) : LOk P w K mg base T 16 (Lw cells qual 3 c none) ["_law_long"] D4.beJ :=
  lok_of (F := Lw cells qual 3 c none) (Ψ := dCallY D4.spy_judged (dCons (dVar 0) dNil)) (NdefX.nscope_by ns3) rfl (fun pm ctv => rfl) fun A outer s H f E hr => xy_call (L2N.takes_of rfl rfl rfl rfl) F (hr.mono (by decide)) (by rfl) (a_cons (xv 0) a_nil)
theorem w_law {P : Program} {w : World} {K : PySem.W.Frag} {mg : Str → Option Value} {base : Heap} {T : Tb} {f : Addr} {c Q : Addr} {oc : Value} {od an : Option Addr} {osl : Array (Option Value)} {kV doc pm ct : Value} (lk : K.lookup f = some ⟨oc, od, .func (PySem.W.fnOf "law" "law" (defArgs (sT 43)) (defBody (sT 43)) (defScope (sT 43)) .none kV doc pm an (.ref c) ct), osl⟩) (hcd : PySem.W.codeIn K (.ref c) "law" = true) (TB : TabB base mg c Q) (hT : (Q, ("law.<locals>.<lambda>" : Str)) ∈ T) (hTu : ∀ p ∈ T, p.1 = Q → p.2 = "law.<locals>.<lambda>") (B : Bm mg) (C : Cm K w mg) (F__law_bad_row : DFn P w K mg base T 2 "_law_bad_row" D4.sp__law_bad_row) (F__law_dice : DFn P w K mg base T 1 "_law_dice" sp__law_dice) (F__law_history : DFn P w K mg base T 3 "_law_history" D4.sp__law_history) (F__law_off : DFn P w K mg base T 1 "_law_off" sp__law_off) (F__law_refused : DGn P w K mg base T 16 "_law_refused" D4.spg__law_refused) (F_judged : DFy P w K mg base T 15 "judged" D4.spy_judged) (F_written : DFy P w K mg base T 5 "written" D4.spy_written) :
    FnOk P w K mg base CX0 18 f (PySem.W.fnOf "law" "law" (defArgs (sT 43)) (defBody (sT 43)) (defScope (sT 43)) .none kV doc pm an (.ref c) ct) ["_law_script"] (lsp K T spLaw) := by
  refine fn_dc lk hcd sc_law (fun ds S Q h => ?_) fun A outer s H E hr => ?_
  · obtain ⟨ns, rfl, _⟩ := h; rfl
  · have hKB : ∀ (own : List Nat) (ho : own = [7] := by rfl) (F : LF) (js : List Nat) (b : DSy), D4.Kn_law (Lw (envOfC "law" (defScope (sT 43)) s.heap.objs.size f (.ref c)).cells (envOfC "law" (defScope (sT 43)) s.heap.objs.size f (.ref c)).qual) F js b → (∀ i ∈ js, i ∉ own) ∧ ∃ fr, (((cxOf CX0 P w K mg base N_law "law" (defScope (sT 43)) f (.ref c) A outer s H E).nox).Ok → NdefX.Caps ((cxOf CX0 P w K mg base N_law "law" (defScope (sT 43)) f (.ref c) A outer s H E).nox) F.cl fr js) ∧ LOk P w K mg base T 16 F fr b := by
      intro own ho F js b kn
      subst ho
      rcases kn with ⟨⟨c', rfl⟩, rfl, rfl⟩ | ⟨⟨c', t, rfl⟩, rfl, rfl⟩ | ⟨⟨c', rfl⟩, rfl, rfl⟩ | ⟨⟨c', t, rfl⟩, rfl, rfl⟩
      · exact ⟨by decide, ["_law_bad"], fun ok => NdefX.Caps.made ok (NdefX.ndef_free nf1) (NdefX.ndef_fr nf1) rfl, lo1 F_judged c'⟩
      · exact ⟨by decide, ["_law_bad"], fun ok => NdefX.Caps.made ok (NdefX.ndef_free nf0) (NdefX.ndef_fr nf0) rfl, lo0 F_written c' t⟩
      · exact ⟨by decide, ["_law_long"], fun ok => NdefX.Caps.made ok (NdefX.ndef_free nf3) (NdefX.ndef_fr nf3) rfl, lo3 F_judged c'⟩
      · exact ⟨by decide, ["_law_long"], fun ok => NdefX.Caps.made ok (NdefX.ndef_free nf2) (NdefX.ndef_fr nf2) rfl, lo2 F_written c' t⟩
    refine ⟨D4.rd_law (Lw (envOfC "law" (defScope (sT 43)) s.heap.objs.size f (.ref c)).cells (envOfC "law" (defScope (sT 43)) s.heap.objs.size f (.ref c)).qual), ?_, fun ds S R h => D4.ok_law _ ds S R h⟩
    exact (s_cons (s_set (i := 1) sc_law.nd rfl (by first | exact Or.inl rfl | exact Or.inr rfl) (x_call F__law_dice (hr.mono (by decide)) (by rfl) (a_cons (xv 0) (a_cons x_int a_nil))))
       (s_cons (s_for (tg := (.nm 2)) PassesOwn.never rfl (i_range1 (by rfl) B.range (a_cons x_int a_nil)) (pg_name (i := 2) sc_law.nd rfl (by first | exact Or.inl rfl | exact Or.inr rfl))
       (s_cons (s_set (i := 3) sc_law.nd rfl (by first | exact Or.inl rfl | exact Or.inr rfl) (x_frz (x_call F__law_history (hr.mono (by decide)) (by rfl) (a_cons (xv 1) (a_cons x_int a_nil)))))
       (s_cons (s_set (i := 4) sc_law.nd rfl (by first | exact Or.inl rfl | exact Or.inr rfl) (x_call F__law_off (hr.mono (by decide)) (by rfl) (a_cons (xv 1) (a_cons (x_op op_addV d_add (x_callB call_len d_len (by rfl) B.len (by decide +kernel) (a_cons (xv 3) a_nil)) x_int) a_nil))))
       (s_cons (s_set (i := 5) sc_law.nd rfl (by first | exact Or.inl rfl | exact Or.inr rfl) (x_op op_addV d_add (x_op op_addV d_add (x_op op_addV d_add (x_slice (xv 3) o_none (o_some (xv 4))) (x_lst (a_cons (x_call F__law_bad_row (hr.mono (by decide)) (by rfl) (a_cons (xv 1) (a_cons (xv 3) (a_cons (xv 4) a_nil)))) a_nil))) (x_slice (xv 3) (o_some (xv 4)) o_none)) (x_op op_mulV d_mul (x_lst (a_cons x_tupP0 a_nil)) (x_call F__law_off (hr.mono (by decide)) (by rfl) (a_cons (xv 1) (a_cons x_int a_nil))))))
       (s_cons (s_set (i := 6) sc_law.nd rfl (by first | exact Or.inl rfl | exact Or.inr rfl) (x_lst (a_cons (x_lam TB rfl hT hTu (NdefX.ndef_free nf1) rfl) (a_cons (x_lamD TB rfl hT hTu (NdefX.ndef_free nf0) pe_int rfl) a_nil))))
       (s_cons (s_if (t_cmp (op_neD hr.units) d_ne (x_lcG (tg := (.nm 7)) (own := [("_law_work", 7)]) rfl sc_law.nd (i_seq (xv 6)) (blkOk_by (own := [("_law_work", 7)]) (N := N_law) (sc := defScope (sT 43)) (by decide +kernel)) (fun _ _ _ _ _ => (pg_name (i := 7) sc_law.nd rfl (by first | exact Or.inl rfl | exact Or.inr rfl)))
       (fun pins σ s H C2 cl2 fp I0 hfp _ => tp_not (tp_val (x_callGB I0 hfp F__law_refused (hr.mono (by decide)) (fun _ => rfl) (hKB [7]) (by rfl) (a_cons (xv 7) (a_cons x_str (a_cons (xv 4) a_nil))))))
       (fun _ _ _ _ _ => (xv 7)) (by decide)) (x_lst a_nil) (nomark _))
       (s_one (s_ret x_bl))
       s_nil)
       (s_cons (s_set (i := 8) sc_law.nd rfl (by first | exact Or.inl rfl | exact Or.inr rfl) (x_lc (tg := (.nm 9)) (own := [("_law_k", 9)]) rfl sc_law.nd (i_range1 (by rfl) B.range (a_cons (x_op op_addV d_add x_int (x_call F__law_off (hr.mono (by decide)) (by rfl) (a_cons (xv 1) (a_cons x_int a_nil)))) a_nil)) (blkOk_by (own := [("_law_k", 9)]) (N := N_law) (sc := defScope (sT 43)) (by decide +kernel)) (fun _ _ _ _ _ => (pg_name (i := 9) sc_law.nd rfl (by first | exact Or.inl rfl | exact Or.inr rfl)))
       (fun _ _ _ _ _ => ts_nil)
       (fun _ _ _ _ _ => (x_tup (a_cons x_int (a_cons (x_tup (a_cons x_str (a_cons x_int a_nil))) (a_cons (x_op op_mulV d_mul x_int (xv 9)) (a_cons (x_op op_addV d_add (x_op op_mulV d_mul x_int (xv 9)) x_int) (a_cons x_int a_nil))))))) (by decide)))
       (s_cons (s_set (i := 6) sc_law.nd rfl (by first | exact Or.inl rfl | exact Or.inr rfl) (x_lst (a_cons (x_lam TB rfl hT hTu (NdefX.ndef_free nf3) rfl) (a_cons (x_lamD TB rfl hT hTu (NdefX.ndef_free nf2) pe_int rfl) a_nil))))
       (s_cons (s_if (t_cmp (op_neD hr.units) d_ne (x_lcG (tg := (.nm 7)) (own := [("_law_work", 7)]) rfl sc_law.nd (i_seq (xv 6)) (blkOk_by (own := [("_law_work", 7)]) (N := N_law) (sc := defScope (sT 43)) (by decide +kernel)) (fun _ _ _ _ _ => (pg_name (i := 7) sc_law.nd rfl (by first | exact Or.inl rfl | exact Or.inr rfl)))
       (fun pins σ s H C2 cl2 fp I0 hfp _ => tp_not (tp_val (x_callGB I0 hfp F__law_refused (hr.mono (by decide)) (fun _ => rfl) (hKB [7]) (by rfl) (a_cons (xv 7) (a_cons x_str (a_cons x_int a_nil))))))
       (fun _ _ _ _ _ => (xv 7)) (by decide)) (x_lst a_nil) (nomark _))
       (s_one (s_ret x_bl))
       s_nil)
       (s_one (s_if (w_or (t_not (t_val (x_isi (C := "str") (x_callN2 F_written (hr.mono (by decide)) (by rfl) (a_cons (xv 3) a_nil)) (by rfl) B.isinstance (by rfl) B.str (by decide +kernel)))) (w_or1 (t_cmp op_isN d_isN (x_callN2 F_judged (hr.mono (by decide)) (by rfl) (a_cons (x_slice (xv 8) o_none (o_some x_int)) a_nil)) x_non (nomark _)))).pt
       (s_one (s_ret x_bl))
       s_nil)))))))))))
       (s_one (s_ret x_bl))))
end K05

set_option Elab.async false
set_option linter.all false
set_option maxRecDepth 100000
namespace K05
open PySem PySem.Spec PyProof.Rows L2 LamX Dl
theorem tabIn_of {K : PySem.W.Frag} {x : Str} {f c Q : Addr} {oc oC : Value} {od oD : Option Addr} {fd : FuncData} {osl slC : Array (Option Value)} {vC : Array Value} (a : PySem.W.nsIn K mainGlobals x = some (some (.ref f))) (l : K.lookup f = some ⟨oc, od, .func fd, osl⟩) (e : fd.code = .ref c) (t : K.lookup c = some ⟨oC, oD, .fields vC, slC⟩) (p : (vC[11]? : Option Value) = some (.ref Q)) : PySem.W.tabIn K x = some (c, Q) := by
  unfold PySem.W.tabIn
  simp only [a, l, e, t, p]
theorem rs (x : Str) (t : Tok) : RelV (.str x) (.str x t) := ⟨t, rfl⟩
/-- facts of a class of errors -/
structure Erk (K : PySem.W.Frag) (C : Addr) : Prop where
  cl : (PySem.W.clsIn K C).isSome = true
  ga : PySem.W.findIn K (.ref C) "__getattribute__" = some (some (.builtin "BaseException.__getattribute__"))
  gg : PySem.W.findIn K (.ref C) "__getattr__" = some none
  sb : PySem.W.subIn K (.ref C) (.type "BaseException") = some true
  ha : PySem.W.findIn K (.ref C) "__class__" = some (some (.builtin "object.__class__"))
  hn : PySem.W.specialIn K (.builtin "object.__class__") "__get__" = some (some (.builtin "getset_descriptor.__get__"))
  htk : PySem.W.takesIn K (.builtin "object.__class__") = some true
  hm : PySem.W.mroIn K C (.type "object") = some true
  hd : PySem.W.hasDictIn K C = true
theorem all_mk {P q : Program} {w : World} {K : PySem.W.Frag} {h : Heap} {mg : Str → Option Value} {fa : Addr} (X : K.In h) (G : h.Ns mainGlobals mg) (hfa : mg "law" = some (.ref fa))
    (tabs : ∀ (y : Str) (c Q : Addr), ((PyProof.Rows.recsOf q).find? (fun e => e.name == y)).isSome = true → PySem.W.tabIn K y = some (c, Q) → PySem.W.CodeHd h c Q ∧ h.get? Q = some { cls := .none, data := .fields #[] })
    {f0 f1 f2 f3 f4 f5 f6 f7 f8 f9 f10 f11 f12 f13 f14 f15 f16 f17 f18 f19 f20 f21 c21 q21 k_SHAPES p_PLAIN C_SplitError C_BadDeed C_BadRange C_BadHouse C_BadAsker C_Busy C_BadLetter C_BadHistory C_BadText f_BadHistory : Addr} {od0 an0 od1 an1 od2 an2 od3 an3 od4 an4 od5 an5 od6 an6 od7 an7 od8 an8 od9 an9 od10 an10 od11 an11 od12 an12 od13 an13 od14 an14 od15 an15 od16 an16 od17 an17 od18 an18 od19 an19 od20 an20 od21 an21 od_BadHistory an_BadHistory : Option Addr} {sl0 sl1 sl2 sl3 sl4 sl5 sl6 sl7 sl8 sl9 sl10 sl11 sl12 sl13 sl14 sl15 sl16 sl17 sl18 sl19 sl20 sl21 sl_BadHistory : Array (Option Value)} {oc0 kV0 dc0 pm0 ct0 cd0 oc1 kV1 dc1 pm1 ct1 cd1 oc2 kV2 dc2 pm2 ct2 cd2 oc3 kV3 dc3 pm3 ct3 cd3 oc4 kV4 dc4 pm4 ct4 cd4 oc5 kV5 dc5 pm5 ct5 cd5 oc6 kV6 dc6 pm6 ct6 cd6 oc7 kV7 dc7 pm7 ct7 cd7 oc8 kV8 dc8 pm8 ct8 cd8 oc9 kV9 dc9 pm9 ct9 cd9 oc10 kV10 dc10 pm10 ct10 cd10 oc11 kV11 dc11 pm11 ct11 cd11 oc12 kV12 dc12 pm12 ct12 cd12 oc13 kV13 dc13 pm13 ct13 cd13 oc14 kV14 dc14 pm14 ct14 cd14 oc15 kV15 dc15 pm15 ct15 cd15 oc16 kV16 dc16 pm16 ct16 cd16 oc17 kV17 dc17 pm17 ct17 cd17 oc18 kV18 dc18 pm18 ct18 cd18 oc19 kV19 dc19 pm19 ct19 cd19 oc20 kV20 dc20 pm20 ct20 cd20 oc21 kV21 dc21 pm21 ct21 oc_BadHistory kV_BadHistory dc_BadHistory pm_BadHistory ct_BadHistory cd_BadHistory : Value}
    (a0 : PySem.W.nsIn K mainGlobals "is_below" = some (some (.ref f0)))
    (l0 : K.lookup f0 = some ⟨oc0, od0, .func (PySem.W.fnOf "is_below" "is_below" (defArgs (sT 16)) (defBody (sT 16)) (defScope (sT 16)) .none kV0 dc0 pm0 an0 cd0 ct0), sl0⟩) (c_0 : PySem.W.codeIn K cd0 "is_below" = true) (k0 : PySem.W.keepIn K (.ref f0) = true)
    (a1 : PySem.W.nsIn K mainGlobals "is_deed" = some (some (.ref f1)))
    (l1 : K.lookup f1 = some ⟨oc1, od1, .func (PySem.W.fnOf "is_deed" "is_deed" (defArgs (sT 17)) (defBody (sT 17)) (defScope (sT 17)) .none kV1 dc1 pm1 an1 cd1 ct1), sl1⟩) (c_1 : PySem.W.codeIn K cd1 "is_deed" = true) (k1 : PySem.W.keepIn K (.ref f1) = true)
    (a2 : PySem.W.nsIn K mainGlobals "worth_behind" = some (some (.ref f2)))
    (l2 : K.lookup f2 = some ⟨oc2, od2, .func (PySem.W.fnOf "worth_behind" "worth_behind" (defArgs (sT 18)) (defBody (sT 18)) (defScope (sT 18)) .none kV2 dc2 pm2 an2 cd2 ct2), sl2⟩) (c_2 : PySem.W.codeIn K cd2 "worth_behind" = true) (k2 : PySem.W.keepIn K (.ref f2) = true)
    (a3 : PySem.W.nsIn K mainGlobals "is_row" = some (some (.ref f3)))
    (l3 : K.lookup f3 = some ⟨oc3, od3, .func (PySem.W.fnOf "is_row" "is_row" (defArgs (sT 22)) (defBody (sT 22)) (defScope (sT 22)) .none kV3 dc3 pm3 an3 cd3 ct3), sl3⟩) (c_3 : PySem.W.codeIn K cd3 "is_row" = true) (k3 : PySem.W.keepIn K (.ref f3) = true)
    (a4 : PySem.W.nsIn K mainGlobals "need_history" = some (some (.ref f4)))
    (l4 : K.lookup f4 = some ⟨oc4, od4, .func (PySem.W.fnOf "need_history" "need_history" (defArgs (sT 23)) (defBody (sT 23)) (defScope (sT 23)) .none kV4 dc4 pm4 an4 cd4 ct4), sl4⟩) (c_4 : PySem.W.codeIn K cd4 "need_history" = true) (k4 : PySem.W.keepIn K (.ref f4) = true)
    (a5 : PySem.W.nsIn K mainGlobals "done" = some (some (.ref f5)))
    (l5 : K.lookup f5 = some ⟨oc5, od5, .func (PySem.W.fnOf "done" "done" (defArgs (sT 24)) (defBody (sT 24)) (defScope (sT 24)) .none kV5 dc5 pm5 an5 cd5 ct5), sl5⟩) (c_5 : PySem.W.codeIn K cd5 "done" = true) (k5 : PySem.W.keepIn K (.ref f5) = true)
    (a6 : PySem.W.nsIn K mainGlobals "may_be_next" = some (some (.ref f6)))
    (l6 : K.lookup f6 = some ⟨oc6, od6, .func (PySem.W.fnOf "may_be_next" "may_be_next" (defArgs (sT 25)) (defBody (sT 25)) (defScope (sT 25)) .none kV6 dc6 pm6 an6 cd6 ct6), sl6⟩) (c_6 : PySem.W.codeIn K cd6 "may_be_next" = true) (k6 : PySem.W.keepIn K (.ref f6) = true)
    (a7 : PySem.W.nsIn K mainGlobals "like" = some (some (.ref f7)))
    (l7 : K.lookup f7 = some ⟨oc7, od7, .func (PySem.W.fnOf "like" "like" (defArgs (sT 26)) (defBody (sT 26)) (defScope (sT 26)) .none kV7 dc7 pm7 an7 cd7 ct7), sl7⟩) (c_7 : PySem.W.codeIn K cd7 "like" = true) (k7 : PySem.W.keepIn K (.ref f7) = true)
    (a8 : PySem.W.nsIn K mainGlobals "order_of" = some (some (.ref f8)))
    (l8 : K.lookup f8 = some ⟨oc8, od8, .func (PySem.W.fnOf "order_of" "order_of" (defArgs (sT 27)) (defBody (sT 27)) (defScope (sT 27)) .none kV8 dc8 pm8 an8 cd8 ct8), sl8⟩) (c_8 : PySem.W.codeIn K cd8 "order_of" = true) (k8 : PySem.W.keepIn K (.ref f8) = true)
    (a9 : PySem.W.nsIn K mainGlobals "judged" = some (some (.ref f9)))
    (l9 : K.lookup f9 = some ⟨oc9, od9, .func (PySem.W.fnOf "judged" "judged" (defArgs (sT 28)) (defBody (sT 28)) (defScope (sT 28)) .none kV9 dc9 pm9 an9 cd9 ct9), sl9⟩) (c_9 : PySem.W.codeIn K cd9 "judged" = true) (k9 : PySem.W.keepIn K (.ref f9) = true)
    (a10 : PySem.W.nsIn K mainGlobals "word_of" = some (some (.ref f10)))
    (l10 : K.lookup f10 = some ⟨oc10, od10, .func (PySem.W.fnOf "word_of" "word_of" (defArgs (sT 31)) (defBody (sT 31)) (defScope (sT 31)) .none kV10 dc10 pm10 an10 cd10 ct10), sl10⟩) (c_10 : PySem.W.codeIn K cd10 "word_of" = true) (k10 : PySem.W.keepIn K (.ref f10) = true)
    (a11 : PySem.W.nsIn K mainGlobals "words_of" = some (some (.ref f11)))
    (l11 : K.lookup f11 = some ⟨oc11, od11, .func (PySem.W.fnOf "words_of" "words_of" (defArgs (sT 32)) (defBody (sT 32)) (defScope (sT 32)) .none kV11 dc11 pm11 an11 cd11 ct11), sl11⟩) (c_11 : PySem.W.codeIn K cd11 "words_of" = true) (k11 : PySem.W.keepIn K (.ref f11) = true)
    (a12 : PySem.W.nsIn K mainGlobals "written" = some (some (.ref f12)))
    (l12 : K.lookup f12 = some ⟨oc12, od12, .func (PySem.W.fnOf "written" "written" (defArgs (sT 33)) (defBody (sT 33)) (defScope (sT 33)) .none kV12 dc12 pm12 an12 cd12 ct12), sl12⟩) (c_12 : PySem.W.codeIn K cd12 "written" = true) (k12 : PySem.W.keepIn K (.ref f12) = true)
    (a13 : PySem.W.nsIn K mainGlobals "_law_dice" = some (some (.ref f13)))
    (l13 : K.lookup f13 = some ⟨oc13, od13, .func (PySem.W.fnOf "_law_dice" "_law_dice" (defArgs (sT 35)) (defBody (sT 35)) (defScope (sT 35)) .none kV13 dc13 pm13 an13 cd13 ct13), sl13⟩) (c_13 : PySem.W.codeIn K cd13 "_law_dice" = true) (k13 : PySem.W.keepIn K (.ref f13) = true)
    (a14 : PySem.W.nsIn K mainGlobals "_law_off" = some (some (.ref f14)))
    (l14 : K.lookup f14 = some ⟨oc14, od14, .func (PySem.W.fnOf "_law_off" "_law_off" (defArgs (sT 36)) (defBody (sT 36)) (defScope (sT 36)) .none kV14 dc14 pm14 an14 cd14 ct14), sl14⟩) (c_14 : PySem.W.codeIn K cd14 "_law_off" = true) (k14 : PySem.W.keepIn K (.ref f14) = true)
    (a15 : PySem.W.nsIn K mainGlobals "_law_alike" = some (some (.ref f15)))
    (l15 : K.lookup f15 = some ⟨oc15, od15, .func (PySem.W.fnOf "_law_alike" "_law_alike" (defArgs (sT 37)) (defBody (sT 37)) (defScope (sT 37)) .none kV15 dc15 pm15 an15 cd15 ct15), sl15⟩) (c_15 : PySem.W.codeIn K cd15 "_law_alike" = true) (k15 : PySem.W.keepIn K (.ref f15) = true)
    (a16 : PySem.W.nsIn K mainGlobals "_law_refused" = some (some (.ref f16)))
    (l16 : K.lookup f16 = some ⟨oc16, od16, .func (PySem.W.fnOf "_law_refused" "_law_refused" (defArgs (sT 38)) (defBody (sT 38)) (defScope (sT 38)) .none kV16 dc16 pm16 an16 cd16 ct16), sl16⟩) (c_16 : PySem.W.codeIn K cd16 "_law_refused" = true) (k16 : PySem.W.keepIn K (.ref f16) = true)
    (a17 : PySem.W.nsIn K mainGlobals "_law_plain" = some (some (.ref f17)))
    (l17 : K.lookup f17 = some ⟨oc17, od17, .func (PySem.W.fnOf "_law_plain" "_law_plain" (defArgs (sT 39)) (defBody (sT 39)) (defScope (sT 39)) .none kV17 dc17 pm17 an17 cd17 ct17), sl17⟩) (c_17 : PySem.W.codeIn K cd17 "_law_plain" = true) (k17 : PySem.W.keepIn K (.ref f17) = true)
    (a18 : PySem.W.nsIn K mainGlobals "_law_done" = some (some (.ref f18)))
    (l18 : K.lookup f18 = some ⟨oc18, od18, .func (PySem.W.fnOf "_law_done" "_law_done" (defArgs (sT 40)) (defBody (sT 40)) (defScope (sT 40)) .none kV18 dc18 pm18 an18 cd18 ct18), sl18⟩) (c_18 : PySem.W.codeIn K cd18 "_law_done" = true) (k18 : PySem.W.keepIn K (.ref f18) = true)
    (a19 : PySem.W.nsIn K mainGlobals "_law_history" = some (some (.ref f19)))
    (l19 : K.lookup f19 = some ⟨oc19, od19, .func (PySem.W.fnOf "_law_history" "_law_history" (defArgs (sT 41)) (defBody (sT 41)) (defScope (sT 41)) .none kV19 dc19 pm19 an19 cd19 ct19), sl19⟩) (c_19 : PySem.W.codeIn K cd19 "_law_history" = true) (k19 : PySem.W.keepIn K (.ref f19) = true)
    (a20 : PySem.W.nsIn K mainGlobals "_law_bad_row" = some (some (.ref f20)))
    (l20 : K.lookup f20 = some ⟨oc20, od20, .func (PySem.W.fnOf "_law_bad_row" "_law_bad_row" (defArgs (sT 42)) (defBody (sT 42)) (defScope (sT 42)) .none kV20 dc20 pm20 an20 cd20 ct20), sl20⟩) (c_20 : PySem.W.codeIn K cd20 "_law_bad_row" = true) (k20 : PySem.W.keepIn K (.ref f20) = true)
    (a21 : PySem.W.nsIn K mainGlobals "law" = some (some (.ref f21)))
    (l21 : K.lookup f21 = some ⟨oc21, od21, .func (PySem.W.fnOf "law" "law" (defArgs (sT 43)) (defBody (sT 43)) (defScope (sT 43)) .none kV21 dc21 pm21 an21 (.ref c21) ct21), sl21⟩) (c_21 : PySem.W.codeIn K (.ref c21) "law" = true) (k21 : PySem.W.keepIn K (.ref f21) = true)
    {oC21 : Value} {odC21 : Option Addr} {vC21 : Array Value} {slC21 : Array (Option Value)} (t21 : K.lookup c21 = some ⟨oC21, odC21, .fields vC21, slC21⟩) (tp21 : (vC21[11]? : Option Value) = some (.ref q21)) (tn21 : K.lookup q21 = none) (tq21 : ((PyProof.Rows.recsOf q).find? (fun e => e.name == ("law" : Str))).isSome = true)
    (b_ValueError : PySem.W.nsIn K mainGlobals "ValueError" = some none)
    (b_abs : PySem.W.nsIn K mainGlobals "abs" = some none)
    (b_all : PySem.W.nsIn K mainGlobals "all" = some none)
    (b_bool : PySem.W.nsIn K mainGlobals "bool" = some none)
    (b_dict : PySem.W.nsIn K mainGlobals "dict" = some none)
    (b_enumerate : PySem.W.nsIn K mainGlobals "enumerate" = some none)
    (b_int : PySem.W.nsIn K mainGlobals "int" = some none)
    (b_isinstance : PySem.W.nsIn K mainGlobals "isinstance" = some none)
    (b_len : PySem.W.nsIn K mainGlobals "len" = some none)
    (b_list : PySem.W.nsIn K mainGlobals "list" = some none)
    (b_max : PySem.W.nsIn K mainGlobals "max" = some none)
    (b_range : PySem.W.nsIn K mainGlobals "range" = some none)
    (b_set : PySem.W.nsIn K mainGlobals "set" = some none)
    (b_sorted : PySem.W.nsIn K mainGlobals "sorted" = some none)
    (b_str : PySem.W.nsIn K mainGlobals "str" = some none)
    (b_tuple : PySem.W.nsIn K mainGlobals "tuple" = some none)
    {e_SHAPES : Array DictEntry} {n_SHAPES : Nat} (x_SHAPES : PySem.W.nsIn K mainGlobals "SHAPES" = some (some (.ref k_SHAPES))) (y_SHAPES : K.lookup k_SHAPES = some ⟨.type "dict", none, .dict e_SHAPES n_SHAPES, #[]⟩) (z_SHAPES : PySem.W.KeysLit w.params e_SHAPES.toList) (v_SHAPES : (k_SHAPES == sysModules) = false) (u_SHAPES : ∀ p ∈ tb_SHAPES, KAns K k_SHAPES p.1 p.2)
    {tk_KEYS : Tok} (g_KEYS : PySem.W.nsIn K mainGlobals "KEYS" = some (some (.int 100 tk_KEYS)))
    {tk_MOST_WORTH : Tok} (g_MOST_WORTH : PySem.W.nsIn K mainGlobals "MOST_WORTH" = some (some (.int 1000 tk_MOST_WORTH)))
    {iPLAIN0 iPLAIN1 iPLAIN2 iPLAIN3 : Tok} {m_PLAIN : Nat} (g_PLAIN : PySem.W.nsIn K mainGlobals "PLAIN" = some (some (.ref p_PLAIN))) (h_PLAIN : K.lookup p_PLAIN = some ⟨.type "tuple", none, .seq #[.str "get" iPLAIN0, .str "put" iPLAIN1, .str "add" iPLAIN2, .str "swap" iPLAIN3] m_PLAIN, #[]⟩)
    {tk_MOST_LOOK : Tok} (g_MOST_LOOK : PySem.W.nsIn K mainGlobals "MOST_LOOK" = some (some (.int 6 tk_MOST_LOOK)))
    {tk_MOST_ROWS : Tok} (g_MOST_ROWS : PySem.W.nsIn K mainGlobals "MOST_ROWS" = some (some (.int 12 tk_MOST_ROWS)))
    {tk_ASKERS : Tok} (g_ASKERS : PySem.W.nsIn K mainGlobals "ASKERS" = some (some (.int 100 tk_ASKERS)))
    {tk_NONE : Tok} (g_NONE : PySem.W.nsIn K mainGlobals "NONE" = some (some (.str "-" tk_NONE)))
    (g_SplitError : PySem.W.nsIn K mainGlobals "SplitError" = some (some (.ref C_SplitError)))
    (g_BadDeed : PySem.W.nsIn K mainGlobals "BadDeed" = some (some (.ref C_BadDeed)))
    (g_BadRange : PySem.W.nsIn K mainGlobals "BadRange" = some (some (.ref C_BadRange)))
    (g_BadHouse : PySem.W.nsIn K mainGlobals "BadHouse" = some (some (.ref C_BadHouse)))
    (g_BadAsker : PySem.W.nsIn K mainGlobals "BadAsker" = some (some (.ref C_BadAsker)))
    (g_Busy : PySem.W.nsIn K mainGlobals "Busy" = some (some (.ref C_Busy)))
    (g_BadLetter : PySem.W.nsIn K mainGlobals "BadLetter" = some (some (.ref C_BadLetter)))
    (g_BadHistory : PySem.W.nsIn K mainGlobals "BadHistory" = some (some (.ref C_BadHistory)))
    (g_BadText : PySem.W.nsIn K mainGlobals "BadText" = some (some (.ref C_BadText)))
    (s1 : PySem.W.specialIn K (.ref C_SplitError) "__getattribute__" = some (some (.builtin "type.__getattribute__")))
    (s2 : PySem.W.readsIn K C_SplitError (.type "type") = true)
    (s3 : PySem.W.findCls K (.ref C_SplitError) (.type "type") "__init__" = some (.val (.builtin "ValueError.__init__")))
    (er_BadHistory : Erk K C_BadHistory)
    (ex_BadHistory : PySem.W.exmOne K (.ref C_BadHistory) (.ref C_SplitError) = some (subE "BadHistory" "SplitError"))
    (ek_BadHistory_BadDeed : PySem.W.kitOne K (.ref C_BadHistory) (.ref C_BadDeed) = some (subE "BadHistory" "BadDeed"))
    (ek_BadHistory_BadRange : PySem.W.kitOne K (.ref C_BadHistory) (.ref C_BadRange) = some (subE "BadHistory" "BadRange"))
    (ek_BadHistory_BadHouse : PySem.W.kitOne K (.ref C_BadHistory) (.ref C_BadHouse) = some (subE "BadHistory" "BadHouse"))
    (ek_BadHistory_BadAsker : PySem.W.kitOne K (.ref C_BadHistory) (.ref C_BadAsker) = some (subE "BadHistory" "BadAsker"))
    (ek_BadHistory_Busy : PySem.W.kitOne K (.ref C_BadHistory) (.ref C_Busy) = some (subE "BadHistory" "Busy"))
    (ek_BadHistory_BadLetter : PySem.W.kitOne K (.ref C_BadHistory) (.ref C_BadLetter) = some (subE "BadHistory" "BadLetter"))
    (ek_BadHistory_BadHistory : PySem.W.kitOne K (.ref C_BadHistory) (.ref C_BadHistory) = some (subE "BadHistory" "BadHistory"))
    (ek_BadHistory_BadText : PySem.W.kitOne K (.ref C_BadHistory) (.ref C_BadText) = some (subE "BadHistory" "BadText"))
    (ev_BadHistory : PySem.W.kitOne K (.ref C_BadHistory) (.type "ValueError") = some true)
    (ef_BadHistory : PySem.W.findIn K (.ref C_BadHistory) "number" = some none)
    (eo_BadHistory : OexC K C_BadHistory)
    (ei_BadHistory : PySem.W.findIn K (.ref C_BadHistory) "__init__" = some (some (.ref f_BadHistory)))
    (l_BadHistory : K.lookup f_BadHistory = some ⟨oc_BadHistory, od_BadHistory, .func (PySem.W.fnOf "__init__" "BadHistory.__init__" (defArgs (inClass (sT 8) 0)) (defBody (inClass (sT 8) 0)) (defScope (inClass (sT 8) 0)) .none kV_BadHistory dc_BadHistory pm_BadHistory an_BadHistory cd_BadHistory ct_BadHistory), sl_BadHistory⟩) (c__BadHistory : PySem.W.codeIn K cd_BadHistory "BadHistory.__init__" = true) (k_BadHistory : PySem.W.keepIn K (.ref f_BadHistory) = true)
    (et_BadHistory : PySem.W.typeIn K (.ref f_BadHistory) = some (.type "function")) :
    ∃ (fd : FuncData) (cs : List (Addr × Addr × Str)), (∀ p ∈ cs, h.get? p.2.1 = some { cls := .none, data := .fields #[] }) ∧ (∀ p ∈ cs, K.lookup p.2.1 = none) ∧ (∀ p ∈ cs, PySem.W.CodeHd h p.1 p.2.1) ∧
        (∀ (s : Shared) (u : Value), BindsTo s fd ⟨[u], []⟩ [("_law_script", u)]) ∧ ∀ base : Heap, K.In base → base.Ns mainGlobals mg → (∀ p ∈ cs, TabB base mg p.1 p.2.1) → FnOk P w K mg base CX0 18 fa fd ["_law_script"] (lsp K (cs.map fun p => p.2) spLaw) := by
  have e := hfa.symm.trans (PySem.W.mg_of X G a21)
  cases e
  have B : Bm mg := ⟨PySem.W.mg_none_of X G b_ValueError, PySem.W.mg_none_of X G b_abs, PySem.W.mg_none_of X G b_all, PySem.W.mg_none_of X G b_bool, PySem.W.mg_none_of X G b_dict, PySem.W.mg_none_of X G b_enumerate, PySem.W.mg_none_of X G b_int, PySem.W.mg_none_of X G b_isinstance, PySem.W.mg_none_of X G b_len, PySem.W.mg_none_of X G b_list, PySem.W.mg_none_of X G b_max, PySem.W.mg_none_of X G b_range, PySem.W.mg_none_of X G b_set, PySem.W.mg_none_of X G b_sorted, PySem.W.mg_none_of X G b_str, PySem.W.mg_none_of X G b_tuple⟩
  have C : Cm K w mg := ⟨⟨.int 100, _, PySem.W.mg_of X G g_KEYS, ⟨_, rfl⟩, fun _ _ _ => .int _⟩, ⟨.int 1000, _, PySem.W.mg_of X G g_MOST_WORTH, ⟨_, rfl⟩, fun _ _ _ => .int _⟩, ⟨.ref p_PLAIN, _, PySem.W.mg_of X G g_PLAIN, rfl, fun _ _ _ => .tup (.inr ⟨_, _, _, h_PLAIN, rfl, rfl, len_ok (by simp), (.cons (rs _ _) (.cons (rs _ _) (.cons (rs _ _) (.cons (rs _ _) (.nil)))))⟩) (.cons (.str _) (.cons (.str _) (.cons (.str _) (.cons (.str _) (.nil)))))⟩, ⟨.int 6, _, PySem.W.mg_of X G g_MOST_LOOK, ⟨_, rfl⟩, fun _ _ _ => .int _⟩, ⟨.int 12, _, PySem.W.mg_of X G g_MOST_ROWS, ⟨_, rfl⟩, fun _ _ _ => .int _⟩, ⟨.int 100, _, PySem.W.mg_of X G g_ASKERS, ⟨_, rfl⟩, fun _ _ _ => .int _⟩, ⟨.str "-", _, PySem.W.mg_of X G g_NONE, ⟨_, rfl⟩, fun _ _ _ => .str _⟩, ⟨_, _, _, PySem.W.mg_of X G x_SHAPES, ⟨y_SHAPES, z_SHAPES, v_SHAPES⟩, u_SHAPES⟩⟩
  have M_SplitError := PySem.W.mg_of X G g_SplitError
  have M_BadDeed := PySem.W.mg_of X G g_BadDeed
  have M_BadRange := PySem.W.mg_of X G g_BadRange
  have M_BadHouse := PySem.W.mg_of X G g_BadHouse
  have M_BadAsker := PySem.W.mg_of X G g_BadAsker
  have M_Busy := PySem.W.mg_of X G g_Busy
  have M_BadLetter := PySem.W.mg_of X G g_BadLetter
  have M_BadHistory := PySem.W.mg_of X G g_BadHistory
  have M_BadText := PySem.W.mg_of X G g_BadText
  have Z_BadHistory : Erz K mg "BadHistory" C_BadHistory := ⟨M_BadHistory, er_BadHistory.cl, er_BadHistory.ga, er_BadHistory.gg, er_BadHistory.sb, er_BadHistory.ha, er_BadHistory.hn, er_BadHistory.htk, er_BadHistory.hm, er_BadHistory.hd⟩
  have GI_BadHistory := fun_mk (st := inClass (sT 8) 0) l_BadHistory c__BadHistory k_BadHistory
  have bI_BadHistory := GI_BadHistory.binds (ps := ["self", "number"]) fun _ _ _ _ _ _ us hl => match us, hl with | [_, _], _ => rfl
  have G0 := fun_mk (st := sT 16) l0 c_0 k0
  have b0 := G0.binds (ps := ["part", "bound"]) fun _ _ _ _ _ _ us hl => match us, hl with | [_, _], _ => rfl
  have G1 := fun_mk (st := sT 17) l1 c_1 k1
  have b1 := G1.binds (ps := ["deed"]) fun _ _ _ _ _ _ us hl => match us, hl with | [_], _ => rfl
  have G2 := fun_mk (st := sT 18) l2 c_2 k2
  have b2 := G2.binds (ps := ["deed", "worth"]) fun _ _ _ _ _ _ us hl => match us, hl with | [_, _], _ => rfl
  have G3 := fun_mk (st := sT 22) l3 c_3 k3
  have b3 := G3.binds (ps := ["row"]) fun _ _ _ _ _ _ us hl => match us, hl with | [_], _ => rfl
  have G4 := fun_mk (st := sT 23) l4 c_4 k4
  have b4 := G4.binds (ps := ["rows"]) fun _ _ _ _ _ _ us hl => match us, hl with | [_], _ => rfl
  have G5 := fun_mk (st := sT 24) l5 c_5 k5
  have b5 := G5.binds (ps := ["worths", "deed"]) fun _ _ _ _ _ _ us hl => match us, hl with | [_, _], _ => rfl
  have G6 := fun_mk (st := sT 25) l6 c_6 k6
  have b6 := G6.binds (ps := ["rows", "left"]) fun _ _ _ _ _ _ us hl => match us, hl with | [_, _], _ => rfl
  have G7 := fun_mk (st := sT 26) l7 c_7 k7
  have b7 := G7.binds (ps := ["one", "other"]) fun _ _ _ _ _ _ us hl => match us, hl with | [_, _], _ => rfl
  have G8 := fun_mk (st := sT 27) l8 c_8 k8
  have b8 := G8.binds (ps := ["rows", "left", "worths", "dead"]) fun _ _ _ _ _ _ us hl => match us, hl with | [_, _, _, _], _ => rfl
  have G9 := fun_mk (st := sT 28) l9 c_9 k9
  have b9 := G9.binds (ps := ["rows"]) fun _ _ _ _ _ _ us hl => match us, hl with | [_], _ => rfl
  have G10 := fun_mk (st := sT 31) l10 c_10 k10
  have b10 := G10.binds (ps := ["part"]) fun _ _ _ _ _ _ us hl => match us, hl with | [_], _ => rfl
  have G11 := fun_mk (st := sT 32) l11 c_11 k11
  have b11 := G11.binds (ps := ["row"]) fun _ _ _ _ _ _ us hl => match us, hl with | [_], _ => rfl
  have G12 := fun_mk (st := sT 33) l12 c_12 k12
  have b12 := G12.binds (ps := ["rows"]) fun _ _ _ _ _ _ us hl => match us, hl with | [_], _ => rfl
  have G13 := fun_mk (st := sT 35) l13 c_13 k13
  have b13 := G13.binds (ps := ["_law_script", "_law_k"]) fun _ _ _ _ _ _ us hl => match us, hl with | [_, _], _ => rfl
  have G14 := fun_mk (st := sT 36) l14 c_14 k14
  have b14 := G14.binds (ps := ["_law_d", "_law_most"]) fun _ _ _ _ _ _ us hl => match us, hl with | [_, _], _ => rfl
  have G15 := fun_mk (st := sT 37) l15 c_15 k15
  have b15 := G15.binds (ps := ["_law_found", "_law_due"]) fun _ _ _ _ _ _ us hl => match us, hl with | [_, _], _ => rfl
  have G16 := fun_mk (st := sT 38) l16 c_16 k16
  have b16 := G16.binds (ps := ["_law_work", "_law_word", "_law_value"]) fun _ _ _ _ _ _ us hl => match us, hl with | [_, _, _], _ => rfl
  have G17 := fun_mk (st := sT 39) l17 c_17 k17
  have b17 := G17.binds (ps := ["_law_d", "_law_few"]) fun _ _ _ _ _ _ us hl => match us, hl with | [_, _], _ => rfl
  have G18 := fun_mk (st := sT 40) l18 c_18 k18
  have b18 := G18.binds (ps := ["_law_worths", "_law_deed"]) fun _ _ _ _ _ _ us hl => match us, hl with | [_, _], _ => rfl
  have G19 := fun_mk (st := sT 41) l19 c_19 k19
  have b19 := G19.binds (ps := ["_law_d", "_law_most"]) fun _ _ _ _ _ _ us hl => match us, hl with | [_, _], _ => rfl
  have G20 := fun_mk (st := sT 42) l20 c_20 k20
  have b20 := G20.binds (ps := ["_law_d", "_law_rows", "_law_at"]) fun _ _ _ _ _ _ us hl => match us, hl with | [_, _, _], _ => rfl
  have G21 := fun_mk (st := sT 43) l21 c_21 k21
  have b21 := G21.binds (ps := ["_law_script"]) fun _ _ _ _ _ _ us hl => match us, hl with | [_], _ => rfl
  have tI21 : PySem.W.tabIn K "law" = some (c21, q21) := tabIn_of a21 l21 rfl t21 tp21
  refine ⟨PySem.W.fnOf "law" "law" (defArgs (sT 43)) (defBody (sT 43)) (defScope (sT 43)) .none kV21 dc21 pm21 an21 (.ref c21) ct21, [(c21, q21, ("law.<locals>.<lambda>" : Str))], ?_, ?_, ?_, fun s u => .of_eq rfl, fun base h1 h2 h3 => ?_⟩
  · intro p hp; rw [List.mem_singleton.mp hp]; exact (tabs "law" c21 q21 tq21 tI21).2
  · intro p hp; rw [List.mem_singleton.mp hp]; exact tn21
  · intro p hp; rw [List.mem_singleton.mp hp]; exact (tabs "law" c21 q21 tq21 tI21).1
  · have EP_BadHistory : Epay P w K mg base "BadHistory" C_BadHistory := ⟨eo_BadHistory, M_BadHistory, ef_BadHistory, f_BadHistory, _, ei_BadHistory, et_BadHistory, w_init_BadHistory GI_BadHistory M_SplitError s1 s2 s3, bI_BadHistory⟩
    have KC_BadHistory : ∀ c ∈ CSk, ∃ Cc, mg c = some (.ref Cc) ∧ PySem.W.kitOne K (.ref C_BadHistory) (.ref Cc) = some (subE "BadHistory" c) := by
      intro c hc
      simp only [CSk, List.mem_cons, List.not_mem_nil, or_false] at hc
      rcases hc with rfl | rfl | rfl | rfl | rfl | rfl | rfl | rfl
      · exact ⟨_, M_BadDeed, ek_BadHistory_BadDeed⟩
      · exact ⟨_, M_BadRange, ek_BadHistory_BadRange⟩
      · exact ⟨_, M_BadHouse, ek_BadHistory_BadHouse⟩
      · exact ⟨_, M_BadAsker, ek_BadHistory_BadAsker⟩
      · exact ⟨_, M_Busy, ek_BadHistory_Busy⟩
      · exact ⟨_, M_BadLetter, ek_BadHistory_BadLetter⟩
      · exact ⟨_, M_BadHistory, ek_BadHistory_BadHistory⟩
      · exact ⟨_, M_BadText, ek_BadHistory_BadText⟩
    have EF : ErrF K mg D4.RN CSk C_SplitError := ⟨M_SplitError, fun nm hn => by rw [List.mem_singleton.mp hn]; exact ⟨C_BadHistory, Z_BadHistory, ex_BadHistory, KC_BadHistory, ev_BadHistory, fun f hf => .inl (by rw [← hf]; exact ef_BadHistory)⟩⟩
    have W_is_below := w_is_below (P := P) (w := w) (base := base) (T := [(q21, ("law.<locals>.<lambda>" : Str))]) G0 B C
    have F_is_below : DFn P w K mg base [(q21, ("law.<locals>.<lambda>" : Str))] 1 "is_below" sp_is_below := ⟨f0, _, _, PySem.W.mg_of X G a0, k0, b0, W_is_below⟩
    have W_is_deed := w_is_deed (P := P) (w := w) (base := base) (T := [(q21, ("law.<locals>.<lambda>" : Str))]) G1 B C F_is_below
    have F_is_deed : DFn P w K mg base [(q21, ("law.<locals>.<lambda>" : Str))] 2 "is_deed" D4.sp_is_deed := ⟨f1, _, _, PySem.W.mg_of X G a1, k1, b1, W_is_deed⟩
    have W_worth_behind := w_worth_behind (P := P) (w := w) (base := base) (T := [(q21, ("law.<locals>.<lambda>" : Str))]) G2 B C
    have F_worth_behind : DFn P w K mg base [(q21, ("law.<locals>.<lambda>" : Str))] 1 "worth_behind" sp_worth_behind := ⟨f2, _, _, PySem.W.mg_of X G a2, k2, b2, W_worth_behind⟩
    have W_is_row := w_is_row (P := P) (w := w) (base := base) (T := [(q21, ("law.<locals>.<lambda>" : Str))]) G3 B C F_is_below F_is_deed
    have F_is_row : DFn P w K mg base [(q21, ("law.<locals>.<lambda>" : Str))] 3 "is_row" D4.sp_is_row := ⟨f3, _, _, PySem.W.mg_of X G a3, k3, b3, W_is_row⟩
    have W_need_history := w_need_history (P := P) (w := w) (base := base) (T := [(q21, ("law.<locals>.<lambda>" : Str))]) G4 B C EP_BadHistory F_is_row
    have F_need_history : DFy P w K mg base [(q21, ("law.<locals>.<lambda>" : Str))] 4 "need_history" D4.spy_need_history := ⟨f4, _, _, PySem.W.mg_of X G a4, k4, b4, W_need_history⟩
    have W_done := w_done (P := P) (w := w) (base := base) (T := [(q21, ("law.<locals>.<lambda>" : Str))]) G5 B C F_worth_behind
    have F_done : DFn P w K mg base [(q21, ("law.<locals>.<lambda>" : Str))] 2 "done" D4.sp_done := ⟨f5, _, _, PySem.W.mg_of X G a5, k5, b5, W_done⟩
    have W_may_be_next := w_may_be_next (P := P) (w := w) (base := base) (T := [(q21, ("law.<locals>.<lambda>" : Str))]) G6 B C
    have F_may_be_next : DFn P w K mg base [(q21, ("law.<locals>.<lambda>" : Str))] 1 "may_be_next" D4.sp_may_be_next := ⟨f6, _, _, PySem.W.mg_of X G a6, k6, b6, W_may_be_next⟩
    have W_like := w_like (P := P) (w := w) (base := base) (T := [(q21, ("law.<locals>.<lambda>" : Str))]) G7 B C
    have F_like : DFn P w K mg base [(q21, ("law.<locals>.<lambda>" : Str))] 1 "like" D4.sp_like := ⟨f7, _, _, PySem.W.mg_of X G a7, k7, b7, W_like⟩
    have W_od0 := w_od0 (P := P) (w := w) (base := base) (T := [(q21, ("law.<locals>.<lambda>" : Str))]) G8 B C
    have F_od0 : DFn P w K mg base [(q21, ("law.<locals>.<lambda>" : Str))] 1 "order_of" (D4.sp_order_of 0) := ⟨f8, _, _, PySem.W.mg_of X G a8, k8, b8, W_od0⟩
    have W_od1 := w_od1 (P := P) (w := w) (base := base) (T := [(q21, ("law.<locals>.<lambda>" : Str))]) G8 B C F_done F_like F_may_be_next F_od0
    have F_od1 : DFn P w K mg base [(q21, ("law.<locals>.<lambda>" : Str))] 3 "order_of" (D4.sp_order_of 1) := ⟨f8, _, _, PySem.W.mg_of X G a8, k8, b8, W_od1⟩
    have W_od2 := w_od2 (P := P) (w := w) (base := base) (T := [(q21, ("law.<locals>.<lambda>" : Str))]) G8 B C F_done F_like F_may_be_next F_od1
    have F_od2 : DFn P w K mg base [(q21, ("law.<locals>.<lambda>" : Str))] 4 "order_of" (D4.sp_order_of 2) := ⟨f8, _, _, PySem.W.mg_of X G a8, k8, b8, W_od2⟩
    have W_od3 := w_od3 (P := P) (w := w) (base := base) (T := [(q21, ("law.<locals>.<lambda>" : Str))]) G8 B C F_done F_like F_may_be_next F_od2
    have F_od3 : DFn P w K mg base [(q21, ("law.<locals>.<lambda>" : Str))] 5 "order_of" (D4.sp_order_of 3) := ⟨f8, _, _, PySem.W.mg_of X G a8, k8, b8, W_od3⟩
    have W_od4 := w_od4 (P := P) (w := w) (base := base) (T := [(q21, ("law.<locals>.<lambda>" : Str))]) G8 B C F_done F_like F_may_be_next F_od3
    have F_od4 : DFn P w K mg base [(q21, ("law.<locals>.<lambda>" : Str))] 6 "order_of" (D4.sp_order_of 4) := ⟨f8, _, _, PySem.W.mg_of X G a8, k8, b8, W_od4⟩
    have W_od5 := w_od5 (P := P) (w := w) (base := base) (T := [(q21, ("law.<locals>.<lambda>" : Str))]) G8 B C F_done F_like F_may_be_next F_od4
    have F_od5 : DFn P w K mg base [(q21, ("law.<locals>.<lambda>" : Str))] 7 "order_of" (D4.sp_order_of 5) := ⟨f8, _, _, PySem.W.mg_of X G a8, k8, b8, W_od5⟩
    have W_od6 := w_od6 (P := P) (w := w) (base := base) (T := [(q21, ("law.<locals>.<lambda>" : Str))]) G8 B C F_done F_like F_may_be_next F_od5
    have F_od6 : DFn P w K mg base [(q21, ("law.<locals>.<lambda>" : Str))] 8 "order_of" (D4.sp_order_of 6) := ⟨f8, _, _, PySem.W.mg_of X G a8, k8, b8, W_od6⟩
    have W_od7 := w_od7 (P := P) (w := w) (base := base) (T := [(q21, ("law.<locals>.<lambda>" : Str))]) G8 B C F_done F_like F_may_be_next F_od6
    have F_od7 : DFn P w K mg base [(q21, ("law.<locals>.<lambda>" : Str))] 9 "order_of" (D4.sp_order_of 7) := ⟨f8, _, _, PySem.W.mg_of X G a8, k8, b8, W_od7⟩
    have W_od8 := w_od8 (P := P) (w := w) (base := base) (T := [(q21, ("law.<locals>.<lambda>" : Str))]) G8 B C F_done F_like F_may_be_next F_od7
    have F_od8 : DFn P w K mg base [(q21, ("law.<locals>.<lambda>" : Str))] 10 "order_of" (D4.sp_order_of 8) := ⟨f8, _, _, PySem.W.mg_of X G a8, k8, b8, W_od8⟩
    have W_od9 := w_od9 (P := P) (w := w) (base := base) (T := [(q21, ("law.<locals>.<lambda>" : Str))]) G8 B C F_done F_like F_may_be_next F_od8
    have F_od9 : DFn P w K mg base [(q21, ("law.<locals>.<lambda>" : Str))] 11 "order_of" (D4.sp_order_of 9) := ⟨f8, _, _, PySem.W.mg_of X G a8, k8, b8, W_od9⟩
    have W_od10 := w_od10 (P := P) (w := w) (base := base) (T := [(q21, ("law.<locals>.<lambda>" : Str))]) G8 B C F_done F_like F_may_be_next F_od9
    have F_od10 : DFn P w K mg base [(q21, ("law.<locals>.<lambda>" : Str))] 12 "order_of" (D4.sp_order_of 10) := ⟨f8, _, _, PySem.W.mg_of X G a8, k8, b8, W_od10⟩
    have W_od11 := w_od11 (P := P) (w := w) (base := base) (T := [(q21, ("law.<locals>.<lambda>" : Str))]) G8 B C F_done F_like F_may_be_next F_od10
    have F_od11 : DFn P w K mg base [(q21, ("law.<locals>.<lambda>" : Str))] 13 "order_of" (D4.sp_order_of 11) := ⟨f8, _, _, PySem.W.mg_of X G a8, k8, b8, W_od11⟩
    have W_od12 := w_od12 (P := P) (w := w) (base := base) (T := [(q21, ("law.<locals>.<lambda>" : Str))]) G8 B C F_done F_like F_may_be_next F_od11
    have F_od12 : DFn P w K mg base [(q21, ("law.<locals>.<lambda>" : Str))] 14 "order_of" (D4.sp_order_of 12) := ⟨f8, _, _, PySem.W.mg_of X G a8, k8, b8, W_od12⟩
    have W_judged := w_judged (P := P) (w := w) (base := base) (T := [(q21, ("law.<locals>.<lambda>" : Str))]) G9 B C F_need_history F_od12
    have F_judged : DFy P w K mg base [(q21, ("law.<locals>.<lambda>" : Str))] 15 "judged" D4.spy_judged := ⟨f9, _, _, PySem.W.mg_of X G a9, k9, b9, W_judged⟩
    have W_word_of := w_word_of (P := P) (w := w) (base := base) (T := [(q21, ("law.<locals>.<lambda>" : Str))]) G10 B C
    have F_word_of : DFn P w K mg base [(q21, ("law.<locals>.<lambda>" : Str))] 1 "word_of" D4.sp_word_of := ⟨f10, _, _, PySem.W.mg_of X G a10, k10, b10, W_word_of⟩
    have W_words_of := w_words_of (P := P) (w := w) (base := base) (T := [(q21, ("law.<locals>.<lambda>" : Str))]) G11 B C F_word_of
    have F_words_of : DFn P w K mg base [(q21, ("law.<locals>.<lambda>" : Str))] 2 "words_of" D4.sp_words_of := ⟨f11, _, _, PySem.W.mg_of X G a11, k11, b11, W_words_of⟩
    have W_written := w_written (P := P) (w := w) (base := base) (T := [(q21, ("law.<locals>.<lambda>" : Str))]) G12 B C F_need_history F_words_of
    have F_written : DFy P w K mg base [(q21, ("law.<locals>.<lambda>" : Str))] 5 "written" D4.spy_written := ⟨f12, _, _, PySem.W.mg_of X G a12, k12, b12, W_written⟩
    have W__law_dice := w__law_dice (P := P) (w := w) (base := base) (T := [(q21, ("law.<locals>.<lambda>" : Str))]) G13 B C
    have F__law_dice : DFn P w K mg base [(q21, ("law.<locals>.<lambda>" : Str))] 1 "_law_dice" sp__law_dice := ⟨f13, _, _, PySem.W.mg_of X G a13, k13, b13, W__law_dice⟩
    have W__law_off := w__law_off (P := P) (w := w) (base := base) (T := [(q21, ("law.<locals>.<lambda>" : Str))]) G14 B C
    have F__law_off : DFn P w K mg base [(q21, ("law.<locals>.<lambda>" : Str))] 1 "_law_off" sp__law_off := ⟨f14, _, _, PySem.W.mg_of X G a14, k14, b14, W__law_off⟩
    have W__law_alike_h := w__law_alike_h (P := P) (w := w) (base := base) (T := [(q21, ("law.<locals>.<lambda>" : Str))]) G15 B C
    have F__law_alike_h : DFnH P w K mg base [(q21, ("law.<locals>.<lambda>" : Str))] 1 "_law_alike" D4.sp_alike_i := ⟨f15, _, _, PySem.W.mg_of X G a15, k15, b15, W__law_alike_h⟩
    have F__law_refused := w__law_refused (P := P) (w := w) (base := base) (T := [(q21, ("law.<locals>.<lambda>" : Str))]) G16 b16 (PySem.W.mg_of X G a16) k16 B C EF F__law_alike_h
    have W__law_plain := w__law_plain (P := P) (w := w) (base := base) (T := [(q21, ("law.<locals>.<lambda>" : Str))]) G17 B C F__law_off
    have F__law_plain : DFn P w K mg base [(q21, ("law.<locals>.<lambda>" : Str))] 2 "_law_plain" sp__law_plain := ⟨f17, _, _, PySem.W.mg_of X G a17, k17, b17, W__law_plain⟩
    have W__law_done := w__law_done (P := P) (w := w) (base := base) (T := [(q21, ("law.<locals>.<lambda>" : Str))]) G18 B C
    have F__law_done : DFn P w K mg base [(q21, ("law.<locals>.<lambda>" : Str))] 1 "_law_done" D4.sp__law_done := ⟨f18, _, _, PySem.W.mg_of X G a18, k18, b18, W__law_done⟩
    have W__law_history := w__law_history (P := P) (w := w) (base := base) (T := [(q21, ("law.<locals>.<lambda>" : Str))]) G19 B C F__law_done F__law_off F__law_plain
    have F__law_history : DFn P w K mg base [(q21, ("law.<locals>.<lambda>" : Str))] 3 "_law_history" D4.sp__law_history := ⟨f19, _, _, PySem.W.mg_of X G a19, k19, b19, W__law_history⟩
    have W__law_bad_row := w__law_bad_row (P := P) (w := w) (base := base) (T := [(q21, ("law.<locals>.<lambda>" : Str))]) G20 B C F__law_off
    have F__law_bad_row : DFn P w K mg base [(q21, ("law.<locals>.<lambda>" : Str))] 2 "_law_bad_row" D4.sp__law_bad_row := ⟨f20, _, _, PySem.W.mg_of X G a20, k20, b20, W__law_bad_row⟩
    have W_law := w_law (P := P) (w := w) (base := base) (T := [(q21, ("law.<locals>.<lambda>" : Str))]) l21 c_21 (h3 (c21, q21, _) (List.mem_singleton.mpr rfl)) (List.mem_singleton.mpr rfl) (fun p hp _ => by rw [List.mem_singleton.mp hp]) B C F__law_bad_row F__law_dice F__law_history F__law_off F__law_refused F_judged F_written
    exact W_law
end K05
open PySem PySem.W PyProof.Rows
set_option maxRecDepth 100000 in
set_option maxHeartbeats 8000000 in
theorem PySem.Challenge.cw_splitranges_k05_histories_refused_holds : PySem.Challenge.rw_splitranges_k05_histories_refused.Holds := by
  w_on; o_law; k_head; (case hw => w_witness2)
  k_fill
  refine Dl.walk_d (l := PySem.Challenge.rw_splitranges_k05_histories_refused) (x := "_law_script") (k := 18) rfl rfl ⟨rfl, by decide, by decide⟩ (fun w h Y => PySem.W.km_in_of Y) ?F
  case F =>
    intro w mg fa h KX G hmg tabs
    refine' K05.all_mk KX G hmg tabs ?a0 ?l0 ?c_0 ?k0 ?a1 ?l1 ?c_1 ?k1 ?a2 ?l2 ?c_2 ?k2 ?a3 ?l3 ?c_3 ?k3 ?a4 ?l4 ?c_4 ?k4 ?a5 ?l5 ?c_5 ?k5 ?a6 ?l6 ?c_6 ?k6 ?a7 ?l7 ?c_7 ?k7 ?a8 ?l8 ?c_8 ?k8 ?a9 ?l9 ?c_9 ?k9 ?a10 ?l10 ?c_10 ?k10 ?a11 ?l11 ?c_11 ?k11 ?a12 ?l12 ?c_12 ?k12 ?a13 ?l13 ?c_13 ?k13 ?a14 ?l14 ?c_14 ?k14 ?a15 ?l15 ?c_15 ?k15 ?a16 ?l16 ?c_16 ?k16 ?a17 ?l17 ?c_17 ?k17 ?a18 ?l18 ?c_18 ?k18 ?a19 ?l19 ?c_19 ?k19 ?a20 ?l20 ?c_20 ?k20 ?a21 ?l21 ?c_21 ?k21 ?t21 ?tp21 ?tn21 ?tq21 ?b_ValueError ?b_abs ?b_all ?b_bool ?b_dict ?b_enumerate ?b_int ?b_isinstance ?b_len ?b_list ?b_max ?b_range ?b_set ?b_sorted ?b_str ?b_tuple ?x_SHAPES ?y_SHAPES ?z_SHAPES ?v_SHAPES ?u_SHAPES ?g_KEYS ?g_MOST_WORTH ?g_PLAIN ?h_PLAIN ?g_MOST_LOOK ?g_MOST_ROWS ?g_ASKERS ?g_NONE ?g_SplitError ?g_BadDeed ?g_BadRange ?g_BadHouse ?g_BadAsker ?g_Busy ?g_BadLetter ?g_BadHistory ?g_BadText ?s1 ?s2 ?s3 ?er_BadHistory ?ex_BadHistory ?ek_BadHistory_BadDeed ?ek_BadHistory_BadRange ?ek_BadHistory_BadHouse ?ek_BadHistory_BadAsker ?ek_BadHistory_Busy ?ek_BadHistory_BadLetter ?ek_BadHistory_BadHistory ?ek_BadHistory_BadText ?ev_BadHistory ?ef_BadHistory ?eo_BadHistory ?ei_BadHistory ?l_BadHistory ?c__BadHistory ?k_BadHistory ?et_BadHistory
    (case a0 => k_is)
    (case l0 => k_is)
    (case c_0 => k_is)
    (case k0 => k_is)
    (case a1 => k_is)
    (case l1 => k_is)
    (case c_1 => k_is)
    (case k1 => k_is)
    (case a2 => k_is)
    (case l2 => k_is)
    (case c_2 => k_is)
    (case k2 => k_is)
    (case a3 => k_is)
    (case l3 => k_is)
    (case c_3 => k_is)
    (case k3 => k_is)
    (case a4 => k_is)
    (case l4 => k_is)
    (case c_4 => k_is)
    (case k4 => k_is)
    (case a5 => k_is)
    (case l5 => k_is)
    (case c_5 => k_is)
    (case k5 => k_is)
    (case a6 => k_is)
    (case l6 => k_is)
    (case c_6 => k_is)
    (case k6 => k_is)
    (case a7 => k_is)
    (case l7 => k_is)
    (case c_7 => k_is)
    (case k7 => k_is)
    (case a8 => k_is)
    (case l8 => k_is)
    (case c_8 => k_is)
    (case k8 => k_is)
    (case a9 => k_is)
    (case l9 => k_is)
    (case c_9 => k_is)
    (case k9 => k_is)
    (case a10 => k_is)
    (case l10 => k_is)
    (case c_10 => k_is)
    (case k10 => k_is)
    (case a11 => k_is)
    (case l11 => k_is)
    (case c_11 => k_is)
    (case k11 => k_is)
    (case a12 => k_is)
    (case l12 => k_is)
    (case c_12 => k_is)
    (case k12 => k_is)
    (case a13 => k_is)
    (case l13 => k_is)
    (case c_13 => k_is)
    (case k13 => k_is)
    (case a14 => k_is)
    (case l14 => k_is)
    (case c_14 => k_is)
    (case k14 => k_is)
    (case a15 => k_is)
    (case l15 => k_is)
    (case c_15 => k_is)
    (case k15 => k_is)
    (case a16 => k_is)
    (case l16 => k_is)
    (case c_16 => k_is)
    (case k16 => k_is)
    (case a17 => k_is)
    (case l17 => k_is)
    (case c_17 => k_is)
    (case k17 => k_is)
    (case a18 => k_is)
    (case l18 => k_is)
    (case c_18 => k_is)
    (case k18 => k_is)
    (case a19 => k_is)
    (case l19 => k_is)
    (case c_19 => k_is)
    (case k19 => k_is)
    (case a20 => k_is)
    (case l20 => k_is)
    (case c_20 => k_is)
    (case k20 => k_is)
    (case a21 => k_is)
    (case l21 => k_is)
    (case c_21 => k_is)
    (case k21 => k_is)
    (case t21 => k_is)
    (case tp21 => rfl)
    (case tn21 => first | k_is | kernel_rfl | rfl)
    (case tq21 => decide +kernel)
    (case b_ValueError => k_is)
    (case b_abs => k_is)
    (case b_all => k_is)
    (case b_bool => k_is)
    (case b_dict => k_is)
    (case b_enumerate => k_is)
    (case b_int => k_is)
    (case b_isinstance => k_is)
    (case b_len => k_is)
    (case b_list => k_is)
    (case b_max => k_is)
    (case b_range => k_is)
    (case b_set => k_is)
    (case b_sorted => k_is)
    (case b_str => k_is)
    (case b_tuple => k_is)
    (case x_SHAPES => k_is)
    (case y_SHAPES => k_is)
    (case z_SHAPES => exact ⟨⟨_, _, rfl, rfl⟩, ⟨_, _, rfl, rfl⟩, ⟨_, _, rfl, rfl⟩, ⟨_, _, rfl, rfl⟩, ⟨_, _, rfl, rfl⟩, ⟨_, _, rfl, rfl⟩, trivial⟩)
    (case v_SHAPES => decide)
    (case u_SHAPES => intro p hp; simp only [Dl.tb_SHAPES, List.mem_cons, List.not_mem_nil, or_false] at hp; rcases hp with rfl | rfl | rfl | rfl | rfl | rfl | rfl | rfl <;> first | exact ⟨_, _, by k_is, K05.rs _ _, fun _ _ _ => .str _⟩ | k_is | (show PySem.W.nsIn _ _ _ = some none; kernel_rfl))
    (case g_KEYS => k_is)
    (case g_MOST_WORTH => k_is)
    (case g_PLAIN => k_is)
    (case h_PLAIN => k_is)
    (case g_MOST_LOOK => k_is)
    (case g_MOST_ROWS => k_is)
    (case g_ASKERS => k_is)
    (case g_NONE => k_is)
    (case g_SplitError => k_is)
    (case g_BadDeed => k_is)
    (case g_BadRange => k_is)
    (case g_BadHouse => k_is)
    (case g_BadAsker => k_is)
    (case g_Busy => k_is)
    (case g_BadLetter => k_is)
    (case g_BadHistory => k_is)
    (case g_BadText => k_is)
    (case s1 => first | kernel_rfl | k_is | rfl)
    (case s2 => first | kernel_rfl | k_is | rfl)
    (case s3 => first | kernel_rfl | k_is | rfl)
    (case er_BadHistory => exact ⟨by first | kernel_rfl | k_is, by first | kernel_rfl | k_is, by first | kernel_rfl | k_is, by first | kernel_rfl | k_is, by first | kernel_rfl | k_is, by first | kernel_rfl | k_is, by first | kernel_rfl | k_is, by first | kernel_rfl | k_is, by first | kernel_rfl | k_is⟩)
    (case ex_BadHistory => first | kernel_rfl | k_is | rfl)
    (case ek_BadHistory_BadDeed => first | kernel_rfl | k_is | rfl)
    (case ek_BadHistory_BadRange => first | kernel_rfl | k_is | rfl)
    (case ek_BadHistory_BadHouse => first | kernel_rfl | k_is | rfl)
    (case ek_BadHistory_BadAsker => first | kernel_rfl | k_is | rfl)
    (case ek_BadHistory_Busy => first | kernel_rfl | k_is | rfl)
    (case ek_BadHistory_BadLetter => first | kernel_rfl | k_is | rfl)
    (case ek_BadHistory_BadHistory => first | kernel_rfl | k_is | rfl)
    (case ek_BadHistory_BadText => first | kernel_rfl | k_is | rfl)
    (case ev_BadHistory => first | kernel_rfl | k_is | rfl)
    (case ef_BadHistory => first | kernel_rfl | k_is | rfl)
    (case eo_BadHistory => exact ⟨⟨_, _, _, _, _, _, _, _, _, _, _, _, _, _, _, by k_is, rfl⟩, by first | kernel_rfl | k_is, by first | kernel_rfl | k_is, by first | kernel_rfl | k_is, by first | kernel_rfl | k_is⟩)
    (case ei_BadHistory => k_is)
    (case l_BadHistory => k_is)
    (case c__BadHistory => k_is)
    (case k_BadHistory => k_is)
    (case et_BadHistory => first | kernel_rfl | k_is | rfl)
#print axioms PySem.Challenge.cw_splitranges_k05_histories_refused_holds
