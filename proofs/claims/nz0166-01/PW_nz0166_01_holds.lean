import PyProof.Rows.All
import Wide.All
import OpenK.AllK
import Wide.FinOn
import PySem.Challenge.RW_nz0166_01
open PySem PySem.W PySem.Calls PyProof.Rows
set_option Elab.async false
set_option linter.all false
namespace Mine
set_option maxRecDepth 100000
set_option maxHeartbeats 8000000
noncomputable def ch := PySem.W.S.findZ
theorem eh : ch = ch := rfl
name_quick te13052408679150730464 for ch by eh
name_quick tw16860574694989215904 for ch by eh
name_quick tw17990997957879882593 for ch by eh
name_quick tw7195987923619896802 for ch by eh
name_quick tw17428874351420789250 for ch by eh
name_quick tw9103332015526102946 for ch by eh
name_quick tw3658093133387280835 for ch by eh
name_quick tw4515677705193469861 for ch by eh
name_quick tw6242409422312979302 for ch by eh
name_quick tw1229493121823783015 for ch by eh
name_quick tw2773455890419399111 for ch by eh
name_quick tw12429978231107022823 for ch by eh
name_quick tw10062292528115337480 for ch by eh
name_quick tw383478444716035976 for ch by eh
name_quick tw17111948838632640456 for ch by eh
name_quick tw4844447684525602955 for ch by eh
name_quick tw14979626087600564940 for ch by eh
name_quick tw1548499818937157805 for ch by eh
name_quick tw10899932154247971118 for ch by eh
name_quick tw2415802945937206640 for ch by eh
name_quick tw15755039735206942576 for ch by eh
name_quick tw4867659988020097073 for ch by eh
name_quick tw8075568018651887793 for ch by eh
name_quick tw8113355752449443089 for ch by eh
name_quick tw1146094577147161938 for ch by eh
name_quick tw15832565104096599602 for ch by eh
name_quick tw2413185636571951891 for ch by eh
name_quick tw9946984971441604564 for ch by eh
name_quick tw12933145988944269653 for ch by eh
name_quick tw10491055406009765014 for ch by eh
name_quick tw12950695957927869782 for ch by eh
name_quick tw7378761846476686904 for ch by eh
name_quick tw7443706146527316952 for ch by eh
name_quick tw17988542015724977305 for ch by eh
name_quick tw15757955710919180057 for ch by eh
name_quick tw1169994737469771483 for ch by eh
name_quick tw17207729816335089435 for ch by eh
name_quick tw13215998728584607739 for ch by eh
name_quick tw14442551536049903452 for ch by eh
name_quick tw2948684339791796925 for ch by eh
name_quick tw16072817110500752253 for ch by eh
name_quick tw7356741094233527518 for ch by eh
name_quick tw4759982775525654206 for ch by eh
name_quick tw9874925044762336030 for ch by eh
name_quick tw17172684716379151423 for ch by eh
name_quick tw6448080314894763839 for ch by eh
name_quick tw5566937621378353055 for ch by eh
name_quick tw3096718668686838282 for ch by eh
name_quick tw5620917559083875661 for ch by eh
open_top hd for PySem.Challenge.rw_nz0166_01
end Mine
set_option Elab.async false
set_option linter.all false
set_option compiler.extract_closed false
set_option bootstrap.genMatcherCode false
set_option genSizeOf false
set_option genInjectivity false
set_option maxRecDepth 100000
set_option maxHeartbeats 8000000
namespace Mine
theorem fill_all : (fun _ : OpenLaw × (Params → Frag) => True) (PySem.Challenge.rw_nz0166_01, Mine.hd.heap_39) := by k_fill; trivial
local macro_rules | `(tactic| walk_at $s:str) => `(tactic| k_extra $s)
section
theorem kr_Key : True := by
  k_with_none
  trivial
section key
variable (w : World)

noncomputable def VHash (n : Nat) (hp : Heap) (v : Value) (h : Int) (d : Nat) : Prop :=
  ∀ (prog : Program) (A : Around) (E : Value → Shared → Prop) (s : Shared) (Q : Int → Shared → Prop), A.units + n < cLine → s.heap = hp → Q h { s with toks := s.toks + d } → wpAny (model prog w) A (pyHash v) Q E s
noncomputable def VEq (n : Nat) (hp : Heap) (u v : Value) (b : Bool) : Prop :=
  ∀ (prog : Program) (A : Around) (E : Value → Shared → Prop) (s : Shared) (Q : Bool → Shared → Prop), A.units + n < cLine → s.heap = hp → Q b s → wpAny (model prog w) A (eqBool u v) Q E s
noncomputable def VQuiet (n : Nat) (hp : Heap) (v : Value) : Prop :=
  ∀ (prog : Program) (A : Around) (E : Value → Shared → Prop) (s : Shared) (Q : Bool → Shared → Prop), s.heap = hp → Q true s → wpAny (model prog w) A (eqIsQuiet n v) Q E s
noncomputable def TupIs (h : Heap) (a : Addr) (vs : List Value) : Prop := ∃ o n, h.get? a = some o ∧ o.cls = .type "tuple" ∧ o.data = .seq vs.toArray n

variable {w}
theorem vhash_int {n : Nat} {hp : Heap} {i : Int} {t : Tok} : VHash w n hp (.int i t) (hashInt i) 1 := fun _ _ _ _ _ _ _ h => wpAny_pyHash_int h
theorem vhash_str {n : Nat} {hp : Heap} {x : Str} {t : Tok} : VHash w n hp (.str x t) (hashStr w x) 1 := fun _ _ _ _ _ _ _ h => wpAny_pyHash_str h
theorem veq_int {n : Nat} {hp : Heap} {i j : Int} {t u : Tok} : VEq w n hp (.int i t) (.int j u) (i == j) := fun _ _ _ _ _ _ _ h => wpAny_eqBool_int h
theorem veq_str {n : Nat} {hp : Heap} {x y : Str} {t u : Tok} : VEq w n hp (.str x t) (.str y u) (decide (x = y)) := fun _ _ _ _ _ _ _ h => wpAny_eqBool_str h
theorem vquiet_val {n : Nat} {hp : Heap} {v : Value} (c : carriedByValue v = true) : VQuiet w n hp v := fun _ _ _ _ _ _ h => by rw [eqIsQuiet_byValue _ c]; exact wpAny_pure h
theorem TupIs.typeIs {s : Shared} {a : Addr} {vs : List Value} (x : TupIs s.heap a vs) : s.TypeIs (.ref a) "tuple" := let ⟨o, _, ho, hc, _⟩ := x; ⟨o, ho, hc⟩
theorem TupIs.inj {h : Heap} {a : Addr} {vs us : List Value} (x : TupIs h a vs) (y : TupIs h a us) : vs = us := by
  obtain ⟨o, n, ho, _, hd⟩ := x
  obtain ⟨o', n', ho', _, hd'⟩ := y
  rw [ho] at ho'; cases ho'
  rw [hd] at hd'
  injection hd' with e
  simpa using e

inductive HashW (w : World) (n : Nat) (hp : Heap) : List Value → List Int → Nat → Prop
  | nil : HashW w n hp [] [] 0
  | cons {v vs h hs d k} : VHash w n hp v h d → HashW w n hp vs hs k → HashW w n hp (v :: vs) (h :: hs) (d + k)

inductive HI (w : World) (n : Nat) (s : Shared) (hs : List Int) (d : Nat) (rest : List Value) (b : Array Int) : Shared → Prop
  | mk (left : List Int) (k tk : Nat) (e : hs = b.toList ++ left) (hl : HashW w n s.heap rest left k) (ht : tk + k = s.toks + d) : HI w n s hs d rest b { s with toks := tk }
theorem vhash_tuple {n : Nat} {hp : Heap} {a : Addr} {vs : List Value} {hs : List Int} {d : Nat} (ht : TupIs hp a vs) (H : HashW w n hp vs hs d) :
    VHash w (n + 1) hp (.ref a) (reduceHash (Builtin.Tuple.tupleHashOf hs)) (d + 1) := by
  intro prog A E s Q hu hs' h
  subst hs'
  have hT := ht.typeIs
  obtain ⟨o, k, ho, _, hd⟩ := ht
  unfold pyHash
  first | unfold pyHashByItsType | skip
  first | refine wpAny_bind (wpAny_cRoomFor_or (.inr (by lia)) ?_) | skip
  refine wpAny_bind (wpAny_specialOf hT F.slot_tuple_hash.lookup ?_)
  show wpAny _ _ (if (some (Value.builtin "tuple.__hash__") == some Value.none) = true then _ else _) Q E s
  rw [if_neg (by rw [beq_builtin_none]; exact Bool.false_ne_true)]
  refine wpAny_bind (wpAny_specialOf hT F.slot_tuple_hash.lookup ?_)
  show wpAny _ _ (callSpecialIfBoundUnlessNone? (.ref a) "__hash__" _ >>= _) Q E s
  refine wpAny_bind (wpAny_callSpecialIfBoundUnlessNone?_slot hT F.slot_tuple_hash (wpAny_call_entry F.slot_tuple_hash hT F.entry_tuple_hash ?_ (F.args_tuple_hash_1 _)))
  show wpAny _ _ (Builtin.Tuple.tupleItemsOf (.ref a) >>= _) _ _ s
  refine wpAny_bind (wpAny_tupleItemsOf ho hd ?_)
  refine wpAny_bind ?_
  rw [← Array.forIn_toList]
  refine wpAny_forIn_list _ (HI w n s hs d) _ ?_ ?_ _ _ (HI.mk hs d s.toks rfl H rfl)
  · rintro x rest b _ ⟨left, k, tk, e, hl, ht⟩
    cases hl with
    | @cons _ _ h1 hs1 d1 k1 hv hl' =>
      refine wpAny_bind (hv prog _ E _ _ (show A.units + 1 + n < cLine by lia) rfl ?_)
      exact wpAny_pure (HI.mk hs1 k1 (tk + d1) (by rw [e, Array.toList_push, List.append_assoc]; rfl) hl' ((Nat.add_assoc tk d1 k1).trans ht))
  · rintro b _ ⟨left, k, tk, e, hl, ht⟩
    cases hl
    rw [List.append_nil] at e
    rw [e] at h
    obtain rfl : tk = s.toks + d := ht
    show wpAny _ _ (retInt (Builtin.Tuple.tupleHashOf b.toList)) _ _ _
    refine wpAny_ret_mkInt ?_
    show wpAny _ _ (if (decide (-(2 : Int) ^ 63 ≤ Builtin.Tuple.tupleHashOf b.toList) && decide (Builtin.Tuple.tupleHashOf b.toList < 2 ^ 63)) = true then _ else _) Q E _
    unfold reduceHash at h
    by_cases hr : (decide (-(2 : Int) ^ 63 ≤ Builtin.Tuple.tupleHashOf b.toList) && decide (Builtin.Tuple.tupleHashOf b.toList < 2 ^ 63)) = true
    · rw [if_pos hr]
      rw [if_pos hr] at h
      exact wpAny_pure h
    · rw [if_neg hr]
      rw [if_neg hr] at h
      exact wpAny_bind (wpAny_rule (wpAny_pure h))

inductive EqW (w : World) (n : Nat) (hp : Heap) : List Value → List Value → Bool → Prop
  | nil : EqW w n hp [] [] true
  | ne {x y xs ys} : VEq w n hp x y false → EqW w n hp (x :: xs) (y :: ys) false
  | eq {x y xs ys b} : VEq w n hp x y true → EqW w n hp xs ys b → EqW w n hp (x :: xs) (y :: ys) b
  | lenl {x xs} : EqW w n hp (x :: xs) [] false
  | lenr {y ys} : EqW w n hp [] (y :: ys) false

noncomputable def TE (w : World) (n : Nat) (hp : Heap) (xs ys : List Value) (r : Bool) (rest : List (Value × Value)) : Prop := ∃ xs' ys', rest = List.zip xs' ys' ∧ EqW w n hp xs' ys' r ∧ (xs'.length == ys'.length) = (xs.length == ys.length)
theorem TE.next {n : Nat} {hp : Heap} {xs ys : List Value} {r : Bool} {u v : Value} {rest : List (Value × Value)} (h : TE w n hp xs ys r ((u, v) :: rest)) : (VEq w n hp u v false ∧ r = false) ∨ (VEq w n hp u v true ∧ TE w n hp xs ys r rest) := by
  obtain ⟨xs', ys', hz, hl, hlen⟩ := h
  cases hl with
  | ne hv => cases hz; exact .inl ⟨hv, rfl⟩
  | eq hv hl => cases hz; exact .inr ⟨hv, _, _, rfl, hl, (by rw [← hlen, List.length_cons, List.length_cons, Bool.eq_iff_iff, beq_iff_eq, beq_iff_eq, Nat.succ_inj])⟩
  | _ => cases hz
theorem TE.last {n : Nat} {hp : Heap} {xs ys : List Value} {r : Bool} (h : TE w n hp xs ys r []) : (xs.length == ys.length) = r := by
  obtain ⟨xs', ys', hz, hl, hlen⟩ := h
  cases hl with
  | ne hv => cases hz
  | eq hv hl => cases hz
  | _ => exact hlen.symm
theorem tuple_eq_tree {prog : Program} {A : Around} {E : Value → Shared → Prop} {s : Shared} {n : Nat} {a b : Addr} {xs ys : List Value} {r : Bool} {P : Fin → Shared → Prop} (ha : TupIs s.heap a xs) (hb : TupIs s.heap b ys) (H : EqW w n s.heap xs ys r)
    (hu : A.units + n < cLine) (h : P (.done (.ret (.bool r))) s) :
    wpAny (model prog w) A (Builtin.«tuple.__eq__» ⟨[.ref a, .ref b], []⟩) P E s := by
  have hTb := hb.typeIs
  obtain ⟨oa, na, hoa, _, hda⟩ := ha
  obtain ⟨ob, nb, hob, _, hdb⟩ := hb
  show wpAny _ _ (isInstance (.ref b) (.type "tuple") >>= _) _ _ s
  refine wpAny_bind (wpAny_isInstance hTb isSubtype_tuple_tuple ?_)
  simp only [Bool.not_true, Bool.false_eq_true, if_false]
  refine wpAny_bind (wpAny_tupleItemsOf hoa hda ?_)
  refine wpAny_bind (wpAny_tupleItemsOf hob hdb ?_)
  refine wpAny_bind ?_
  refine wpAny_forIn_list _
    (fun rest r' s' => r'.1 = none ∧ s' = s ∧ TE w n s.heap xs ys r rest)
    _ ?_ ?_ _ _ ⟨rfl, rfl, xs, ys, rfl, H, rfl⟩
  · rintro ⟨u, v⟩ rest r' s' ⟨hr, rfl, hl⟩
    rcases hl.next with ⟨hv, e⟩ | ⟨hv, hl⟩
    · refine wpAny_bind (hv prog _ E _ _ hu rfl ?_)
      rw [e] at h
      exact wpAny_bind (wpAny_pure (wpAny_pure (wpAny_pure h)))
    · refine wpAny_bind (hv prog _ E _ _ hu rfl ?_)
      exact wpAny_pure ⟨rfl, rfl, hl⟩
  · rintro ⟨r1, r2⟩ s' ⟨hr, rfl, hl⟩
    cases hr
    refine wpAny_pure ?_
    have e := hl.last
    rw [← e] at h
    exact h

theorem veq_tuple {n : Nat} {hp : Heap} {a b : Addr} {xs ys : List Value} {r : Bool} (ha : TupIs hp a xs) (hb : TupIs hp b ys) (H : EqW w n hp xs ys r) (hr : a = b → r = true) :
    VEq w (n + 3) hp (.ref a) (.ref b) r := by
  intro prog A E s Q hu hs h
  subst hs
  unfold eqBool
  try with_reducible refine wpAny_holding ?_
  show wpAny _ _ (if (Value.ref a == Value.ref b) = true then _ else _) Q E s
  by_cases hab : (Value.ref a == Value.ref b) = true
  · rw [if_pos hab]
    have e : a = b := by have := eq_of_beq hab; injection this
    exact wpAny_bind (wpAny_rule (wpAny_pure (by rw [hr e] at h; exact h)))
  · rw [if_neg hab]
    refine wpAny_bind (wpAny_richCompare_same_room (op := .Eq) ha.typeIs hb.typeIs F.slot_tuple_eq
      (wpAny_call_entry F.slot_tuple_eq ha.typeIs F.entry_tuple_eq (tuple_eq_tree ha hb H ?_ ⟨_, rfl, (fun e => nomatch e), wpAny_truthy_bool h⟩) (F.args_tuple_eq_2 _ _)) (by lia))
    show _ + n < cLine
    simp only [Around.in1_units]
    lia

inductive QuietW (w : World) (n : Nat) (hp : Heap) : List Value → Prop
  | nil : QuietW w n hp []
  | cons {v vs} : VQuiet w n hp v → QuietW w n hp vs → QuietW w n hp (v :: vs)
theorem vquiet_tuple {n : Nat} {hp : Heap} {a : Addr} {vs : List Value} (ht : TupIs hp a vs) (H : QuietW w n hp vs) : VQuiet w (n + 1) hp (.ref a) := by
  intro prog A E s Q hs h
  subst hs
  have hT := ht.typeIs
  obtain ⟨o, k, ho, _, hd⟩ := ht
  unfold eqIsQuiet
  refine wpAny_bind (wpAny_specialOf hT F.slot_tuple_eq.lookup ?_)
  show wpAny _ _ (isInstance (.ref a) (.type "tuple") >>= _) _ _ s
  refine wpAny_bind (wpAny_isInstance hT isSubtype_tuple_tuple ?_)
  simp only [Bool.not_true, Bool.false_eq_true, if_false]
  refine wpAny_bind (wpAny_seqItems ho hd ?_)
  refine wpAny_bind ?_
  show wpAny _ _ (forIn vs.toArray _ _) _ _ s
  rw [← Array.forIn_toList]
  refine wpAny_forIn_list _ (fun rest r s' => r.1 = none ∧ s' = s ∧ QuietW w n s.heap rest) _ ?_ ?_ _ _ ⟨rfl, rfl, by simpa using H⟩
  · rintro v rest r s' ⟨hr, rfl, hall⟩
    cases hall with
    | cons h1 h2 =>
      refine wpAny_bind (h1 prog _ E _ _ rfl ?_)
      simp only [Bool.not_true, Bool.false_eq_true, if_false]
      exact wpAny_pure ⟨rfl, rfl, h2⟩
  · rintro ⟨r1, r2⟩ s' ⟨hr, rfl, _⟩
    simp only at hr
    subst hr
    exact wpAny_pure h
end key
set_option genInjectivity true in
structure NK where
  op : Str
  args : List Int
  sort : Int
  dat : Int ⊕ (Int × Int)
  deriving DecidableEq

section kind
variable {w : World}
noncomputable def extS : Str := Str.ofString "extract"
noncomputable def TupInts (h : Heap) (a : Addr) (ns : List Int) : Prop := ∃ vs, TupIs h a vs ∧ IntsAre vs ns
noncomputable def DatV (h : Heap) (d : Int ⊕ (Int × Int)) (v : Value) : Prop := match d with
  | .inl i => ∃ t, v = .int i t
  | .inr p => ∃ a, v = .ref a ∧ TupInts h a [p.1, p.2]
noncomputable def NK.ok (k : NK) : Prop := k.dat.isRight = true ↔ k.op = extS
noncomputable def IsNK (h : Heap) (k : NK) (a : Addr) : Prop := k.ok ∧ ∃ t1 a2 t3 v4, TupIs h a [.str k.op t1, .ref a2, .int k.sort t3, v4] ∧ TupInts h a2 k.args ∧ DatV h k.dat v4

theorem TupInts.inj {h : Heap} {a : Addr} {ns ms : List Int} (x : TupInts h a ns) (y : TupInts h a ms) : ns = ms := by
  obtain ⟨vs, h1, h2⟩ := x
  obtain ⟨us, h3, h4⟩ := y
  obtain rfl := h1.inj h3
  clear h1 h3
  induction h2 generalizing ms with
  | nil => cases h4; rfl
  | @cons i t vs ns _ ih => cases h4 with
    | cons k4 => rw [ih (by assumption)]
noncomputable def hashInts (ns : List Int) : Int := reduceHash (Builtin.Tuple.tupleHashOf (ns.map hashInt))
theorem hashW_ints {n : Nat} {hp : Heap} {vs : List Value} {ns : List Int} (h : IntsAre vs ns) : HashW w n hp vs (ns.map hashInt) ns.length := by
  induction h with
  | nil => exact .nil
  | @cons i t vs ns _ ih =>
    have := HashW.cons (w := w) (n := n) (hp := hp) (v := .int i t) (h := hashInt i) (d := 1) vhash_int ih
    rw [Nat.add_comm] at this
    exact this
theorem vhash_ints {n : Nat} {hp : Heap} {a : Addr} {ns : List Int} (h : TupInts hp a ns) : VHash w (n + 1) hp (.ref a) (hashInts ns) (ns.length + 1) := by
  obtain ⟨vs, h1, h2⟩ := h
  exact vhash_tuple h1 (hashW_ints h2)
theorem eqW_ints {n : Nat} {hp : Heap} {vs us : List Value} {ns ms : List Int} (h : IntsAre vs ns) (k : IntsAre us ms) : EqW w n hp vs us (decide (ns = ms)) := by
  induction h generalizing us ms with
  | nil => cases k with
    | nil => exact .nil
    | cons _ => exact .lenr
  | @cons i t vs ns _ ih => cases k with
    | nil => exact .lenl
    | @cons j u us ms k =>
      by_cases e : i = j
      · subst e
        have := EqW.eq (w := w) (n := n) (hp := hp) (x := .int i t) (y := .int i u) (by simpa using veq_int (w := w) (n := n) (hp := hp) (i := i) (j := i) (t := t) (u := u)) (ih k)
        simpa using this
      · have := EqW.ne (w := w) (n := n) (hp := hp) (x := .int i t) (y := .int j u) (xs := vs) (ys := us) (by have h := veq_int (w := w) (n := n) (hp := hp) (i := i) (j := j) (t := t) (u := u); rwa [beq_eq_false_iff_ne.mpr e] at h)
        simpa [e] using this
theorem veq_ints {n : Nat} {hp : Heap} {a b : Addr} {ns ms : List Int} (h : TupInts hp a ns) (k : TupInts hp b ms) : VEq w (n + 3) hp (.ref a) (.ref b) (decide (ns = ms)) := by
  have hr : a = b → decide (ns = ms) = true := fun e => by subst e; exact decide_eq_true (h.inj k)
  obtain ⟨vs, h1, h2⟩ := h
  obtain ⟨us, k1, k2⟩ := k
  exact veq_tuple h1 k1 (eqW_ints h2 k2) hr
theorem quietW_ints {n : Nat} {hp : Heap} {vs : List Value} {ns : List Int} (h : IntsAre vs ns) : QuietW w n hp vs := by
  induction h with
  | nil => exact .nil
  | @cons i t vs ns _ ih => exact .cons (vquiet_val rfl) ih
theorem vquiet_ints {n : Nat} {hp : Heap} {a : Addr} {ns : List Int} (h : TupInts hp a ns) : VQuiet w (n + 1) hp (.ref a) := by
  obtain ⟨vs, h1, h2⟩ := h
  exact vquiet_tuple h1 (quietW_ints h2)

noncomputable def datHash : Int ⊕ (Int × Int) → Int
  | .inl i => hashInt i
  | .inr p => hashInts [p.1, p.2]
noncomputable def datDraws : Int ⊕ (Int × Int) → Nat
  | .inl _ => 1
  | .inr _ => 3
theorem vhash_dat {n : Nat} {hp : Heap} {d : Int ⊕ (Int × Int)} {v : Value} (h : DatV hp d v) : VHash w (n + 1) hp v (datHash d) (datDraws d) := by
  cases d with
  | inl i => obtain ⟨t, rfl⟩ := h; exact vhash_int
  | inr p => obtain ⟨a, rfl, h⟩ := h; exact vhash_ints h
theorem vquiet_dat {n : Nat} {hp : Heap} {d : Int ⊕ (Int × Int)} {v : Value} (h : DatV hp d v) : VQuiet w (n + 1) hp v := by
  cases d with
  | inl i => obtain ⟨t, rfl⟩ := h; exact vquiet_val rfl
  | inr p => obtain ⟨a, rfl, h⟩ := h; exact vquiet_ints h
theorem veq_dat {n : Nat} {hp : Heap} {d e : Int ⊕ (Int × Int)} {v u : Value} (h : DatV hp d v) (k : DatV hp e u) (s : d.isRight = e.isRight) : VEq w (n + 3) hp v u (decide (d = e)) := by
  cases d with
  | inl i => cases e with
    | inl j =>
      obtain ⟨t, rfl⟩ := h; obtain ⟨t', rfl⟩ := k
      have := veq_int (w := w) (n := n + 3) (hp := hp) (i := i) (j := j) (t := t) (u := t')
      rwa [show (i == j) = decide ((Sum.inl i : Int ⊕ (Int × Int)) = Sum.inl j) from by rw [Bool.eq_iff_iff]; simp] at this
    | inr p => cases s
  | inr p => cases e with
    | inl j => cases s
    | inr q =>
      obtain ⟨a, rfl, h⟩ := h; obtain ⟨b, rfl, k⟩ := k
      have := veq_ints (w := w) (n := n) h k
      rw [show decide (Sum.inr p = (Sum.inr q : Int ⊕ (Int × Int))) = decide ([p.1, p.2] = [q.1, q.2]) from by
        apply decide_eq_decide.mpr
        obtain ⟨a, b⟩ := p; obtain ⟨c, d⟩ := q
        simp]
      exact this

noncomputable def NK.hash (w : World) (k : NK) : Int := reduceHash (Builtin.Tuple.tupleHashOf [hashStr w k.op, hashInts k.args, hashInt k.sort, datHash k.dat])
noncomputable def NK.draws (k : NK) : Nat := 1 + ((k.args.length + 1) + (1 + (datDraws k.dat + 0))) + 1

theorem IsNK.inj {h : Heap} {a : Addr} {x y : NK} (hx : IsNK h x a) (hy : IsNK h y a) : x = y := by
  obtain ⟨_, t1, a2, t3, v4, h1, h2, h3⟩ := hx
  obtain ⟨_, u1, b2, u3, w4, k1, k2, k3⟩ := hy
  have e := h1.inj k1
  simp only [List.cons.injEq, Value.str.injEq, Value.ref.injEq, Value.int.injEq, and_true] at e
  obtain ⟨⟨e1, _⟩, e2, ⟨e3, _⟩, e4⟩ := e
  subst e2 e4
  have e5 := h2.inj k2
  have e6 : x.dat = y.dat := by
    cases hd : x.dat with
    | inl i => cases hd' : y.dat with
      | inl j =>
        rw [hd] at h3; rw [hd'] at k3
        obtain ⟨t, rfl⟩ := h3; obtain ⟨t', e⟩ := k3
        cases e; rfl
      | inr q =>
        rw [hd] at h3; rw [hd'] at k3
        obtain ⟨t, rfl⟩ := h3; obtain ⟨t', e, _⟩ := k3
        cases e
    | inr p => cases hd' : y.dat with
      | inl j =>
        rw [hd] at h3; rw [hd'] at k3
        obtain ⟨t, rfl⟩ := k3; obtain ⟨t', e, _⟩ := h3
        cases e
      | inr q =>
        rw [hd] at h3; rw [hd'] at k3
        obtain ⟨b, rfl, h3⟩ := h3; obtain ⟨b', e, k3⟩ := k3
        cases e
        have := h3.inj k3
        obtain ⟨a, b⟩ := p; obtain ⟨c, d⟩ := q
        simp at this
        rw [this.1, this.2]
  cases x; cases y
  simp_all
theorem TupIs.keeps {h h' : Heap} {a d : Addr} {o : Obj} {es ep} {vs : List Value} (x : TupIs h a vs) (ho : h.get? d = some o) (hd : o.data = .dict es ep) (hs : Heap.SameBut d h h') : TupIs h' a vs := by
  obtain ⟨o', n, ho', hc, hd'⟩ := x
  have hne : a ≠ d := by
    rintro rfl
    obtain rfl : o' = o := Option.some.inj (ho'.symm.trans ho)
    rw [hd] at hd'; exact nomatch hd'
  exact ⟨o', n, (hs.2 a hne).trans ho', hc, hd'⟩
theorem IsNK.keeps {h h' : Heap} {k : NK} {a d : Addr} {o : Obj} {es ep} (x : IsNK h k a) (ho : h.get? d = some o) (hd : o.data = .dict es ep) (hs : Heap.SameBut d h h') : IsNK h' k a := by
  obtain ⟨ok, t1, a2, t3, v4, h1, ⟨vs, h2, h2'⟩, h3⟩ := x
  refine ⟨ok, t1, a2, t3, v4, h1.keeps ho hd hs, ⟨vs, h2.keeps ho hd hs, h2'⟩, ?_⟩
  unfold DatV at h3 ⊢
  split
  · rename_i q; rw [q] at h3; exact h3
  · rename_i q; rw [q] at h3
    obtain ⟨b, e, vs, h3, h3'⟩ := h3
    exact ⟨b, e, vs, h3.keeps ho hd hs, h3'⟩

theorem nk_hash {hp : Heap} {k : NK} {a : Addr} (h : IsNK hp k a) : VHash w 2 hp (.ref a) (k.hash w) k.draws := by
  obtain ⟨_, t1, a2, t3, v4, h1, h2, h3⟩ := h
  exact vhash_tuple h1 (.cons vhash_str (.cons (vhash_ints h2) (.cons vhash_int (.cons (vhash_dat h3) .nil))))
theorem nk_quiet {hp : Heap} {k : NK} {a : Addr} (h : IsNK hp k a) : VQuiet w 8 hp (.ref a) := by
  obtain ⟨_, t1, a2, t3, v4, h1, h2, h3⟩ := h
  exact vquiet_tuple h1 (.cons (vquiet_val rfl) (.cons (vquiet_ints h2) (.cons (vquiet_val rfl) (.cons (vquiet_dat h3) .nil))))
theorem nk_eq {hp : Heap} {x y : NK} {a b : Addr} (hx : IsNK hp x a) (hy : IsNK hp y b) : VEq w 6 hp (.ref a) (.ref b) (decide (x = y)) := by
  have hr : a = b → decide (x = y) = true := fun e => by subst e; exact decide_eq_true (hx.inj hy)
  obtain ⟨ox, t1, a2, t3, v4, h1, h2, h3⟩ := hx
  obtain ⟨oy, u1, b2, u3, w4, k1, k2, k3⟩ := hy
  refine veq_tuple (n := 3) h1 k1 ?_ hr
  have e1 := veq_str (w := w) (n := 3) (hp := hp) (x := x.op) (y := y.op) (t := t1) (u := u1)
  have e2 := veq_ints (w := w) (n := 0) h2 k2
  have e3 := veq_int (w := w) (n := 3) (hp := hp) (i := x.sort) (j := y.sort) (t := t3) (u := u3)
  by_cases q1 : x.op = y.op
  · rw [decide_eq_true q1] at e1
    refine .eq e1 ?_
    by_cases q2 : x.args = y.args
    · rw [decide_eq_true q2] at e2
      refine .eq e2 ?_
      by_cases q3 : x.sort = y.sort
      · rw [beq_iff_eq.mpr q3] at e3
        refine .eq e3 ?_
        have hs : x.dat.isRight = y.dat.isRight := by
          rw [Bool.eq_iff_iff]
          exact ox.trans (by rw [q1]; exact oy.symm)
        have e4 := veq_dat (w := w) (n := 0) h3 k3 hs
        by_cases q4 : x.dat = y.dat
        · have : x = y := by cases x; cases y; simp_all
          rw [decide_eq_true this]
          rw [decide_eq_true q4] at e4
          exact .eq e4 .nil
        · have : x ≠ y := fun e => q4 (by rw [e])
          rw [decide_eq_false this]
          rw [decide_eq_false q4] at e4
          exact .ne e4
      · have : x ≠ y := fun e => q3 (by rw [e])
        rw [decide_eq_false this]
        rw [beq_eq_false_iff_ne.mpr q3] at e3
        exact .ne e3
    · have : x ≠ y := fun e => q2 (by rw [e])
      rw [decide_eq_false this]
      rw [decide_eq_false q2] at e2
      exact .ne e2
  · have : x ≠ y := fun e => q1 (by rw [e])
    rw [decide_eq_false this]
    rw [decide_eq_false q1] at e1
    exact .ne e1

noncomputable def nkKind (prog : Program) (w : World) : HeapKind prog w NK where
  is := IsNK
  hash := NK.hash w
  draws := NK.draws
  room := fun A => A.units + 6 < cLine
  inj := fun hx hy => hx.inj hy
  keeps := fun x ho hd hs => x.keeps ho hd hs
  pyHash := fun hu hk h => nk_hash hk _ _ _ _ _ (by lia) rfl h
  eqBool := fun hu hx hy h => nk_eq hx hy _ _ _ _ _ hu rfl h
  quiet := fun hk h => nk_quiet hk _ _ _ _ _ rfl h
end kind
end
section
theorem kr_Base : True := by
  k_with_none
  trivial
abbrev pw : Program := PySem.Challenge.rw_nz0166_01.row.prog
noncomputable abbrev KK (w : World) : Frag := Mine.hd.heap_39 w.params
theorem fill : (fun _ : OpenLaw × (Params → Frag) => True) (PySem.Challenge.rw_nz0166_01, Mine.hd.heap_39) := by k_fill; trivial
abbrev TopL (mean : ExcName → Option Value) (mg mb : Str → Option Value) (h : Heap) : Prop := Top Mine.hd.view_39 (looseW Mine.hd.view_39 []) mean mg mb h

set_option genInjectivity true in
inductive T where
  | nil | tt | ff
  | leaf (k w : Nat) | num (v w : Nat)
  | bnot (x : T) | cat (x y : T) | ext (h l : Nat) (x : T) | zx (m : Nat) (x : T) | sx (m : Nat) (x : T)
  | bit (i : Nat) (x : T) | neg (x : T)
  deriving DecidableEq
namespace T
noncomputable def wd : T → Nat
  | .leaf _ w => w
  | .num _ w => w
  | .bnot x => x.wd
  | .cat x y => x.wd + y.wd
  | .ext h l _ => h - l + 1
  | .zx m x => x.wd + m
  | .sx m x => x.wd + m
  | .nil => 0
  | .tt => 0
  | .ff => 0
  | .bit _ _ => 0
  | .neg _ => 0
noncomputable def op : T → Str
  | .nil => Str.ofString "" | .tt => Str.ofString "true" | .ff => Str.ofString "false"
  | .leaf .. => Str.ofString "app" | .num .. => Str.ofString "bvnum" | .bnot .. => Str.ofString "bvnot"
  | .cat .. => Str.ofString "concat" | .ext .. => Str.ofString "extract" | .zx .. => Str.ofString "zero_extend" | .sx .. => Str.ofString "sign_extend"
  | .bit .. => Str.ofString "bit" | .neg .. => Str.ofString "not"
noncomputable def kids : T → List T
  | .bnot x => [x]
  | .ext _ _ x => [x]
  | .zx _ x => [x]
  | .sx _ x => [x]
  | .bit _ x => [x]
  | .neg x => [x]
  | .cat x y => [x, y]
  | .nil => []
  | .tt => []
  | .ff => []
  | .leaf _ _ => []
  | .num _ _ => []
noncomputable def dat : T → Int ⊕ (Int × Int)
  | .leaf k _ => .inl k
  | .num v _ => .inl v
  | .ext h l _ => .inr (h, l)
  | .zx m _ => .inl m
  | .sx m _ => .inl m
  | .bit i _ => .inl i
  | .nil => .inl 0
  | .tt => .inl 0
  | .ff => .inl 0
  | .bnot _ => .inl 0
  | .cat _ _ => .inl 0
  | .neg _ => .inl 0
end T
noncomputable def datD : Int ⊕ (Int × Int) → Dat
  | .inl i => .int i
  | .inr p => .tuple [.int p.1, .int p.2]

structure St where
  ts : List T
  ws : List Nat
  fs : List Nat
noncomputable def St.ix (σ : St) (τ : T) : Nat := σ.ts.idxOf τ
noncomputable def St.sx (σ : St) (w : Nat) : Nat := if w = 0 then 0 else σ.ws.idxOf w + 3
noncomputable def At (σ : St) (n : Nat) (τ : T) : Prop := σ.ts[n]? = some τ
structure St.Ok (σ : St) : Prop where
  n0 : At σ 0 .nil
  n1 : At σ 1 .tt
  n2 : At σ 2 .ff
  nd : σ.ts.Nodup
  nw : σ.ws.Nodup
  wb : ∀ w ∈ σ.ws, 1 ≤ w ∧ w ≤ 4096
  cl : ∀ τ ∈ σ.ts, ∀ k ∈ τ.kids, k ∈ σ.ts
  wi : ∀ τ ∈ σ.ts, τ.wd = 0 ∨ τ.wd ∈ σ.ws
noncomputable def St.key (σ : St) (τ : T) : NK := ⟨τ.op, τ.kids.map fun k => (σ.ix k : Int), (σ.sx τ.wd : Nat), τ.dat⟩

structure Ba where
  b : Addr
  d : Addr
  sn : Addr
  sw : Addr
  fn : Addr
  fa : Addr
  fr : Addr
  to : Addr
  ta : Addr
  ts : Addr
  td : Addr
  nu : Addr
  bv : Addr
  tk : Nat → Tok
structure Bc where
  sn : List Value
  sw : List Value
  fn : List Value
  fa : List Value
  fr : List Value
  to : List Value
  ta : List Value
  ts : List Value
  td : List Value
  nu : Obj
  bv : Obj
  e : Nat → Nat
noncomputable def ent (w : World) (s : String) (t : Tok) (v : Value) : DictEntry := ⟨PyData.keyHash w.params (Str.ofString s), .str (Str.ofString s) t, v⟩
noncomputable def bankEs (w : World) (A : Ba) : List DictEntry :=
  [ent w "sort_names" (A.tk 0) (.ref A.sn), ent w "sort_widths" (A.tk 1) (.ref A.sw), ent w "fun_names" (A.tk 2) (.ref A.fn), ent w "fun_args" (A.tk 3) (.ref A.fa), ent w "fun_results" (A.tk 4) (.ref A.fr),
   ent w "fresh_count" (A.tk 5) (.int 0 (A.tk 20)), ent w "term_ops" (A.tk 6) (.ref A.to), ent w "term_args" (A.tk 7) (.ref A.ta), ent w "term_sorts" (A.tk 8) (.ref A.ts), ent w "term_datas" (A.tk 9) (.ref A.td),
   ent w "numbers" (A.tk 10) (.ref A.nu), ent w "true_number" (A.tk 11) (.int 1 (A.tk 21)), ent w "false_number" (A.tk 12) (.int 2 (A.tk 22)), ent w "bv_numbers" (A.tk 13) (.ref A.bv)]
noncomputable def M (w : World) (A : Ba) (c : Bc) : List (Addr × Obj) :=
  [(A.b, instObj 748 A.d), (A.d, dictOf (bankEs w A) 14), (A.sn, listOf c.sn.toArray (c.e 0)), (A.sw, listOf c.sw.toArray (c.e 1)), (A.fn, listOf c.fn.toArray (c.e 2)), (A.fa, listOf c.fa.toArray (c.e 3)),
   (A.fr, listOf c.fr.toArray (c.e 4)), (A.to, listOf c.to.toArray (c.e 5)), (A.ta, listOf c.ta.toArray (c.e 6)), (A.ts, listOf c.ts.toArray (c.e 7)), (A.td, listOf c.td.toArray (c.e 8)), (A.nu, c.nu), (A.bv, c.bv)]
noncomputable def NK.dd (k : NK) : Dat := .tuple [.str k.op, .tuple (k.args.map .int), .int k.sort, datD k.dat]
noncomputable def NuIs (w : World) (o : Obj) (xs : List (NK × Addr × Value)) : Prop := o.ExactDict ∧ ∃ es ep, o.data = .dict es ep ∧ es.toList = xs.map (entryOfKey (nkKind pw w))
structure BvIs (w : World) (o : Obj) (σ : St) (kvs : List (Int × Value)) (D : List (PyData × PyData)) : Prop where
  is : o.IsDictOf (intKind pw w) kvs
  fl : PyProof.V.FlatPairs PyData.int kvs D
  ln : D.length ≤ σ.ws.length
  at_ : ∀ x : Nat, PySem.Spec.lookup (.int x) D = if x ∈ σ.ws then some (.int ((σ.ws.idxOf x + 3 : Nat) : Int)) else none
structure NuRep (w : World) (o : Obj) (st : List (Addr × Obj)) (σ : St) (xs : List (NK × Addr × Value)) : Prop where
  is : NuIs w o xs
  keys : xs.map (·.1) = σ.ts.tail.map σ.key
  dats : ∀ x ∈ xs, DatIn st (.ref x.2.1) x.1.dd
  vals : ∀ (i : Nat) x, xs[i]? = some x → ∃ t, x.2.2 = .int ((i + 1 : Nat) : Int) t
noncomputable def Ba.addrs (A : Ba) : List Addr := [A.b, A.d, A.sn, A.sw, A.fn, A.fa, A.fr, A.to, A.ta, A.ts, A.td, A.nu, A.bv]
structure Rep (w : World) (A : Ba) (c : Bc) (X st : List (Addr × Obj)) (σ : St) : Prop where
  ok : σ.Ok
  nd : A.addrs.Nodup
  off : ∀ p ∈ X ++ st, p.1 ∉ A.addrs
  sep : ∀ p ∈ st, p.1 ∉ X.map (·.1)
  to : DatAll st c.to (σ.ts.map fun τ => .str τ.op)
  ta : DatAll st c.ta (σ.ts.map fun τ => .tuple (τ.kids.map fun k => .int (σ.ix k)))
  ts : DatAll st c.ts (σ.ts.map fun τ => .int (σ.sx τ.wd : Nat))
  td : DatAll st c.td (σ.ts.map fun τ => datD τ.dat)
  sw : DatAll st c.sw ((0 :: 0 :: 0 :: σ.ws).map fun (n : Nat) => .int n)
  sn : c.sn.length = σ.ws.length + 3
  nu : ∃ xs, NuRep w c.nu st σ xs
  bv : ∃ kvs D, BvIs w c.bv σ kvs D
  fn : c.fn.length = σ.fs.length
  fa : DatAll st c.fa (σ.fs.map fun _ => .tuple [])
  fr : DatAll st c.fr (σ.fs.map fun x => .int (σ.sx x : Nat))
  fw : ∀ x ∈ σ.fs, x ∈ σ.ws
  fl : σ.fs.length ≤ 100
  lo1 : (A.nu == sysModules) = false
  lo2 : (A.bv == sysModules) = false
  room : σ.ts.length ≤ 2 ^ 20

theorem news_sub {h₀ h : Heap} {L : Addr} {l l' : List (Addr × Obj)} (N : News h₀ L h l) (hs : ∀ p ∈ l', p ∈ l) : News h₀ L h l' := fun p hp => N p (hs p hp)

theorem Rep.op {w A c X st σ} (R : Rep w A c X st σ) {n : Nat} {τ : T} (h : At σ n τ) : ∃ t, c.to[n]? = some (.str τ.op t) := by
  have hl : n < (σ.ts.map fun τ => Dat.str τ.op).length := by rw [List.length_map]; exact (List.getElem?_eq_some_iff.mp h).1
  obtain ⟨v, hv, hd⟩ := R.to.get hl
  rw [List.getElem_map, (List.getElem?_eq_some_iff.mp h).2] at hd
  cases hd
  exact ⟨_, hv⟩
theorem Rep.sort {w A c X st σ} (R : Rep w A c X st σ) {n : Nat} {τ : T} (h : At σ n τ) : ∃ t, c.ts[n]? = some (.int (σ.sx τ.wd : Nat) t) := by
  have hl : n < (σ.ts.map fun τ => Dat.int (σ.sx τ.wd : Nat)).length := by rw [List.length_map]; exact (List.getElem?_eq_some_iff.mp h).1
  obtain ⟨v, hv, hd⟩ := R.ts.get hl
  rw [List.getElem_map, (List.getElem?_eq_some_iff.mp h).2] at hd
  cases hd
  exact ⟨_, hv⟩
theorem Rep.args {w A c X st σ} (R : Rep w A c X st σ) {n : Nat} {τ : T} (h : At σ n τ) : ∃ v, c.ta[n]? = some v ∧ DatIn st v (.tuple (τ.kids.map fun k => .int (σ.ix k))) := by
  have hl : n < (σ.ts.map fun τ => Dat.tuple (τ.kids.map fun k => .int (σ.ix k))).length := by rw [List.length_map]; exact (List.getElem?_eq_some_iff.mp h).1
  obtain ⟨v, hv, hd⟩ := R.ta.get hl
  rw [List.getElem_map, (List.getElem?_eq_some_iff.mp h).2] at hd
  exact ⟨v, hv, hd⟩
theorem Rep.data {w A c X st σ} (R : Rep w A c X st σ) {n : Nat} {τ : T} (h : At σ n τ) : ∃ v, c.td[n]? = some v ∧ DatIn st v (datD τ.dat) := by
  have hl : n < (σ.ts.map fun τ => datD τ.dat).length := by rw [List.length_map]; exact (List.getElem?_eq_some_iff.mp h).1
  obtain ⟨v, hv, hd⟩ := R.td.get hl
  rw [List.getElem_map, (List.getElem?_eq_some_iff.mp h).2] at hd
  exact ⟨v, hv, hd⟩
theorem Rep.width {w A c X st σ} (R : Rep w A c X st σ) {x : Nat} (h : x = 0 ∨ x ∈ σ.ws) : ∃ t, c.sw[σ.sx x]? = some (.int x t) := by
  have hl : (0 :: 0 :: 0 :: σ.ws)[σ.sx x]? = some x := by
    unfold St.sx
    split
    · rename_i e; subst e; rfl
    · rename_i e
      have hm : x ∈ σ.ws := h.resolve_left e
      rw [show σ.ws.idxOf x + 3 = σ.ws.idxOf x + 1 + 1 + 1 from rfl, List.getElem?_cons_succ, List.getElem?_cons_succ, List.getElem?_cons_succ]
      rw [List.getElem?_eq_getElem (List.idxOf_lt_length_iff.mpr hm), List.getElem_idxOf]
  have hl' : σ.sx x < ((0 :: 0 :: 0 :: σ.ws).map fun (n : Nat) => Dat.int n).length := by rw [List.length_map]; exact (List.getElem?_eq_some_iff.mp hl).1
  obtain ⟨v, hv, hd⟩ := R.sw.get hl'
  rw [List.getElem_map, (List.getElem?_eq_some_iff.mp hl).2] at hd
  cases hd
  exact ⟨_, hv⟩
theorem Rep.lt {w A c X st σ} (R : Rep w A c X st σ) {n : Nat} {τ : T} (h : At σ n τ) : n < 2 ^ 20 := Nat.lt_of_lt_of_le (List.getElem?_eq_some_iff.mp h).1 R.room
theorem nodup_bound {l : List Nat} (hn : l.Nodup) {N : Nat} (hb : ∀ x ∈ l, 1 ≤ x ∧ x ≤ N) : l.length ≤ N := by
  have h := (List.Nodup.length_le_of_subset hn (l₂ := (List.range N).map (· + 1)) (fun x hx => List.mem_map.mpr ⟨x - 1, List.mem_range.mpr (by have := hb x hx; lia), by have := hb x hx; lia⟩))
  simpa using h
theorem Rep.sx_lt {w A c X st σ} (R : Rep w A c X st σ) {τ : T} (h : τ.wd = 0 ∨ τ.wd ∈ σ.ws) : σ.sx τ.wd < 2 ^ 20 := by
  have := nodup_bound R.ok.nw R.ok.wb
  unfold St.sx
  split
  · lia
  · rename_i e
    have := List.idxOf_lt_length_iff.mpr (h.resolve_left e)
    lia
end
section
theorem kr_Dn : True := by
  k_with_none
  trivial
noncomputable def DInv (st : List (Addr × Obj)) (v : Value) : Dat → Prop
  | .int i => ∃ t, v = .int i t
  | .str x => ∃ t, v = .str x t
  | .bool b => v = .bool b
  | .tuple ds => ∃ a vs n, v = .ref a ∧ (a, ({ cls := .type "tuple", data := .seq vs.toArray n } : Obj)) ∈ st ∧ DatAll st vs ds
  | .list ds => ∃ a vs n, v = .ref a ∧ (a, listOf vs.toArray n) ∈ st ∧ DatAll st vs ds
  | _ => True
theorem dinv {st v d} (h : DatIn st v d) : DInv st v d := by
  cases h with
  | int i t => exact ⟨t, rfl⟩
  | str x t => exact ⟨t, rfl⟩
  | bool b => exact rfl
  | tuple hm ha => exact ⟨_, _, _, rfl, hm, ha⟩
  | list hm ha => exact ⟨_, _, _, rfl, hm, ha⟩
  | none => exact trivial
  | bytes => exact trivial
noncomputable def AInv (st : List (Addr × Obj)) (vs : List Value) : List Dat → Prop
  | [] => vs = []
  | d :: ds => ∃ v vs', vs = v :: vs' ∧ DatIn st v d ∧ DatAll st vs' ds
theorem ainv {st vs ds} (h : DatAll st vs ds) : AInv st vs ds := by
  cases h with
  | nil => exact rfl
  | cons h ha => exact ⟨_, _, rfl, h, ha⟩
theorem tup3 {st v d1 d2 d3} (h : DatIn st v (.tuple [d1, d2, d3])) : ∃ a v1 v2 v3 n, v = .ref a ∧ (a, ({ cls := .type "tuple", data := .seq #[v1, v2, v3] n } : Obj)) ∈ st ∧ DatIn st v1 d1 ∧ DatIn st v2 d2 ∧ DatIn st v3 d3 := by
  obtain ⟨a, vs, n, e, hm, ha⟩ := dinv h
  obtain ⟨v1, vs1, rfl, h1, ha⟩ := ainv ha
  obtain ⟨v2, vs2, rfl, h2, ha⟩ := ainv ha
  obtain ⟨v3, vs3, rfl, h3, ha⟩ := ainv ha
  obtain rfl := ainv ha
  exact ⟨a, v1, v2, v3, n, e, hm, h1, h2, h3⟩
end
section
theorem kr_Rules : True := by
  k_with_none
  trivial
theorem ints_of {news : List (Addr × Obj)} : ∀ {ns : List Int} {vs : List Value}, DatAll news vs (ns.map Dat.int) → IntsAre vs ns
  | [], _, h => by cases h; exact .nil
  | n :: ns, _, h => by
    cases h with
    | cons h r => cases h; exact .cons _ _ (ints_of r)
theorem tupIs_of {h₀ h : Heap} {L a : Addr} {news : List (Addr × Obj)} (N : News h₀ L h news) {ds : List Dat} (hd : DatIn news (.ref a) (.tuple ds)) : ∃ vs, TupIs h a vs ∧ DatAll news vs ds := by
  cases hd with
  | tuple hm ha => exact ⟨_, ⟨_, _, N.get hm, rfl, rfl⟩, ha⟩
theorem tup4 {st v d1 d2 d3 d4} (h : DatIn st v (.tuple [d1, d2, d3, d4])) : ∃ a v1 v2 v3 v4 n, v = .ref a ∧ (a, ({ cls := .type "tuple", data := .seq #[v1, v2, v3, v4] n } : Obj)) ∈ st ∧ DatIn st v1 d1 ∧ DatIn st v2 d2 ∧ DatIn st v3 d3 ∧ DatIn st v4 d4 := by
  obtain ⟨a, vs, n, e, hm, ha⟩ := dinv h
  obtain ⟨v1, vs1, rfl, h1, ha⟩ := ainv ha
  obtain ⟨v2, vs2, rfl, h2, ha⟩ := ainv ha
  obtain ⟨v3, vs3, rfl, h3, ha⟩ := ainv ha
  obtain ⟨v4, vs4, rfl, h4, ha⟩ := ainv ha
  obtain rfl := ainv ha
  exact ⟨a, v1, v2, v3, v4, n, e, hm, h1, h2, h3, h4⟩
theorem tint {h₀ h : Heap} {L : Addr} {v : Value} {news : List (Addr × Obj)} (N : News h₀ L h news) {ns : List Int} (hd : DatIn news v (.tuple (ns.map .int))) : ∃ a, v = .ref a ∧ TupInts h a ns :=
  let ⟨a, vs, _, e, hm, ha⟩ := dinv hd
  ⟨a, e, vs, ⟨_, _, N.get hm, rfl, rfl⟩, ints_of ha⟩
theorem datV_of {h₀ h : Heap} {L : Addr} {v : Value} {news : List (Addr × Obj)} (N : News h₀ L h news) : ∀ {d : Int ⊕ (Int × Int)}, DatIn news v (datD d) → DatV h d v
  | .inl _, hd => dinv hd
  | .inr p, hd => tint N (ns := [p.1, p.2]) hd
theorem isNK_of {h₀ h : Heap} {L a : Addr} {news : List (Addr × Obj)} (N : News h₀ L h news) {k : NK} (hd : DatIn news (.ref a) k.dd) (ok : k.ok) : IsNK h k a := by
  obtain ⟨a', v1, v2, v3, v4, n, e, hm, h1, h2, h3, h4⟩ := tup4 hd
  obtain ⟨t1, e1⟩ := dinv h1
  obtain ⟨a2, e2, h2⟩ := tint N h2
  obtain ⟨t3, e3⟩ := dinv h3
  cases e
  exact ⟨ok, t1, a2, t3, v4, ⟨_, n, N.get hm, rfl, e1 ▸ e2 ▸ e3 ▸ rfl⟩, h2, datV_of N h4⟩
theorem St.key_ok (σ : St) (τ : T) : (σ.key τ).ok := by
  unfold NK.ok St.key extS
  cases τ <;> simp only [T.dat, T.op, Sum.isRight_inl, Sum.isRight_inr, Bool.false_eq_true, false_iff, true_iff] <;> decide

section
variable {w : World} {A : Around} {E : Value → Shared → Prop} {s : Shared} {h₀ : Heap} {L d a : Addr} {m : Str → Option Value} {news : List (Addr × Obj)} {o : Obj} {xs : List (NK × Addr × Value)} {k : NK} {Q : Value → Shared → Prop}
theorem nu_at (N : News h₀ L s.heap news) (hm : (d, o) ∈ news) (NO : NuIs w o xs) (ks : ∀ x ∈ xs, DatIn news (.ref x.2.1) x.1.dd ∧ x.1.ok) (nd : (xs.map (·.1)).Nodup) : s.heap.DictOfH (nkKind pw w) d xs := by
  obtain ⟨ex, es, ep, hd, he⟩ := NO
  exact ⟨o, es, ep, N.get hm, ex, hd, he, fun x hx => isNK_of N (ks x hx).1 (ks x hx).2, nd⟩
theorem nu_get {dflt v : Value} (N : News h₀ L s.heap news) (hm : (d, o) ∈ news) (NO : NuIs w o xs) (ks : ∀ x ∈ xs, DatIn news (.ref x.2.1) x.1.dd ∧ x.1.ok) (nd : (xs.map (·.1)).Nodup) (lo : (d == sysModules) = false)
    (hk : DatIn news (.ref a) k.dd) (ok : k.ok) (hu : A.units + 8 < cLine) (hv : ((atKey xs k).map (·.2)).getD dflt = v) (h : ∀ tk, Q v { s with toks := tk }) :
    wpAny (model pw w) A (call (.builtin "dict.get") [.ref d, .ref a, dflt]) Q E s := by
  have hd := nu_at N hm NO ks nd
  refine call_meetsIn PySem.F.slot_dict_get hd.typeIs PySem.F.entry_dict_get (PySem.F.args_dict_get_3 _ _ _) (meetsH_dict_get_default (nkKind pw w) d a lo dflt) ⟨?_, k, xs, isNK_of N hk ok, hd, ?_⟩
  · show A.units + 1 + 6 < cLine; lia
  · rw [hv]; exact h _
end
theorem nu_meth {prog : Program} {w : World} {A : Around} {E : Value → Shared → Prop} {s : Shared} {h₀ : Heap} {L d : Addr} {news : List (Addr × Obj)} {o : Obj} {pl : Sem Bool} {Q : Value × List Value → Shared → Prop} (N : News h₀ L s.heap news) (hm : (d, o) ∈ news) (ex : o.ExactDict)
    (h : Q (.builtin "dict.get", [.ref d]) s) : wpAny (model prog w) A (getMethod (.ref d) "get" pl) Q E s :=
  getMethod_builtin (T := "dict") ⟨o, N.get hm, ex.1⟩ PySem.F.plainAttrs_dict PySem.F.slot_dict_get PySem.F.type_dict_get (fun b e => by cases e; exact ⟨o, N.get hm, ex.2.1⟩) h
section
variable {w : World} {A : Around} {E : Value → Shared → Prop} {s : Shared} {h₀ : Heap} {L d a : Addr} {m : Str → Option Value} {news : List (Addr × Obj)} {o : Obj} {xs : List (NK × Addr × Value)} {k : NK} {Q : Value → Shared → Prop}
end
theorem datUp {l l' : List (Addr × Obj)} {v : Value} {d : Dat} (h : DatIn l v d) (hs : ∀ p ∈ l, p ∈ l') : DatIn l' v d := DatIn.mono hs h
end
section
theorem kr_Add : True := by
  k_with_none
  trivial
noncomputable def Fits (σ : St) (τ : T) : Prop := (∀ k ∈ τ.kids, k ∈ σ.ts) ∧ (τ.wd = 0 ∨ τ.wd ∈ σ.ws)
noncomputable def St.add (σ : St) (τ : T) : St := if τ ∈ σ.ts then σ else ⟨σ.ts ++ [τ], σ.ws, σ.fs⟩
structure Ext (σ σ' : St) (k : Nat) : Prop where
  ts : ∃ l, σ'.ts = σ.ts ++ l ∧ l.length ≤ k
  ws : ∃ l, σ'.ws = σ.ws ++ l
theorem Ext.refl (σ : St) (k : Nat) : Ext σ σ k := ⟨⟨[], by simp, Nat.zero_le _⟩, ⟨[], by simp⟩⟩
theorem Ext.trans {σ σ' σ'' : St} {j k : Nat} (x : Ext σ σ' j) (y : Ext σ' σ'' k) : Ext σ σ'' (j + k) := by
  obtain ⟨⟨l, h1, h2⟩, ⟨q, h3⟩⟩ := x
  obtain ⟨⟨l', k1, k2⟩, ⟨q', k3⟩⟩ := y
  exact ⟨⟨l ++ l', by rw [k1, h1, List.append_assoc], by rw [List.length_append]; lia⟩, ⟨q ++ q', by rw [k3, h3, List.append_assoc]⟩⟩
theorem Ext.le {σ σ' : St} {j k : Nat} (x : Ext σ σ' j) (h : j ≤ k) : Ext σ σ' k := let ⟨⟨l, h1, h2⟩, q⟩ := x; ⟨⟨l, h1, Nat.le_trans h2 h⟩, q⟩
theorem Ext.at {σ σ' : St} {k n : Nat} {τ : T} (x : Ext σ σ' k) (h : At σ n τ) : At σ' n τ := by
  obtain ⟨⟨l, h1, _⟩, _⟩ := x
  unfold At at *
  rw [h1, List.getElem?_append_left (List.getElem?_eq_some_iff.mp h).1]; exact h
theorem Ext.len {σ σ' : St} {k : Nat} (x : Ext σ σ' k) : σ'.ts.length ≤ σ.ts.length + k := by
  obtain ⟨⟨l, h1, h2⟩, _⟩ := x
  rw [h1, List.length_append]; lia
theorem Ext.ix {σ σ' : St} {k : Nat} (x : Ext σ σ' k) {τ : T} (h : τ ∈ σ.ts) : σ'.ix τ = σ.ix τ := by
  obtain ⟨⟨l, h1, h2⟩, _⟩ := x
  unfold St.ix
  rw [h1]
  simp only [List.idxOf_append, if_pos h]
theorem Ext.mem {σ σ' : St} {k : Nat} (x : Ext σ σ' k) {τ : T} (h : τ ∈ σ.ts) : τ ∈ σ'.ts := by
  obtain ⟨⟨l, h1, h2⟩, _⟩ := x
  rw [h1]; exact List.mem_append_left _ h
theorem At.mem {σ : St} {n : Nat} {τ : T} (h : At σ n τ) : τ ∈ σ.ts := List.mem_of_getElem? h
theorem idx_inj {α : Type} [DecidableEq α] {l : List α} {x y : α} (h1 : x ∈ l) (h2 : y ∈ l) (h : l.idxOf x = l.idxOf y) : x = y := by
  have a := List.getElem_idxOf (List.idxOf_lt_length_iff.mpr h1)
  have b := List.getElem_idxOf (List.idxOf_lt_length_iff.mpr h2)
  rw [← a, ← b]
  congr 1
theorem At.ix {σ : St} (o : σ.Ok) {n : Nat} {τ : T} (h : At σ n τ) : σ.ix τ = n := by
  obtain ⟨hl, he⟩ := List.getElem?_eq_some_iff.mp h
  unfold St.ix
  subst he
  exact o.nd.idxOf_getElem n hl
theorem at_ix {σ : St} {τ : T} (h : τ ∈ σ.ts) : At σ (σ.ix τ) τ := by
  unfold At St.ix
  rw [List.getElem?_eq_getElem (List.idxOf_lt_length_iff.mpr h), List.getElem_idxOf]
theorem sx_inj {σ : St} {x y : Nat} (h1 : x = 0 ∨ x ∈ σ.ws) (h2 : y = 0 ∨ y ∈ σ.ws) (h : σ.sx x = σ.sx y) : x = y := by
  unfold St.sx at h
  by_cases e1 : x = 0 <;> by_cases e2 : y = 0 <;> simp only [e1, e2, if_true, if_false] at h
  · rw [e1, e2]
  · lia
  · lia
  · exact idx_inj (h1.resolve_left e1) (h2.resolve_left e2) (by lia)
theorem kids_inj {σ : St} : ∀ {l r : List T}, (∀ k ∈ l, k ∈ σ.ts) → (∀ k ∈ r, k ∈ σ.ts) → (l.map fun k => (σ.ix k : Int)) = (r.map fun k => (σ.ix k : Int)) → l = r
  | [], [], _, _, _ => rfl
  | [], _ :: _, _, _, h => by simp at h
  | _ :: _, [], _, _, h => by simp at h
  | x :: l, y :: r, h1, h2, h => by
    simp only [List.map_cons, List.cons.injEq] at h
    rw [idx_inj (h1 x (.head _)) (h2 y (.head _)) (by have := h.1; unfold St.ix at this; lia), kids_inj (fun k hk => h1 k (.tail _ hk)) (fun k hk => h2 k (.tail _ hk)) h.2]
noncomputable def T.tag : T → Nat
  | .nil => 0 | .tt => 1 | .ff => 2 | .leaf .. => 3 | .num .. => 4 | .bnot .. => 5 | .cat .. => 6 | .ext .. => 7 | .zx .. => 8 | .sx .. => 9 | .bit .. => 10 | .neg .. => 11
noncomputable def tagS : Nat → Str
  | 0 => Str.ofString "" | 1 => Str.ofString "true" | 2 => Str.ofString "false" | 3 => Str.ofString "app" | 4 => Str.ofString "bvnum" | 5 => Str.ofString "bvnot" | 6 => Str.ofString "concat" | 7 => Str.ofString "extract"
  | 8 => Str.ofString "zero_extend" | 9 => Str.ofString "sign_extend" | 10 => Str.ofString "bit" | _ => Str.ofString "not"
theorem T.op_tag (τ : T) : τ.op = tagS τ.tag := by cases τ <;> rfl
theorem tag_lt (τ : T) : τ.tag < 12 := by cases τ <;> simp [T.tag]
theorem tagS_inj : ∀ i, i < 12 → ∀ j, j < 12 → tagS i = tagS j → i = j := by decide +kernel
theorem op_inj {x y : T} (h : x.op = y.op) : x.tag = y.tag := tagS_inj _ (tag_lt x) _ (tag_lt y) (by rw [← T.op_tag, ← T.op_tag]; exact h)
noncomputable def T.of (i : Nat) (ks : List T) (w : Nat) (d : Int ⊕ (Int × Int)) : T :=
  let n : Nat := d.elim Int.toNat fun p => p.1.toNat
  let m : Nat := d.elim Int.toNat fun p => p.2.toNat
  let x := ks.headD .nil
  if i = 0 then .nil else if i = 1 then .tt else if i = 2 then .ff else if i = 3 then .leaf n w else if i = 4 then .num n w else if i = 5 then .bnot x else if i = 6 then .cat x (ks.tail.headD .nil) else
  if i = 7 then .ext n m x else if i = 8 then .zx n x else if i = 9 then .sx n x else if i = 10 then .bit n x else .neg x
theorem T.of_eq (x : T) : T.of x.tag x.kids x.wd x.dat = x := by cases x <;> rfl
theorem key_inj {σ : St} {x y : T} (fx : Fits σ x) (fy : Fits σ y) (h : σ.key x = σ.key y) : x = y := by
  have h1 := congrArg NK.op h
  have h2 := congrArg NK.args h
  have h3 := congrArg NK.sort h
  have h4 : x.dat = y.dat := congrArg NK.dat h
  have e3 := sx_inj fx.2 fy.2 (Int.ofNat.inj h3)
  rw [← T.of_eq x, ← T.of_eq y, op_inj h1, kids_inj fx.1 fy.1 h2, e3, h4]
theorem Rep.fits {w A c X st σ} (R : Rep w A c X st σ) {τ : T} (h : τ ∈ σ.ts) : Fits σ τ := ⟨R.ok.cl τ h, R.ok.wi τ h⟩
theorem nodup_map {α β : Type} {f : α → β} : ∀ {l : List α}, (∀ x ∈ l, ∀ y ∈ l, f x = f y → x = y) → l.Nodup → (l.map f).Nodup
  | [], _, _ => List.nodup_nil
  | x :: l, h, hn => by
    rw [List.nodup_cons] at hn
    rw [List.map_cons, List.nodup_cons]
    refine ⟨fun hm => ?_, nodup_map (fun a ha b hb => h a (.tail _ ha) b (.tail _ hb)) hn.2⟩
    obtain ⟨y, hy, e⟩ := List.mem_map.mp hm
    exact hn.1 (h y (.tail _ hy) x (.head _) e ▸ hy)
theorem ix_app {σ : St} {τ k : T} (h : k ∈ σ.ts) : (⟨σ.ts ++ [τ], σ.ws, σ.fs⟩ : St).ix k = σ.ix k := by
  unfold St.ix
  simp only [List.idxOf_append, if_pos h]
theorem key_app {σ : St} {τ y : T} (f : Fits σ y) : (⟨σ.ts ++ [τ], σ.ws, σ.fs⟩ : St).key y = σ.key y := by
  unfold St.key
  congr 1
  exact List.map_congr_left fun k hk => by rw [ix_app (f.1 k hk)]
theorem ok_app {σ : St} (o : σ.Ok) {τ : T} (f : Fits σ τ) (hn : τ ∉ σ.ts) : (⟨σ.ts ++ [τ], σ.ws, σ.fs⟩ : St).Ok where
  n0 := by have := o.n0; unfold At at *; rw [List.getElem?_append_left (List.getElem?_eq_some_iff.mp this).1]; exact this
  n1 := by have := o.n1; unfold At at *; rw [List.getElem?_append_left (List.getElem?_eq_some_iff.mp this).1]; exact this
  n2 := by have := o.n2; unfold At at *; rw [List.getElem?_append_left (List.getElem?_eq_some_iff.mp this).1]; exact this
  nd := by
    rw [List.nodup_append]
    exact ⟨o.nd, by simp, fun a ha b hb e => hn (by simp only [List.mem_singleton] at hb; rw [← hb, ← e]; exact ha)⟩
  nw := o.nw
  wb := o.wb
  cl := fun x hx k hk => by
    rcases List.mem_append.mp hx with hx | hx
    · exact List.mem_append_left _ (o.cl x hx k hk)
    · simp only [List.mem_singleton] at hx; subst hx; exact List.mem_append_left _ (f.1 k hk)
  wi := fun x hx => by
    rcases List.mem_append.mp hx with hx | hx
    · exact o.wi x hx
    · simp only [List.mem_singleton] at hx; subst hx; exact f.2
theorem add_new {σ : St} {τ : T} (h : τ ∉ σ.ts) : σ.add τ = ⟨σ.ts ++ [τ], σ.ws, σ.fs⟩ := if_neg h
theorem add_old {σ : St} {τ : T} (h : τ ∈ σ.ts) : σ.add τ = σ := if_pos h
theorem ext_add (σ : St) (τ : T) : Ext σ (σ.add τ) 1 := by
  unfold St.add
  split
  · exact Ext.refl _ _
  · exact ⟨⟨[τ], rfl, Nat.le_refl _⟩, ⟨[], by simp⟩⟩
theorem at_add {σ : St} {τ : T} (h : τ ∉ σ.ts) : At (σ.add τ) σ.ts.length τ := by
  rw [add_new h]; unfold At; simp
theorem Rep.add {w A c Y st σ} (R : Rep w A c Y st σ) {τ : T} (f : Fits σ τ) (hn : τ ∉ σ.ts) (hr : σ.ts.length + 1 ≤ 2 ^ 20) {xs : List (NK × Addr × Value)} (X : NuRep w c.nu st σ xs)
    {t1 t2 t3 : Tok} {va vd : Value} {ka : Addr} {o' : Obj} {e : Nat → Nat} (ha : DatIn st va (.tuple (τ.kids.map fun k => .int (σ.ix k)))) (hd : DatIn st vd (datD τ.dat)) (hk : DatIn st (.ref ka) (σ.key τ).dd)
    (NO : NuIs w o' (xs ++ [(σ.key τ, ka, .int (σ.ts.length : Nat) t3)])) :
    Rep w A { c with to := c.to ++ [.str τ.op t1], ta := c.ta ++ [va], ts := c.ts ++ [.int (σ.sx τ.wd : Nat) t2], td := c.td ++ [vd], nu := o', e := e } Y st (σ.add τ) := by
  rw [add_new hn]
  have hmap : ∀ {β : Type} (f g : T → β), (∀ x ∈ σ.ts, f x = g x) → f τ = g τ → (σ.ts ++ [τ]).map f = σ.ts.map g ++ [g τ] := fun f g h1 h2 => by
    rw [List.map_append, List.map_cons, List.map_nil, h2, List.map_congr_left h1]
  refine ⟨ok_app R.ok f hn, R.nd, R.off, R.sep, ?_, ?_, ?_, ?_, ?_, R.sn, ⟨_, ⟨NO, ?_, ?_, ?_⟩⟩, (let ⟨kvs, D, b⟩ := R.bv; ⟨kvs, D, b.is, b.fl, b.ln, b.at_⟩), R.fn, R.fa, R.fr, R.fw, R.fl, R.lo1, R.lo2, ?_⟩
  · rw [hmap _ (fun τ => Dat.str τ.op) (fun _ _ => rfl) rfl]
    exact DatAll.append (R.to) (DatAll.one (.str _ _))
  · rw [hmap _ (fun τ => Dat.tuple (τ.kids.map fun k => .int (σ.ix k))) (fun x hx => by
      congr 1
      exact List.map_congr_left fun k hk => by rw [ix_app (R.ok.cl x hx k hk)]) (by
      congr 1
      exact List.map_congr_left fun k hk => by rw [ix_app (f.1 k hk)])]
    exact DatAll.append (R.ta) (DatAll.one ha)
  · rw [hmap (fun x => Dat.int ((⟨σ.ts ++ [τ], σ.ws, σ.fs⟩ : St).sx x.wd : Nat)) (fun τ => Dat.int (σ.sx τ.wd : Nat)) (fun _ _ => rfl) rfl]
    exact DatAll.append (R.ts) (DatAll.one (.int _ _))
  · rw [hmap _ (fun τ => datD τ.dat) (fun _ _ => rfl) rfl]
    exact DatAll.append (R.td) (DatAll.one hd)
  · exact R.sw
  · have hne : σ.ts ≠ [] := by intro e; have := R.ok.n0; rw [At, e] at this; simp at this
    rw [List.map_append, X.keys, List.tail_append_of_ne_nil hne, List.map_append]
    congr 1
    · exact List.map_congr_left fun x hx => (key_app (R.fits (List.mem_of_mem_tail hx))).symm
    · simp only [List.map_cons, List.map_nil]; rw [key_app f]
  · intro x hx
    rcases List.mem_append.mp hx with hx | hx
    · exact (X.dats x hx)
    · simp only [List.mem_singleton] at hx; subst hx; exact hk
  · intro i x hx
    have hl : xs.length + 1 = σ.ts.length := by
      have h1 := congrArg List.length X.keys
      simp only [List.length_map, List.length_tail] at h1
      have h2 := (List.getElem?_eq_some_iff.mp R.ok.n0).1
      lia
    by_cases hi : i < xs.length
    · rw [List.getElem?_append_left hi] at hx; exact X.vals i x hx
    · have : i = xs.length := by
        have := (List.getElem?_eq_some_iff.mp hx).1
        simp only [List.length_append, List.length_cons, List.length_nil] at this
        lia
      subst this
      rw [List.getElem?_append_right (Nat.le_refl _)] at hx
      simp only [Nat.sub_self, List.getElem?_cons_zero, Option.some.injEq] at hx
      subst hx
      exact ⟨t3, by rw [hl]⟩
  · simpa using hr
theorem NuRep.atKey_old {w o st σ xs} (X : NuRep w o st σ xs) (o : σ.Ok) {n : Nat} {τ : T} (h : At σ n τ) (h0 : n ≠ 0) : ∃ t, (atKey xs (σ.key τ)).map (·.2) = some (.int (n : Nat) t) := by
  have nd : (xs.map (·.1)).Nodup := by
    rw [X.keys]
    refine nodup_map (fun x hx y hy e => ?_) (List.Nodup.sublist (List.tail_sublist _) o.nd)
    exact key_inj ⟨o.cl x (List.mem_of_mem_tail hx), o.wi x (List.mem_of_mem_tail hx)⟩ ⟨o.cl y (List.mem_of_mem_tail hy), o.wi y (List.mem_of_mem_tail hy)⟩ e
  obtain ⟨i, rfl⟩ : ∃ i, n = i + 1 := ⟨n - 1, by lia⟩
  have h1 : (σ.ts.tail)[i]? = some τ := by rw [List.getElem?_tail]; exact h
  have h2 : (xs.map (·.1))[i]? = some (σ.key τ) := by rw [X.keys, List.getElem?_map, h1]; rfl
  rw [List.getElem?_map] at h2
  obtain ⟨x, hx, he⟩ := Option.map_eq_some_iff.mp h2
  obtain ⟨t, ht⟩ := X.vals i x hx
  refine ⟨t, ?_⟩
  have hx' : xs[i]? = some (σ.key τ, x.2) := by rw [hx, ← he]
  rw [atKey_of_get nd hx']
  simp [ht]
theorem NuRep.nd {w o st σ xs} (X : NuRep w o st σ xs) (o : σ.Ok) : (xs.map (·.1)).Nodup := by
  rw [X.keys]
  refine nodup_map (fun x hx y hy e => ?_) (List.Nodup.sublist (List.tail_sublist _) o.nd)
  exact key_inj ⟨o.cl x (List.mem_of_mem_tail hx), o.wi x (List.mem_of_mem_tail hx)⟩ ⟨o.cl y (List.mem_of_mem_tail hy), o.wi y (List.mem_of_mem_tail hy)⟩ e
theorem NuRep.atKey_new {w o st σ xs} (X : NuRep w o st σ xs) (o : σ.Ok) {τ : T} (f : Fits σ τ) (h : τ ∉ σ.ts) : atKey xs (σ.key τ) = none := by
  refine atKey_none_of_get fun j p hj => h ?_
  have h2 : (xs.map (·.1))[j]? = some (σ.key τ) := by rw [List.getElem?_map, hj]; rfl
  rw [X.keys, List.getElem?_map] at h2
  obtain ⟨x, hx, he⟩ := Option.map_eq_some_iff.mp h2
  have hm := List.mem_of_mem_tail (List.mem_of_getElem? hx)
  rw [← key_inj ⟨o.cl x hm, o.wi x hm⟩ f he]
  exact hm
theorem NuRep.ks {w o st σ xs} (X : NuRep w o st σ xs) {news : List (Addr × Obj)} (hs : ∀ p ∈ st, p ∈ news) : ∀ x ∈ xs, DatIn news (.ref x.2.1) x.1.dd ∧ x.1.ok := fun x hx => ⟨DatIn.mono hs (X.dats x hx), by
  have : x.1 ∈ xs.map (·.1) := List.mem_map.mpr ⟨x, hx, rfl⟩
  rw [X.keys] at this
  obtain ⟨τ, _, e⟩ := List.mem_map.mp this
  rw [← e]; exact σ.key_ok τ⟩
theorem NuRep.len {w o st σ xs} (X : NuRep w o st σ xs) : xs.length ≤ σ.ts.length := by
  have h1 := congrArg List.length X.keys
  simp only [List.length_map, List.length_tail] at h1
  lia
theorem NuRep.up {w o st st' σ xs} (X : NuRep w o st σ xs) (hs : ∀ p ∈ st, p ∈ st') : NuRep w o st' σ xs := ⟨X.is, X.keys, fun x hx => DatIn.mono hs (X.dats x hx), X.vals⟩
end
section
theorem kr_Led : True := by
  k_with_none
  trivial
theorem Rep.mono {w A c X st st' σ} (R : Rep w A c X st σ) (hs : ∀ p ∈ st, p ∈ st') (off : ∀ p ∈ st', p.1 ∉ A.addrs) (sep : ∀ p ∈ st', p.1 ∉ X.map (·.1)) : Rep w A c X st' σ where
  ok := R.ok
  nd := R.nd
  off := fun p hp => (List.mem_append.mp hp).elim (fun h => R.off p (List.mem_append_left _ h)) (off p)
  sep := sep
  to := DatAll.mono hs R.to
  ta := DatAll.mono hs R.ta
  ts := DatAll.mono hs R.ts
  td := DatAll.mono hs R.td
  sw := DatAll.mono hs R.sw
  sn := R.sn
  nu := let ⟨xs, X⟩ := R.nu; ⟨xs, X.is, X.keys, fun x hx => DatIn.mono hs (X.dats x hx), X.vals⟩
  bv := R.bv
  fn := R.fn
  fa := DatAll.mono hs R.fa
  fr := DatAll.mono hs R.fr
  fw := R.fw
  fl := R.fl
  lo1 := R.lo1
  lo2 := R.lo2
  room := R.room
theorem Rep.cons {w A c X st σ} (R : Rep w A c X st σ) {p : Addr × Obj} (hp : p.1 ∉ A.addrs) (hx : p.1 ∉ X.map (·.1)) : Rep w A c X (p :: st) σ :=
  R.mono (fun _ h => .tail _ h) (fun q hq => by
    rcases List.mem_cons.mp hq with rfl | hq
    · exact hp
    · exact R.off q (List.mem_append_right _ hq)) fun q hq => by
    rcases List.mem_cons.mp hq with rfl | hq
    · exact hx
    · exact R.sep q hq
theorem Rep.offX {w A c X st σ} (R : Rep w A c X st σ) {X' : List (Addr × Obj)} (h : ∀ p ∈ X', p.1 ∉ A.addrs) (sep : ∀ p ∈ st, p.1 ∉ X'.map (·.1)) : Rep w A c X' st σ where
  ok := R.ok
  nd := R.nd
  off := fun p hp => (List.mem_append.mp hp).elim (h p) fun h => R.off p (List.mem_append_right _ h)
  sep := sep
  to := R.to
  ta := R.ta
  ts := R.ts
  td := R.td
  sw := R.sw
  sn := R.sn
  nu := R.nu
  bv := R.bv
  fn := R.fn
  fa := R.fa
  fr := R.fr
  fw := R.fw
  fl := R.fl
  lo1 := R.lo1
  lo2 := R.lo2
  room := R.room
theorem M_addrs (w : World) (A : Ba) (c : Bc) : (M w A c).map (·.1) = A.addrs := rfl
theorem not_addr {w A c Y} {a : Addr} (h : ∀ p ∈ M w A c ++ Y, p.1 < a) : a ∉ A.addrs := fun hm => by
  rw [← M_addrs w A c] at hm
  obtain ⟨p, hp, e⟩ := List.mem_map.mp hm
  exact absurd (h p (List.mem_append_left _ hp)) (by rw [e]; exact Nat.lt_irrefl _)
theorem not_X {w A c X st} {a : Addr} (h : ∀ p ∈ M w A c ++ (X ++ st), p.1 < a) : a ∉ X.map (·.1) := fun hm => by
  obtain ⟨p, hp, e⟩ := List.mem_map.mp hm
  exact absurd (h p (List.mem_append_right _ (List.mem_append_left _ hp))) (by rw [e]; exact Nat.lt_irrefl _)
theorem Rep.setX {w A c X X' st σ} (R : Rep w A c X st σ) (h : X'.map (·.1) = X.map (·.1)) : Rep w A c X' st σ :=
  R.offX (fun p hp q => by
    have : p.1 ∈ X.map (·.1) := h ▸ List.mem_map_of_mem hp
    obtain ⟨r, hr, e⟩ := List.mem_map.mp this
    exact R.off r (List.mem_append_left _ hr) (e ▸ q)) (by rw [h]; exact R.sep)
abbrev tupOf (vs : List Value) : Obj := { cls := .type "tuple", data := .seq vs.toArray }
section
variable {M' : Model} {Ar : Around} {E : Value → Shared → Prop} {s : Shared} {h₀ : Heap} {L : Addr} {m : Str → Option Value} {w : World} {A : Ba} {c c₀ : Bc} {X st : List (Addr × Obj)} {σ : St} {prog : Program}
theorem newTuple_M {vs : List Value} {Q : Value → Shared → Prop} (F : Fr h₀ L s.heap m) (N : News h₀ L s.heap (M w A c ++ (X ++ st))) (R : Rep w A c₀ X st σ) (hsz : vs.length ≤ 100)
    (h : ∀ a h', Fr h₀ L h' m → News h₀ L h' (M w A c ++ (X ++ ((a, tupOf vs) :: st))) → Rep w A c₀ X ((a, tupOf vs) :: st) σ → Q (.ref a) { s with heap := h' }) : wpAny M' Ar (newTuple vs) Q E s :=
  newTuple_N F N (fun h' F' N' => h _ h' F' (news_sub N' fun p hp => by
      rcases List.mem_append.mp hp with hp | hp
      · exact .tail _ (List.mem_append_left _ hp)
      · rcases List.mem_append.mp hp with hp | hp
        · exact .tail _ (List.mem_append_right _ (List.mem_append_left _ hp))
        · rcases List.mem_cons.mp hp with rfl | hp
          · exact .head _
          · exact .tail _ (List.mem_append_right _ (List.mem_append_right _ hp)))
    (R.cons (not_addr (w := w) (c := c) fun p hp => Heap.lt_size (N p hp).1) (not_X (w := w) (A := A) (c := c) fun p hp => Heap.lt_size (N p hp).1))) (Nat.le_trans hsz (by decide))
theorem ne_of_nd {pre post : List (Addr × Obj)} {d : Addr} {o : Obj} (nd : ((pre ++ (d, o) :: post).map (·.1)).Nodup) : (∀ p ∈ pre, p.1 ≠ d) ∧ ∀ p ∈ post, p.1 ≠ d := by
  rw [List.map_append, List.map_cons, List.nodup_append] at nd
  obtain ⟨_, h2, h3⟩ := nd
  rw [List.nodup_cons] at h2
  exact ⟨fun p hp e => h3 _ (List.mem_map_of_mem hp) _ (.head _) e, fun p hp e => h2.1 (by have := List.mem_map_of_mem (f := fun q : Addr × Obj => q.1) hp; rw [e] at this; exact this)⟩
theorem append_led {pre post Y : List (Addr × Obj)} {d : Addr} {its : List Value} {n : Nat} {x : Value} {Q : Value → Shared → Prop} (F : Fr h₀ L s.heap m) (N : News h₀ L s.heap ((pre ++ (d, listOf its.toArray n) :: post) ++ Y))
    (nd : ((pre ++ (d, listOf its.toArray n) :: post).map (·.1)).Nodup) (off : ∀ p ∈ Y, p.1 ≠ d) (hz : its.length ≤ 2 ^ 20)
    (h : ∀ h', Fr h₀ L h' m → News h₀ L h' ((pre ++ (d, listOf (its ++ [x]).toArray (n + 1)) :: post) ++ Y) → Q .none { s with heap := h' }) : wpAny (model prog w) Ar (call (.builtin "list.append") [.ref d, x]) Q E s := by
  obtain ⟨q1, q2⟩ := ne_of_nd nd
  rw [List.append_assoc, List.cons_append] at N
  have z := N (d, listOf its.toArray n) (List.mem_append.mpr (.inr (.head _)))
  refine append_at (hsz := by simpa using Nat.le_trans hz (by decide)) z.1 fun h' hs ho' => h h' (F.change hs z.2.1 z.2.2) ?_
  rw [List.append_assoc, List.cons_append]
  refine news_set N q1 (fun p hp => (List.mem_append.mp hp).elim (q2 p) (off p)) hs ?_
  rw [List.push_toArray] at ho'
  exact ho'
noncomputable def bump (e : Nat → Nat) (i : Nat) : Nat → Nat := fun j => if j = i then e i + 1 else e j
theorem app_fn {x : Value} {Q : Value → Shared → Prop} (F : Fr h₀ L s.heap m) (N : News h₀ L s.heap (M w A c ++ (X ++ st))) (R : Rep w A c₀ X st σ) (hz : c.fn.length ≤ 2 ^ 20)
    (h : ∀ h', Fr h₀ L h' m → News h₀ L h' (M w A { c with fn := c.fn ++ [x], e := bump c.e 2 } ++ (X ++ st)) → Q .none { s with heap := h' }) : wpAny (model prog w) Ar (call (.builtin "list.append") [.ref A.fn, x]) Q E s :=
  append_led (pre := [(A.b, instObj 748 A.d), (A.d, dictOf (bankEs w A) 14), (A.sn, listOf c.sn.toArray (c.e 0)), (A.sw, listOf c.sw.toArray (c.e 1))]) (post := [(A.fa, listOf c.fa.toArray (c.e 3)), (A.fr, listOf c.fr.toArray (c.e 4)), (A.to, listOf c.to.toArray (c.e 5)), (A.ta, listOf c.ta.toArray (c.e 6)), (A.ts, listOf c.ts.toArray (c.e 7)), (A.td, listOf c.td.toArray (c.e 8)), (A.nu, c.nu), (A.bv, c.bv)]) (Y := X ++ st) F N R.nd (fun p hp e => R.off p hp (by rw [e]; exact .tail _ (.tail _ (.tail _ (.tail _ (.head _)))))) hz fun h' F' N' => h h' F' N'
theorem app_fa {x : Value} {Q : Value → Shared → Prop} (F : Fr h₀ L s.heap m) (N : News h₀ L s.heap (M w A c ++ (X ++ st))) (R : Rep w A c₀ X st σ) (hz : c.fa.length ≤ 2 ^ 20)
    (h : ∀ h', Fr h₀ L h' m → News h₀ L h' (M w A { c with fa := c.fa ++ [x], e := bump c.e 3 } ++ (X ++ st)) → Q .none { s with heap := h' }) : wpAny (model prog w) Ar (call (.builtin "list.append") [.ref A.fa, x]) Q E s :=
  append_led (pre := [(A.b, instObj 748 A.d), (A.d, dictOf (bankEs w A) 14), (A.sn, listOf c.sn.toArray (c.e 0)), (A.sw, listOf c.sw.toArray (c.e 1)), (A.fn, listOf c.fn.toArray (c.e 2))]) (post := [(A.fr, listOf c.fr.toArray (c.e 4)), (A.to, listOf c.to.toArray (c.e 5)), (A.ta, listOf c.ta.toArray (c.e 6)), (A.ts, listOf c.ts.toArray (c.e 7)), (A.td, listOf c.td.toArray (c.e 8)), (A.nu, c.nu), (A.bv, c.bv)]) (Y := X ++ st) F N R.nd (fun p hp e => R.off p hp (by rw [e]; exact .tail _ (.tail _ (.tail _ (.tail _ (.tail _ (.head _))))))) hz fun h' F' N' => h h' F' N'
theorem app_fr {x : Value} {Q : Value → Shared → Prop} (F : Fr h₀ L s.heap m) (N : News h₀ L s.heap (M w A c ++ (X ++ st))) (R : Rep w A c₀ X st σ) (hz : c.fr.length ≤ 2 ^ 20)
    (h : ∀ h', Fr h₀ L h' m → News h₀ L h' (M w A { c with fr := c.fr ++ [x], e := bump c.e 4 } ++ (X ++ st)) → Q .none { s with heap := h' }) : wpAny (model prog w) Ar (call (.builtin "list.append") [.ref A.fr, x]) Q E s :=
  append_led (pre := [(A.b, instObj 748 A.d), (A.d, dictOf (bankEs w A) 14), (A.sn, listOf c.sn.toArray (c.e 0)), (A.sw, listOf c.sw.toArray (c.e 1)), (A.fn, listOf c.fn.toArray (c.e 2)), (A.fa, listOf c.fa.toArray (c.e 3))]) (post := [(A.to, listOf c.to.toArray (c.e 5)), (A.ta, listOf c.ta.toArray (c.e 6)), (A.ts, listOf c.ts.toArray (c.e 7)), (A.td, listOf c.td.toArray (c.e 8)), (A.nu, c.nu), (A.bv, c.bv)]) (Y := X ++ st) F N R.nd (fun p hp e => R.off p hp (by rw [e]; exact .tail _ (.tail _ (.tail _ (.tail _ (.tail _ (.tail _ (.head _)))))))) hz fun h' F' N' => h h' F' N'
theorem len_M {l : Addr} {vs : List Value} {n : Nat} {news : List (Addr × Obj)} {Q : Value → Shared → Prop} (N : News h₀ L s.heap news) (hm : (l, listOf vs.toArray n) ∈ news) (hz : vs.length ≤ 2 ^ 20) (h : ∀ t tk, Q (.int (vs.length : Nat) t) { s with toks := tk }) :
    wpAny (model prog w) Ar (call (.builtin "len") [.ref l]) Q E s :=
  len_list (N.isList hm) (by have e : vs.toArray.size = vs.length := List.size_toArray ..; rw [e]; lia) (by have e : vs.toArray.size = vs.length := List.size_toArray ..; rw [e]; exact h _ _)
open PySem.Spec PyProof.V in
theorem bv_tab {kvs : List (Int × Value)} {D : List (PyData × PyData)} {h : Heap} (N : News h₀ L h (M w A c ++ (X ++ st))) (lo : (A.bv == sysModules) = false) (hd : c.bv.IsDictOf (intKind pw w) kvs) (hf : FlatPairs PyData.int kvs D) : IntTab pw w h A.bv D :=
  TabAt.ofNews N (List.mem_append_left _ (.tail _ (.tail _ (.tail _ (.tail _ (.tail _ (.tail _ (.tail _ (.tail _ (.tail _ (.tail _ (.tail _ (.tail _ (.head _)))))))))))))) lo hd hf
open PySem.Spec PyProof.V in
theorem bv_notin {kvs : List (Int × Value)} {D : List (PyData × PyData)} {i : Int} {t : Tok} {r : Option PyData} {Q : Value → Shared → Prop} (N : News h₀ L s.heap (M w A c ++ (X ++ st))) (lo : (A.bv == sysModules) = false) (hd : c.bv.IsDictOf (intKind pw w) kvs) (hf : FlatPairs PyData.int kvs D)
    (hl : lookup (.int i) D = r) (h : ∀ tk, Q (.bool (!r.isSome)) { s with toks := tk }) : wpAny (model pw w) Ar (compareOp .NotIn (.int i t) (.ref A.bv)) Q E s :=
  notin_intTab (bv_tab N lo hd hf) (by rw [hl]; exact h _)
open PySem.Spec PyProof.V in
open PySem.Spec PyProof.V in
theorem bv_set {kvs : List (Int × Value)} {D : List (PyData × PyData)} {i j : Int} {t t' : Tok} {Q : Unit → Shared → Prop} (F : Fr h₀ L s.heap m) (N : News h₀ L s.heap (M w A c ++ (X ++ st))) (R : Rep w A c₀ X st σ) (hd : c.bv.IsDictOf (intKind pw w) kvs) (hf : FlatPairs PyData.int kvs D) (hz : D.length ≤ 2 ^ 20)
    (h : ∀ h' o' tk kvs', Fr h₀ L h' m → News h₀ L h' (M w A { c with bv := o' } ++ (X ++ st)) → o'.IsDictOf (intKind pw w) kvs' → FlatPairs PyData.int kvs' (putD (.int i) (.int j) D) → lookup (.int i) (putD (.int i) (.int j) D) = some (.int j) → Q () { s with heap := h', toks := tk }) :
    wpAny (model pw w) Ar (setItem (.ref A.bv) (.int i t) (.int j t')) Q E s := by
  obtain ⟨q1, q2⟩ := ne_of_nd (pre := [(A.b, instObj 748 A.d), (A.d, dictOf (bankEs w A) 14), (A.sn, listOf c.sn.toArray (c.e 0)), (A.sw, listOf c.sw.toArray (c.e 1)), (A.fn, listOf c.fn.toArray (c.e 2)), (A.fa, listOf c.fa.toArray (c.e 3)), (A.fr, listOf c.fr.toArray (c.e 4)), (A.to, listOf c.to.toArray (c.e 5)), (A.ta, listOf c.ta.toArray (c.e 6)), (A.ts, listOf c.ts.toArray (c.e 7)), (A.td, listOf c.td.toArray (c.e 8)), (A.nu, c.nu)]) (post := []) (d := A.bv) (o := c.bv) R.nd
  have off : ∀ p ∈ X ++ st, p.1 ≠ A.bv := fun p hp e => R.off p hp (by rw [e]; exact (.tail _ (.tail _ (.tail _ (.tail _ (.tail _ (.tail _ (.tail _ (.tail _ (.tail _ (.tail _ (.tail _ (.tail _ (.head _))))))))))))))
  exact setItem_madeIn (own := [(A.b, instObj 748 A.d), (A.d, dictOf (bankEs w A) 14), (A.sn, listOf c.sn.toArray (c.e 0)), (A.sw, listOf c.sw.toArray (c.e 1)), (A.fn, listOf c.fn.toArray (c.e 2)), (A.fa, listOf c.fa.toArray (c.e 3)), (A.fr, listOf c.fr.toArray (c.e 4)), (A.to, listOf c.to.toArray (c.e 5)), (A.ta, listOf c.ta.toArray (c.e 6)), (A.ts, listOf c.ts.toArray (c.e 7)), (A.td, listOf c.td.toArray (c.e 8)), (A.nu, c.nu)]) (rest := X ++ st) (knd := intKind pw w) (enc := PyData.int) same_int (intKind_is pw w i t) (Flat.int j t') F N q1 off hd hf (fun h' o' F' N' hd' hf' => h h' o' _ _ F' N' hd' hf' (lookup_putD_same i (.int j) D)) (Nat.le_trans hz (by decide))
end
open PySem.Spec PyProof.V
noncomputable def Stop (p : Prop) : Prop := p
theorem stop_of {p : Prop} (h : Stop p) : p := h
theorem sx_app {σ σ' : St} {l : List Nat} (h : σ'.ws = σ.ws ++ l) {x : Nat} (hx : x = 0 ∨ x ∈ σ.ws) : σ'.sx x = σ.sx x := by
  unfold St.sx
  split
  · rfl
  · rename_i e
    rw [h]
    simp only [List.idxOf_append, if_pos (hx.resolve_left e)]
theorem Rep.wide {w A c X st σ} (R : Rep w A c X st σ) {x : Nat} (hx : x ∉ σ.ws) (hb : 1 ≤ x ∧ x ≤ 4096) {v : Value} {t : Tok} {o' : Obj} {e : Nat → Nat} {kvs D kvs' } (b : BvIs w c.bv σ kvs D) (hd : o'.IsDictOf (intKind pw w) kvs')
    (hf : PyProof.V.FlatPairs PyData.int kvs' (putD (.int x) (.int ((σ.ws.length + 3 : Nat) : Int)) D)) :
    Rep w A { c with sn := c.sn ++ [v], sw := c.sw ++ [.int x t], bv := o', e := e } X st ⟨σ.ts, σ.ws ++ [x], σ.fs⟩ := by
  have es : ∀ y, y = 0 ∨ y ∈ σ.ws → (⟨σ.ts, σ.ws ++ [x], σ.fs⟩ : St).sx y = σ.sx y := fun y hy => sx_app (l := [x]) rfl hy
  refine ⟨⟨R.ok.n0, R.ok.n1, R.ok.n2, R.ok.nd, ?_, ?_, R.ok.cl, ?_⟩, R.nd, R.off, R.sep, R.to, R.ta, ?_, R.td, ?_, ?_, ?_, ⟨kvs', _, hd, hf, ?_, ?_⟩, R.fn, R.fa, ?_, ?_, R.fl, R.lo1, R.lo2, R.room⟩
  · rw [List.nodup_append]
    exact ⟨R.ok.nw, by simp, fun a ha b hb e => hx (by simp only [List.mem_singleton] at hb; rw [← hb, ← e]; exact ha)⟩
  · intro y hy
    rcases List.mem_append.mp hy with hy | hy
    · exact R.ok.wb y hy
    · simp only [List.mem_singleton] at hy; subst hy; exact hb
  · intro τ hτ
    exact (R.ok.wi τ hτ).imp id fun h => List.mem_append_left _ h
  · have : (σ.ts.map fun τ => Dat.int ((⟨σ.ts, σ.ws ++ [x], σ.fs⟩ : St).sx τ.wd : Nat)) = σ.ts.map fun τ => Dat.int (σ.sx τ.wd : Nat) := List.map_congr_left fun τ hτ => by rw [es _ (R.ok.wi τ hτ)]
    show DatAll st c.ts (σ.ts.map fun τ => Dat.int ((⟨σ.ts, σ.ws ++ [x], σ.fs⟩ : St).sx τ.wd : Nat))
    rw [this]; exact R.ts
  · show DatAll st (c.sw ++ [.int x t]) ((0 :: 0 :: 0 :: (σ.ws ++ [x])).map fun (n : Nat) => Dat.int n)
    have : ((0 :: 0 :: 0 :: (σ.ws ++ [x])).map fun (n : Nat) => Dat.int n) = ((0 :: 0 :: 0 :: σ.ws).map fun (n : Nat) => Dat.int n) ++ [Dat.int x] := by simp
    rw [this]
    exact DatAll.append R.sw (DatAll.one (.int _ _))
  · show (c.sn ++ [v]).length = (σ.ws ++ [x]).length + 3
    rw [List.length_append, List.length_append, R.sn]; simp only [List.length_cons, List.length_nil]
  · obtain ⟨xs, N⟩ := R.nu
    refine ⟨xs, N.is, ?_, N.dats, N.vals⟩
    rw [N.keys]
    refine List.map_congr_left fun τ hτ => ?_
    unfold St.key
    rw [es _ (R.ok.wi τ (List.mem_of_mem_tail hτ))]
    rfl
  · refine Nat.le_trans (putD_length_le _ _ _) ?_
    have := b.ln
    simp only [List.length_append, List.length_cons, List.length_nil]; lia
  · intro y
    rw [lookup_putD_int, b.at_ y]
    by_cases e : y = x
    · subst e
      simp only [if_true, List.mem_append, List.mem_singleton, or_true, List.idxOf_append, if_neg hx, List.idxOf_cons_self]
      congr 2
      lia
    · have e' : ¬ (y : Int) = (x : Int) := by lia
      rw [if_neg e']
      simp only [List.mem_append, List.mem_singleton, e, or_false]
      split
      · rename_i h; simp only [List.idxOf_append, if_pos h]
      · rfl
  · have : (σ.fs.map fun y => Dat.int ((⟨σ.ts, σ.ws ++ [x], σ.fs⟩ : St).sx y : Nat)) = σ.fs.map fun y => Dat.int (σ.sx y : Nat) := List.map_congr_left fun y hy => by rw [es _ (.inr (R.fw y hy))]
    show DatAll st c.fr (σ.fs.map fun y => Dat.int ((⟨σ.ts, σ.ws ++ [x], σ.fs⟩ : St).sx y : Nat))
    rw [this]; exact R.fr
  · exact fun y hy => List.mem_append_left _ (R.fw y hy)
theorem item_tupD {value slice : PySem.Expr} {prog : Program} {w w' : World} {Ar : Around} {E : Value → Shared → Prop} {s : Shared} {h₀ : Heap} {L : Addr} {A : Ba} {c : Bc} {X st : List (Addr × Obj)} {v : Value} {ds : List Dat} {k : Int} {u : Tok} {d : Dat} {Q : Value → Shared → Prop}
    (N : News h₀ L s.heap (M w' A c ++ (X ++ st))) (hd : DatIn st v (.tuple ds)) (h0 : 0 ≤ k) (hx : ds[k.toNat]? = some d) (hk : k < 2 ^ 63) (h : ∀ v', DatIn st v' d → Q v' s)
    (hs : ∀ a, subscripted slice false (.ref a) (.int k u) = operate [.ref a, .int k u] (getItem (.ref a) (.int k u)) := by intro _; with_unfolding_all rfl) :
    wpAny (model prog w) Ar (subscriptTail value slice v (.int k u)) Q E s := by
  have N' : News h₀ L s.heap st := news_sub N fun p hp => List.mem_append_right _ (List.mem_append_right _ hp)
  cases hd with
  | @tuple a vs n _ hm ha =>
    have hl : k.toNat < ds.length := (List.getElem?_eq_some_iff.mp hx).1
    obtain ⟨v', hv, hd'⟩ := ha.get hl
    rw [(List.getElem?_eq_some_iff.mp hx).2] at hd'
    have hl' : k.toNat < vs.length := (List.getElem?_eq_some_iff.mp hv).1
    have hj : seqIndex? k vs.length = some k.toNat := by
      unfold seqIndex?
      simp only [show ¬ k < 0 from by lia, if_false]
      rw [if_pos (by simp only [Bool.and_eq_true, decide_eq_true_eq]; lia)]
    exact item_tupleT (j := k.toNat) ⟨_, N'.get hm, rfl, _, rfl⟩ (by lia) hk hj hv (h v' hd') (hs a)
end
section
theorem kr_Cr : True := by
  k_with_none
  trivial
structure Mk where
  m : Addr
  d : Addr
  kn : Addr
  tk : Nat → Tok
noncomputable def mkEs (w : World) (A : Ba) (k : Mk) : List DictEntry := [ent w "bank" (k.tk 0) (.ref A.b), ent w "yes" (k.tk 1) (.int 1 (k.tk 4)), ent w "no" (k.tk 2) (.int 2 (k.tk 5)), ent w "known" (k.tk 3) (.ref k.kn)]
noncomputable def mkL (w : World) (A : Ba) (k : Mk) (X : List (Addr × Obj)) : List (Addr × Obj) := (k.m, instObj 1041 k.d) :: (k.d, dictOf (mkEs w A k) 4) :: X
theorem room1 {dp D D' : Nat} (h : dp + D < recursionLimit) (e : 1 + D' ≤ D) : dp + 1 + D' < recursionLimit := by lia
theorem unit1 {un D D' : Nat} (h : un + 16 * D < cLine) (e : 3 + 16 * D' ≤ 16 * D) : un + 3 + 16 * D' < cLine := by lia
section
variable {prog : Program} {w : World} {Ar : Around} {E : Value → Shared → Prop} {s : Shared} {h₀ : Heap} {L a : Addr} {m : Str → Option Value} {cn : Str} {cs : Scope} {ccd : Value} {cl : List (Str × Addr)} {A : Ba} {c : Bc} {k : Mk} {X Y st : List (Addr × Obj)} {x y z f at_ : Str} {xp yp zp ap bp pos : Pos} {args : List PySem.Expr} {fa : Addr} {v v1 v2 v3 r : Value} {attr : Option Value} {pl : Sem Bool} {Q : Value → Shared → Prop}
theorem mem_b : (A.b, instObj 748 A.d) ∈ M w A c ++ Y := .head _
theorem mem_d : (A.d, dictOf (bankEs w A) 14) ∈ M w A c ++ Y := .tail _ (.head _)
theorem memL {p : Addr × Obj} (h : p ∈ X) : p ∈ M w A c ++ (X ++ st) := List.mem_append_right _ (List.mem_append_left _ h)
theorem mem_m : (k.m, instObj 1041 k.d) ∈ M w A c ++ (mkL w A k X ++ st) := memL (.head _)
theorem mem_md : (k.d, dictOf (mkEs w A k) 4) ∈ M w A c ++ (mkL w A k X ++ st) := memL (.tail _ (.head _))
theorem attr_b (F : Fr h₀ L s.heap m) (K : (Mine.hd.heap_39 w.params).In h₀) (N : News h₀ L s.heap (M w A c ++ Y)) (hx : m x = some (.ref A.b)) (h1 : plainGet (Mine.hd.heap_39 w.params) 748 at_ = true) (h2 : hasDictIn (Mine.hd.heap_39 w.params) 748 = true)
    (h3 : findIn (Mine.hd.heap_39 w.params) (.ref 748) at_ = some attr) (h4 : noGet (Mine.hd.heap_39 w.params) attr = true) (hv : getL at_ (bankEs w A) = some (some v)) (hh : handedIn v = true) (h : Q v { s with toks := s.toks + 1 })
    (hk : cs.kind = .function := by first | exact rfl | assumption) (hl : (envX cn cs L a ccd cl).kindOf x = some .local := by rfl) (hd : (x == Str.ofString "__debug__") = false := by rfl) :
    wpAny (model prog w) Ar (eval (.Attribute (.Name x xp) at_ pos) (envX cn cs L a ccd cl)) Q E s :=
  Attribute_Name_ (nameX_L F hx (get_own F K (InstAt.of_news N mem_b mem_d) h1 h2 h3 h4 hv hh h) hk hl hd)
theorem call_b (F : Fr h₀ L s.heap m) (K : (Mine.hd.heap_39 w.params).In h₀) (N : News h₀ L s.heap (M w A c ++ Y)) (hx : m x = some (.ref A.b)) (h1 : plainGet (Mine.hd.heap_39 w.params) 748 f = true) (h2 : findIn (Mine.hd.heap_39 w.params) (.ref 748) f = some (some (.ref fa)))
    (h3 : isFn (Mine.hd.heap_39 w.params) (.ref fa) = true) (hv : getL f (bankEs w A) = some none) (h : wpAny (model prog w) Ar (callWith pos (.ref fa) [.ref A.b] (backTo pos (starEach args (envX cn cs L a ccd cl))) []) Q E s)
    (hk : cs.kind = .function := by first | exact rfl | assumption) (hl : (envX cn cs L a ccd cl).kindOf x = some .local := by rfl) (hd : (x == Str.ofString "__debug__") = false := by rfl) (he : eval ((PySem.Expr.Attribute (.Name x xp) f ap).Call args [] pos) (envX cn cs L a ccd cl) = (do let ov ← eval (.Name x xp) (envX cn cs L a ccd cl); standAt ap.atName; let (f, first) ← holding [ov] (getMethod ov f pl); callWith pos f first (backTo pos (starEach args (envX cn cs L a ccd cl))) []) := by rfl) :
    wpAny (model prog w) Ar (eval ((PySem.Expr.Attribute (.Name x xp) f ap).Call args [] pos) (envX cn cs L a ccd cl)) Q E s :=
  MethodCall_ (pl := pl) (nameX_L F hx (method_inst F K (InstAt.of_news N mem_b mem_d) h1 h2 h3 hv h) hk hl hd) he
theorem get_bank : getL (Str.ofString "bank") (mkEs w A k) = some (some (.ref A.b)) := by rfl
theorem pair_store {c₀ : Bc} {σ : St} {Q : Unit → Shared → Prop} (F : Fr h₀ L s.heap m) (N : News h₀ L s.heap (M w A c ++ (X ++ st))) (R : Rep w A c₀ X st σ) (hh : Ar.handled = none)
    (h : ∀ b h' tk, (Fr h₀ L h' fun q => if q = x then some v1 else if q = y then some v2 else m q) → News h₀ L h' (M w A c ++ (X ++ ((b, tupOf [v1, v2]) :: st))) → Rep w A c₀ X ((b, tupOf [v1, v2]) :: st) σ → Q () { s with heap := h', toks := tk })
    (hk : cs.kind = .function := by first | exact rfl | assumption) (hx : (envX cn cs L a ccd cl).kindOf x = some .local := by rfl) (hy : (envX cn cs L a ccd cl).kindOf y = some .local := by rfl) :
    wpAny (model prog w) Ar (newTuple [v1, v2]) (fun v s₁ => wpAny (model prog w) Ar (unpackItems v 2 none) (fun items s₂ => wpAny (model prog w) Ar (assignInOrder (List.map (fun n => bindName (envX cn cs L a ccd cl) n) [y, x]) items.reverse) Q E s₂) E s₁) E s :=
  newTuple_M F N R (Nat.le_of_ble_eq_true rfl) fun b h1 F1 N1 R1 =>
    unpackItemsN_ F1 N1 (News.isTup N1 (List.mem_append_right _ (List.mem_append_right _ (.head _)))) hh rfl fun h2 F2 N2 =>
      assignInOrder_cons (bindName_ (storeX_L F2 N2 (fun h3 F3 N3 => assignInOrder_cons (bindName_ (storeX_L F3 N3 (fun h4 F4 N4 => assignInOrder_nil (h b h4 _ F4 N4 R1)) hk hx))) hk hy))
end
end
section
theorem kr_Ent : True := by
  k_with_none
  trivial
noncomputable def RQ (Q E : Value → Shared → Prop) : Result → Shared → Prop := fun r s' => match r with
  | .ok (.ret v) => Q v s'
  | .ok _ => False
  | .error e => E e s'
noncomputable def RetK (h₀ : Heap) (L : Addr) (m : Str → Option Value) (g : Heap) (Q E : Value → Shared → Prop) (fl : Flow) (s' : Shared) : Prop := LeaveK h₀ L m g (RQ Q E) (match fl with
  | .ret v => v
  | _ => .none) s'
theorem retK_ {h₀ g : Heap} {L L' : Addr} {m m' : Str → Option Value} {news : List (Addr × Obj)} {Q E : Value → Shared → Prop} {v : Value} {s' : Shared} (F : Fr g L' s'.heap m') (N : News g L' s'.heap news) (h : Fr h₀ L s'.heap m → News h₀ L s'.heap news → Q v s') : RetK h₀ L m g Q E (.ret v) s' := leaveK_ F N h
theorem retN_ {h₀ g : Heap} {L L' : Addr} {m m' : Str → Option Value} {news : List (Addr × Obj)} {Q E : Value → Shared → Prop} {s' : Shared} (F : Fr g L' s'.heap m') (N : News g L' s'.heap news) (h : Fr h₀ L s'.heap m → News h₀ L s'.heap news → Q .none s') : RetK h₀ L m g Q E .next s' := leaveK_ F N h
theorem enterC {w : World} {mean : ExcName → Option Value} {mg mb : Str → Option Value} {dp un D : Nat} {gd : Option (List Code)} {cn : Str} {cs : Scope} {L a : Addr} {ccd : Value} {cl : List (Str × Addr)} {outer : List Env} {A₀ : Around} {base h₀ : Heap} {m : Str → Option Value} {s : Shared} {Q E : Value → Shared → Prop} {news : List (Addr × Obj)}
    {name qual : Str} {params : Arguments} {body : List Stmt} {scope : Scope} {dV kV doc pm cdv ct oc : Value} {an od : Option Addr} {osl : Array (Option Value)} {f : Addr} {vs : List Value} {binds : List (Str × Value)}
    (B : Below A₀ base outer h₀) (F : Fr h₀ L s.heap m) (K : (Mine.hd.heap_39 w.params).In h₀) (N : News h₀ L s.heap news) (TT : TopL mean mg mb h₀) (hk : cs.kind = .function) (hd : dp + D < recursionLimit)
    (ho : (Mine.hd.heap_39 w.params).lookup f = some ⟨oc, od, .func (fnOf name qual params body scope dV kV doc pm an cdv ct), osl⟩) (hc : codeIn (Mine.hd.heap_39 w.params) cdv qual = true)
    (hb : BindsTo s (fnOf name qual params body scope dV kV doc pm an cdv ct) ⟨vs, []⟩ binds) (hl : ∀ y ∈ binds, scope.names.lookup y.1 = some .local)
    (h : ∀ g L' h' A₀' outer' E', Fr g L' h' (fun y => binds.reverse.lookup y) → News g L' h' news → Below A₀' base outer' g → (Mine.hd.heap_39 w.params).In g → TopL mean mg mb g →
      wpAny (model pw w) (ktrTop (dp + 1) (un + 3) gd qual scope L' f cdv [] outer') (execs body (envX qual scope L' f cdv [])) (RetK h₀ L m g Q E) E' { heap := h', gens := s.gens, drawn := s.drawn, toks := s.toks + binds.length, os := s.os })
    (hs : scope.kind = .function := by exact rfl) (hco : scope.isCoroutine = false := by exact rfl) (hg : scope.isGenerator = false := by exact rfl) (hx : ∀ x ∈ scope.names, x.2 ≠ .cell := by decide) :
    codeAny (model pw w) (ktrTop dp un gd cn cs L a ccd cl outer) (.call (.ref f) ⟨vs, []⟩) (RQ Q E) s :=
  (code_def B F K N TT rfl rfl hk ho hc (Nat.lt_of_le_of_lt (Nat.le_add_right dp D) hd) hb hl (fun g L' h' FG F' N' B' X' T' => h g L' h' _ _ _ F' N' B' X' T') hco hg hs hx)
theorem enter {w : World} {mean : ExcName → Option Value} {mg mb : Str → Option Value} {dp un D : Nat} {gd : Option (List Code)} {cn : Str} {cs : Scope} {L a : Addr} {ccd : Value} {cl : List (Str × Addr)} {outer : List Env} {A₀ : Around} {base h₀ : Heap} {m : Str → Option Value} {s : Shared} {Q E : Value → Shared → Prop} {news : List (Addr × Obj)}
    {name qual : Str} {params : Arguments} {body : List Stmt} {scope : Scope} {dV kV doc pm cdv ct oc : Value} {an od : Option Addr} {osl : Array (Option Value)} {f : Addr} {vs : List Value} {binds : List (Str × Value)}
    (B : Below A₀ base outer h₀) (F : Fr h₀ L s.heap m) (K : (Mine.hd.heap_39 w.params).In h₀) (N : News h₀ L s.heap news) (TT : TopL mean mg mb h₀) (hk : cs.kind = .function) (hd : dp + D < recursionLimit)
    (ho : (Mine.hd.heap_39 w.params).lookup f = some ⟨oc, od, .func (fnOf name qual params body scope dV kV doc pm an cdv ct), osl⟩) (hc : codeIn (Mine.hd.heap_39 w.params) cdv qual = true)
    (hb : BindsTo s (fnOf name qual params body scope dV kV doc pm an cdv ct) ⟨vs, []⟩ binds) (hl : ∀ y ∈ binds, scope.names.lookup y.1 = some .local)
    (h : ∀ g L' h' A₀' outer' E', Fr g L' h' (fun y => binds.reverse.lookup y) → News g L' h' news → Below A₀' base outer' g → (Mine.hd.heap_39 w.params).In g → TopL mean mg mb g →
      wpAny (model pw w) (ktrTop (dp + 1) (un + 3) gd qual scope L' f cdv [] outer') (execs body (envX qual scope L' f cdv [])) (RetK h₀ L m g Q E) E' { heap := h', gens := s.gens, drawn := s.drawn, toks := s.toks + binds.length, os := s.os })
    (hs : scope.kind = .function := by exact rfl) (hco : scope.isCoroutine = false := by exact rfl) (hg : scope.isGenerator = false := by exact rfl) (hx : ∀ x ∈ scope.names, x.2 ≠ .cell := by decide) :
    wpAny (model pw w) (ktrTop dp un gd cn cs L a ccd cl outer) (call (.ref f) vs) Q E s :=
  wpAny_call (enterC B F K N TT hk hd ho hc hb hl h hs hco hg hx)
end
section
set_option genInjectivity false
set_option genSizeOfSpec false
inductive Ob | bank | maker
  deriving DecidableEq
structure Sc where
  sl : List Str
  ty : List (Option Ob)
  gl : List Str
structure Es where
  c : Bc
  xs : List (Addr × Obj)
structure Cx where
  cn : Str
  cs : Scope
  dp : Nat
  un : Nat
  gd : Option (List Code)
  L : Addr
  a : Addr
  ccd : Value
  cl : List (Str × Addr)
  outer : List Env
  A₀ : Around
  base : Heap
  h₀ : Heap
  gs : Array GenState
  dr : Drawn
  os : OsState
  E : Value → Shared → Prop
  fin : Value → Es → List (Addr × Obj) → Nat → Prop
structure Z where
  S : Sc
  X : Cx
  w : World
  A : Ba
  k : Option Mk
  nb : Bool
abbrev Led := List (Addr × Obj)
abbrev KO (α : Type) := α → Es → Led → Nat → Prop
abbrev Fm := List (Option Value)
noncomputable def Cx.env (X : Cx) : Env := envX X.cn X.cs X.L X.a X.ccd X.cl
noncomputable def Z.env (z : Z) : Env := z.X.env
noncomputable def Z.ar (z : Z) : Around := ktrTop z.X.dp z.X.un z.X.gd z.X.cn z.X.cs z.X.L z.X.a z.X.ccd z.X.cl z.X.outer
noncomputable def Z.led (z : Z) (c : Es) (st : Led) : Led := match z.nb with
  | true => M z.w z.A c.c ++ (c.xs ++ st)
  | false => c.xs ++ st
noncomputable def Z.mkd (z : Z) (c : Es) : Prop := match z.k with
  | some k => ∃ X', c.xs = mkL z.w z.A k X'
  | none => True
noncomputable def Nw (z : Z) (h : Heap) (c : Es) (st : Led) : Prop := News z.X.h₀ z.X.L h (z.led c st) ∧ z.mkd c
noncomputable def Z.sh (z : Z) (h : Heap) (tk : Nat) : Shared := { heap := h, gens := z.X.gs, drawn := z.X.dr, toks := tk, os := z.X.os }
noncomputable def mOf : List Str → Fm → Str → Option Value
  | y :: sl, v :: fr, x => if x = y then v else mOf sl fr x
  | _, _, _ => none
noncomputable def slot : Fm → Nat → Option Value
  | v :: _, 0 => v
  | _ :: r, n + 1 => slot r n
  | [], _ => none
noncomputable def put : Fm → Nat → Value → Fm
  | _ :: r, 0, v => some v :: r
  | u :: r, n + 1, v => u :: put r n v
  | [], _, _ => []
theorem put_len : ∀ (fr : Fm) (i : Nat) (v : Value), (put fr i v).length = fr.length
  | [], _, _ => rfl
  | _ :: _, 0, _ => rfl
  | _ :: r, n + 1, v => congrArg (· + 1) (put_len r n v)
theorem slot_put_ne : ∀ (fr : Fm) {i j : Nat} (v : Value), j ≠ i → slot (put fr i v) j = slot fr j
  | [], _, _, _, _ => rfl
  | _ :: _, 0, 0, _, h => absurd rfl h
  | _ :: _, 0, _ + 1, _, _ => rfl
  | _ :: _, _ + 1, 0, _, _ => rfl
  | _ :: r, i + 1, j + 1, v, h => slot_put_ne r v fun e => h (congrArg (· + 1) e)
theorem mOf_slot : ∀ {sl : List Str} {fr : Fm} {i : Nat} {x : Str} {v : Value}, sl.Nodup → sl[i]? = some x → slot fr i = some v → mOf sl fr x = some v
  | [], _, _, _, _, _, h, _ => by simp at h
  | y :: sl, [], _, _, _, _, _, h => by cases h
  | y :: sl, u :: fr, 0, x, v, nd, h, hs => by
    have e : y = x := by simpa using h
    subst e
    simp only [mOf, if_true]; exact hs
  | y :: sl, u :: fr, i + 1, x, v, nd, h, hs => by
    rw [List.nodup_cons] at nd
    have h' : sl[i]? = some x := by simpa using h
    have ne : x ≠ y := fun e => nd.1 (e ▸ List.mem_of_getElem? h')
    simp only [mOf, if_neg ne]
    exact mOf_slot nd.2 h' hs
theorem mOf_put : ∀ {sl : List Str} {fr : Fm} {i : Nat} {x : Str} {v : Value}, sl.Nodup → sl[i]? = some x → fr.length = sl.length → (fun y => if y = x then some v else mOf sl fr y) = mOf sl (put fr i v)
  | [], _, _, _, _, _, h, _ => by simp at h
  | y :: sl, [], _, _, _, _, _, h => by simp at h
  | y :: sl, u :: fr, 0, x, v, nd, h, hl => by
    have e : y = x := by simpa using h
    subst e
    funext z
    simp only [mOf, put]
    by_cases hz : z = y <;> simp [hz]
  | y :: sl, u :: fr, i + 1, x, v, nd, h, hl => by
    rw [List.nodup_cons] at nd
    have h' : sl[i]? = some x := by simpa using h
    have ne : x ≠ y := fun e => nd.1 (e ▸ List.mem_of_getElem? h')
    have ih := mOf_put (v := v) nd.2 h' (by simpa using hl)
    funext z
    have ihz := congrFun ih z
    simp only [mOf, put]
    by_cases hz : z = y
    · subst hz
      rw [if_neg (Ne.symm ne), if_pos rfl, if_pos rfl]
    · rw [if_neg hz, if_neg hz]; exact ihz
noncomputable def Sc.okB (S : Sc) (cs : Scope) : Bool := (cs.kind == .function) && S.sl.all (fun x => cs.names.lookup x == some .local) && (S.sl ++ S.gl).all (fun x => !(x == Str.ofString "__debug__")) && decide S.sl.Nodup && S.gl.all (fun x => cs.names.lookup x == some .globalImplicit)
structure Sc.Ok (S : Sc) (cs : Scope) : Prop where
  kind : cs.kind = .function
  loc : ∀ x ∈ S.sl, cs.names.lookup x = some .local
  dbg : ∀ x ∈ S.sl ++ S.gl, (x == Str.ofString "__debug__") = false
  nd : S.sl.Nodup
  gl : ∀ x ∈ S.gl, cs.names.lookup x = some .globalImplicit
theorem Sc.ok_of {S : Sc} {cs : Scope} (h : S.okB cs = true) : S.Ok cs := by
  simp only [Sc.okB, Bool.and_eq_true, List.all_eq_true, beq_iff_eq, Bool.not_eq_true', decide_eq_true_eq] at h
  exact ⟨h.1.1.1.1, h.1.1.1.2, h.1.1.2, h.1.2, h.2⟩
noncomputable def obV (A : Ba) : Option Mk → Ob → Value
  | _, .bank => .ref A.b
  | some k, .maker => .ref k.m
  | none, .maker => .none
structure Ok (z : Z) (fr : Fm) : Prop where
  S : z.S.Ok z.X.cs
  K : (Mine.hd.heap_39 z.w.params).In z.X.h₀
  T : ∃ mean mg mb, TopL mean mg mb z.X.h₀
  len : fr.length = z.S.sl.length
  ob : ∀ (i : Nat) (o : Ob), z.S.ty[i]? = some (some o) → slot fr i = some (obV z.A z.k o)
  mk1 : ∀ i : Nat, z.S.ty[i]? = some (some .maker) → z.k.isSome = true
  bk : ∀ (i : Nat) (o : Ob), z.S.ty[i]? = some (some o) → z.nb = true
theorem Ok.put {z fr} (O : Ok z fr) {i : Nat} (v : Value) (hi : z.S.ty[i]? = some none) : Ok z (put fr i v) where
  S := O.S
  K := O.K
  T := O.T
  len := (put_len _ _ _).trans O.len
  ob j o h := by
    have : j ≠ i := fun e => by subst e; rw [hi] at h; cases h
    rw [slot_put_ne _ _ this]; exact O.ob j o h
  mk1 := O.mk1
  bk := O.bk
noncomputable def Lnk {α : Type} (z : Z) (m : Str → Option Value) (k : KO α) (q : α → Shared → Prop) : Prop :=
  ∀ v h' c' st' tk', Fr z.X.h₀ z.X.L h' m → Nw z h' c' st' → k v c' st' tk' → q v (z.sh h' tk')
structure Stp {α : Type} (z : Z) (c : Es) (st : Led) (tk : Nat) (t : Sem α) (k : KO α) : Prop where
  h : ∀ h m q, Fr z.X.h₀ z.X.L h m → Nw z h c st → Lnk z m k q → wpAny (model pw z.w) z.ar t q z.X.E (z.sh h tk)
structure Cnd (b : Bool) (p q : Prop) : Prop where
  t : b = true → p
  f : b = false → q
theorem Cnd.pos {b : Bool} {p q : Prop} (e : b = true) (h : p) : Cnd b p q := ⟨fun _ => h, fun f => by (rw [e] at f; cases f)⟩
theorem Cnd.neg {b : Bool} {p q : Prop} (e : b = false) (h : q) : Cnd b p q := ⟨fun f => by (rw [e] at f; cases f), fun _ => h⟩
theorem Cnd.ite {b : Bool} {p q : Prop} (h : Cnd b p q) : if b then p else q := by
  cases b
  · exact h.f rfl
  · exact h.t rfl
noncomputable def lstO (vs : List Value) : Obj := { cls := .type "list", data := .seq vs.toArray }
structure Tp (z : Z) (vs : List Value) (c : Es) (st : Led) (tk : Nat) (k : KO Value) : Prop where
  n : vs.length ≤ 100
  h : ∀ b, (∀ p ∈ z.led c st, p.1 < b) → k (.ref b) c ((b, tupOf vs) :: st) tk
structure Tl (z : Z) (vs : List Value) (c : Es) (st : Led) (tk : Nat) (k : KO Value) : Prop where
  n : vs.length ≤ 100
  h : ∀ b, (∀ p ∈ z.led c st, p.1 < b) → k (.ref b) c ((b, lstO vs) :: st) tk
structure LM (z : Z) (v : Value) (c : Es) (st : Led) (p : Prop) : Prop where
  l : ∃ a vs n, v = .ref a ∧ (a, listOf vs n) ∈ z.led c st
  p : p
structure Fin (z : Z) (v : Value) (c : Es) (st : Led) (tk : Nat) : Prop where
  h : z.X.fin v c st tk
abbrev CC (α : Type) := Z → Fm → KO α → Es → Led → Nat → Prop
abbrev CS := Z → Fm → (Fm → Es → Led → Nat → Prop) → Es → Led → Nat → Prop
noncomputable def Snd {α : Type} (S : Sc) (tm : Env → Sem α) (p : CC α) : Prop :=
  ∀ z fr, z.S = S → Ok z fr → ∀ (k : KO α) q c st tk h, Fr z.X.h₀ z.X.L h (mOf S.sl fr) → Nw z h c st → Lnk z (mOf S.sl fr) k q → p z fr k c st tk →
    wpAny (model pw z.w) z.ar (tm z.env) q z.X.E (z.sh h tk)
theorem Stp.snd {α : Type} {z : Z} {c st tk} {t : Sem α} {k : KO α} (s : Stp z c st tk t k) {h m q} (F : Fr z.X.h₀ z.X.L h m) (N : Nw z h c st) (l : Lnk z m k q) :
    wpAny (model pw z.w) z.ar t q z.X.E (z.sh h tk) := s.h h m q F N l
abbrev SndE (S : Sc) (e : PySem.Expr) (p : CC Value) : Prop := Snd S (fun env => eval e env) p
abbrev SndT (S : Sc) (e : PySem.Expr) (p : CC Bool) : Prop := Snd S (fun env => isTrue e env (eval e env)) p
structure SndA (S : Sc) (es : List PySem.Expr) (p : CC (List Value)) : Prop where
  run : ∀ pos, Snd S (fun env => spliced (backTo pos (starEach es env))) p
  plain : ∀ pos env, (backTo pos (starEach es env)).any (·.1) = false
noncomputable def cvar (i : Nat) : CC Value := fun _ fr k c st tk => match slot fr i with
  | some v => k v c st tk
  | none => False
noncomputable def cint (i : Int) : CC Value := fun _ _ k c st tk => k (.int i tk) c st (tk + 1)
noncomputable def cstr (x : Str) : CC Value := fun _ _ k c st tk => k (.str x tk) c st (tk + 1)
noncomputable def cbool (b : Bool) : CC Value := fun _ _ k c st tk => k (.bool b) c st tk
noncomputable def cnone : CC Value := fun _ _ k c st tk => k .none c st tk
noncomputable def binV (o : Operator) (a b : Value) : Option Int := match a, b with
  | .int x _, .int y _ => (match o with | .Add => some (x + y) | .Sub => some (x - y) | _ => none)
  | _, _ => none
noncomputable def binK (z : Z) (k : KO Value) (c : Es) (st : Led) (tk : Nat) (o : Operator) (a b : Value) : Prop := match binV o a b with
  | some r => k (.int r tk) c st (tk + 1)
  | none => Stp z c st tk (binaryOp o a b) k
noncomputable def cbin (o : Operator) (a b : CC Value) : CC Value := fun z fr k c st tk =>
  a z fr (fun va c st tk => b z fr (fun vb c st tk => binK z k c st tk o va vb) c st tk) c st tk
noncomputable def cmpI (o : CmpOp) (x y : Int) : Option Bool := match o with
  | .Eq => some (x == y)
  | .NotEq => some (x != y)
  | .Lt => some (decide (x < y))
  | .LtE => some (decide (x ≤ y))
  | .Gt => some (decide (y < x))
  | .GtE => some (decide (y ≤ x))
  | _ => none
noncomputable def cmpS (o : CmpOp) (x y : Str) : Option Bool := match o with
  | .Eq => some (x == y)
  | .NotEq => some (x != y)
  | _ => none
noncomputable def cmpV (o : CmpOp) (a b : Value) : Option Bool := match a, b with
  | .int x _, .int y _ => cmpI o x y
  | .str x _, .str y _ => cmpS o x y
  | _, _ => none
noncomputable def cmpK (z : Z) (k : KO Value) (c : Es) (st : Led) (tk : Nat) (o : CmpOp) (a b : Value) : Prop := match cmpV o a b with
  | some r => k (.bool r) c st tk
  | none => Stp z c st tk (compareOp o a b) k
noncomputable def ccmp (o : CmpOp) (a b : CC Value) : CC Value := fun z fr k c st tk =>
  a z fr (fun va c st tk => b z fr (fun vb c st tk => cmpK z k c st tk o va vb) c st tk) c st tk
noncomputable def trK (z : Z) (k : KO Bool) (v : Value) (c : Es) (st : Led) (tk : Nat) : Prop := match v with
  | .bool b => k b c st tk
  | v => Stp z c st tk (truthy v) k
noncomputable def cif (t : CC Bool) (a b : CC Value) : CC Value := fun z fr k c st tk => t z fr (fun x c st tk => Cnd x (a z fr k c st tk) (b z fr k c st tk)) c st tk
noncomputable def SubOk (ie : PySem.Expr) : Prop := ∀ a k u, subscripted ie false (.ref a) (.int k u) = operate [.ref a, .int k u] (getItem (.ref a) (.int k u))
structure Sub (z : Z) (va vi : Value) (c : Es) (st : Led) (tk : Nat) (k : KO Value) : Prop where
  h : ∀ ve ie, SubOk ie → Stp z c st tk (subscriptTail ve ie va vi) k
noncomputable def csub (a i : CC Value) : CC Value := fun z fr k c st tk => a z fr (fun va c st tk => i z fr (fun vi c st tk => Sub z va vi c st tk k) c st tk) c st tk
noncomputable def cneg (a : CC Value) : CC Value := fun z fr k c st tk => a z fr (fun va c st tk => Stp z c st tk (unaryOp .USub va) k) c st tk
noncomputable def cattr (i : Nat) (f : Str) : CC Value := fun z fr k c st tk => match slot fr i with
  | some v => Stp z c st tk (getAttr v f true) k
  | none => False
noncomputable def anil : CC (List Value) := fun _ _ k c st tk => k [] c st tk
noncomputable def acons (e : CC Value) (r : CC (List Value)) : CC (List Value) := fun z fr k c st tk => e z fr (fun v c st tk => r z fr (fun vs c st tk => k (v :: vs) c st tk) c st tk) c st tk
noncomputable def cmb (f : Addr) (r : CC (List Value)) : CC Value := fun z fr k c st tk => r z fr (fun vs c st tk => Stp z c st tk (call (.ref f) (.ref z.A.b :: vs)) k) c st tk
noncomputable def cmk (f : Addr) (r : CC (List Value)) : CC Value := fun z fr k c st tk => r z fr (fun vs c st tk => Stp z c st tk (call (.ref f) (.ref z.A.b :: vs)) k) c st (tk + 1)
noncomputable def cmm (i : Nat) (f : Addr) (r : CC (List Value)) : CC Value := fun z fr k c st tk => match slot fr i with
  | some v => r z fr (fun vs c st tk => Stp z c st tk (call (.ref f) (v :: vs)) k) c st tk
  | none => False
noncomputable def cfn (f : Addr) (r : CC (List Value)) : CC Value := fun z fr k c st tk => r z fr (fun vs c st tk => Stp z c st tk (call (.ref f) vs) k) c st tk
noncomputable def cbi (id : String) (r : CC (List Value)) : CC Value := fun z fr k c st tk => r z fr (fun vs c st tk => Stp z c st tk (call (.builtin id) vs) k) c st tk
noncomputable def ctup (r : CC (List Value)) : CC Value := fun z fr k c st tk => r z fr (fun vs c st tk => Tp z vs c st tk k) c st tk
noncomputable def clst (r : CC (List Value)) : CC Value := fun z fr k c st tk => r z fr (fun vs c st tk => Tl z vs c st tk k) c st tk
noncomputable def cli (i : Nat) (id : String) (r : CC (List Value)) : CC Value := fun z fr k c st tk => match slot fr i with
  | some v => LM z v c st (r z fr (fun vs c st tk => Stp z c st tk (call (.builtin id) (v :: vs)) k) c st tk)
  | none => False
noncomputable def cgi (i : Int) : CC Value := fun _ _ k c st tk => ∀ t, k (.int i t) c st tk
noncomputable def craw (e : PySem.Expr) : CC Value := fun z _ k c st tk => Stp z c st tk (eval e z.env) k
noncomputable def tcmp (o : CmpOp) (a b : CC Value) : CC Bool := fun z fr k c st tk => ccmp o a b z fr (fun v c st tk => trK z k v c st tk) c st tk
noncomputable def tval (a : CC Value) : CC Bool := fun z fr k c st tk => a z fr (fun v c st tk => trK z k v c st tk) c st tk
noncomputable def tnot (t : CC Bool) : CC Bool := fun z fr k c st tk => t z fr (fun b c st tk => k (!b) c st tk) c st tk
structure Conj (z : Z) (fr : Fm) (b : Bool) (r : CC Bool) (k : KO Bool) (c : Es) (st : Led) (tk : Nat) : Prop where
  h : Cnd b (r z fr k c st tk) (k false c st tk)
theorem Conj.join {z fr b r c st tk} {k : KO Bool} (K : ∀ tk, k false c st tk) (h : b = true → ∀ k' : KO Bool, (∀ tk, k' false c st tk) → r z fr k' c st tk) : Conj z fr b r k c st tk := ⟨⟨fun e => h e k K, fun _ => K tk⟩⟩
theorem Conj.yes {z fr b r c st tk} {k : KO Bool} (e : b = true) (h : r z fr k c st tk) : Conj z fr b r k c st tk := ⟨.pos e h⟩
theorem Conj.no {z fr b r c st tk} {k : KO Bool} (e : b = false) (h : k false c st tk) : Conj z fr b r k c st tk := ⟨.neg e h⟩
theorem kFalse {b : Bool} {c st tk} {k : KO Bool} (K : ∀ tk, k false c st tk) (e : b = false) : k b c st tk := by rw [e]; exact K _
noncomputable def tand (t r : CC Bool) : CC Bool := fun z fr k c st tk => t z fr (fun b c st tk => Conj z fr b r k c st tk) c st tk
noncomputable def tor (t r : CC Bool) : CC Bool := fun z fr k c st tk => t z fr (fun b c st tk => Cnd b (k true c st tk) (r z fr k c st tk)) c st tk
abbrev CH := Value → CC Bool
noncomputable def hlast (o : CmpOp) (b : CC Value) : CH := fun va z fr k c st tk => b z fr (fun vb c st tk => cmpK z (fun v c st tk => trK z k v c st tk) c st tk o va vb) c st tk
noncomputable def hlink (o : CmpOp) (b : CC Value) (r : CH) : CH := fun va z fr k c st tk => b z fr (fun vb c st tk => cmpK z (fun v c st tk => trK z (fun t c st tk => Cnd t (r vb z fr k c st tk) (k false c st tk)) v c st tk) c st tk o va vb) c st tk
noncomputable def tchain (a : CC Value) (r : CH) : CC Bool := fun z fr k c st tk => a z fr (fun va c st tk => r va z fr k c st tk) c st tk
noncomputable def sret (e : CC Value) : CS := fun z fr _ c st tk => e z fr (fun v c st tk => Fin z v c st tk) c st tk
noncomputable def sasg (i : Nat) (e : CC Value) : CS := fun z fr n c st tk => e z fr (fun v c st tk => n (put fr i v) c st (tk + 1)) c st tk
noncomputable def spair (i j : Nat) (a b : CC Value) : CS := fun z fr n c st tk => a z fr (fun va c st tk => b z fr (fun vb c st tk => Tp z [va, vb] c st tk fun _ c st tk => n (put (put fr j vb) i va) c st (tk + 2)) c st tk) c st tk
noncomputable def sif (t : CC Bool) (a b : CS) : CS := fun z fr n c st tk => t z fr (fun x c st tk => Cnd x (a z fr n c st tk) (b z fr n c st tk)) c st tk
noncomputable def sseq (a b : CS) : CS := fun z fr n c st tk => a z fr (fun fr c st tk => b z fr n c st tk) c st tk
noncomputable def snil : CS := fun _ fr n c st tk => n fr c st tk
noncomputable def sexp (e : CC Value) : CS := fun z fr n c st tk => e z fr (fun _ c st tk => n fr c st tk) c st tk
end
section
section
variable {S : Sc} {z : Z} {fr : Fm}
theorem Ok.hk (O : Ok z fr) : z.X.cs.kind = .function := O.S.kind
theorem Ok.kd (O : Ok z fr) {i : Nat} {x : Str} (hi : z.S.sl[i]? = some x) : z.env.kindOf x = some .local := O.S.loc x (List.mem_of_getElem? hi)
theorem Ok.db (O : Ok z fr) {i : Nat} {x : Str} (hi : z.S.sl[i]? = some x) : (x == Str.ofString "__debug__") = false := O.S.dbg x (List.mem_append_left _ (List.mem_of_getElem? hi))
theorem Ok.name (O : Ok z fr) {i : Nat} {x : Str} {v : Value} {p : Pos} {Q E : Value → Shared → Prop} {h : Heap} {tk : Nat} (F : Fr z.X.h₀ z.X.L h (mOf z.S.sl fr)) (hi : z.S.sl[i]? = some x) (hs : slot fr i = some v) (hq : Q v (z.sh h tk)) :
    wpAny (model pw z.w) z.ar (eval (.Name x p) z.env) Q E (z.sh h tk) :=
  nameX_L (M := model pw z.w) (A := z.ar) (cn := z.X.cn) (a := z.X.a) (ccd := z.X.ccd) (cl := z.X.cl) (s := z.sh h tk) F (mOf_slot O.S.nd hi hs) hq O.hk (O.kd hi) (O.db hi)
theorem snd_var {i : Nat} {x : Str} {p : Pos} (hi : S.sl[i]? = some x) : SndE S (.Name x p) (cvar i) := by
  intro z fr e O k q c st tk h F N l hp
  subst e
  unfold cvar at hp
  split at hp
  next v hs => exact O.name F hi hs (l _ _ _ _ _ F N hp)
  next => exact hp.elim
theorem snd_int {i : Int} {kk : Nat} {p : Pos} : SndE S (.Constant (.int i) kk p) (cint i) := fun z fr e O k q c st tk h F N l hp =>
  wpAny_Constant_int (l _ _ _ _ _ F N hp)
theorem snd_str {x : Str} {kk : Nat} {p : Pos} : SndE S (.Constant (.str x) kk p) (cstr x) := fun z fr e O k q c st tk h F N l hp =>
  Constant_str (l _ _ _ _ _ F N hp)
theorem snd_bool {b : Bool} {kk : Nat} {p : Pos} : SndE S (.Constant (.bool b) kk p) (cbool b) := fun z fr e O k q c st tk h F N l hp =>
  Constant_bool (l _ _ _ _ _ F N hp)
theorem nosome {α : Type} {r : α} {P : Prop} (e : none = some r) : P := nomatch e
theorem binV_ok {w : World} {Ar : Around} {Q : Value → Shared → Prop} {E : Value → Shared → Prop} {s : Shared} {o : Operator} {a b : Value} {r : Int} (e : binV o a b = some r) (h : Q (.int r s.toks) { s with toks := s.toks + 1 }) : wpAny (model pw w) Ar (binaryOp o a b) Q E s := by
  cases a with
  | int x t => cases b with
    | int y u => cases o with
      | Add => cases e; exact PyProof.Rows.add_int h
      | Sub => cases e; exact PyProof.Rows.sub_int h
      | _ => exact nosome e
    | _ => exact nosome e
  | _ => exact nosome e
theorem bin_snd {m} {k : KO Value} {q : Value → Shared → Prop} {c : Es} {st : Led} {tk : Nat} {h : Heap} {o : Operator} {a b : Value} (F : Fr z.X.h₀ z.X.L h m) (N : Nw z h c st) (l : Lnk z m k q)
    (hp : binK z k c st tk o a b) : wpAny (model pw z.w) z.ar (binaryOp o a b) q z.X.E (z.sh h tk) := by
  unfold binK at hp
  cases e : binV o a b with
  | some r => rw [e] at hp; exact binV_ok e (l _ _ _ _ _ F N hp)
  | none => rw [e] at hp; exact hp.snd F N l
theorem snd_bin {l' r : PySem.Expr} {o : Operator} {p : Pos} {a b : CC Value} (ha : SndE S l' a) (hb : SndE S r b) : SndE S (.BinOp l' o r p) (cbin o a b) := by
  intro z fr e O k q c st tk h F N l hp
  refine wpAny_BinOp (ha z fr e O _ _ c st tk h F N (fun va h1 c1 st1 tk1 F1 N1 hp1 => ?_) hp)
  exact hb z fr e O _ _ c1 st1 tk1 h1 F1 N1 (fun vb h2 c2 st2 tk2 F2 N2 hp2 => bin_snd F2 N2 l hp2) hp1
theorem cmpI_ok {w : World} {Ar : Around} {Q : Value → Shared → Prop} {E : Value → Shared → Prop} {s : Shared} {o : CmpOp} {x y : Int} {t u : Tok} {r : Bool} (e : cmpI o x y = some r) (h : Q (.bool r) s) : wpAny (model pw w) Ar (compareOp o (.int x t) (.int y u)) Q E s := by
  cases o with
  | Eq => cases e; exact PyProof.Rows.eq_int h
  | NotEq => cases e; exact PyProof.Rows.ne_int h
  | Lt => cases e; exact PyProof.Rows.lt_int h
  | LtE => cases e; exact PyProof.Rows.le_int h
  | Gt => cases e; exact PyProof.Rows.gt_int h
  | GtE => cases e; exact PyProof.Rows.ge_int h
  | _ => exact nosome e
theorem cmpS_ok {w : World} {Ar : Around} {Q : Value → Shared → Prop} {E : Value → Shared → Prop} {s : Shared} {o : CmpOp} {x y : Str} {t u : Tok} {r : Bool} (e : cmpS o x y = some r) (h : Q (.bool r) s) : wpAny (model pw w) Ar (compareOp o (.str x t) (.str y u)) Q E s := by
  cases o with
  | Eq => cases e; exact PyProof.Rows.eq_str h
  | NotEq => cases e; exact PyProof.Rows.ne_str h
  | _ => exact nosome e
theorem cmpV_ok {w : World} {Ar : Around} {Q : Value → Shared → Prop} {E : Value → Shared → Prop} {s : Shared} {o : CmpOp} {a b : Value} {r : Bool} (e : cmpV o a b = some r) (h : Q (.bool r) s) : wpAny (model pw w) Ar (compareOp o a b) Q E s := by
  cases a with
  | int x t => cases b with
    | int y u => exact cmpI_ok e h
    | _ => exact nosome e
  | str x t => cases b with
    | str y u => exact cmpS_ok e h
    | _ => exact nosome e
  | _ => exact nosome e
theorem cmp_snd {m} {k : KO Value} {q : Value → Shared → Prop} {c : Es} {st : Led} {tk : Nat} {h : Heap} {o : CmpOp} {a b : Value} (F : Fr z.X.h₀ z.X.L h m) (N : Nw z h c st) (l : Lnk z m k q)
    (hp : cmpK z k c st tk o a b) : wpAny (model pw z.w) z.ar (compareOp o a b) q z.X.E (z.sh h tk) := by
  unfold cmpK at hp
  cases e : cmpV o a b with
  | some r => rw [e] at hp; exact cmpV_ok e (l _ _ _ _ _ F N hp)
  | none => rw [e] at hp; exact hp.snd F N l
theorem tr_snd {m} {k : KO Bool} {q : Bool → Shared → Prop} {c : Es} {st : Led} {tk : Nat} {h : Heap} {v : Value} (F : Fr z.X.h₀ z.X.L h m) (N : Nw z h c st) (l : Lnk z m k q)
    (hp : trK z k v c st tk) : wpAny (model pw z.w) z.ar (truthy v) q z.X.E (z.sh h tk) := by
  unfold trK at hp
  split at hp
  · exact wpAny_truthy_bool (l _ _ _ _ _ F N hp)
  · exact hp.snd F N l
theorem snd_tcmp {l' r : PySem.Expr} {o : CmpOp} {p : Pos} {a b : CC Value} (ha : SndE S l' a) (hb : SndE S r b) (hm : behindInMarks o r = false) : SndT S (.Compare l' [o] [r] p) (tcmp o a b) := by
  intro z fr e O k q c st tk h F N l hp
  refine wpAny_isTrue_Compare1 (ha z fr e O _ _ c st tk h F N (fun va h1 c1 st1 tk1 F1 N1 hp1 => ?_) hp) hm
  exact hb z fr e O _ _ c1 st1 tk1 h1 F1 N1 (fun vb h2 c2 st2 tk2 F2 N2 hp2 => cmp_snd F2 N2 (fun v h3 c3 st3 tk3 F3 N3 hp3 => tr_snd F3 N3 l hp3) hp2) hp1
theorem snd_tval {x : PySem.Expr} {a : CC Value} (ha : SndE S x a) (he : ∀ env, isTrue x env (eval x env) = (do let v ← eval x env; standAt x.pos; holding [v] (truthy v))) : SndT S x (tval a) := by
  intro z fr e O k q c st tk h F N l hp
  exact isTrue_plain (ha z fr e O _ _ c st tk h F N (fun v h3 c3 st3 tk3 F3 N3 hp3 => tr_snd F3 N3 l hp3) hp) (he _)
theorem snd_tnot {x : PySem.Expr} {p : Pos} {t : CC Bool} (ht : SndT S x t) : SndT S (.UnaryOp .Not x p) (tnot t) := fun z fr e O k q c st tk h F N l hp =>
  PyProof.Rows.isTrue_not (ht z fr e O _ _ c st tk h F N (fun b h1 c1 st1 tk1 F1 N1 hp1 => l _ _ _ _ _ F1 N1 hp1) hp)
noncomputable def SndB (S : Sc) (op : BoolOp) (es : List PySem.Expr) (p : CC Bool) : Prop := ∀ pos whole, Snd S (fun env => isTrue (.BoolOp op es pos) env whole) p
theorem snd_and1 {x : PySem.Expr} {t : CC Bool} (ht : SndT S x t) : SndB S .And [x] t := by
  intro pos whole z fr e O k q c st tk h F N l hp
  refine isTrue_and (ht z fr e O _ _ c st tk h F N (fun b h1 c1 st1 tk1 F1 N1 hp1 => ?_) hp)
  have hq := l _ _ _ _ _ F1 N1 hp1
  cases b
  · exact hq
  · exact isTrue_and_nil hq
theorem snd_and {x y : PySem.Expr} {r : List PySem.Expr} {t u : CC Bool} (ht : SndT S x t) (hr : SndB S .And (y :: r) u) : SndB S .And (x :: y :: r) (tand t u) := by
  intro pos whole z fr e O k q c st tk h F N l hp
  refine isTrue_and (ht z fr e O _ _ c st tk h F N (fun b h1 c1 st1 tk1 F1 N1 hp1 => ?_) hp)
  have hq := Cnd.ite hp1.h
  cases b
  · exact l _ _ _ _ _ F1 N1 hq
  · exact hr pos whole z fr e O _ _ c1 st1 tk1 h1 F1 N1 l hq
theorem snd_bools {op : BoolOp} {es : List PySem.Expr} {p : Pos} {t : CC Bool} (ht : SndB S op es t) : SndT S (.BoolOp op es p) t := fun z fr e O k q c st tk h F N l hp => ht p _ z fr e O k q c st tk h F N l hp
theorem snd_if {x y u : PySem.Expr} {p : Pos} {t : CC Bool} {a b : CC Value} (ht : SndT S x t) (ha : SndE S y a) (hb : SndE S u b) : SndE S (.IfExp x y u p) (cif t a b) := by
  intro z fr e O k q c st tk h F N l hp
  refine IfExp_ (ht z fr e O _ _ c st tk h F N (fun b h1 c1 st1 tk1 F1 N1 hp1 => ?_) hp)
  have hq := Cnd.ite hp1
  cases b
  · exact hb z fr e O _ _ c1 st1 tk1 h1 F1 N1 l hq
  · exact ha z fr e O _ _ c1 st1 tk1 h1 F1 N1 l hq
theorem snd_sub {x y : PySem.Expr} {p : Pos} {a b : CC Value} (ha : SndE S x a) (hb : SndE S y b) (ho : SubOk y) : SndE S (.Subscript x y p) (csub a b) := by
  intro z fr e O k q c st tk h F N l hp
  refine Subscript_ (ha z fr e O _ _ c st tk h F N (fun va h1 c1 st1 tk1 F1 N1 hp1 => ?_) hp)
  exact hb z fr e O _ _ c1 st1 tk1 h1 F1 N1 (fun vb h2 c2 st2 tk2 F2 N2 hp2 => (hp2.h _ _ ho).snd F2 N2 l) hp1
theorem snd_ccmp {l' r : PySem.Expr} {o : CmpOp} {p : Pos} {a b : CC Value} (ha : SndE S l' a) (hb : SndE S r b) (hm : behindInMarks o r = false) : SndE S (.Compare l' [o] [r] p) (ccmp o a b) := by
  intro z fr e O k q c st tk h F N l hp
  refine wpAny_Compare1 (ha z fr e O _ _ c st tk h F N (fun va h1 c1 st1 tk1 F1 N1 hp1 => ?_) hp) hm
  exact hb z fr e O _ _ c1 st1 tk1 h1 F1 N1 (fun vb h2 c2 st2 tk2 F2 N2 hp2 => cmp_snd F2 N2 l hp2) hp1
theorem snd_neg {x : PySem.Expr} {p : Pos} {a : CC Value} (ha : SndE S x a) : SndE S (.UnaryOp .USub x p) (cneg a) := fun z fr e O k q c st tk h F N l hp =>
  UnaryOp_ (ha z fr e O _ _ c st tk h F N (fun va h1 c1 st1 tk1 F1 N1 hp1 => hp1.snd F1 N1 l) hp)
theorem snd_attr {i : Nat} {x f : Str} {p p' : Pos} (hi : S.sl[i]? = some x) (he : ∀ env, eval (.Attribute (.Name x p') f p) env = (do let o ← eval (.Name x p') env; standAt p.atName; let r ← holding [o] (getAttr o f true); letTemporaryGo (.Name x p') o r; pure r)) : SndE S (.Attribute (.Name x p') f p) (cattr i f) := by
  intro z fr e O k q c st tk h F N l hp
  subst e
  unfold cattr at hp
  split at hp
  next v hs => exact Attribute_Name_ (O.name F hi hs (hp.snd F N l)) (he _)
  next => exact hp.elim
noncomputable def SndH (S : Sc) (ops : List CmpOp) (es : List PySem.Expr) (p : CH) : Prop := ∀ pos va, Snd S (fun env => testChain pos va ops (evalEach es env)) (p va)
theorem snd_hlast {x : PySem.Expr} {o : CmpOp} {a : CC Value} (ha : SndE S x a) : SndH S [o] [x] (hlast o a) := by
  intro pos va z fr e O k q c st tk h F N l hp
  exact test_last (ha z fr e O _ _ c st tk h F N (fun vb h2 c2 st2 tk2 F2 N2 hp2 => cmp_snd F2 N2 (fun v h3 c3 st3 tk3 F3 N3 hp3 => tr_snd F3 N3 l hp3) hp2) hp)
theorem snd_hlink {x y : PySem.Expr} {o o' : CmpOp} {os : List CmpOp} {ys : List PySem.Expr} {a : CC Value} {r : CH} (ha : SndE S x a) (hr : SndH S (o' :: os) (y :: ys) r) : SndH S (o :: o' :: os) (x :: y :: ys) (hlink o a r) := by
  intro pos va z fr e O k q c st tk h F N l hp
  refine test_link (ha z fr e O _ _ c st tk h F N (fun vb h2 c2 st2 tk2 F2 N2 hp2 => cmp_snd F2 N2 (fun v h3 c3 st3 tk3 F3 N3 hp3 => tr_snd F3 N3 (fun b h4 c4 st4 tk4 F4 N4 hp4 => ?_) hp3) hp2) hp)
  have hq := Cnd.ite hp4
  cases b
  · exact l _ _ _ _ _ F4 N4 hq
  · exact hr pos vb z fr e O _ _ c4 st4 tk4 h4 F4 N4 l hq
theorem snd_tchain {x y y' : PySem.Expr} {o o' : CmpOp} {os : List CmpOp} {ys : List PySem.Expr} {p : Pos} {a : CC Value} {r : CH} (ha : SndE S x a) (hr : SndH S (o :: o' :: os) (y :: y' :: ys) r) (hm : lastMarks (o :: o' :: os) (y :: y' :: ys) = false) : SndT S (.Compare x (o :: o' :: os) (y :: y' :: ys) p) (tchain a r) := by
  intro z fr e O k q c st tk h F N l hp
  exact isTrue_chain (ha z fr e O _ _ c st tk h F N (fun va h2 c2 st2 tk2 F2 N2 hp2 => hr p va z fr e O _ _ c2 st2 tk2 h2 F2 N2 l hp2) hp) hm
theorem snd_anil : SndA S [] anil := ⟨fun pos z fr e O k q c st tk h F N l hp => args_nil (l _ _ _ _ _ F N hp), fun _ _ => rfl⟩
theorem snd_acons {x : PySem.Expr} {r : List PySem.Expr} {a : CC Value} {b : CC (List Value)} (ha : SndE S x a) (hr : SndA S r b) (he : ∀ env, starEach (x :: r) env = (false, eval x env) :: starEach r env) : SndA S (x :: r) (acons a b) := by
  refine ⟨fun pos z fr e O k q c st tk h F N l hp => ?_, fun pos env => ?_⟩
  · refine args_cons (ha z fr e O _ _ c st tk h F N (fun va h1 c1 st1 tk1 F1 N1 hp1 => ?_) hp) (he _)
    exact hr.run pos z fr e O _ _ c1 st1 tk1 h1 F1 N1 (fun vs h2 c2 st2 tk2 F2 N2 hp2 => l _ _ _ _ _ F2 N2 hp2) hp1
  · rw [he]; exact hr.plain pos env
theorem callW {f : Value} {first : List Value} {x : PySem.Expr} {r : List PySem.Expr} {a : CC (List Value)} {pos : Pos} (hr : SndA z.S (x :: r) a) (he : ∀ env, starEach (x :: r) env = (false, eval x env) :: starEach r env) (hkp : keepIn (Mine.hd.heap_39 z.w.params) f = true)
    (O : Ok z fr) {k : KO Value} {q : Value → Shared → Prop} {c : Es} {st : Led} {tk : Nat} {h : Heap} (F : Fr z.X.h₀ z.X.L h (mOf z.S.sl fr)) (N : Nw z h c st) (l : Lnk z (mOf z.S.sl fr) k q)
    (hp : a z fr (fun vs c st tk => Stp z c st tk (call f (first ++ vs)) k) c st tk) :
    wpAny (model pw z.w) z.ar (callWith pos f first (backTo pos (starEach (x :: r) z.env)) []) q z.X.E (z.sh h tk) := by
  refine callWith_K O.K hkp (hr.run pos z fr rfl O _ _ c st tk h F N (fun vs h1 c1 st1 tk1 F1 N1 hp1 => ⟨O.K.keeps F1.keep, hp1.snd F1 N1 l⟩) hp) (he _) ?_
  have := hr.plain pos z.env
  rw [he] at this
  exact (Bool.or_eq_false_iff.mp this).2
structure MethB (w : World) (nm : Str) (f : Addr) : Prop where
  h1 : plainGet (Mine.hd.heap_39 w.params) 748 nm = true
  h2 : findIn (Mine.hd.heap_39 w.params) (.ref 748) nm = some (some (.ref f))
  h3 : isFn (Mine.hd.heap_39 w.params) (.ref f) = true
  hv : ∀ A, getL nm (bankEs w A) = some none
  hk : keepIn (Mine.hd.heap_39 w.params) (.ref f) = true
structure MethM (w : World) (nm : Str) (f : Addr) : Prop where
  h1 : plainGet (Mine.hd.heap_39 w.params) 1041 nm = true
  h2 : findIn (Mine.hd.heap_39 w.params) (.ref 1041) nm = some (some (.ref f))
  h3 : isFn (Mine.hd.heap_39 w.params) (.ref f) = true
  hv : ∀ A k, getL nm (mkEs w A k) = some none
  hk : keepIn (Mine.hd.heap_39 w.params) (.ref f) = true
structure AttB (w : World) : Prop where
  g1 : plainGet (Mine.hd.heap_39 w.params) 1041 (Str.ofString "bank") = true
  g2 : hasDictIn (Mine.hd.heap_39 w.params) 1041 = true
  g3 : ∃ attr, findIn (Mine.hd.heap_39 w.params) (.ref 1041) (Str.ofString "bank") = some attr ∧ noGet (Mine.hd.heap_39 w.params) attr = true
theorem led_b {z : Z} {c : Es} {st : Led} (h : z.nb = true) : z.led c st = M z.w z.A c.c ++ (c.xs ++ st) := by unfold Z.led; rw [h]
theorem Nw.b {z : Z} {h : Heap} {c : Es} {st : Led} (N : Nw z h c st) (hb : z.nb = true) : News z.X.h₀ z.X.L h (M z.w z.A c.c ++ (c.xs ++ st)) := led_b hb ▸ N.1
theorem snd_cmb {i : Nat} {x nm : Str} {p p' pos : Pos} {y : PySem.Expr} {r : List PySem.Expr} {f : Addr} {a : CC (List Value)} {pl : Env → Sem Bool} (hi : S.sl[i]? = some x) (ho : S.ty[i]? = some (some .bank)) (hm : ∀ w, MethB w nm f) (hr : SndA S (y :: r) a)
    (hs : ∀ env, starEach (y :: r) env = (false, eval y env) :: starEach r env)
    (he : ∀ env, eval ((PySem.Expr.Attribute (.Name x p') nm p).Call (y :: r) [] pos) env = (do let ov ← eval (.Name x p') env; standAt p.atName; let (f, first) ← holding [ov] (getMethod ov nm (pl env)); callWith pos f first (backTo pos (starEach (y :: r) env)) [])) :
    SndE S ((PySem.Expr.Attribute (.Name x p') nm p).Call (y :: r) [] pos) (cmb f a) := by
  intro z fr e O k q c st tk h F N l hp
  subst e
  refine MethodCall_ (pl := pl z.env) (O.name F hi (O.ob i .bank ho) ?_) (he _)
  exact method_inst (s := z.sh h tk) F O.K (InstAt.of_news (N.b (O.bk i _ ho)) mem_b mem_d) (hm _).h1 (hm _).h2 (hm _).h3 ((hm _).hv _) (callW hr hs (hm _).hk O F N l hp)
theorem Nw.mkl {z : Z} {h : Heap} {c : Es} {st : Led} (N : Nw z h c st) (hk : z.k.isSome = true) (hb : z.nb = true) : ∃ k, z.k = some k ∧ (k.m, instObj 1041 k.d) ∈ z.led c st ∧ (k.d, dictOf (mkEs z.w z.A k) 4) ∈ z.led c st := by
  obtain ⟨S, X, w, A, k, true⟩ := z
  cases k with
  | none => cases hk
  | some k =>
    obtain ⟨X', e⟩ := N.2
    refine ⟨k, rfl, ?_⟩
    rw [led_b hb, e]
    exact ⟨mem_m, mem_md⟩
theorem snd_cmm {i : Nat} {x nm : Str} {p p' pos : Pos} {y : PySem.Expr} {r : List PySem.Expr} {f : Addr} {a : CC (List Value)} {pl : Env → Sem Bool} (hi : S.sl[i]? = some x) (ho : S.ty[i]? = some (some .maker)) (hm : ∀ w, MethM w nm f) (hr : SndA S (y :: r) a)
    (hs : ∀ env, starEach (y :: r) env = (false, eval y env) :: starEach r env)
    (he : ∀ env, eval ((PySem.Expr.Attribute (.Name x p') nm p).Call (y :: r) [] pos) env = (do let ov ← eval (.Name x p') env; standAt p.atName; let (f, first) ← holding [ov] (getMethod ov nm (pl env)); callWith pos f first (backTo pos (starEach (y :: r) env)) [])) :
    SndE S ((PySem.Expr.Attribute (.Name x p') nm p).Call (y :: r) [] pos) (cmm i f a) := by
  intro z fr e O k q c st tk h F N l hp
  subst e
  obtain ⟨k9, ek, hl⟩ := N.mkl (O.mk1 i ho) (O.bk i _ ho)
  have ho2 : slot fr i = some (.ref k9.m) := (O.ob i .maker ho).trans (by rw [ek]; rfl)
  unfold cmm at hp
  rw [ho2] at hp
  refine MethodCall_ (pl := pl z.env) (O.name F hi ho2 ?_) (he _)
  exact method_inst (s := z.sh h tk) F O.K (InstAt.of_news N.1 hl.1 hl.2) (hm _).h1 (hm _).h2 (hm _).h3 ((hm _).hv _ _) (callW hr hs (hm _).hk O F N l hp)
theorem snd_cmk {i : Nat} {x nm : Str} {p p' p2 pos : Pos} {y : PySem.Expr} {r : List PySem.Expr} {f : Addr} {a : CC (List Value)} {pl : Env → Sem Bool} (hi : S.sl[i]? = some x) (ho : S.ty[i]? = some (some .maker)) (hb : ∀ w, AttB w) (hm : ∀ w, MethB w nm f) (hr : SndA S (y :: r) a)
    (hs : ∀ env, starEach (y :: r) env = (false, eval y env) :: starEach r env)
    (ha : ∀ env, eval (.Attribute (.Name x p') (Str.ofString "bank") p2) env = (do let o ← eval (.Name x p') env; standAt p2.atName; let r ← holding [o] (getAttr o (Str.ofString "bank") true); letTemporaryGo (.Name x p') o r; pure r))
    (he : ∀ env, eval ((PySem.Expr.Attribute (PySem.Expr.Attribute (.Name x p') (Str.ofString "bank") p2) nm p).Call (y :: r) [] pos) env = (do let ov ← eval (PySem.Expr.Attribute (.Name x p') (Str.ofString "bank") p2) env; standAt p.atName; let (f, first) ← holding [ov] (getMethod ov nm (pl env)); callWith pos f first (backTo pos (starEach (y :: r) env)) [])) :
    SndE S ((PySem.Expr.Attribute (PySem.Expr.Attribute (.Name x p') (Str.ofString "bank") p2) nm p).Call (y :: r) [] pos) (cmk f a) := by
  intro z fr e O k q c st tk h F N l hp
  subst e
  obtain ⟨k9, ek, hl⟩ := N.mkl (O.mk1 i ho) (O.bk i _ ho)
  obtain ⟨attr, g3, g4⟩ := (hb z.w).g3
  have ho2 : slot fr i = some (.ref k9.m) := (O.ob i .maker ho).trans (by rw [ek]; rfl)
  refine MethodCall_ (pl := pl z.env) (Attribute_Name_ (O.name F hi ho2 ?_) (ha _)) (he _)
  refine get_own (s := z.sh h tk) F O.K (InstAt.of_news N.1 hl.1 hl.2) (hb _).g1 (hb _).g2 g3 g4 get_bank rfl ?_
  exact method_inst (s := z.sh h (tk + 1)) F O.K (InstAt.of_news (N.b (O.bk i _ ho)) mem_b mem_d) (hm _).h1 (hm _).h2 (hm _).h3 ((hm _).hv _) (callW hr hs (hm _).hk O F N l hp)
end
end
section
section
variable {S : Sc} {z : Z} {fr : Fm}
theorem led_cons {z : Z} {c st h} {p : Addr × Obj} (N : News z.X.h₀ z.X.L h (p :: z.led c st)) (x : z.mkd c) : Nw z h c (p :: st) :=
  ⟨news_sub N (fun q hp => by
    obtain ⟨S, X, w, A, k, nb⟩ := z
    cases nb
    · rcases List.mem_append.mp hp with hp | hp
      · exact .tail _ (List.mem_append_left _ hp)
      · rcases List.mem_cons.mp hp with rfl | hp
        · exact .head _
        · exact .tail _ (List.mem_append_right _ hp)
    · rcases List.mem_append.mp hp with hp | hp
      · exact .tail _ (List.mem_append_left _ hp)
      · rcases List.mem_append.mp hp with hp | hp
        · exact .tail _ (List.mem_append_right _ (List.mem_append_left _ hp))
        · rcases List.mem_cons.mp hp with rfl | hp
          · exact .head _
          · exact .tail _ (List.mem_append_right _ (List.mem_append_right _ hp))), x⟩
theorem tup_snd {m} {k : KO Value} {q : Value → Shared → Prop} {c : Es} {st : Led} {tk : Nat} {h : Heap} {vs : List Value} (F : Fr z.X.h₀ z.X.L h m) (N : Nw z h c st) (l : Lnk z m k q)
    (hp : Tp z vs c st tk k) : wpAny (model pw z.w) z.ar (newTuple vs) q z.X.E (z.sh h tk) :=
  newTuple_N (s := z.sh h tk) F N.1 (fun h' F' N' => l _ h' _ _ _ F' (led_cons N' N.2) (hp.h _ fun p hm => Heap.lt_size (N.1 p hm).1)) (Nat.le_trans hp.n (by decide))
theorem lst_snd {m} {k : KO Value} {q : Value → Shared → Prop} {c : Es} {st : Led} {tk : Nat} {h : Heap} {vs : List Value} (F : Fr z.X.h₀ z.X.L h m) (N : Nw z h c st) (l : Lnk z m k q)
    (hp : Tl z vs c st tk k) : wpAny (model pw z.w) z.ar (newList vs) q z.X.E (z.sh h tk) :=
  newList_N (s := z.sh h tk) F N.1 (fun h' F' N' => l _ h' _ _ _ F' (led_cons N' N.2) (hp.h _ fun p hm => Heap.lt_size (N.1 p hm).1)) (Nat.le_trans hp.n (by decide))
theorem snd_ctup {es : List PySem.Expr} {kk : Nat} {p : Pos} {a : CC (List Value)} (ha : SndA S es a) : SndE S (.Tuple es kk p) (ctup a) := by
  intro z fr e O k q c st tk h F N l hp
  exact Tuple_ (ha.run p z fr e O _ _ c st tk h F N (fun vs h1 c1 st1 tk1 F1 N1 hp1 => tup_snd F1 N1 l hp1) hp)
theorem snd_clst {es : List PySem.Expr} {p : Pos} {a : CC (List Value)} (ha : SndA S es a) : SndE S (.List es p) (clst a) := by
  intro z fr e O k q c st tk h F N l hp
  exact List_ (ha.run p z fr e O _ _ c st tk h F N (fun vs h1 c1 st1 tk1 F1 N1 hp1 => lst_snd F1 N1 l hp1) hp)
theorem snd_cli {i : Nat} {x nm : Str} {id : String} {p p' pos : Pos} {y : PySem.Expr} {r : List PySem.Expr} {a : CC (List Value)} {pl : Env → Sem Bool} (hi : S.sl[i]? = some x) (hm : Slot "list" nm id) (ht : typeOf (.builtin id) = pure (.type "method_descriptor")) (hr : SndA S (y :: r) a)
    (hs : ∀ env, starEach (y :: r) env = (false, eval y env) :: starEach r env)
    (he : ∀ env, eval ((PySem.Expr.Attribute (.Name x p') nm p).Call (y :: r) [] pos) env = (do let ov ← eval (.Name x p') env; standAt p.atName; let (f, first) ← holding [ov] (getMethod ov nm (pl env)); callWith pos f first (backTo pos (starEach (y :: r) env)) [])) :
    SndE S ((PySem.Expr.Attribute (.Name x p') nm p).Call (y :: r) [] pos) (cli i id a) := by
  intro z fr e O k q c st tk h F N l hp
  subst e
  unfold cli at hp
  split at hp
  next v hv =>
    obtain ⟨⟨b, vs, n, rfl, hb⟩, hp⟩ := hp
    have hg := N.1.get hb
    refine MethodCall_ (pl := pl z.env) (O.name F hi hv ?_) (he _)
    refine getMethod_list_of (s := z.sh h tk) hm ht ⟨_, hg, rfl, _, rfl⟩ ⟨_, hg, rfl⟩ ?_
    refine callWith_method1 (hr.run pos z fr rfl O _ _ c st tk h F N (fun vs h1 c1 st1 tk1 F1 N1 hp1 => hp1.snd F1 N1 l) hp) (hs _) ?_
    have := hr.plain pos z.env
    rw [hs] at this
    exact (Bool.or_eq_false_iff.mp this).2
  next => exact hp.elim
structure FnG (w : World) (x : Str) (f : Addr) : Prop where
  h1 : nsIn (Mine.hd.heap_39 w.params) mainGlobals x = some (some (.ref f))
  hk : keepIn (Mine.hd.heap_39 w.params) (.ref f) = true
theorem snd_cfn {x : Str} {p pos : Pos} {y : PySem.Expr} {r : List PySem.Expr} {f : Addr} {a : CC (List Value)} (hx : x ∈ S.gl) (hm : ∀ w, FnG w x f) (hr : SndA S (y :: r) a)
    (hs : ∀ env, starEach (y :: r) env = (false, eval y env) :: starEach r env) : SndE S (.Call (.Name x p) (y :: r) [] pos) (cfn f a) := by
  intro z fr e O k q c st tk h F N l hp
  subst e
  obtain ⟨mean, mg, mb, T⟩ := O.T
  refine Call_ (nameX_K (cn := z.X.cn) (a := z.X.a) (ccd := z.X.ccd) (cl := z.X.cl) (s := z.sh h tk) F O.K (topRead_of T) (hm _).h1 (callW (first := []) hr hs (hm _).hk O F N l hp) O.hk (O.S.gl _ hx) (O.S.dbg _ (List.mem_append_right _ hx)))
structure FnB (w : World) (x : Str) (id : String) : Prop where
  h1 : nsIn (Mine.hd.heap_39 w.params) mainGlobals x = some none
  h2 : bootBuiltins x = some (.builtin id)
  hn : x ≠ "__name__"
theorem snd_cbi {x : Str} {p pos : Pos} {y : PySem.Expr} {r : List PySem.Expr} {id : String} {a : CC (List Value)} (hx : x ∈ S.gl) (hm : ∀ w, FnB w x id) (hr : SndA S (y :: r) a)
    (hs : ∀ env, starEach (y :: r) env = (false, eval y env) :: starEach r env) : SndE S (.Call (.Name x p) (y :: r) [] pos) (cbi id a) := by
  intro z fr e O k q c st tk h F N l hp
  subst e
  obtain ⟨mean, mg, mb, T⟩ := O.T
  refine Call_ (nameX_B (cn := z.X.cn) (a := z.X.a) (ccd := z.X.ccd) (cl := z.X.cl) (s := z.sh h tk) F O.K (topRead_of T) (hm z.w).h1 (hm z.w).h2 (hm z.w).hn ?_ O.hk (O.S.gl _ hx) (O.S.dbg _ (List.mem_append_right _ hx)))
  refine callWith_builtin1 (hr.run pos z fr rfl O _ _ c st tk h F N (fun vs h1 c1 st1 tk1 F1 N1 hp1 => hp1.snd F1 N1 l) hp) (hs _) ?_
  have := hr.plain pos z.env
  rw [hs] at this
  exact (Bool.or_eq_false_iff.mp this).2
structure GlI (w : World) (x : Str) (i : Int) : Prop where
  h1 : ∃ t, nsIn (Mine.hd.heap_39 w.params) mainGlobals x = some (some (.int i t))
theorem snd_cgi {x : Str} {p : Pos} {i : Int} (hx : x ∈ S.gl) (hm : ∀ w, GlI w x i) : SndE S (.Name x p) (cgi i) := by
  intro z fr e O k q c st tk h F N l hp
  subst e
  obtain ⟨mean, mg, mb, T⟩ := O.T
  obtain ⟨t, ht⟩ := (hm z.w).h1
  exact nameX_K (cn := z.X.cn) (a := z.X.a) (ccd := z.X.ccd) (cl := z.X.cl) (s := z.sh h tk) F O.K (topRead_of T) ht (l _ _ _ _ _ F N (hp t)) O.hk (O.S.gl _ hx) (O.S.dbg _ (List.mem_append_right _ hx))
structure LnkS (z : Z) (n : Fm → Es → Led → Nat → Prop) (q : Flow → Shared → Prop) : Prop where
  nx : ∀ fr h c st tk, Ok z fr → Fr z.X.h₀ z.X.L h (mOf z.S.sl fr) → Nw z h c st → n fr c st tk → q .next (z.sh h tk)
  rt : ∀ v m h c st tk, Fr z.X.h₀ z.X.L h m → Nw z h c st → Fin z v c st tk → q (.ret v) (z.sh h tk)
noncomputable def SndF (S : Sc) (tm : Env → Sem Flow) (p : CS) : Prop :=
  ∀ z fr, z.S = S → Ok z fr → ∀ n q c st tk h, Fr z.X.h₀ z.X.L h (mOf S.sl fr) → Nw z h c st → LnkS z n q → p z fr n c st tk →
    wpAny (model pw z.w) z.ar (tm z.env) q z.X.E (z.sh h tk)
abbrev SndS (S : Sc) (ss : List Stmt) (p : CS) : Prop := SndF S (fun env => execs ss env) p
abbrev Snd1 (S : Sc) (t : Stmt) (p : CS) : Prop := SndF S (fun env => exec t env) p
theorem snd_nil : SndS S [] snil := by
  intro z fr e O n q c st tk h F N l hp
  subst e
  exact wpAny_execs_nil (l.nx _ _ _ _ _ O F N hp)
theorem snd_seq {t : Stmt} {r : List Stmt} {a b : CS} (ha : Snd1 S t a) (hb : SndS S r b) : SndS S (t :: r) (sseq a b) := by
  intro z fr e O n q c st tk h F N l hp
  refine wpAny_execs_cons (ha z fr e O _ _ c st tk h F N ⟨fun fr1 h1 c1 st1 tk1 O1 F1 N1 hp1 => ?_, fun v m h1 c1 st1 tk1 F1 N1 hp1 => l.rt v m h1 c1 st1 tk1 F1 N1 hp1⟩ hp)
  exact hb z fr1 e O1 _ _ c1 st1 tk1 h1 (e ▸ F1) N1 l hp1
theorem snd_one {t : Stmt} {a : CS} (ha : Snd1 S t a) : SndS S [t] a := by
  intro z fr e O n q c st tk h F N l hp
  refine wpAny_execs_cons (ha z fr e O _ _ c st tk h F N ⟨fun fr1 h1 c1 st1 tk1 O1 F1 N1 hp1 => ?_, fun v m h1 c1 st1 tk1 F1 N1 hp1 => l.rt v m h1 c1 st1 tk1 F1 N1 hp1⟩ hp)
  exact wpAny_execs_nil (l.nx _ _ _ _ _ O1 F1 N1 hp1)
theorem snd_ret {x : PySem.Expr} {p : Pos} {a : CC Value} (ha : SndE S x a) : Snd1 S (.Return (some x) p) (sret a) := fun z fr e O n q c st tk h F N l hp =>
  wpAny_Return_some (ha z fr e O _ _ c st tk h F N (fun v h1 c1 st1 tk1 F1 N1 hp1 => l.rt _ _ _ _ _ _ F1 N1 hp1) hp)
theorem snd_sif {x : PySem.Expr} {b o : List Stmt} {p : Pos} {t : CC Bool} {a a' : CS} (ht : SndT S x t) (hb : SndS S b a) (ho : SndS S o a') : Snd1 S (.If x b o p) (sif t a a') := by
  intro z fr e O n q c st tk h F N l hp
  refine wpAny_If (ht z fr e O _ _ c st tk h F N (fun b h1 c1 st1 tk1 F1 N1 hp1 => ?_) hp)
  have hq := Cnd.ite hp1
  cases b
  · exact ho z fr e O _ _ c1 st1 tk1 h1 F1 N1 l hq
  · exact hb z fr e O _ _ c1 st1 tk1 h1 F1 N1 l hq
theorem snd_asg {i : Nat} {x : Str} {p p' : Pos} {v : PySem.Expr} {a : CC Value} (hi : S.sl[i]? = some x) (ho : S.ty[i]? = some none) (ha : SndE S v a) (hs : ∀ env, swapsWith v (some (.Name x p')) p.line env = pure false) : Snd1 S (.Assign [.Name x p'] v p) (sasg i a) := by
  intro z fr e O n q c st tk h F N l hp
  subst e
  refine wpAny_Assign_Name (ha z fr rfl O _ _ c st tk h F N (fun va h1 c1 st1 tk1 F1 N1 hp1 => ?_) hp) (hs _)
  exact storeX_L (s := z.sh h1 tk1) F1 N1.1 (fun h2 F2 N2 => l.nx _ h2 _ _ _ (O.put va ho) (mOf_put O.S.nd hi O.len ▸ F2) ⟨N2, N1.2⟩ hp1) O.hk (O.kd hi)
theorem snd_exp {x : PySem.Expr} {p : Pos} {a : CC Value} (ha : SndE S x a) (hs : ∀ env, swapsWith x none p.line env = pure false) : Snd1 S (.Expr x p) (sexp a) := by
  intro z fr e O n q c st tk h F N l hp
  subst e
  exact wpAny_Expr_any (ha z fr rfl O _ _ c st tk h F N (fun va h1 c1 st1 tk1 F1 N1 hp1 => l.nx _ _ _ _ _ O F1 N1 hp1) hp) (by show (z.X.cs.kind == .module && _) = false; rw [O.S.kind]; rfl) (hs _)
theorem nd_inj : ∀ {l : List Str} {i j : Nat} {x : Str}, l.Nodup → l[i]? = some x → l[j]? = some x → i = j
  | [], _, _, _, _, h, _ => by simp at h
  | y :: l, 0, 0, _, _, _, _ => rfl
  | y :: l, 0, j + 1, x, nd, h, h' => by
    rw [List.nodup_cons] at nd
    have : y = x := by simpa using h
    exact absurd (this ▸ List.mem_of_getElem? (show l[j]? = some x by simpa using h')) nd.1
  | y :: l, i + 1, 0, x, nd, h, h' => by
    rw [List.nodup_cons] at nd
    have : y = x := by simpa using h'
    exact absurd (this ▸ List.mem_of_getElem? (show l[i]? = some x by simpa using h)) nd.1
  | y :: l, i + 1, j + 1, x, nd, h, h' => congrArg (· + 1) (nd_inj (List.nodup_cons.mp nd).2 (show l[i]? = some x by simpa using h) (by simpa using h'))
abbrev anyStar (es : List PySem.Expr) : Bool := es.any fun e => PySem.swappedStores.match_5 (fun _ => Bool) e (fun _ _ => true) (fun _ => false)
theorem two_names {f : PySem.Expr → Option Str} {a b : PySem.Expr} {x y : Str} (e1 : f a = some x) (e2 : f b = some y) : [a, b].filterMap f = [x, y] := by
  rw [List.filterMap_cons_some e1, List.filterMap_cons_some e2]; rfl
theorem nodup2 {x y : Str} (hxy : x ≠ y) : (([x, y] : List Str).eraseDups.length != 2) = false := by
  have hyx : (y == x) = false := by simpa using fun e => hxy e.symm
  simp [List.eraseDups_cons, hyx]
theorem swapped_of {env : Env} {x y : Str} {p1 p2 p3 p4 : Pos} {k1 k2 : Nat} {u v : PySem.Expr} (hb : env.blockKind = .function) (hx : env.kindOf x = some .local) (hy : env.kindOf y = some .local) (hxy : x ≠ y) (hp : (p1.line == p2.line) = true)
    (h1 : anyStar [u, v] = false) (h2 : [u, v].all (foldedForSure 8) = false) (h3 : [u, v].all (constantsAlone 8) = false) :
    swappedStores [.Tuple [.Name x p1, .Name y p2] k1 p3] (.Tuple [u, v] k2 p4) env = pure (some [x, y]) := by
  have hp' : (p2.line == p1.line) = true := by rw [beq_iff_eq] at hp ⊢; exact hp.symm
  refine (if_neg (show ¬ (!((2 : Nat) == 2 || (2 : Nat) == 3) || (2 : Nat) != 2 || env.blockKind != .function) = true from by rw [hb]; decide)).trans ?_
  refine (if_neg fun h => Bool.false_ne_true (h1.symm.trans h)).trans ?_
  have hn := fun f e1 e2 => two_names (f := f) (a := .Name x p1) (b := .Name y p2) (x := x) (y := y) e1 e2
  refine (if_neg ?_).trans ?_
  · rw [hn _ (if_pos (by rw [hx]; exact beq_self_eq_true _)) (if_pos (by rw [hy]; exact hp'))]
    rw [show ([Expr.Name x p1, Expr.Name y p2].length) = 2 from rfl, show ([x, y] : List Str).length = 2 from rfl, nodup2 hxy]
    decide
  refine (if_neg fun h => Bool.false_ne_true (h2.symm.trans h)).trans ?_
  refine (if_neg fun h => Bool.false_ne_true (h3.symm.trans h)).trans ?_
  rw [hn _ (if_pos (by rw [hx]; exact beq_self_eq_true _)) (if_pos (by rw [hy]; exact hp'))]
theorem snd_pair {i j : Nat} {x y : Str} {p p1 p2 p3 p4 : Pos} {k1 k2 : Nat} {u v : PySem.Expr} {a b : CC Value} (hi : S.sl[i]? = some x) (hj : S.sl[j]? = some y) (ho : S.ty[i]? = some none) (ho' : S.ty[j]? = some none) (ha : SndE S u a) (hb : SndE S v b)
    (he : ∀ env, starEach [u, v] env = [(false, eval u env), (false, eval v env)])
    (hij : (i == j) = false) (hp : (p1.line == p2.line) = true) (h1 : anyStar [u, v] = false) (h2 : [u, v].all (foldedForSure 8) = false) (h3 : [u, v].all (constantsAlone 8) = false) :
    Snd1 S (.Assign [.Tuple [.Name x p1, .Name y p2] k1 p3] (.Tuple [u, v] k2 p4) p) (spair i j a b) := by
  intro z fr e O n q c st tk h F N l hp'
  subst e
  have hxy : x ≠ y := fun e => by
    subst e
    exact absurd (nd_inj O.S.nd hi hj) (by simpa using hij)
  refine Assign_Tuple_swapped (Tuple_ ?_) rfl (swapped_of (by show (if z.X.cs.kind.isAnnotationScope then ScopeKind.function else z.X.cs.kind) = _; rw [O.S.kind]; rfl) (O.kd hi) (O.kd hj) hxy hp h1 h2 h3)
  rw [he]
  refine spliced_cons (ha z fr rfl O _ _ c st tk h F N (fun va h1 c1 st1 tk1 F1 N1 hp1 => ?_) hp')
  refine spliced_cons (hb z fr rfl O _ _ c1 st1 tk1 h1 F1 N1 (fun vb h2 c2 st2 tk2 F2 N2 hp2 => ?_) hp1)
  refine spliced_nil ?_
  refine newTuple_N (s := z.sh h2 tk2) F2 N2.1 (fun h3 F3 N3' => ?_) (by show 2 ≤ sizeLine; decide)
  have hq := hp2.h _ fun p hm => Heap.lt_size (N2.1 p hm).1
  have N3 := led_cons N3' N2.2
  refine unpackItemsN_ (s := z.sh h3 tk2) F3 N3.1 (News.isTup N3' (.head _)) rfl rfl fun h4 F4 N4 => ?_
  refine assignInOrder_cons (bindName_ (storeX_L (s := z.sh h4 tk2) F4 N4 (fun h5 F5 N5 => ?_) O.hk (O.kd hj)))
  refine assignInOrder_cons (bindName_ (storeX_L (s := z.sh h5 (tk2 + 1)) F5 N5 (fun h6 F6 N6 => ?_) O.hk (O.kd hi)))
  have O1 := O.put vb ho'
  have O2 := O1.put va ho
  exact assignInOrder_nil (l.nx _ h6 _ _ _ O2 (mOf_put O.S.nd hi O1.len ▸ (mOf_put (v := vb) O.S.nd hj O.len ▸ F6)) ⟨N6, N3.2⟩ hq)
noncomputable def ini : List Str → List Value → Fm
  | _ :: sl, v :: vs => some v :: ini sl vs
  | _ :: sl, [] => none :: ini sl []
  | [], _ => []
theorem ini_len : ∀ (sl : List Str) (vs : List Value), (ini sl vs).length = sl.length
  | _ :: sl, _ :: vs => congrArg (· + 1) (ini_len sl vs)
  | _ :: sl, [] => congrArg (· + 1) (ini_len sl [])
  | [], _ => rfl
theorem lookup_nil_ini : ∀ (sl : List Str) (x : Str), mOf sl (ini sl []) x = none
  | [], _ => rfl
  | y :: sl, x => by
    simp only [ini, mOf]
    split
    · rfl
    · exact lookup_nil_ini sl x
theorem lookup_ini : ∀ (sl : List Str) (vs : List Value) (x : Str), (sl.zip vs).lookup x = mOf sl (ini sl vs) x
  | [], _, _ => rfl
  | y :: sl, [], x => by
    rw [lookup_nil_ini]; rfl
  | y :: sl, v :: vs, x => by
    simp only [List.zip_cons_cons, List.lookup_cons, ini, mOf]
    by_cases h : x = y
    · subst h; simp
    · have : (x == y) = false := by simpa using h
      rw [this, if_neg h]; exact lookup_ini sl vs x
theorem lookup_none_of {l : List (Str × Value)} {x : Str} (h : x ∉ l.map (·.1)) : l.lookup x = none := by
  induction l with
  | nil => rfl
  | cons p l ih =>
    simp only [List.map_cons, List.mem_cons, not_or] at h
    have : (x == p.1) = false := by simpa using h.1
    rw [List.lookup_cons, this]; exact ih h.2
theorem lookup_app : ∀ (l l' : List (Str × Value)) (x : Str), (l ++ l').lookup x = (match l.lookup x with | some v => some v | none => l'.lookup x)
  | [], _, _ => rfl
  | p :: l, l', x => by
    rw [List.cons_append, List.lookup_cons, List.lookup_cons]
    cases (x == p.1)
    · exact lookup_app l l' x
    · rfl
theorem lookup_rev : ∀ {l : List (Str × Value)} (x : Str), (l.map (·.1)).Nodup → l.reverse.lookup x = l.lookup x
  | [], _, _ => rfl
  | p :: l, x, nd => by
    rw [List.map_cons, List.nodup_cons] at nd
    rw [List.reverse_cons, lookup_app, lookup_rev x nd.2, List.lookup_cons, List.lookup_cons]
    by_cases h : x = p.1
    · subst h
      rw [lookup_none_of nd.1]; simp
    · have : (x == p.1) = false := by simpa using h
      rw [this]
      cases l.lookup x <;> rfl
theorem zip_nd : ∀ {sl : List Str} {vs : List Value}, sl.Nodup → ((sl.zip vs).map (·.1)).Nodup
  | [], _, _ => by simp
  | _ :: _, [], _ => by simp
  | y :: sl, v :: vs, nd => by
    rw [List.nodup_cons] at nd
    rw [List.zip_cons_cons, List.map_cons, List.nodup_cons]
    refine ⟨fun hm => ?_, zip_nd nd.2⟩
    obtain ⟨p, hp, e⟩ := List.mem_map.mp hm
    have e' : p.1 = y := e
    exact nd.1 (e' ▸ (List.of_mem_zip (show (p.1, p.2) ∈ sl.zip vs from hp)).1)
structure Std (z : Z) (D : Nat) : Prop where
  B : Below z.X.A₀ z.X.base z.X.outer z.X.h₀
  K : (Mine.hd.heap_39 z.w.params).In z.X.h₀
  T : ∃ mean mg mb, TopL mean mg mb z.X.h₀
  hk : z.X.cs.kind = .function
  hd : z.X.dp + D < recursionLimit
  hu : z.X.un + 16 * D < cLine
theorem Std.le {z : Z} {D D' : Nat} (s : Std z D) (h : D' ≤ D) : Std z D' := ⟨s.B, s.K, s.T, s.hk, Nat.lt_of_le_of_lt (Nat.add_le_add_left h _) s.hd, Nat.lt_of_le_of_lt (Nat.add_le_add_left (Nat.mul_le_mul_left _ h) _) s.hu⟩
structure Def (S : Sc) (f : Addr) (n : Nat) (p : CS) : Prop where
  h : ∀ w : World, ∃ name qual params body scope dV kV doc pm cdv ct oc, ∃ an od : Option Addr, ∃ osl : Array (Option Value), (Mine.hd.heap_39 w.params).lookup f = some ⟨oc, od, .func (fnOf name qual params body scope dV kV doc pm an cdv ct), osl⟩ ∧ codeIn (Mine.hd.heap_39 w.params) cdv qual = true ∧
    (∀ s vs, vs.length = n → BindsTo s (fnOf name qual params body scope dV kV doc pm an cdv ct) ⟨vs, []⟩ (S.sl.zip vs)) ∧ SndS S body p ∧ S.Ok scope ∧ scope.isCoroutine = false ∧ scope.isGenerator = false ∧ ∀ x ∈ scope.names, x.2 ≠ .cell
theorem lenS {P : List Value → Prop} {n : Nat} (h : ∀ a vs, vs.length = n → P (a :: vs)) (vs : List Value) (e : vs.length = n + 1) : P vs := by
  cases vs with
  | nil => cases e
  | cons a vs => exact h a vs (Nat.succ.inj e)
theorem len0 {P : List Value → Prop} (h : P []) (vs : List Value) (e : vs.length = 0) : P vs := by
  cases vs with
  | nil => exact h
  | cons a vs => cases e
theorem Def.mk1 {S : Sc} {f : Addr} {n : Nat} {p : CS} {w : World} {name qual params body scope dV kV doc pm cdv ct oc} {an od : Option Addr} {osl : Array (Option Value)} (a : (Mine.hd.heap_39 w.params).lookup f = some ⟨oc, od, .func (fnOf name qual params body scope dV kV doc pm an cdv ct), osl⟩) (b : codeIn (Mine.hd.heap_39 w.params) cdv qual = true)
    (c : ∀ s vs, vs.length = n → BindsTo s (fnOf name qual params body scope dV kV doc pm an cdv ct) ⟨vs, []⟩ (S.sl.zip vs)) (d : SndS S body p) (e : S.okB scope = true) (f1 : scope.isCoroutine = false) (f2 : scope.isGenerator = false) (f3 : ∀ x ∈ scope.names, x.2 ≠ .cell) :
    ∃ name qual params body scope dV kV doc pm cdv ct oc, ∃ an od : Option Addr, ∃ osl : Array (Option Value), (Mine.hd.heap_39 w.params).lookup f = some ⟨oc, od, .func (fnOf name qual params body scope dV kV doc pm an cdv ct), osl⟩ ∧ codeIn (Mine.hd.heap_39 w.params) cdv qual = true ∧
    (∀ s vs, vs.length = n → BindsTo s (fnOf name qual params body scope dV kV doc pm an cdv ct) ⟨vs, []⟩ (S.sl.zip vs)) ∧ SndS S body p ∧ S.Ok scope ∧ scope.isCoroutine = false ∧ scope.isGenerator = false ∧ ∀ x ∈ scope.names, x.2 ≠ .cell :=
  ⟨name, qual, params, body, scope, dV, kV, doc, pm, cdv, ct, oc, an, od, osl, a, b, c, d, Sc.ok_of e, f1, f2, f3⟩
noncomputable def ObAll (A : Ba) (k : Option Mk) : List (Option Ob) → Fm → Prop
  | some o :: ty, fr => slot fr 0 = some (obV A k o) ∧ ObAll A k ty fr.tail
  | none :: ty, fr => ObAll A k ty fr.tail
  | [], _ => True
theorem slot_tail : ∀ (fr : Fm) (i : Nat), slot fr (i + 1) = slot fr.tail i
  | [], _ => by simp [slot]
  | _ :: _, _ => rfl
theorem ObAll.at {A : Ba} {k : Option Mk} : ∀ {ty : List (Option Ob)} {fr : Fm}, ObAll A k ty fr → ∀ (i : Nat) (o : Ob), ty[i]? = some (some o) → slot fr i = some (obV A k o)
  | [], _, _, _, _, h => by simp at h
  | some o :: ty, fr, h, 0, o', h' => by
    have : o = o' := by simpa using h'
    subst this
    exact h.1
  | none :: ty, fr, h, 0, o', h' => by simp at h'
  | some o :: ty, fr, h, i + 1, o', h' => (slot_tail _ _).trans (ObAll.at (ty := ty) h.2 i o' (by simpa using h'))
  | none :: ty, fr, h, i + 1, o', h' => (slot_tail _ _).trans (ObAll.at (ty := ty) (fr := fr.tail) h i o' (by simpa using h'))
theorem Std.in1 {z : Z} {D D' : Nat} (s : Std z D) (h : 1 + D' ≤ D) : z.X.dp + 1 + D' < recursionLimit ∧ z.X.un + 3 + 16 * D' < cLine := ⟨room1 s.hd h, unit1 s.hu (by omega)⟩
structure Stc (z : Z) (c : Es) (st : Led) (tk : Nat) (f : Value) (vs : List Value) (k : KO Value) : Prop where
  h : ∀ h m q, Fr z.X.h₀ z.X.L h m → Nw z h c st → Lnk z m k q → codeAny (model pw z.w) z.ar (.call f ⟨vs, []⟩) (RQ q z.X.E) (z.sh h tk)
theorem Stc.stp {z : Z} {c : Es} {st : Led} {tk : Nat} {f : Value} {vs : List Value} {k : KO Value} (x : Stc z c st tk f vs k) : Stp z c st tk (call f vs) k := ⟨fun h m q F N l => wpAny_call (x.h h m q F N l)⟩
theorem Def.enter3 {S0 : Sc} {X0 : Cx} {w : World} {A : Ba} {mk : Option Mk} {nb : Bool} {S : Sc} {f : Addr} {n : Nat} {p : CS} {vs : List Value} {c : Es} {st : Led} {tk D D' : Nat} {k : KO Value} (d : Def S f n p) (s : Std ⟨S0, X0, w, A, mk, nb⟩ D) (hD : 1 + D' ≤ D) (hn : vs.length = n) (hob : ObAll A mk S.ty (ini S.sl vs)) (hm : ((!S.ty.contains (some .maker) || mk.isSome) && (S.ty.all (·.isNone) || nb)) = true)
    (hz : n ≤ S.sl.length)
    (h : ∀ X : Cx, Std ⟨S, X, w, A, mk, nb⟩ D' → X.un + 13 + 16 * D' < cLine → (∀ v c st tk, k v c st tk → Fin ⟨S, X, w, A, mk, nb⟩ v c st tk) → p ⟨S, X, w, A, mk, nb⟩ (ini S.sl vs) (fun _ c st tk => Fin ⟨S, X, w, A, mk, nb⟩ .none c st tk) c st (tk + n)) :
    Stc ⟨S0, X0, w, A, mk, nb⟩ c st tk (.ref f) vs k := by
  refine ⟨fun h₁ m q F N l => ?_⟩
  obtain ⟨name, qual, params, body, scope, dV, kV, doc, pm, cdv, ct, oc, an, od, osl, ho, hc, hb, hs, ok, hco, hg, hcl⟩ := d.h w
  obtain ⟨mean, mg, mb, T⟩ := s.T
  have hl : (S.sl.zip vs).length = n := by rw [List.length_zip]; omega
  have hin := s.in1 hD
  refine Mine.enterC (D := D) (cl := X0.cl) (s := Z.sh ⟨S0, X0, w, A, mk, nb⟩ h₁ tk) s.B F s.K N.1 T s.hk s.hd ho hc (hb _ vs hn) (fun y hy => ok.loc _ (List.of_mem_zip (show (y.1, y.2) ∈ S.sl.zip vs from hy)).1) (fun g L' h' A' outer' E' F' N' B' K' T' => ?_) ok.kind hco hg hcl
  rw [hl]
  let X : Cx := ⟨qual, scope, X0.dp + 1, X0.un + 3, X0.gd, L', f, cdv, [], outer', A', X0.base, g, X0.gs, X0.dr, X0.os, E', k⟩
  have e : (fun y => (S.sl.zip vs).reverse.lookup y) = mOf S.sl (ini S.sl vs) := funext fun y => (lookup_rev y (zip_nd ok.nd)).trans (lookup_ini _ _ _)
  rw [e] at F'
  have O : Ok ⟨S, X, w, A, mk, nb⟩ (ini S.sl vs) := ⟨ok, K', ⟨mean, mg, mb, T'⟩, ini_len _ _, hob.at, fun i hi => by
    have h1 : S.ty.contains (some .maker) = true := by rw [List.contains_iff_mem]; exact List.mem_of_getElem? hi
    rw [h1] at hm; simpa using (Bool.and_eq_true_iff.mp hm).1, fun i o hi => by
    have h1 := (Bool.and_eq_true_iff.mp hm).2
    rcases Bool.or_eq_true_iff.mp h1 with h2 | h2
    · exact nomatch (List.all_eq_true.mp h2 _ (List.mem_of_getElem? hi))
    · exact h2⟩
  exact hs ⟨S, X, w, A, mk, nb⟩ _ rfl O _ _ c st (tk + n) h' F' ⟨N', N.2⟩ ⟨fun fr h2 c2 st2 tk2 O2 F2 N2 hp => retN_ F2 N2.1 fun F3 N3 => l _ _ _ _ _ F3 ⟨N3, N2.2⟩ hp.h, fun v m2 h2 c2 st2 tk2 F2 N2 hp => retK_ F2 N2.1 fun F3 N3 => l _ _ _ _ _ F3 ⟨N3, N2.2⟩ hp.h⟩
    (h X ⟨B', K', ⟨mean, mg, mb, T'⟩, ok.kind, hin.1, hin.2⟩ (by have := s.hu; show X0.un + 3 + 13 + 16 * D' < cLine; simp only at this; omega) fun v c st tk h => ⟨h⟩)
theorem Def.enter2 {S0 : Sc} {X0 : Cx} {w : World} {A : Ba} {mk : Option Mk} {nb : Bool} {S : Sc} {f : Addr} {n : Nat} {p : CS} {vs : List Value} {c : Es} {st : Led} {tk D D' : Nat} {k : KO Value} (d : Def S f n p) (s : Std ⟨S0, X0, w, A, mk, nb⟩ D) (hD : 1 + D' ≤ D) (hn : vs.length = n) (hob : ObAll A mk S.ty (ini S.sl vs)) (hm : ((!S.ty.contains (some .maker) || mk.isSome) && (S.ty.all (·.isNone) || nb)) = true)
    (hz : n ≤ S.sl.length)
    (h : ∀ X : Cx, Std ⟨S, X, w, A, mk, nb⟩ D' → X.un + 13 + 16 * D' < cLine → (∀ v c st tk, k v c st tk → Fin ⟨S, X, w, A, mk, nb⟩ v c st tk) → p ⟨S, X, w, A, mk, nb⟩ (ini S.sl vs) (fun _ c st tk => Fin ⟨S, X, w, A, mk, nb⟩ .none c st tk) c st (tk + n)) :
    Stp ⟨S0, X0, w, A, mk, nb⟩ c st tk (call (.ref f) vs) k := (d.enter3 s hD hn hob hm hz h).stp
theorem Def.enter {S0 : Sc} {X0 : Cx} {w : World} {A : Ba} {mk : Option Mk} {nb : Bool} {S : Sc} {f : Addr} {n : Nat} {p : CS} {vs : List Value} {c : Es} {st : Led} {tk D D' : Nat} {k : KO Value} (d : Def S f n p) (s : Std ⟨S0, X0, w, A, mk, nb⟩ D) (hD : 1 + D' ≤ D) (hn : vs.length = n) (hob : ObAll A mk S.ty (ini S.sl vs)) (hm : ((!S.ty.contains (some .maker) || mk.isSome) && (S.ty.all (·.isNone) || nb)) = true)
    (hz : n ≤ S.sl.length)
    (h : ∀ X : Cx, Std ⟨S, X, w, A, mk, nb⟩ D' → (∀ v c st tk, k v c st tk → Fin ⟨S, X, w, A, mk, nb⟩ v c st tk) → p ⟨S, X, w, A, mk, nb⟩ (ini S.sl vs) (fun _ c st tk => Fin ⟨S, X, w, A, mk, nb⟩ .none c st tk) c st (tk + n)) :
    Stp ⟨S0, X0, w, A, mk, nb⟩ c st tk (call (.ref f) vs) k := d.enter2 s hD hn hob hm hz fun X s _ f => h X s f
section
variable {S : Sc} {X : Cx} {w : World} {A : Ba} {xs : Led} {mk : Option Mk} {vs : List Value} {c : Bc} {st : Led} {tk : Nat} {k : KO Value} {e : Es} {σ : St} {a b : Int} {t u : Tok}
theorem tp_v (R : Rep w A c xs st σ) (h : ∀ b, Rep w A c xs ((b, tupOf vs) :: st) σ → k (.ref b) ⟨c, xs⟩ ((b, tupOf vs) :: st) tk) (hn : vs.length ≤ 100 := by exact Nat.le_of_ble_eq_true rfl) : Tp ⟨S, X, w, A, mk, true⟩ vs ⟨c, xs⟩ st tk k :=
  ⟨hn, fun b hb => h b (R.cons (not_addr (w := w) (c := c) hb) (not_X (w := w) (A := A) (c := c) hb))⟩
theorem tl_v (R : Rep w A c xs st σ) (h : ∀ b, Rep w A c xs ((b, lstO vs) :: st) σ → k (.ref b) ⟨c, xs⟩ ((b, lstO vs) :: st) tk) (hn : vs.length ≤ 100 := by exact Nat.le_of_ble_eq_true rfl) : Tl ⟨S, X, w, A, mk, true⟩ vs ⟨c, xs⟩ st tk k :=
  ⟨hn, fun b hb => h b (R.cons (not_addr (w := w) (c := c) hb) (not_X (w := w) (A := A) (c := c) hb))⟩
theorem neg_v (ret : ∀ t tk', k (.int (-a) t) e st tk') : Stp ⟨S, X, w, A, mk, true⟩ e st tk (unaryOp .USub (.int a t)) k := ⟨fun h₁ m q F N l => PyProof.Rows.neg_int (l _ h₁ _ _ _ F N (ret _ _))⟩
theorem pow_v (h0 : 0 ≤ b) (h1 : b ≤ 1000000) (h2 : a.natAbs < 2 ^ 64) (ret : ∀ t tk', k (.int (a ^ b.toNat) t) e st tk') : Stp ⟨S, X, w, A, mk, true⟩ e st tk (binaryOp .Pow (.int a t) (.int b u)) k := ⟨fun h₁ m q F N l => pow_int_small h0 h1 h2 (l _ h₁ _ _ _ F N (ret _ _))⟩
theorem fdiv_v (h0 : b ≠ 0) (h1 : Builtin.divisionGoesByPylong a b = false) (ret : ∀ t tk', k (.int (a.fdiv b) t) e st tk') : Stp ⟨S, X, w, A, mk, true⟩ e st tk (binaryOp .FloorDiv (.int a t) (.int b u)) k := ⟨fun h₁ m q F N l => PyProof.Rows.floordiv_int h0 (l _ h₁ _ _ _ F N (ret _ _)) (.inl h1)⟩
theorem lsh_v (h0 : 0 ≤ b) (h1 : b ≤ 1000000) (h2 : a.natAbs < 2 ^ 64) (ret : ∀ t tk', k (.int (a * 2 ^ b.toNat) t) e st tk') : Stp ⟨S, X, w, A, mk, true⟩ e st tk (binaryOp .LShift (.int a t) (.int b u)) k := ⟨fun h₁ m q F N l => lshift_int_small h0 h1 h2 (l _ h₁ _ _ _ F N (ret _ _))⟩
theorem mod_v (h0 : b ≠ 0) (ret : ∀ t tk', k (.int (a.fmod b) t) e st tk') : Stp ⟨S, X, w, A, mk, true⟩ e st tk (binaryOp .Mod (.int a t) (.int b u)) k := ⟨fun h₁ m q F N l => PyProof.Rows.mod_int' h0 (l _ h₁ _ _ _ F N (ret _ _))⟩
end
abbrev Gr (st st' : Led) : Prop := ∀ p ∈ st, p ∈ st'
end
end
section
section
variable {S : Sc} {z : Z} {fr : Fm}
noncomputable def sdead : CS := fun _ _ _ _ _ _ => False
theorem snd_dead {t : Stmt} : Snd1 S t sdead := fun z fr e O n q c st tk h F N l hp => hp.elim
noncomputable def cdead : CC Value := fun _ _ _ _ _ _ => False
noncomputable def in2K (z : Z) (y1 y2 : Str) (k : KO Bool) (v : Value) (c : Es) (st : Led) (tk : Nat) : Prop := match v with
  | .str x _ => Tp z [.str y1 tk, .str y2 (tk + 1)] c st (tk + 2) fun _ c st tk => k ([y1, y2].any (· == x)) c st tk
  | _ => False
noncomputable def tin2 (a : CC Value) (y1 y2 : Str) : CC Bool := fun z fr k c st tk => a z fr (fun va c st tk => in2K z y1 y2 k va c st tk) c st tk
theorem snd_tin2 {x : PySem.Expr} {y1 y2 : Str} {k1 k2 k3 : Nat} {p p1 p2 p3 : Pos} {a : CC Value} (ha : SndE S x a) : SndT S (.Compare x [.In] [.Tuple [.Constant (.str y1) k1 p1, .Constant (.str y2) k2 p2] k3 p3] p) (tin2 a y1 y2) := by
  intro z fr e O k q c st tk h F N l hp
  refine wpAny_isTrue_Compare1 (ha z fr e O _ _ c st tk h F N (fun va h1 c1 st1 tk1 F1 N1 hp1 => ?_) hp) rfl
  unfold in2K at hp1
  split at hp1
  · refine Tuple_ (args_cons (Constant_str (args_cons (Constant_str (args_nil ?_)))))
    refine newTuple_N (s := z.sh h1 (tk1 + 2)) F1 N1.1 (fun h3 F3 N3' => ?_) (by show 2 ≤ sizeLine; decide)
    refine in_tuple_strs (News.isTup N3' (.head _)) (.cons _ _ (.cons _ _ .nil)) ?_
    exact wpAny_truthy_bool (l _ h3 _ _ _ F3 (led_cons N3' N1.2) (hp1.h _ fun p hm => Heap.lt_size (N1.1 p hm).1))
  · exact hp1.elim
noncomputable def in2I (z : Z) (y1 y2 : Int) (k : KO Bool) (v : Value) (c : Es) (st : Led) (tk : Nat) : Prop := match v with
  | .int x _ => Tp z [.int y1 tk, .int y2 (tk + 1)] c st (tk + 2) fun _ c st tk => k ([y1, y2].any (· == x)) c st tk
  | _ => False
noncomputable def tin2i (a : CC Value) (y1 y2 : Int) : CC Bool := fun z fr k c st tk => a z fr (fun va c st tk => in2I z y1 y2 k va c st tk) c st tk
theorem snd_tin2i {x : PySem.Expr} {y1 y2 : Int} {k1 k2 k3 : Nat} {p p1 p2 p3 : Pos} {a : CC Value} (ha : SndE S x a) : SndT S (.Compare x [.In] [.Tuple [.Constant (.int y1) k1 p1, .Constant (.int y2) k2 p2] k3 p3] p) (tin2i a y1 y2) := by
  intro z fr e O k q c st tk h F N l hp
  refine wpAny_isTrue_Compare1 (ha z fr e O _ _ c st tk h F N (fun va h1 c1 st1 tk1 F1 N1 hp1 => ?_) hp) rfl
  unfold in2I at hp1
  split at hp1
  · refine Tuple_ (args_cons (wpAny_Constant_int (args_cons (wpAny_Constant_int (args_nil ?_)))))
    refine newTuple_N (s := z.sh h1 (tk1 + 2)) F1 N1.1 (fun h3 F3 N3' => ?_) (by show 2 ≤ sizeLine; decide)
    refine in_tuple_ints (ns := [y1, y2]) (News.isTup N3' (.head _)) (.cons _ _ (.cons _ _ .nil)) ?_
    exact wpAny_truthy_bool (l _ h3 _ _ _ F3 (led_cons N3' N1.2) (hp1.h _ fun p hm => Heap.lt_size (N1.1 p hm).1))
  · exact hp1.elim
noncomputable def SlOk (ve ie : PySem.Expr) : Prop := (∀ a b, subscripted ie false (.ref a) (.ref b) = operate [.ref b, .ref a] (getItem (.ref a) (.ref b))) ∧ ∀ a r, letTemporaryGo ve (.ref a) r = pure ()
structure Slc (z : Z) (va vl vh : Value) (c : Es) (st : Led) (tk : Nat) (k : KO Value) : Prop where
  h : ∀ ve ie h m q, SlOk ve ie → Fr z.X.h₀ z.X.L h m → Nw z h c st → Lnk z m k q →
    wpAny (model pw z.w) z.ar (subscriptTail ve ie va (.ref h.objs.size)) q z.X.E (z.sh (h.push { cls := .type "slice", data := .fields #[vl, vh, .none] }) tk)
noncomputable def csl (a l u : CC Value) : CC Value := fun z fr k c st tk => a z fr (fun va c st tk => l z fr (fun vl c st tk => u z fr (fun vh c st tk => Slc z va vl vh c st tk k) c st tk) c st tk) c st tk
noncomputable def SndP (S : Sc) (e : Option PySem.Expr) (p : CC Value) : Prop := Snd S (fun env => evalPart e env) p
theorem snd_pn : SndP S none cnone := fun z fr e O k q c st tk h F N l hp => evalPart_none_step (l _ _ _ _ _ F N hp)
theorem snd_ps {x : PySem.Expr} {a : CC Value} (ha : SndE S x a) : SndP S (some x) a := fun z fr e O k q c st tk h F N l hp => evalPart_some_step (ha z fr e O k q c st tk h F N l hp)
theorem snd_csl {x : PySem.Expr} {lo hi : Option PySem.Expr} {p p' : Pos} {a b d : CC Value} (ha : SndE S x a) (hl : SndP S lo b) (hu : SndP S hi d) (ho : SlOk x (.Slice lo hi none p')) : SndE S (.Subscript x (.Slice lo hi none p') p) (csl a b d) := by
  intro z fr e O k q c st tk h F N l hp
  refine Subscript_ (ha z fr e O _ _ c st tk h F N (fun va h1 c1 st1 tk1 F1 N1 hp1 => ?_) hp)
  refine wpAny_Slice (hl z fr e O _ _ c1 st1 tk1 h1 F1 N1 (fun vl h2 c2 st2 tk2 F2 N2 hp2 => ?_) hp1)
  refine hu z fr e O _ _ c2 st2 tk2 h2 F2 N2 (fun vh h3 c3 st3 tk3 F3 N3 hp3 => ?_) hp2
  exact evalPart_none_step (hp3.h _ _ h3 _ _ ho F3 N3 l)
structure Unp (z : Z) (v : Value) (c : Es) (st : Led) (k : Value → Value → Prop) : Prop where
  h : ∃ a o va vb, v = .ref a ∧ (a, o) ∈ z.led c st ∧ (∀ h : Heap, h.get? a = some o → IsTup h a #[va, vb]) ∧ k va vb
noncomputable def sunp (i j : Nat) (e : CC Value) : CS := fun z fr n c st tk => e z fr (fun v c st tk => Unp z v c st fun va vb => n (put (put fr i va) j vb) c st (tk + 2)) c st tk
theorem snd_unp {i j : Nat} {x y : Str} {p p1 p2 p3 : Pos} {k1 : Nat} {u : PySem.Expr} {a : CC Value} (hi : S.sl[i]? = some x) (hj : S.sl[j]? = some y) (ho : S.ty[i]? = some none) (ho' : S.ty[j]? = some none) (ha : SndE S u a)
    (hs : ∀ env, swapsWithSole [.Tuple [.Name x p1, .Name y p2] k1 p3] u p.line env = pure false) (hw : ∀ env, swappedStores [.Tuple [.Name x p1, .Name y p2] k1 p3] u env = pure none) :
    Snd1 S (.Assign [.Tuple [.Name x p1, .Name y p2] k1 p3] u p) (sunp i j a) := by
  intro z fr e O n q c st tk h F N l hp'
  subst e
  refine Assign_Tuple (ha z fr rfl O _ _ c st tk h F N (fun v h2 c2 st2 tk2 F2 N2 hp2 => ?_) hp') (hs _) (hw _)
  obtain ⟨b, o, va, vb, rfl, hm, ht, hq⟩ := hp2.h
  refine unpackN_ (s := z.sh h2 tk2) F2 N2.1 (ht _ (N2.1.get hm)) rfl rfl rfl fun h4 F4 N4 => ?_
  refine assignInOrder_cons (assign_Name (storeX_L (s := z.sh h4 tk2) F4 N4 (fun h5 F5 N5 => ?_) O.hk (O.kd hi)))
  refine assignInOrder_cons (assign_Name (storeX_L (s := z.sh h5 (tk2 + 1)) F5 N5 (fun h6 F6 N6 => ?_) O.hk (O.kd hj)))
  have O1 := O.put va ho
  have O2 := O1.put vb ho'
  exact assignInOrder_nil (l.nx _ h6 _ _ _ O2 (mOf_put O.S.nd hj O1.len ▸ (mOf_put (v := va) O.S.nd hi O.len ▸ F6)) ⟨N6, N2.2⟩ hq)
structure Unp3 (z : Z) (v : Value) (c : Es) (st : Led) (k : Value → Value → Value → Prop) : Prop where
  h : ∃ a o va vb vd, v = .ref a ∧ (a, o) ∈ z.led c st ∧ (∀ h : Heap, h.get? a = some o → IsTup h a #[va, vb, vd]) ∧ k va vb vd
noncomputable def sunp3 (i j l : Nat) (e : CC Value) : CS := fun z fr n c st tk => e z fr (fun v c st tk => Unp3 z v c st fun va vb vd => n (put (put (put fr i va) j vb) l vd) c st (tk + 3)) c st tk
theorem snd_unp3 {i j l : Nat} {x y y' : Str} {p p1 p2 p3 p4 : Pos} {k1 : Nat} {u : PySem.Expr} {a : CC Value} (hi : S.sl[i]? = some x) (hj : S.sl[j]? = some y) (hl : S.sl[l]? = some y') (ho : S.ty[i]? = some none) (ho' : S.ty[j]? = some none) (hol : S.ty[l]? = some none) (ha : SndE S u a)
    (hs : ∀ env, swapsWithSole [.Tuple [.Name x p1, .Name y p2, .Name y' p4] k1 p3] u p.line env = pure false) (hw : ∀ env, swappedStores [.Tuple [.Name x p1, .Name y p2, .Name y' p4] k1 p3] u env = pure none) :
    Snd1 S (.Assign [.Tuple [.Name x p1, .Name y p2, .Name y' p4] k1 p3] u p) (sunp3 i j l a) := by
  intro z fr e O n q c st tk h F N l hp'
  subst e
  refine Assign_Tuple (ha z fr rfl O _ _ c st tk h F N (fun v h2 c2 st2 tk2 F2 N2 hp2 => ?_) hp') (hs _) (hw _)
  obtain ⟨b, o, va, vb, vd, rfl, hm, ht, hq⟩ := hp2.h
  refine unpackN_ (s := z.sh h2 tk2) F2 N2.1 (ht _ (N2.1.get hm)) rfl rfl rfl fun h4 F4 N4 => ?_
  refine assignInOrder_cons (assign_Name (storeX_L (s := z.sh h4 tk2) F4 N4 (fun h5 F5 N5 => ?_) O.hk (O.kd hi)))
  refine assignInOrder_cons (assign_Name (storeX_L (s := z.sh h5 (tk2 + 1)) F5 N5 (fun h6 F6 N6 => ?_) O.hk (O.kd hj)))
  refine assignInOrder_cons (assign_Name (storeX_L (s := z.sh h6 (tk2 + 2)) F6 N6 (fun h7 F7 N7 => ?_) O.hk (O.kd hl)))
  have O1 := O.put va ho
  have O2 := O1.put vb ho'
  have O3 := O2.put vd hol
  have e1 := mOf_put (v := va) O.S.nd hi O.len
  have e2 := mOf_put (v := vb) O.S.nd hj O1.len
  have e3 := mOf_put (v := vd) O.S.nd hl O2.len
  exact assignInOrder_nil (l.nx _ h7 _ _ _ O3 (e3 ▸ (e2 ▸ (e1 ▸ F7))) ⟨N7, N2.2⟩ hq)
end
end
section
section
variable {S : Sc} {z : Z} {fr : Fm}
structure Mt (z : Z) (v : Value) (nm : Str) (f : Value) (c : Es) (st : Led) (p : Prop) : Prop where
  h : ∀ h tk m pl (Q : Value × List Value → Shared → Prop), Fr z.X.h₀ z.X.L h m → Nw z h c st → Q (f, [v]) (z.sh h tk) → wpAny (model pw z.w) z.ar (getMethod v nm pl) Q z.X.E (z.sh h tk)
  p : p
noncomputable def cme (e : CC Value) (nm : Str) (id : String) (r : CC (List Value)) : CC Value := fun z fr k c st tk => e z fr (fun v c st tk => Mt z v nm (.builtin id) c st (r z fr (fun vs c st tk => Stp z c st tk (call (.builtin id) (v :: vs)) k) c st tk)) c st tk
noncomputable def cmu (e : CC Value) (nm : Str) (f : Addr) (r : CC (List Value)) : CC Value := fun z fr k c st tk => e z fr (fun v c st tk => Mt z v nm (.ref f) c st (r z fr (fun vs c st tk => Stp z c st tk (call (.ref f) (v :: vs)) k) c st tk)) c st tk
theorem snd_cme {ov : PySem.Expr} {nm : Str} {id : String} {p pos : Pos} {y : PySem.Expr} {r : List PySem.Expr} {e : CC Value} {a : CC (List Value)} {pl : Env → Sem Bool} (ho : SndE S ov e) (hr : SndA S (y :: r) a)
    (hs : ∀ env, starEach (y :: r) env = (false, eval y env) :: starEach r env)
    (he : ∀ env, eval ((PySem.Expr.Attribute ov nm p).Call (y :: r) [] pos) env = (do let ov ← eval ov env; standAt p.atName; let (f, first) ← holding [ov] (getMethod ov nm (pl env)); callWith pos f first (backTo pos (starEach (y :: r) env)) [])) :
    SndE S ((PySem.Expr.Attribute ov nm p).Call (y :: r) [] pos) (cme e nm id a) := by
  intro z fr e' O k q c st tk h F N l hp
  subst e'
  refine MethodCall_ (pl := pl z.env) (ho z fr rfl O _ _ c st tk h F N (fun v h1 c1 st1 tk1 F1 N1 hp1 => ?_) hp) (he _)
  refine hp1.h h1 tk1 _ _ _ F1 N1 ?_
  refine callWith_method1 (hr.run pos z fr rfl O _ _ c1 st1 tk1 h1 F1 N1 (fun vs h2 c2 st2 tk2 F2 N2 hp2 => hp2.snd F2 N2 l) hp1.p) (hs _) ?_
  have := hr.plain pos z.env
  rw [hs] at this
  exact (Bool.or_eq_false_iff.mp this).2
theorem snd_cmu {ov : PySem.Expr} {nm : Str} {f : Addr} {p pos : Pos} {y : PySem.Expr} {r : List PySem.Expr} {e : CC Value} {a : CC (List Value)} {pl : Env → Sem Bool} (ho : SndE S ov e) (hk : ∀ w : World, keepIn (Mine.hd.heap_39 w.params) (.ref f) = true) (hr : SndA S (y :: r) a)
    (hs : ∀ env, starEach (y :: r) env = (false, eval y env) :: starEach r env)
    (he : ∀ env, eval ((PySem.Expr.Attribute ov nm p).Call (y :: r) [] pos) env = (do let ov ← eval ov env; standAt p.atName; let (f, first) ← holding [ov] (getMethod ov nm (pl env)); callWith pos f first (backTo pos (starEach (y :: r) env)) [])) :
    SndE S ((PySem.Expr.Attribute ov nm p).Call (y :: r) [] pos) (cmu e nm f a) := by
  intro z fr e' O k q c st tk h F N l hp
  subst e'
  refine MethodCall_ (pl := pl z.env) (ho z fr rfl O _ _ c st tk h F N (fun v h1 c1 st1 tk1 F1 N1 hp1 => ?_) hp) (he _)
  exact hp1.h h1 tk1 _ _ _ F1 N1 (callW hr hs (hk _) O F1 N1 l hp1.p)
noncomputable def sset (i : Nat) (f : Str) (e : CC Value) : CS := fun z fr n c st tk => e z fr (fun v c st tk => match slot fr i with
  | some o => Stp z c st tk (setAttr o f v) (fun _ c st tk => n fr c st tk)
  | none => False) c st tk
theorem snd_sset {i : Nat} {x f : Str} {p p' pos : Pos} {v : PySem.Expr} {a : CC Value} (hi : S.sl[i]? = some x) (ha : SndE S v a) (hs : ∀ env, swapsWith v (some (.Attribute (.Name x p) f p')) pos.line env = pure false) :
    Snd1 S (.Assign [.Attribute (.Name x p) f p'] v pos) (sset i f a) := by
  intro z fr e O n q c st tk h F N l hp
  subst e
  refine plainObj_wpAny_Assign_Attribute (ha z fr rfl O _ _ c st tk h F N (fun va h1 c1 st1 tk1 F1 N1 hp1 => ?_) hp) (hs _)
  split at hp1
  next o ho => exact O.name F1 hi ho (hp1.h h1 _ _ F1 N1 fun u h2 c2 st2 tk2 F2 N2 hq => l.nx fr h2 _ _ _ O F2 N2 hq)
  next => exact hp1.elim
noncomputable def ssub (o i e : CC Value) : CS := fun z fr n c st tk => e z fr (fun v c st tk => o z fr (fun ov c st tk => i z fr (fun iv c st tk => Stp z c st tk (setItem ov iv v) (fun _ c st tk => n fr c st tk)) c st tk) c st tk) c st tk
theorem snd_ssub {o i v : PySem.Expr} {p pos : Pos} {a b d : CC Value} (ho : SndE S o a) (hi : SndE S i b) (hv : SndE S v d) (hs : ∀ env, swapsWith v (some (.Subscript o i p)) pos.line env = pure false) :
    Snd1 S (.Assign [.Subscript o i p] v pos) (ssub a b d) := by
  intro z fr e O n q c st tk h F N l hp
  subst e
  refine wpAny_Assign_Subscript (hv z fr rfl O _ _ c st tk h F N (fun va h1 c1 st1 tk1 F1 N1 hp1 => ?_) hp) (hs _)
  refine ho z fr rfl O _ _ c1 st1 tk1 h1 F1 N1 (fun vo h2 c2 st2 tk2 F2 N2 hp2 => ?_) hp1
  refine hi z fr rfl O _ _ c2 st2 tk2 h2 F2 N2 (fun vi h3 c3 st3 tk3 F3 N3 hp3 => ?_) hp2
  exact hp3.h h3 _ _ F3 N3 fun u h4 c4 st4 tk4 F4 N4 hq => l.nx fr h4 _ _ _ O F4 N4 hq
structure Td (z : Z) (c : Es) (st : Led) (tk : Nat) (k : KO Value) : Prop where
  h : ∀ b o, (∀ p ∈ z.led c st, p.1 < b) → (b == sysModules) = false → o.IsDictOf (intKind pw z.w) [] → k (.ref b) c ((b, o) :: st) tk
noncomputable def cdct : CC Value := fun z _ k c st tk => Td z c st tk k
theorem snd_cdct {p : Pos} : SndE S (.Dict [] [] p) cdct := by
  intro z fr e O k q c st tk h F N l hp
  obtain ⟨mean, mg, mb, T⟩ := O.T
  refine newDict_K (s := z.sh h tk) F N.1 (topRead_of T).nolimit fun b h' o F' N' lt lo _ _ hi _ => ?_
  exact l _ h' _ _ _ F' (led_cons N' N.2) (hp.h b o lt lo hi)
structure AttG (w : World) (C : Addr) (nm : Str) : Prop where
  g1 : plainGet (Mine.hd.heap_39 w.params) C nm = true
  g2 : hasDictIn (Mine.hd.heap_39 w.params) C = true
  g3 : ∃ attr, findIn (Mine.hd.heap_39 w.params) (.ref C) nm = some attr ∧ noGet (Mine.hd.heap_39 w.params) attr = true
structure AttS (w : World) (C : Addr) (nm : Str) : Prop where
  h1 : findIn (Mine.hd.heap_39 w.params) (.ref C) "__setattr__" = some (some (.builtin "object.__setattr__"))
  h2 : plainOver (Mine.hd.heap_39 w.params) C = true
  h3 : takerIn (Mine.hd.heap_39 w.params) C nm = some none
  h4 : hasDictIn (Mine.hd.heap_39 w.params) C = true
theorem get_v {D : Nat} {x d C : Addr} {es : List DictEntry} {n : Nat} {nm : Str} {v : Value} {c : Es} {st : Led} {tk : Nat} {k : KO Value} (s : Std z D) (g : AttG z.w C nm) (hx : (x, instObj C d) ∈ z.led c st) (hd : (d, dictOf es n) ∈ z.led c st)
    (hl : getL nm es = some (some v)) (hh : handedIn v = true) (ret : k v c st (tk + 1)) : Stp z c st tk (getAttr (.ref x) nm true) k :=
  ⟨fun h m q F N l => by
    obtain ⟨attr, g3, g4⟩ := g.g3
    exact get_own (s := z.sh h tk) F s.K (InstAt.of_news N.1 hx hd) g.g1 g.g2 g3 g4 hl hh (l _ _ _ _ _ F N ret)⟩
theorem meth_v {D : Nat} {x d C f : Addr} {es : List DictEntry} {n : Nat} {nm : Str} {c : Es} {st : Led} {p : Prop} (s : Std z D) (h1 : plainGet (Mine.hd.heap_39 z.w.params) C nm = true) (h2 : findIn (Mine.hd.heap_39 z.w.params) (.ref C) nm = some (some (.ref f))) (h3 : isFn (Mine.hd.heap_39 z.w.params) (.ref f) = true)
    (hx : (x, instObj C d) ∈ z.led c st) (hd : (d, dictOf es n) ∈ z.led c st) (hl : getL nm es = some none) (hp : p) : Mt z (.ref x) nm (.ref f) c st p :=
  ⟨fun h tk m pl Q F N hq => method_inst (s := z.sh h tk) F s.K (InstAt.of_news N.1 hx hd) h1 h2 h3 hl hq, hp⟩
theorem lmeth_v {a : Addr} {vs : List Value} {n : Nat} {nm : Str} {id : String} {c : Es} {st : Led} {p : Prop} (hm : Slot "list" nm id) (ht : typeOf (.builtin id) = pure (.type "method_descriptor")) (hx : (a, listOf vs.toArray n) ∈ z.led c st) (hp : p) : Mt z (.ref a) nm (.builtin id) c st p :=
  ⟨fun h tk m pl Q F N hq => getMethod_list_of (s := z.sh h tk) hm ht ⟨_, N.1.get hx, rfl, _, rfl⟩ ⟨_, N.1.get hx, rfl⟩ hq, hp⟩
theorem gmeth_v {a : Addr} {o : Obj} {xs : List (NK × Addr × Value)} {c : Es} {st : Led} {p : Prop} (hx : (a, o) ∈ z.led c st) (NO : NuIs z.w o xs) (hp : p) : Mt z (.ref a) (Str.ofString "get") (.builtin "dict.get") c st p :=
  ⟨fun h tk m pl Q F N hq => nu_meth (s := z.sh h tk) N.1 hx NO.1 hq, hp⟩
end
section
variable {S : Sc} {X : Cx} {w : World} {A : Ba} {c : Bc} {st : Led} {tk : Nat}
theorem len_v {z : Z} {d : Addr} {vs : List Value} {n : Nat} {c : Es} {k : KO Value} (hm : (d, listOf vs.toArray n) ∈ z.led c st) (hz : vs.length ≤ 2 ^ 20) (ret : ∀ t tk, k (.int (vs.length : Nat) t) c st tk) : Stp z c st tk (call (.builtin "len") [.ref d]) k :=
  ⟨fun h m q F N l => len_M (s := z.sh h tk) N.1 hm hz fun t tk' => l _ h _ _ _ F N (ret t tk')⟩
theorem off_nb {α : Type} {ko : Option Mk} {Y : Led} {t : Sem α} {k : KO α} (h : Stp ⟨S, X, w, A, none, false⟩ ⟨c, M w A c ++ Y⟩ st tk t fun v c' st' tk' => ∃ c1, c'.xs = M w A c1 ++ Y ∧ k v ⟨c1, Y⟩ st' tk') : Stp ⟨S, X, w, A, ko, true⟩ ⟨c, Y⟩ st tk t k :=
  ⟨fun hp m q F N l => h.h hp m q F ⟨by have := N.1; show News X.h₀ X.L hp ((M w A c ++ Y) ++ st); rw [List.append_assoc]; exact this, trivial⟩ fun v h' c' st' tk' F' N' hk => by
    obtain ⟨c1, e, hk⟩ := hk
    refine l v h' ⟨c1, Y⟩ st' tk' F' ⟨?_, ?_⟩ hk
    · have := N'.1
      have e2 : Z.led ⟨S, X, w, A, none, false⟩ c' st' = M w A c1 ++ (Y ++ st') := by show c'.xs ++ st' = _; rw [e, List.append_assoc]
      rw [e2] at this; exact this
    · have := N.2
      cases ko with
      | none => trivial
      | some k9 => exact this⟩
end
end
section
theorem bi_min (w : World) : FnB w (Str.ofString "min") "min" := ⟨by k_is, by rfl, by decide⟩
theorem fg_law_flipped (w : World) : FnG w (Str.ofString "_law_flipped") 1060 := ⟨by k_is, by k_is⟩
theorem fg_law_read (w : World) : FnG w (Str.ofString "_law_read") 1067 := ⟨by k_is, by k_is⟩
theorem fg_bit_value (w : World) : FnG w (Str.ofString "bit_value") 212 := ⟨by k_is, by k_is⟩
theorem fg_concat_value (w : World) : FnG w (Str.ofString "concat_value") 198 := ⟨by k_is, by k_is⟩
theorem fg_extract_value (w : World) : FnG w (Str.ofString "extract_value") 191 := ⟨by k_is, by k_is⟩
theorem fg_one_value (w : World) : FnG w (Str.ofString "one_value") 156 := ⟨by k_is, by k_is⟩
theorem fg_sign_extended (w : World) : FnG w (Str.ofString "sign_extended") 205 := ⟨by k_is, by k_is⟩
theorem gi_BOOL (w : World) : GlI w (Str.ofString "BOOL") 0 := ⟨_, by k_is⟩
theorem mb_args (w : World) : MethB w (Str.ofString "args") 334 := ⟨by k_is, by k_is, by k_is, fun A => by k_get, by k_is⟩
theorem mb_bit (w : World) : MethB w (Str.ofString "bit") 731 := ⟨by k_is, by k_is, by k_is, fun A => by k_get, by k_is⟩
theorem mb_bool_term (w : World) : MethB w (Str.ofString "bool_term") 418 := ⟨by k_is, by k_is, by k_is, fun A => by k_get, by k_is⟩
theorem mb_bv_num (w : World) : MethB w (Str.ofString "bv_num") 675 := ⟨by k_is, by k_is, by k_is, fun A => by k_get, by k_is⟩
theorem mb_bv_one (w : World) : MethB w (Str.ofString "bv_one") 682 := ⟨by k_is, by k_is, by k_is, fun A => by k_get, by k_is⟩
theorem mb_bv_sort (w : World) : MethB w (Str.ofString "bv_sort") 654 := ⟨by k_is, by k_is, by k_is, fun A => by k_get, by k_is⟩
theorem mb_concat (w : World) : MethB w (Str.ofString "concat") 696 := ⟨by k_is, by k_is, by k_is, fun A => by k_get, by k_is⟩
theorem mb_data (w : World) : MethB w (Str.ofString "data") 348 := ⟨by k_is, by k_is, by k_is, fun A => by k_get, by k_is⟩
theorem mb_extract (w : World) : MethB w (Str.ofString "extract") 703 := ⟨by k_is, by k_is, by k_is, fun A => by k_get, by k_is⟩
theorem mb_make (w : World) : MethB w (Str.ofString "make") 369 := ⟨by k_is, by k_is, by k_is, fun A => by k_get, by k_is⟩
theorem mb_not_of (w : World) : MethB w (Str.ofString "not_of") 453 := ⟨by k_is, by k_is, by k_is, fun A => by k_get, by k_is⟩
theorem mb_op (w : World) : MethB w (Str.ofString "op") 327 := ⟨by k_is, by k_is, by k_is, fun A => by k_get, by k_is⟩
theorem mb_sign_extend (w : World) : MethB w (Str.ofString "sign_extend") 717 := ⟨by k_is, by k_is, by k_is, fun A => by k_get, by k_is⟩
theorem mb_want (w : World) : MethB w (Str.ofString "want") 390 := ⟨by k_is, by k_is, by k_is, fun A => by k_get, by k_is⟩
theorem mb_want_bits (w : World) : MethB w (Str.ofString "want_bits") 668 := ⟨by k_is, by k_is, by k_is, fun A => by k_get, by k_is⟩
theorem mb_width (w : World) : MethB w (Str.ofString "width") 355 := ⟨by k_is, by k_is, by k_is, fun A => by k_get, by k_is⟩
theorem mb_zero_extend (w : World) : MethB w (Str.ofString "zero_extend") 710 := ⟨by k_is, by k_is, by k_is, fun A => by k_get, by k_is⟩
theorem mm_bit_of (w : World) : MethM w (Str.ofString "bit_of") 1038 := ⟨by k_is, by k_is, by k_is, fun A k => by k_get, by k_is⟩
theorem mm_cut_out (w : World) : MethM w (Str.ofString "cut_out") 1003 := ⟨by k_is, by k_is, by k_is, fun A k => by k_get, by k_is⟩
theorem mm_is_bits (w : World) : MethM w (Str.ofString "is_bits") 912 := ⟨by k_is, by k_is, by k_is, fun A k => by k_get, by k_is⟩
theorem mm_negated (w : World) : MethM w (Str.ofString "negated") 805 := ⟨by k_is, by k_is, by k_is, fun A k => by k_get, by k_is⟩
theorem mm_number (w : World) : MethM w (Str.ofString "number") 926 := ⟨by k_is, by k_is, by k_is, fun A k => by k_get, by k_is⟩
theorem mm_one_bits (w : World) : MethM w (Str.ofString "one_bits") 933 := ⟨by k_is, by k_is, by k_is, fun A k => by k_get, by k_is⟩
theorem mm_put_together (w : World) : MethM w (Str.ofString "put_together") 996 := ⟨by k_is, by k_is, by k_is, fun A k => by k_get, by k_is⟩
theorem mm_two_bits (w : World) : MethM w (Str.ofString "two_bits") 940 := ⟨by k_is, by k_is, by k_is, fun A k => by k_get, by k_is⟩
theorem mm_value_or (w : World) : MethM w (Str.ofString "value_or") 919 := ⟨by k_is, by k_is, by k_is, fun A k => by k_get, by k_is⟩
theorem mm_wider (w : World) : MethM w (Str.ofString "wider") 1010 := ⟨by k_is, by k_is, by k_is, fun A k => by k_get, by k_is⟩
theorem att_b (w : World) : AttB w := ⟨by k_is, by k_is, _, by k_is, by k_is⟩
noncomputable def sc_want : Sc := ⟨[Str.ofString "self", Str.ofString "t", Str.ofString "s", Str.ofString "where"], [some .bank, none, none, none], []⟩
noncomputable def code_want : CS := sif (tcmp .NotEq (csub (cattr 0 (Str.ofString "term_sorts")) (cvar 1)) (cvar 2)) (sdead) (snil)
theorem def_want : Def sc_want 390 4 code_want := by
  refine ⟨fun w => ?_⟩
  refine' Def.mk1 ?a ?b ?c ?d ?e ?f ?g ?h
  case a => k_is
  case b => k_is
  case c => exact fun s => lenS fun v0 => lenS fun v1 => lenS fun v2 => lenS fun v3 => len0 (BindsTo.of_eq rfl)
  case d => exact snd_one (snd_sif (snd_tcmp (snd_sub (snd_attr rfl (fun _ => rfl)) (snd_var rfl) (fun _ _ _ => by with_unfolding_all rfl)) (snd_var rfl) rfl) (snd_one (snd_dead)) (snd_nil))
  case e => kernel_rfl!
  case f => kernel_rfl!
  case g => kernel_rfl!
  case h => decide
noncomputable def sc_bool_term : Sc := ⟨[Str.ofString "self", Str.ofString "holds"], [some .bank, none], []⟩
noncomputable def code_bool_term : CS := sret (cif (tval (cvar 1)) (cattr 0 (Str.ofString "true_number")) (cattr 0 (Str.ofString "false_number")))
theorem def_bool_term : Def sc_bool_term 418 2 code_bool_term := by
  refine ⟨fun w => ?_⟩
  refine' Def.mk1 ?a ?b ?c ?d ?e ?f ?g ?h
  case a => k_is
  case b => k_is
  case c => exact fun s => lenS fun v0 => lenS fun v1 => len0 (BindsTo.of_eq rfl)
  case d => exact snd_one (snd_ret (snd_if (snd_tval (snd_var rfl) (fun _ => rfl)) (snd_attr rfl (fun _ => rfl)) (snd_attr rfl (fun _ => rfl))))
  case e => kernel_rfl!
  case f => kernel_rfl!
  case g => kernel_rfl!
  case h => decide
noncomputable def sc_not_of : Sc := ⟨[Str.ofString "self", Str.ofString "t"], [some .bank, none], [Str.ofString "BOOL"]⟩
noncomputable def code_not_of : CS := sseq (sexp (cmb 390 (acons (cvar 1) (acons (cgi 0) (acons (cstr (Str.ofString "not")) (anil)))))) (sseq (sif (tcmp .Eq (csub (cattr 0 (Str.ofString "term_ops")) (cvar 1)) (cstr (Str.ofString "not"))) (sret (csub (csub (cattr 0 (Str.ofString "term_args")) (cvar 1)) (cint 0))) (snil)) (sseq (sif (tcmp .Eq (cvar 1) (cattr 0 (Str.ofString "true_number"))) (sret (cattr 0 (Str.ofString "false_number"))) (snil)) (sseq (sif (tcmp .Eq (cvar 1) (cattr 0 (Str.ofString "false_number"))) (sret (cattr 0 (Str.ofString "true_number"))) (snil)) (sret (cmb 369 (acons (cstr (Str.ofString "not")) (acons (ctup (acons (cvar 1) (anil))) (acons (cgi 0) (acons (cint 0) (anil))))))))))
theorem def_not_of : Def sc_not_of 453 2 code_not_of := by
  refine ⟨fun w => ?_⟩
  refine' Def.mk1 ?a ?b ?c ?d ?e ?f ?g ?h
  case a => k_is
  case b => k_is
  case c => exact fun s => lenS fun v0 => lenS fun v1 => len0 (BindsTo.of_eq rfl)
  case d => exact snd_seq (snd_exp (snd_cmb (i := 0) rfl rfl mb_want (snd_acons (snd_var rfl) (snd_acons (snd_cgi (.head _) gi_BOOL) (snd_acons (snd_str) (snd_anil) (fun _ => rfl)) (fun _ => rfl)) (fun _ => rfl)) (fun _ => rfl) (fun _ => rfl)) (fun _ => rfl)) (snd_seq (snd_sif (snd_tcmp (snd_sub (snd_attr rfl (fun _ => rfl)) (snd_var rfl) (fun _ _ _ => by with_unfolding_all rfl)) (snd_str) rfl) (snd_one (snd_ret (snd_sub (snd_sub (snd_attr rfl (fun _ => rfl)) (snd_var rfl) (fun _ _ _ => by with_unfolding_all rfl)) (snd_int) (fun _ _ _ => by with_unfolding_all rfl)))) (snd_nil)) (snd_seq (snd_sif (snd_tcmp (snd_var rfl) (snd_attr rfl (fun _ => rfl)) rfl) (snd_one (snd_ret (snd_attr rfl (fun _ => rfl)))) (snd_nil)) (snd_seq (snd_sif (snd_tcmp (snd_var rfl) (snd_attr rfl (fun _ => rfl)) rfl) (snd_one (snd_ret (snd_attr rfl (fun _ => rfl)))) (snd_nil)) (snd_one (snd_ret (snd_cmb (i := 0) rfl rfl mb_make (snd_acons (snd_str) (snd_acons (snd_ctup (snd_acons (snd_var rfl) (snd_anil) (fun _ => rfl))) (snd_acons (snd_cgi (.head _) gi_BOOL) (snd_acons (snd_int) (snd_anil) (fun _ => rfl)) (fun _ => rfl)) (fun _ => rfl)) (fun _ => rfl)) (fun _ => rfl) (fun _ => rfl)))))))
  case e => kernel_rfl!
  case f => kernel_rfl!
  case g => kernel_rfl!
  case h => decide
noncomputable def sc_want_bits : Sc := ⟨[Str.ofString "self", Str.ofString "t", Str.ofString "where"], [some .bank, none, none], []⟩
noncomputable def code_want_bits : CS := sif (tcmp .Eq (cmb 355 (acons (cvar 1) (anil))) (cint 0)) (sdead) (snil)
theorem def_want_bits : Def sc_want_bits 668 3 code_want_bits := by
  refine ⟨fun w => ?_⟩
  refine' Def.mk1 ?a ?b ?c ?d ?e ?f ?g ?h
  case a => k_is
  case b => k_is
  case c => exact fun s => lenS fun v0 => lenS fun v1 => lenS fun v2 => len0 (BindsTo.of_eq rfl)
  case d => exact snd_one (snd_sif (snd_tcmp (snd_cmb (i := 0) rfl rfl mb_width (snd_acons (snd_var rfl) (snd_anil) (fun _ => rfl)) (fun _ => rfl) (fun _ => rfl)) (snd_int) rfl) (snd_one (snd_dead)) (snd_nil))
  case e => kernel_rfl!
  case f => kernel_rfl!
  case g => kernel_rfl!
  case h => decide
noncomputable def sc_bv_num : Sc := ⟨[Str.ofString "self", Str.ofString "value", Str.ofString "width", Str.ofString "s"], [some .bank, none, none, none], []⟩
noncomputable def code_bv_num : CS := sseq (sasg 3 (cmb 654 (acons (cvar 2) (anil)))) (sret (cmb 369 (acons (cstr (Str.ofString "bvnum")) (acons (ctup (anil)) (acons (cvar 3) (acons (cbin .Mod (cvar 1) (cbin .LShift (cint 1) (cvar 2))) (anil)))))))
theorem def_bv_num : Def sc_bv_num 675 3 code_bv_num := by
  refine ⟨fun w => ?_⟩
  refine' Def.mk1 ?a ?b ?c ?d ?e ?f ?g ?h
  case a => k_is
  case b => k_is
  case c => exact fun s => lenS fun v0 => lenS fun v1 => lenS fun v2 => len0 (BindsTo.of_eq rfl)
  case d => exact snd_seq (snd_asg rfl rfl (snd_cmb (i := 0) rfl rfl mb_bv_sort (snd_acons (snd_var rfl) (snd_anil) (fun _ => rfl)) (fun _ => rfl) (fun _ => rfl)) (fun _ => rfl)) (snd_one (snd_ret (snd_cmb (i := 0) rfl rfl mb_make (snd_acons (snd_str) (snd_acons (snd_ctup (snd_anil)) (snd_acons (snd_var rfl) (snd_acons (snd_bin (snd_var rfl) (snd_bin (snd_int) (snd_var rfl))) (snd_anil) (fun _ => rfl)) (fun _ => rfl)) (fun _ => rfl)) (fun _ => rfl)) (fun _ => rfl) (fun _ => rfl))))
  case e => kernel_rfl!
  case f => kernel_rfl!
  case g => kernel_rfl!
  case h => decide
noncomputable def sc_bv_one : Sc := ⟨[Str.ofString "self", Str.ofString "op", Str.ofString "t"], [some .bank, none, none], []⟩
noncomputable def code_bv_one : CS := sseq (sexp (cmb 668 (acons (cvar 2) (acons (cvar 1) (anil))))) (sseq (sif (tand (tcmp .NotEq (cvar 1) (cstr (Str.ofString "bvnot"))) (tcmp .NotEq (cvar 1) (cstr (Str.ofString "bvneg")))) (sdead) (snil)) (sret (cmb 369 (acons (cvar 1) (acons (ctup (acons (cvar 2) (anil))) (acons (csub (cattr 0 (Str.ofString "term_sorts")) (cvar 2)) (acons (cint 0) (anil))))))))
theorem def_bv_one : Def sc_bv_one 682 3 code_bv_one := by
  refine ⟨fun w => ?_⟩
  refine' Def.mk1 ?a ?b ?c ?d ?e ?f ?g ?h
  case a => k_is
  case b => k_is
  case c => exact fun s => lenS fun v0 => lenS fun v1 => lenS fun v2 => len0 (BindsTo.of_eq rfl)
  case d => exact snd_seq (snd_exp (snd_cmb (i := 0) rfl rfl mb_want_bits (snd_acons (snd_var rfl) (snd_acons (snd_var rfl) (snd_anil) (fun _ => rfl)) (fun _ => rfl)) (fun _ => rfl) (fun _ => rfl)) (fun _ => rfl)) (snd_seq (snd_sif (snd_bools (snd_and (snd_tcmp (snd_var rfl) (snd_str) rfl) (snd_and1 (snd_tcmp (snd_var rfl) (snd_str) rfl)))) (snd_one (snd_dead)) (snd_nil)) (snd_one (snd_ret (snd_cmb (i := 0) rfl rfl mb_make (snd_acons (snd_var rfl) (snd_acons (snd_ctup (snd_acons (snd_var rfl) (snd_anil) (fun _ => rfl))) (snd_acons (snd_sub (snd_attr rfl (fun _ => rfl)) (snd_var rfl) (fun _ _ _ => by with_unfolding_all rfl)) (snd_acons (snd_int) (snd_anil) (fun _ => rfl)) (fun _ => rfl)) (fun _ => rfl)) (fun _ => rfl)) (fun _ => rfl) (fun _ => rfl)))))
  case e => kernel_rfl!
  case f => kernel_rfl!
  case g => kernel_rfl!
  case h => decide
noncomputable def sc_concat : Sc := ⟨[Str.ofString "self", Str.ofString "a", Str.ofString "b"], [some .bank, none, none], []⟩
noncomputable def code_concat : CS := sseq (sexp (cmb 668 (acons (cvar 1) (acons (cstr (Str.ofString "concat")) (anil))))) (sseq (sexp (cmb 668 (acons (cvar 2) (acons (cstr (Str.ofString "concat")) (anil))))) (sret (cmb 369 (acons (cstr (Str.ofString "concat")) (acons (ctup (acons (cvar 1) (acons (cvar 2) (anil)))) (acons (cmb 654 (acons (cbin .Add (cmb 355 (acons (cvar 1) (anil))) (cmb 355 (acons (cvar 2) (anil)))) (anil))) (acons (cint 0) (anil))))))))
theorem def_concat : Def sc_concat 696 3 code_concat := by
  refine ⟨fun w => ?_⟩
  refine' Def.mk1 ?a ?b ?c ?d ?e ?f ?g ?h
  case a => k_is
  case b => k_is
  case c => exact fun s => lenS fun v0 => lenS fun v1 => lenS fun v2 => len0 (BindsTo.of_eq rfl)
  case d => exact snd_seq (snd_exp (snd_cmb (i := 0) rfl rfl mb_want_bits (snd_acons (snd_var rfl) (snd_acons (snd_str) (snd_anil) (fun _ => rfl)) (fun _ => rfl)) (fun _ => rfl) (fun _ => rfl)) (fun _ => rfl)) (snd_seq (snd_exp (snd_cmb (i := 0) rfl rfl mb_want_bits (snd_acons (snd_var rfl) (snd_acons (snd_str) (snd_anil) (fun _ => rfl)) (fun _ => rfl)) (fun _ => rfl) (fun _ => rfl)) (fun _ => rfl)) (snd_one (snd_ret (snd_cmb (i := 0) rfl rfl mb_make (snd_acons (snd_str) (snd_acons (snd_ctup (snd_acons (snd_var rfl) (snd_acons (snd_var rfl) (snd_anil) (fun _ => rfl)) (fun _ => rfl))) (snd_acons (snd_cmb (i := 0) rfl rfl mb_bv_sort (snd_acons (snd_bin (snd_cmb (i := 0) rfl rfl mb_width (snd_acons (snd_var rfl) (snd_anil) (fun _ => rfl)) (fun _ => rfl) (fun _ => rfl)) (snd_cmb (i := 0) rfl rfl mb_width (snd_acons (snd_var rfl) (snd_anil) (fun _ => rfl)) (fun _ => rfl) (fun _ => rfl))) (snd_anil) (fun _ => rfl)) (fun _ => rfl) (fun _ => rfl)) (snd_acons (snd_int) (snd_anil) (fun _ => rfl)) (fun _ => rfl)) (fun _ => rfl)) (fun _ => rfl)) (fun _ => rfl) (fun _ => rfl)))))
  case e => kernel_rfl!
  case f => kernel_rfl!
  case g => kernel_rfl!
  case h => decide
noncomputable def sc_extract : Sc := ⟨[Str.ofString "self", Str.ofString "high", Str.ofString "low", Str.ofString "t"], [some .bank, none, none, none], []⟩
noncomputable def code_extract : CS := sseq (sexp (cmb 668 (acons (cvar 3) (acons (cstr (Str.ofString "extract")) (anil))))) (sseq (sif (tnot (tchain (cint 0) (hlink .LtE (cvar 2) (hlink .LtE (cvar 1) (hlast .Lt (cmb 355 (acons (cvar 3) (anil)))))))) (sdead) (snil)) (sret (cmb 369 (acons (cstr (Str.ofString "extract")) (acons (ctup (acons (cvar 3) (anil))) (acons (cmb 654 (acons (cbin .Add (cbin .Sub (cvar 1) (cvar 2)) (cint 1)) (anil))) (acons (ctup (acons (cvar 1) (acons (cvar 2) (anil)))) (anil))))))))
theorem def_extract : Def sc_extract 703 4 code_extract := by
  refine ⟨fun w => ?_⟩
  refine' Def.mk1 ?a ?b ?c ?d ?e ?f ?g ?h
  case a => k_is
  case b => k_is
  case c => exact fun s => lenS fun v0 => lenS fun v1 => lenS fun v2 => lenS fun v3 => len0 (BindsTo.of_eq rfl)
  case d => exact snd_seq (snd_exp (snd_cmb (i := 0) rfl rfl mb_want_bits (snd_acons (snd_var rfl) (snd_acons (snd_str) (snd_anil) (fun _ => rfl)) (fun _ => rfl)) (fun _ => rfl) (fun _ => rfl)) (fun _ => rfl)) (snd_seq (snd_sif (snd_tnot (snd_tchain (snd_int) (snd_hlink (snd_var rfl) (snd_hlink (snd_var rfl) (snd_hlast (snd_cmb (i := 0) rfl rfl mb_width (snd_acons (snd_var rfl) (snd_anil) (fun _ => rfl)) (fun _ => rfl) (fun _ => rfl))))) rfl)) (snd_one (snd_dead)) (snd_nil)) (snd_one (snd_ret (snd_cmb (i := 0) rfl rfl mb_make (snd_acons (snd_str) (snd_acons (snd_ctup (snd_acons (snd_var rfl) (snd_anil) (fun _ => rfl))) (snd_acons (snd_cmb (i := 0) rfl rfl mb_bv_sort (snd_acons (snd_bin (snd_bin (snd_var rfl) (snd_var rfl)) (snd_int)) (snd_anil) (fun _ => rfl)) (fun _ => rfl) (fun _ => rfl)) (snd_acons (snd_ctup (snd_acons (snd_var rfl) (snd_acons (snd_var rfl) (snd_anil) (fun _ => rfl)) (fun _ => rfl))) (snd_anil) (fun _ => rfl)) (fun _ => rfl)) (fun _ => rfl)) (fun _ => rfl)) (fun _ => rfl) (fun _ => rfl)))))
  case e => kernel_rfl!
  case f => kernel_rfl!
  case g => kernel_rfl!
  case h => decide
noncomputable def sc_zero_extend : Sc := ⟨[Str.ofString "self", Str.ofString "many", Str.ofString "t"], [some .bank, none, none], []⟩
noncomputable def code_zero_extend : CS := sseq (sexp (cmb 668 (acons (cvar 2) (acons (cstr (Str.ofString "zero_extend")) (anil))))) (sseq (sif (tcmp .Lt (cvar 1) (cint 0)) (sdead) (snil)) (sret (cif (tcmp .Eq (cvar 1) (cint 0)) (cvar 2) (cmb 369 (acons (cstr (Str.ofString "zero_extend")) (acons (ctup (acons (cvar 2) (anil))) (acons (cmb 654 (acons (cbin .Add (cmb 355 (acons (cvar 2) (anil))) (cvar 1)) (anil))) (acons (cvar 1) (anil)))))))))
theorem def_zero_extend : Def sc_zero_extend 710 3 code_zero_extend := by
  refine ⟨fun w => ?_⟩
  refine' Def.mk1 ?a ?b ?c ?d ?e ?f ?g ?h
  case a => k_is
  case b => k_is
  case c => exact fun s => lenS fun v0 => lenS fun v1 => lenS fun v2 => len0 (BindsTo.of_eq rfl)
  case d => exact snd_seq (snd_exp (snd_cmb (i := 0) rfl rfl mb_want_bits (snd_acons (snd_var rfl) (snd_acons (snd_str) (snd_anil) (fun _ => rfl)) (fun _ => rfl)) (fun _ => rfl) (fun _ => rfl)) (fun _ => rfl)) (snd_seq (snd_sif (snd_tcmp (snd_var rfl) (snd_int) rfl) (snd_one (snd_dead)) (snd_nil)) (snd_one (snd_ret (snd_if (snd_tcmp (snd_var rfl) (snd_int) rfl) (snd_var rfl) (snd_cmb (i := 0) rfl rfl mb_make (snd_acons (snd_str) (snd_acons (snd_ctup (snd_acons (snd_var rfl) (snd_anil) (fun _ => rfl))) (snd_acons (snd_cmb (i := 0) rfl rfl mb_bv_sort (snd_acons (snd_bin (snd_cmb (i := 0) rfl rfl mb_width (snd_acons (snd_var rfl) (snd_anil) (fun _ => rfl)) (fun _ => rfl) (fun _ => rfl)) (snd_var rfl)) (snd_anil) (fun _ => rfl)) (fun _ => rfl) (fun _ => rfl)) (snd_acons (snd_var rfl) (snd_anil) (fun _ => rfl)) (fun _ => rfl)) (fun _ => rfl)) (fun _ => rfl)) (fun _ => rfl) (fun _ => rfl))))))
  case e => kernel_rfl!
  case f => kernel_rfl!
  case g => kernel_rfl!
  case h => decide
noncomputable def sc_sign_extend : Sc := ⟨[Str.ofString "self", Str.ofString "many", Str.ofString "t"], [some .bank, none, none], []⟩
noncomputable def code_sign_extend : CS := sseq (sexp (cmb 668 (acons (cvar 2) (acons (cstr (Str.ofString "sign_extend")) (anil))))) (sseq (sif (tcmp .Lt (cvar 1) (cint 0)) (sdead) (snil)) (sret (cif (tcmp .Eq (cvar 1) (cint 0)) (cvar 2) (cmb 369 (acons (cstr (Str.ofString "sign_extend")) (acons (ctup (acons (cvar 2) (anil))) (acons (cmb 654 (acons (cbin .Add (cmb 355 (acons (cvar 2) (anil))) (cvar 1)) (anil))) (acons (cvar 1) (anil)))))))))
theorem def_sign_extend : Def sc_sign_extend 717 3 code_sign_extend := by
  refine ⟨fun w => ?_⟩
  refine' Def.mk1 ?a ?b ?c ?d ?e ?f ?g ?h
  case a => k_is
  case b => k_is
  case c => exact fun s => lenS fun v0 => lenS fun v1 => lenS fun v2 => len0 (BindsTo.of_eq rfl)
  case d => exact snd_seq (snd_exp (snd_cmb (i := 0) rfl rfl mb_want_bits (snd_acons (snd_var rfl) (snd_acons (snd_str) (snd_anil) (fun _ => rfl)) (fun _ => rfl)) (fun _ => rfl) (fun _ => rfl)) (fun _ => rfl)) (snd_seq (snd_sif (snd_tcmp (snd_var rfl) (snd_int) rfl) (snd_one (snd_dead)) (snd_nil)) (snd_one (snd_ret (snd_if (snd_tcmp (snd_var rfl) (snd_int) rfl) (snd_var rfl) (snd_cmb (i := 0) rfl rfl mb_make (snd_acons (snd_str) (snd_acons (snd_ctup (snd_acons (snd_var rfl) (snd_anil) (fun _ => rfl))) (snd_acons (snd_cmb (i := 0) rfl rfl mb_bv_sort (snd_acons (snd_bin (snd_cmb (i := 0) rfl rfl mb_width (snd_acons (snd_var rfl) (snd_anil) (fun _ => rfl)) (fun _ => rfl) (fun _ => rfl)) (snd_var rfl)) (snd_anil) (fun _ => rfl)) (fun _ => rfl) (fun _ => rfl)) (snd_acons (snd_var rfl) (snd_anil) (fun _ => rfl)) (fun _ => rfl)) (fun _ => rfl)) (fun _ => rfl)) (fun _ => rfl) (fun _ => rfl))))))
  case e => kernel_rfl!
  case f => kernel_rfl!
  case g => kernel_rfl!
  case h => decide
noncomputable def sc_bit : Sc := ⟨[Str.ofString "self", Str.ofString "i", Str.ofString "t"], [some .bank, none, none], [Str.ofString "BOOL"]⟩
noncomputable def code_bit : CS := sseq (sexp (cmb 668 (acons (cvar 2) (acons (cstr (Str.ofString "bit")) (anil))))) (sseq (sif (tnot (tchain (cint 0) (hlink .LtE (cvar 1) (hlast .Lt (cmb 355 (acons (cvar 2) (anil))))))) (sdead) (snil)) (sret (cmb 369 (acons (cstr (Str.ofString "bit")) (acons (ctup (acons (cvar 2) (anil))) (acons (cgi 0) (acons (cvar 1) (anil))))))))
theorem def_bit : Def sc_bit 731 3 code_bit := by
  refine ⟨fun w => ?_⟩
  refine' Def.mk1 ?a ?b ?c ?d ?e ?f ?g ?h
  case a => k_is
  case b => k_is
  case c => exact fun s => lenS fun v0 => lenS fun v1 => lenS fun v2 => len0 (BindsTo.of_eq rfl)
  case d => exact snd_seq (snd_exp (snd_cmb (i := 0) rfl rfl mb_want_bits (snd_acons (snd_var rfl) (snd_acons (snd_str) (snd_anil) (fun _ => rfl)) (fun _ => rfl)) (fun _ => rfl) (fun _ => rfl)) (fun _ => rfl)) (snd_seq (snd_sif (snd_tnot (snd_tchain (snd_int) (snd_hlink (snd_var rfl) (snd_hlast (snd_cmb (i := 0) rfl rfl mb_width (snd_acons (snd_var rfl) (snd_anil) (fun _ => rfl)) (fun _ => rfl) (fun _ => rfl)))) rfl)) (snd_one (snd_dead)) (snd_nil)) (snd_one (snd_ret (snd_cmb (i := 0) rfl rfl mb_make (snd_acons (snd_str) (snd_acons (snd_ctup (snd_acons (snd_var rfl) (snd_anil) (fun _ => rfl))) (snd_acons (snd_cgi (.head _) gi_BOOL) (snd_acons (snd_var rfl) (snd_anil) (fun _ => rfl)) (fun _ => rfl)) (fun _ => rfl)) (fun _ => rfl)) (fun _ => rfl) (fun _ => rfl)))))
  case e => kernel_rfl!
  case f => kernel_rfl!
  case g => kernel_rfl!
  case h => decide
noncomputable def sc_is_bits : Sc := ⟨[Str.ofString "self", Str.ofString "t"], [some .maker, none], []⟩
noncomputable def code_is_bits : CS := sret (ccmp .Eq (cmk 327 (acons (cvar 1) (anil))) (cstr (Str.ofString "bvnum")))
theorem def_is_bits : Def sc_is_bits 912 2 code_is_bits := by
  refine ⟨fun w => ?_⟩
  refine' Def.mk1 ?a ?b ?c ?d ?e ?f ?g ?h
  case a => k_is
  case b => k_is
  case c => exact fun s => lenS fun v0 => lenS fun v1 => len0 (BindsTo.of_eq rfl)
  case d => exact snd_one (snd_ret (snd_ccmp (snd_cmk (i := 0) rfl rfl att_b mb_op (snd_acons (snd_var rfl) (snd_anil) (fun _ => rfl)) (fun _ => rfl) (fun _ => rfl) (fun _ => rfl)) (snd_str) rfl))
  case e => kernel_rfl!
  case f => kernel_rfl!
  case g => kernel_rfl!
  case h => decide
noncomputable def sc_value_or : Sc := ⟨[Str.ofString "self", Str.ofString "t", Str.ofString "other"], [some .maker, none, none], []⟩
noncomputable def code_value_or : CS := sret (cif (tval (cmm 0 912 (acons (cvar 1) (anil)))) (cmk 348 (acons (cvar 1) (anil))) (cvar 2))
theorem def_value_or : Def sc_value_or 919 3 code_value_or := by
  refine ⟨fun w => ?_⟩
  refine' Def.mk1 ?a ?b ?c ?d ?e ?f ?g ?h
  case a => k_is
  case b => k_is
  case c => exact fun s => lenS fun v0 => lenS fun v1 => lenS fun v2 => len0 (BindsTo.of_eq rfl)
  case d => exact snd_one (snd_ret (snd_if (snd_tval (snd_cmm (i := 0) rfl rfl mm_is_bits (snd_acons (snd_var rfl) (snd_anil) (fun _ => rfl)) (fun _ => rfl) (fun _ => rfl)) (fun _ => rfl)) (snd_cmk (i := 0) rfl rfl att_b mb_data (snd_acons (snd_var rfl) (snd_anil) (fun _ => rfl)) (fun _ => rfl) (fun _ => rfl) (fun _ => rfl)) (snd_var rfl)))
  case e => kernel_rfl!
  case f => kernel_rfl!
  case g => kernel_rfl!
  case h => decide
noncomputable def sc_number : Sc := ⟨[Str.ofString "self", Str.ofString "value", Str.ofString "like"], [some .maker, none, none], []⟩
noncomputable def code_number : CS := sret (cmk 675 (acons (cvar 1) (acons (cmk 355 (acons (cvar 2) (anil))) (anil))))
theorem def_number : Def sc_number 926 3 code_number := by
  refine ⟨fun w => ?_⟩
  refine' Def.mk1 ?a ?b ?c ?d ?e ?f ?g ?h
  case a => k_is
  case b => k_is
  case c => exact fun s => lenS fun v0 => lenS fun v1 => lenS fun v2 => len0 (BindsTo.of_eq rfl)
  case d => exact snd_one (snd_ret (snd_cmk (i := 0) rfl rfl att_b mb_bv_num (snd_acons (snd_var rfl) (snd_acons (snd_cmk (i := 0) rfl rfl att_b mb_width (snd_acons (snd_var rfl) (snd_anil) (fun _ => rfl)) (fun _ => rfl) (fun _ => rfl) (fun _ => rfl)) (snd_anil) (fun _ => rfl)) (fun _ => rfl)) (fun _ => rfl) (fun _ => rfl) (fun _ => rfl)))
  case e => kernel_rfl!
  case f => kernel_rfl!
  case g => kernel_rfl!
  case h => decide
noncomputable def sc_one_bits : Sc := ⟨[Str.ofString "self", Str.ofString "op", Str.ofString "a"], [some .maker, none, none], [Str.ofString "one_value"]⟩
noncomputable def code_one_bits : CS := sseq (sif (tval (cmm 0 912 (acons (cvar 2) (anil)))) (sret (cmm 0 926 (acons (cfn 156 (acons (cvar 1) (acons (cmk 348 (acons (cvar 2) (anil))) (acons (cmk 355 (acons (cvar 2) (anil))) (anil))))) (acons (cvar 2) (anil))))) (snil)) (sseq (sif (tcmp .Eq (cmk 327 (acons (cvar 2) (anil))) (cvar 1)) (sret (csub (cmk 334 (acons (cvar 2) (anil))) (cint 0))) (snil)) (sseq (sif (tand (tcmp .Eq (cvar 1) (cstr (Str.ofString "bvneg"))) (tcmp .Eq (cmk 327 (acons (cvar 2) (anil))) (cstr (Str.ofString "bvsub")))) (sret (cmm 0 940 (acons (cstr (Str.ofString "bvsub")) (acons (csub (cmk 334 (acons (cvar 2) (anil))) (cint 1)) (acons (csub (cmk 334 (acons (cvar 2) (anil))) (cint 0)) (anil)))))) (snil)) (sret (cmk 682 (acons (cvar 1) (acons (cvar 2) (anil)))))))
theorem def_one_bits : Def sc_one_bits 933 3 code_one_bits := by
  refine ⟨fun w => ?_⟩
  refine' Def.mk1 ?a ?b ?c ?d ?e ?f ?g ?h
  case a => k_is
  case b => k_is
  case c => exact fun s => lenS fun v0 => lenS fun v1 => lenS fun v2 => len0 (BindsTo.of_eq rfl)
  case d => exact snd_seq (snd_sif (snd_tval (snd_cmm (i := 0) rfl rfl mm_is_bits (snd_acons (snd_var rfl) (snd_anil) (fun _ => rfl)) (fun _ => rfl) (fun _ => rfl)) (fun _ => rfl)) (snd_one (snd_ret (snd_cmm (i := 0) rfl rfl mm_number (snd_acons (snd_cfn (.head _) fg_one_value (snd_acons (snd_var rfl) (snd_acons (snd_cmk (i := 0) rfl rfl att_b mb_data (snd_acons (snd_var rfl) (snd_anil) (fun _ => rfl)) (fun _ => rfl) (fun _ => rfl) (fun _ => rfl)) (snd_acons (snd_cmk (i := 0) rfl rfl att_b mb_width (snd_acons (snd_var rfl) (snd_anil) (fun _ => rfl)) (fun _ => rfl) (fun _ => rfl) (fun _ => rfl)) (snd_anil) (fun _ => rfl)) (fun _ => rfl)) (fun _ => rfl)) (fun _ => rfl)) (snd_acons (snd_var rfl) (snd_anil) (fun _ => rfl)) (fun _ => rfl)) (fun _ => rfl) (fun _ => rfl)))) (snd_nil)) (snd_seq (snd_sif (snd_tcmp (snd_cmk (i := 0) rfl rfl att_b mb_op (snd_acons (snd_var rfl) (snd_anil) (fun _ => rfl)) (fun _ => rfl) (fun _ => rfl) (fun _ => rfl)) (snd_var rfl) rfl) (snd_one (snd_ret (snd_sub (snd_cmk (i := 0) rfl rfl att_b mb_args (snd_acons (snd_var rfl) (snd_anil) (fun _ => rfl)) (fun _ => rfl) (fun _ => rfl) (fun _ => rfl)) (snd_int) (fun _ _ _ => by with_unfolding_all rfl)))) (snd_nil)) (snd_seq (snd_sif (snd_bools (snd_and (snd_tcmp (snd_var rfl) (snd_str) rfl) (snd_and1 (snd_tcmp (snd_cmk (i := 0) rfl rfl att_b mb_op (snd_acons (snd_var rfl) (snd_anil) (fun _ => rfl)) (fun _ => rfl) (fun _ => rfl) (fun _ => rfl)) (snd_str) rfl)))) (snd_one (snd_ret (snd_cmm (i := 0) rfl rfl mm_two_bits (snd_acons (snd_str) (snd_acons (snd_sub (snd_cmk (i := 0) rfl rfl att_b mb_args (snd_acons (snd_var rfl) (snd_anil) (fun _ => rfl)) (fun _ => rfl) (fun _ => rfl) (fun _ => rfl)) (snd_int) (fun _ _ _ => by with_unfolding_all rfl)) (snd_acons (snd_sub (snd_cmk (i := 0) rfl rfl att_b mb_args (snd_acons (snd_var rfl) (snd_anil) (fun _ => rfl)) (fun _ => rfl) (fun _ => rfl) (fun _ => rfl)) (snd_int) (fun _ _ _ => by with_unfolding_all rfl)) (snd_anil) (fun _ => rfl)) (fun _ => rfl)) (fun _ => rfl)) (fun _ => rfl) (fun _ => rfl)))) (snd_nil)) (snd_one (snd_ret (snd_cmk (i := 0) rfl rfl att_b mb_bv_one (snd_acons (snd_var rfl) (snd_acons (snd_var rfl) (snd_anil) (fun _ => rfl)) (fun _ => rfl)) (fun _ => rfl) (fun _ => rfl) (fun _ => rfl))))))
  case e => kernel_rfl!
  case f => kernel_rfl!
  case g => kernel_rfl!
  case h => decide
noncomputable def sc_wider : Sc := ⟨[Str.ofString "self", Str.ofString "many", Str.ofString "a"], [some .maker, none, none], []⟩
noncomputable def code_wider : CS := sseq (sif (tcmp .Eq (cvar 1) (cint 0)) (sret (cvar 2)) (snil)) (sseq (sif (tval (cmm 0 912 (acons (cvar 2) (anil)))) (sret (cmk 675 (acons (cmk 348 (acons (cvar 2) (anil))) (acons (cbin .Add (cmk 355 (acons (cvar 2) (anil))) (cvar 1)) (anil))))) (snil)) (sseq (sif (tcmp .Eq (cmk 327 (acons (cvar 2) (anil))) (cstr (Str.ofString "zero_extend"))) (sret (cmk 710 (acons (cbin .Add (cvar 1) (cmk 348 (acons (cvar 2) (anil)))) (acons (csub (cmk 334 (acons (cvar 2) (anil))) (cint 0)) (anil))))) (snil)) (sret (cmk 710 (acons (cvar 1) (acons (cvar 2) (anil)))))))
theorem def_wider : Def sc_wider 1010 3 code_wider := by
  refine ⟨fun w => ?_⟩
  refine' Def.mk1 ?a ?b ?c ?d ?e ?f ?g ?h
  case a => k_is
  case b => k_is
  case c => exact fun s => lenS fun v0 => lenS fun v1 => lenS fun v2 => len0 (BindsTo.of_eq rfl)
  case d => exact snd_seq (snd_sif (snd_tcmp (snd_var rfl) (snd_int) rfl) (snd_one (snd_ret (snd_var rfl))) (snd_nil)) (snd_seq (snd_sif (snd_tval (snd_cmm (i := 0) rfl rfl mm_is_bits (snd_acons (snd_var rfl) (snd_anil) (fun _ => rfl)) (fun _ => rfl) (fun _ => rfl)) (fun _ => rfl)) (snd_one (snd_ret (snd_cmk (i := 0) rfl rfl att_b mb_bv_num (snd_acons (snd_cmk (i := 0) rfl rfl att_b mb_data (snd_acons (snd_var rfl) (snd_anil) (fun _ => rfl)) (fun _ => rfl) (fun _ => rfl) (fun _ => rfl)) (snd_acons (snd_bin (snd_cmk (i := 0) rfl rfl att_b mb_width (snd_acons (snd_var rfl) (snd_anil) (fun _ => rfl)) (fun _ => rfl) (fun _ => rfl) (fun _ => rfl)) (snd_var rfl)) (snd_anil) (fun _ => rfl)) (fun _ => rfl)) (fun _ => rfl) (fun _ => rfl) (fun _ => rfl)))) (snd_nil)) (snd_seq (snd_sif (snd_tcmp (snd_cmk (i := 0) rfl rfl att_b mb_op (snd_acons (snd_var rfl) (snd_anil) (fun _ => rfl)) (fun _ => rfl) (fun _ => rfl) (fun _ => rfl)) (snd_str) rfl) (snd_one (snd_ret (snd_cmk (i := 0) rfl rfl att_b mb_zero_extend (snd_acons (snd_bin (snd_var rfl) (snd_cmk (i := 0) rfl rfl att_b mb_data (snd_acons (snd_var rfl) (snd_anil) (fun _ => rfl)) (fun _ => rfl) (fun _ => rfl) (fun _ => rfl))) (snd_acons (snd_sub (snd_cmk (i := 0) rfl rfl att_b mb_args (snd_acons (snd_var rfl) (snd_anil) (fun _ => rfl)) (fun _ => rfl) (fun _ => rfl) (fun _ => rfl)) (snd_int) (fun _ _ _ => by with_unfolding_all rfl)) (snd_anil) (fun _ => rfl)) (fun _ => rfl)) (fun _ => rfl) (fun _ => rfl) (fun _ => rfl)))) (snd_nil)) (snd_one (snd_ret (snd_cmk (i := 0) rfl rfl att_b mb_zero_extend (snd_acons (snd_var rfl) (snd_acons (snd_var rfl) (snd_anil) (fun _ => rfl)) (fun _ => rfl)) (fun _ => rfl) (fun _ => rfl) (fun _ => rfl))))))
  case e => kernel_rfl!
  case f => kernel_rfl!
  case g => kernel_rfl!
  case h => decide
noncomputable def sc_wider_signed : Sc := ⟨[Str.ofString "self", Str.ofString "many", Str.ofString "a", Str.ofString "width"], [some .maker, none, none, none], [Str.ofString "sign_extended"]⟩
noncomputable def code_wider_signed : CS := sseq (sasg 3 (cmk 355 (acons (cvar 2) (anil)))) (sseq (sif (tcmp .Eq (cvar 1) (cint 0)) (sret (cvar 2)) (snil)) (sseq (sif (tval (cmm 0 912 (acons (cvar 2) (anil)))) (sret (cmk 675 (acons (cfn 205 (acons (cmk 348 (acons (cvar 2) (anil))) (acons (cvar 3) (acons (cvar 1) (anil))))) (acons (cbin .Add (cvar 3) (cvar 1)) (anil))))) (snil)) (sseq (sif (tcmp .Eq (cmk 327 (acons (cvar 2) (anil))) (cstr (Str.ofString "sign_extend"))) (sret (cmk 717 (acons (cbin .Add (cvar 1) (cmk 348 (acons (cvar 2) (anil)))) (acons (csub (cmk 334 (acons (cvar 2) (anil))) (cint 0)) (anil))))) (snil)) (sseq (sif (tcmp .Eq (cmk 327 (acons (cvar 2) (anil))) (cstr (Str.ofString "zero_extend"))) (sret (cmm 0 1010 (acons (cvar 1) (acons (cvar 2) (anil))))) (snil)) (sret (cmk 717 (acons (cvar 1) (acons (cvar 2) (anil)))))))))
theorem def_wider_signed : Def sc_wider_signed 1017 3 code_wider_signed := by
  refine ⟨fun w => ?_⟩
  refine' Def.mk1 ?a ?b ?c ?d ?e ?f ?g ?h
  case a => k_is
  case b => k_is
  case c => exact fun s => lenS fun v0 => lenS fun v1 => lenS fun v2 => len0 (BindsTo.of_eq rfl)
  case d => exact snd_seq (snd_asg rfl rfl (snd_cmk (i := 0) rfl rfl att_b mb_width (snd_acons (snd_var rfl) (snd_anil) (fun _ => rfl)) (fun _ => rfl) (fun _ => rfl) (fun _ => rfl)) (fun _ => rfl)) (snd_seq (snd_sif (snd_tcmp (snd_var rfl) (snd_int) rfl) (snd_one (snd_ret (snd_var rfl))) (snd_nil)) (snd_seq (snd_sif (snd_tval (snd_cmm (i := 0) rfl rfl mm_is_bits (snd_acons (snd_var rfl) (snd_anil) (fun _ => rfl)) (fun _ => rfl) (fun _ => rfl)) (fun _ => rfl)) (snd_one (snd_ret (snd_cmk (i := 0) rfl rfl att_b mb_bv_num (snd_acons (snd_cfn (.head _) fg_sign_extended (snd_acons (snd_cmk (i := 0) rfl rfl att_b mb_data (snd_acons (snd_var rfl) (snd_anil) (fun _ => rfl)) (fun _ => rfl) (fun _ => rfl) (fun _ => rfl)) (snd_acons (snd_var rfl) (snd_acons (snd_var rfl) (snd_anil) (fun _ => rfl)) (fun _ => rfl)) (fun _ => rfl)) (fun _ => rfl)) (snd_acons (snd_bin (snd_var rfl) (snd_var rfl)) (snd_anil) (fun _ => rfl)) (fun _ => rfl)) (fun _ => rfl) (fun _ => rfl) (fun _ => rfl)))) (snd_nil)) (snd_seq (snd_sif (snd_tcmp (snd_cmk (i := 0) rfl rfl att_b mb_op (snd_acons (snd_var rfl) (snd_anil) (fun _ => rfl)) (fun _ => rfl) (fun _ => rfl) (fun _ => rfl)) (snd_str) rfl) (snd_one (snd_ret (snd_cmk (i := 0) rfl rfl att_b mb_sign_extend (snd_acons (snd_bin (snd_var rfl) (snd_cmk (i := 0) rfl rfl att_b mb_data (snd_acons (snd_var rfl) (snd_anil) (fun _ => rfl)) (fun _ => rfl) (fun _ => rfl) (fun _ => rfl))) (snd_acons (snd_sub (snd_cmk (i := 0) rfl rfl att_b mb_args (snd_acons (snd_var rfl) (snd_anil) (fun _ => rfl)) (fun _ => rfl) (fun _ => rfl) (fun _ => rfl)) (snd_int) (fun _ _ _ => by with_unfolding_all rfl)) (snd_anil) (fun _ => rfl)) (fun _ => rfl)) (fun _ => rfl) (fun _ => rfl) (fun _ => rfl)))) (snd_nil)) (snd_seq (snd_sif (snd_tcmp (snd_cmk (i := 0) rfl rfl att_b mb_op (snd_acons (snd_var rfl) (snd_anil) (fun _ => rfl)) (fun _ => rfl) (fun _ => rfl) (fun _ => rfl)) (snd_str) rfl) (snd_one (snd_ret (snd_cmm (i := 0) rfl rfl mm_wider (snd_acons (snd_var rfl) (snd_acons (snd_var rfl) (snd_anil) (fun _ => rfl)) (fun _ => rfl)) (fun _ => rfl) (fun _ => rfl)))) (snd_nil)) (snd_one (snd_ret (snd_cmk (i := 0) rfl rfl att_b mb_sign_extend (snd_acons (snd_var rfl) (snd_acons (snd_var rfl) (snd_anil) (fun _ => rfl)) (fun _ => rfl)) (fun _ => rfl) (fun _ => rfl) (fun _ => rfl))))))))
  case e => kernel_rfl!
  case f => kernel_rfl!
  case g => kernel_rfl!
  case h => decide
noncomputable def sc_put_together : Sc := ⟨[Str.ofString "self", Str.ofString "a", Str.ofString "b", Str.ofString "width", Str.ofString "value"], [some .maker, none, none, none, none], [Str.ofString "concat_value"]⟩
noncomputable def code_put_together : CS := sseq (sasg 3 (cmk 355 (acons (cvar 2) (anil)))) (sseq (sif (tand (tval (cmm 0 912 (acons (cvar 1) (anil)))) (tval (cmm 0 912 (acons (cvar 2) (anil))))) (sseq (sasg 4 (cfn 198 (acons (cmk 348 (acons (cvar 1) (anil))) (acons (cmk 348 (acons (cvar 2) (anil))) (acons (cvar 3) (anil)))))) (sret (cmk 675 (acons (cvar 4) (acons (cbin .Add (cmk 355 (acons (cvar 1) (anil))) (cvar 3)) (anil)))))) (snil)) (sseq (sif (tcmp .Eq (cmm 0 919 (acons (cvar 1) (acons (cneg (cint 1)) (anil)))) (cint 0)) (sret (cmm 0 1010 (acons (cmk 355 (acons (cvar 1) (anil))) (acons (cvar 2) (anil))))) (snil)) (sseq (sif (tand (tcmp .Eq (cmk 327 (acons (cvar 1) (anil))) (cstr (Str.ofString "concat"))) (tand (tval (cmm 0 912 (acons (cvar 2) (anil)))) (tval (cmm 0 912 (acons (csub (cmk 334 (acons (cvar 1) (anil))) (cint 1)) (anil)))))) (sret (cmk 696 (acons (csub (cmk 334 (acons (cvar 1) (anil))) (cint 0)) (acons (cmm 0 996 (acons (csub (cmk 334 (acons (cvar 1) (anil))) (cint 1)) (acons (cvar 2) (anil)))) (anil))))) (snil)) (sseq (sif (tand (tcmp .Eq (cmk 327 (acons (cvar 1) (anil))) (cstr (Str.ofString "extract"))) (tand (tcmp .Eq (cmk 327 (acons (cvar 2) (anil))) (cstr (Str.ofString "extract"))) (tcmp .Eq (cmk 334 (acons (cvar 1) (anil))) (cmk 334 (acons (cvar 2) (anil)))))) (sif (tcmp .Eq (csub (cmk 348 (acons (cvar 1) (anil))) (cint 1)) (cbin .Add (csub (cmk 348 (acons (cvar 2) (anil))) (cint 0)) (cint 1))) (sret (cmm 0 1003 (acons (csub (cmk 348 (acons (cvar 1) (anil))) (cint 0)) (acons (csub (cmk 348 (acons (cvar 2) (anil))) (cint 1)) (acons (csub (cmk 334 (acons (cvar 1) (anil))) (cint 0)) (anil)))))) (snil)) (snil)) (sret (cmk 696 (acons (cvar 1) (acons (cvar 2) (anil)))))))))
theorem def_put_together : Def sc_put_together 996 3 code_put_together := by
  refine ⟨fun w => ?_⟩
  refine' Def.mk1 ?a ?b ?c ?d ?e ?f ?g ?h
  case a => k_is
  case b => k_is
  case c => exact fun s => lenS fun v0 => lenS fun v1 => lenS fun v2 => len0 (BindsTo.of_eq rfl)
  case d => exact snd_seq (snd_asg rfl rfl (snd_cmk (i := 0) rfl rfl att_b mb_width (snd_acons (snd_var rfl) (snd_anil) (fun _ => rfl)) (fun _ => rfl) (fun _ => rfl) (fun _ => rfl)) (fun _ => rfl)) (snd_seq (snd_sif (snd_bools (snd_and (snd_tval (snd_cmm (i := 0) rfl rfl mm_is_bits (snd_acons (snd_var rfl) (snd_anil) (fun _ => rfl)) (fun _ => rfl) (fun _ => rfl)) (fun _ => rfl)) (snd_and1 (snd_tval (snd_cmm (i := 0) rfl rfl mm_is_bits (snd_acons (snd_var rfl) (snd_anil) (fun _ => rfl)) (fun _ => rfl) (fun _ => rfl)) (fun _ => rfl))))) (snd_seq (snd_asg rfl rfl (snd_cfn (.head _) fg_concat_value (snd_acons (snd_cmk (i := 0) rfl rfl att_b mb_data (snd_acons (snd_var rfl) (snd_anil) (fun _ => rfl)) (fun _ => rfl) (fun _ => rfl) (fun _ => rfl)) (snd_acons (snd_cmk (i := 0) rfl rfl att_b mb_data (snd_acons (snd_var rfl) (snd_anil) (fun _ => rfl)) (fun _ => rfl) (fun _ => rfl) (fun _ => rfl)) (snd_acons (snd_var rfl) (snd_anil) (fun _ => rfl)) (fun _ => rfl)) (fun _ => rfl)) (fun _ => rfl)) (fun _ => rfl)) (snd_one (snd_ret (snd_cmk (i := 0) rfl rfl att_b mb_bv_num (snd_acons (snd_var rfl) (snd_acons (snd_bin (snd_cmk (i := 0) rfl rfl att_b mb_width (snd_acons (snd_var rfl) (snd_anil) (fun _ => rfl)) (fun _ => rfl) (fun _ => rfl) (fun _ => rfl)) (snd_var rfl)) (snd_anil) (fun _ => rfl)) (fun _ => rfl)) (fun _ => rfl) (fun _ => rfl) (fun _ => rfl))))) (snd_nil)) (snd_seq (snd_sif (snd_tcmp (snd_cmm (i := 0) rfl rfl mm_value_or (snd_acons (snd_var rfl) (snd_acons (snd_neg (snd_int)) (snd_anil) (fun _ => rfl)) (fun _ => rfl)) (fun _ => rfl) (fun _ => rfl)) (snd_int) rfl) (snd_one (snd_ret (snd_cmm (i := 0) rfl rfl mm_wider (snd_acons (snd_cmk (i := 0) rfl rfl att_b mb_width (snd_acons (snd_var rfl) (snd_anil) (fun _ => rfl)) (fun _ => rfl) (fun _ => rfl) (fun _ => rfl)) (snd_acons (snd_var rfl) (snd_anil) (fun _ => rfl)) (fun _ => rfl)) (fun _ => rfl) (fun _ => rfl)))) (snd_nil)) (snd_seq (snd_sif (snd_bools (snd_and (snd_tcmp (snd_cmk (i := 0) rfl rfl att_b mb_op (snd_acons (snd_var rfl) (snd_anil) (fun _ => rfl)) (fun _ => rfl) (fun _ => rfl) (fun _ => rfl)) (snd_str) rfl) (snd_and (snd_tval (snd_cmm (i := 0) rfl rfl mm_is_bits (snd_acons (snd_var rfl) (snd_anil) (fun _ => rfl)) (fun _ => rfl) (fun _ => rfl)) (fun _ => rfl)) (snd_and1 (snd_tval (snd_cmm (i := 0) rfl rfl mm_is_bits (snd_acons (snd_sub (snd_cmk (i := 0) rfl rfl att_b mb_args (snd_acons (snd_var rfl) (snd_anil) (fun _ => rfl)) (fun _ => rfl) (fun _ => rfl) (fun _ => rfl)) (snd_int) (fun _ _ _ => by with_unfolding_all rfl)) (snd_anil) (fun _ => rfl)) (fun _ => rfl) (fun _ => rfl)) (fun _ => rfl)))))) (snd_one (snd_ret (snd_cmk (i := 0) rfl rfl att_b mb_concat (snd_acons (snd_sub (snd_cmk (i := 0) rfl rfl att_b mb_args (snd_acons (snd_var rfl) (snd_anil) (fun _ => rfl)) (fun _ => rfl) (fun _ => rfl) (fun _ => rfl)) (snd_int) (fun _ _ _ => by with_unfolding_all rfl)) (snd_acons (snd_cmm (i := 0) rfl rfl mm_put_together (snd_acons (snd_sub (snd_cmk (i := 0) rfl rfl att_b mb_args (snd_acons (snd_var rfl) (snd_anil) (fun _ => rfl)) (fun _ => rfl) (fun _ => rfl) (fun _ => rfl)) (snd_int) (fun _ _ _ => by with_unfolding_all rfl)) (snd_acons (snd_var rfl) (snd_anil) (fun _ => rfl)) (fun _ => rfl)) (fun _ => rfl) (fun _ => rfl)) (snd_anil) (fun _ => rfl)) (fun _ => rfl)) (fun _ => rfl) (fun _ => rfl) (fun _ => rfl)))) (snd_nil)) (snd_seq (snd_sif (snd_bools (snd_and (snd_tcmp (snd_cmk (i := 0) rfl rfl att_b mb_op (snd_acons (snd_var rfl) (snd_anil) (fun _ => rfl)) (fun _ => rfl) (fun _ => rfl) (fun _ => rfl)) (snd_str) rfl) (snd_and (snd_tcmp (snd_cmk (i := 0) rfl rfl att_b mb_op (snd_acons (snd_var rfl) (snd_anil) (fun _ => rfl)) (fun _ => rfl) (fun _ => rfl) (fun _ => rfl)) (snd_str) rfl) (snd_and1 (snd_tcmp (snd_cmk (i := 0) rfl rfl att_b mb_args (snd_acons (snd_var rfl) (snd_anil) (fun _ => rfl)) (fun _ => rfl) (fun _ => rfl) (fun _ => rfl)) (snd_cmk (i := 0) rfl rfl att_b mb_args (snd_acons (snd_var rfl) (snd_anil) (fun _ => rfl)) (fun _ => rfl) (fun _ => rfl) (fun _ => rfl)) rfl))))) (snd_one (snd_sif (snd_tcmp (snd_sub (snd_cmk (i := 0) rfl rfl att_b mb_data (snd_acons (snd_var rfl) (snd_anil) (fun _ => rfl)) (fun _ => rfl) (fun _ => rfl) (fun _ => rfl)) (snd_int) (fun _ _ _ => by with_unfolding_all rfl)) (snd_bin (snd_sub (snd_cmk (i := 0) rfl rfl att_b mb_data (snd_acons (snd_var rfl) (snd_anil) (fun _ => rfl)) (fun _ => rfl) (fun _ => rfl) (fun _ => rfl)) (snd_int) (fun _ _ _ => by with_unfolding_all rfl)) (snd_int)) rfl) (snd_one (snd_ret (snd_cmm (i := 0) rfl rfl mm_cut_out (snd_acons (snd_sub (snd_cmk (i := 0) rfl rfl att_b mb_data (snd_acons (snd_var rfl) (snd_anil) (fun _ => rfl)) (fun _ => rfl) (fun _ => rfl) (fun _ => rfl)) (snd_int) (fun _ _ _ => by with_unfolding_all rfl)) (snd_acons (snd_sub (snd_cmk (i := 0) rfl rfl att_b mb_data (snd_acons (snd_var rfl) (snd_anil) (fun _ => rfl)) (fun _ => rfl) (fun _ => rfl) (fun _ => rfl)) (snd_int) (fun _ _ _ => by with_unfolding_all rfl)) (snd_acons (snd_sub (snd_cmk (i := 0) rfl rfl att_b mb_args (snd_acons (snd_var rfl) (snd_anil) (fun _ => rfl)) (fun _ => rfl) (fun _ => rfl) (fun _ => rfl)) (snd_int) (fun _ _ _ => by with_unfolding_all rfl)) (snd_anil) (fun _ => rfl)) (fun _ => rfl)) (fun _ => rfl)) (fun _ => rfl) (fun _ => rfl)))) (snd_nil))) (snd_nil)) (snd_one (snd_ret (snd_cmk (i := 0) rfl rfl att_b mb_concat (snd_acons (snd_var rfl) (snd_acons (snd_var rfl) (snd_anil) (fun _ => rfl)) (fun _ => rfl)) (fun _ => rfl) (fun _ => rfl) (fun _ => rfl))))))))
  case e => kernel_rfl!
  case f => kernel_rfl!
  case g => kernel_rfl!
  case h => decide
noncomputable def sc_cut_out : Sc := ⟨[Str.ofString "self", Str.ofString "high", Str.ofString "low", Str.ofString "a", Str.ofString "kind", Str.ofString "args", Str.ofString "seam", Str.ofString "inner"], [some .maker, none, none, none, none, none, none, none], [Str.ofString "extract_value"]⟩
noncomputable def code_cut_out : CS := sseq (spair 4 5 (cmk 327 (acons (cvar 3) (anil))) (cmk 334 (acons (cvar 3) (anil)))) (sseq (sif (tand (tcmp .Eq (cvar 2) (cint 0)) (tcmp .Eq (cvar 1) (cbin .Sub (cmk 355 (acons (cvar 3) (anil))) (cint 1)))) (sret (cvar 3)) (snil)) (sseq (sif (tcmp .Eq (cvar 4) (cstr (Str.ofString "bvnum"))) (sret (cmk 675 (acons (cfn 191 (acons (cmk 348 (acons (cvar 3) (anil))) (acons (cvar 1) (acons (cvar 2) (anil))))) (acons (cbin .Add (cbin .Sub (cvar 1) (cvar 2)) (cint 1)) (anil))))) (snil)) (sseq (sif (tcmp .Eq (cvar 4) (cstr (Str.ofString "extract"))) (sret (cmm 0 1003 (acons (cbin .Add (cvar 1) (csub (cmk 348 (acons (cvar 3) (anil))) (cint 1))) (acons (cbin .Add (cvar 2) (csub (cmk 348 (acons (cvar 3) (anil))) (cint 1))) (acons (csub (cvar 5) (cint 0)) (anil)))))) (snil)) (sseq (sif (tcmp .Eq (cvar 4) (cstr (Str.ofString "bvnot"))) (sret (cmm 0 933 (acons (cstr (Str.ofString "bvnot")) (acons (cmm 0 1003 (acons (cvar 1) (acons (cvar 2) (acons (csub (cvar 5) (cint 0)) (anil))))) (anil))))) (snil)) (sseq (sif (tcmp .Eq (cvar 4) (cstr (Str.ofString "concat"))) (sseq (sasg 6 (cmk 355 (acons (csub (cvar 5) (cint 1)) (anil)))) (sseq (sif (tcmp .Lt (cvar 1) (cvar 6)) (sret (cmm 0 1003 (acons (cvar 1) (acons (cvar 2) (acons (csub (cvar 5) (cint 1)) (anil)))))) (snil)) (sif (tcmp .GtE (cvar 2) (cvar 6)) (sret (cmm 0 1003 (acons (cbin .Sub (cvar 1) (cvar 6)) (acons (cbin .Sub (cvar 2) (cvar 6)) (acons (csub (cvar 5) (cint 0)) (anil)))))) (snil)))) (snil)) (sseq (sif (tin2 (cvar 4) (Str.ofString "zero_extend") (Str.ofString "sign_extend")) (sseq (sasg 7 (cmk 355 (acons (csub (cvar 5) (cint 0)) (anil)))) (sseq (sif (tcmp .Lt (cvar 1) (cvar 7)) (sret (cmm 0 1003 (acons (cvar 1) (acons (cvar 2) (acons (csub (cvar 5) (cint 0)) (anil)))))) (snil)) (sif (tand (tcmp .Eq (cvar 4) (cstr (Str.ofString "zero_extend"))) (tcmp .GtE (cvar 2) (cvar 7))) (sret (cmk 675 (acons (cint 0) (acons (cbin .Add (cbin .Sub (cvar 1) (cvar 2)) (cint 1)) (anil))))) (snil)))) (snil)) (sret (cmk 703 (acons (cvar 1) (acons (cvar 2) (acons (cvar 3) (anil))))))))))))
theorem def_cut_out : Def sc_cut_out 1003 4 code_cut_out := by
  refine ⟨fun w => ?_⟩
  refine' Def.mk1 ?a ?b ?c ?d ?e ?f ?g ?h
  case a => k_is
  case b => k_is
  case c => exact fun s => lenS fun v0 => lenS fun v1 => lenS fun v2 => lenS fun v3 => len0 (BindsTo.of_eq rfl)
  case d => exact snd_seq (snd_pair rfl rfl rfl rfl (snd_cmk (i := 0) rfl rfl att_b mb_op (snd_acons (snd_var rfl) (snd_anil) (fun _ => rfl)) (fun _ => rfl) (fun _ => rfl) (fun _ => rfl)) (snd_cmk (i := 0) rfl rfl att_b mb_args (snd_acons (snd_var rfl) (snd_anil) (fun _ => rfl)) (fun _ => rfl) (fun _ => rfl) (fun _ => rfl)) (fun _ => rfl) rfl rfl rfl rfl (by kernel_rfl!)) (snd_seq (snd_sif (snd_bools (snd_and (snd_tcmp (snd_var rfl) (snd_int) rfl) (snd_and1 (snd_tcmp (snd_var rfl) (snd_bin (snd_cmk (i := 0) rfl rfl att_b mb_width (snd_acons (snd_var rfl) (snd_anil) (fun _ => rfl)) (fun _ => rfl) (fun _ => rfl) (fun _ => rfl)) (snd_int)) rfl)))) (snd_one (snd_ret (snd_var rfl))) (snd_nil)) (snd_seq (snd_sif (snd_tcmp (snd_var rfl) (snd_str) rfl) (snd_one (snd_ret (snd_cmk (i := 0) rfl rfl att_b mb_bv_num (snd_acons (snd_cfn (.head _) fg_extract_value (snd_acons (snd_cmk (i := 0) rfl rfl att_b mb_data (snd_acons (snd_var rfl) (snd_anil) (fun _ => rfl)) (fun _ => rfl) (fun _ => rfl) (fun _ => rfl)) (snd_acons (snd_var rfl) (snd_acons (snd_var rfl) (snd_anil) (fun _ => rfl)) (fun _ => rfl)) (fun _ => rfl)) (fun _ => rfl)) (snd_acons (snd_bin (snd_bin (snd_var rfl) (snd_var rfl)) (snd_int)) (snd_anil) (fun _ => rfl)) (fun _ => rfl)) (fun _ => rfl) (fun _ => rfl) (fun _ => rfl)))) (snd_nil)) (snd_seq (snd_sif (snd_tcmp (snd_var rfl) (snd_str) rfl) (snd_one (snd_ret (snd_cmm (i := 0) rfl rfl mm_cut_out (snd_acons (snd_bin (snd_var rfl) (snd_sub (snd_cmk (i := 0) rfl rfl att_b mb_data (snd_acons (snd_var rfl) (snd_anil) (fun _ => rfl)) (fun _ => rfl) (fun _ => rfl) (fun _ => rfl)) (snd_int) (fun _ _ _ => by with_unfolding_all rfl))) (snd_acons (snd_bin (snd_var rfl) (snd_sub (snd_cmk (i := 0) rfl rfl att_b mb_data (snd_acons (snd_var rfl) (snd_anil) (fun _ => rfl)) (fun _ => rfl) (fun _ => rfl) (fun _ => rfl)) (snd_int) (fun _ _ _ => by with_unfolding_all rfl))) (snd_acons (snd_sub (snd_var rfl) (snd_int) (fun _ _ _ => by with_unfolding_all rfl)) (snd_anil) (fun _ => rfl)) (fun _ => rfl)) (fun _ => rfl)) (fun _ => rfl) (fun _ => rfl)))) (snd_nil)) (snd_seq (snd_sif (snd_tcmp (snd_var rfl) (snd_str) rfl) (snd_one (snd_ret (snd_cmm (i := 0) rfl rfl mm_one_bits (snd_acons (snd_str) (snd_acons (snd_cmm (i := 0) rfl rfl mm_cut_out (snd_acons (snd_var rfl) (snd_acons (snd_var rfl) (snd_acons (snd_sub (snd_var rfl) (snd_int) (fun _ _ _ => by with_unfolding_all rfl)) (snd_anil) (fun _ => rfl)) (fun _ => rfl)) (fun _ => rfl)) (fun _ => rfl) (fun _ => rfl)) (snd_anil) (fun _ => rfl)) (fun _ => rfl)) (fun _ => rfl) (fun _ => rfl)))) (snd_nil)) (snd_seq (snd_sif (snd_tcmp (snd_var rfl) (snd_str) rfl) (snd_seq (snd_asg rfl rfl (snd_cmk (i := 0) rfl rfl att_b mb_width (snd_acons (snd_sub (snd_var rfl) (snd_int) (fun _ _ _ => by with_unfolding_all rfl)) (snd_anil) (fun _ => rfl)) (fun _ => rfl) (fun _ => rfl) (fun _ => rfl)) (fun _ => rfl)) (snd_seq (snd_sif (snd_tcmp (snd_var rfl) (snd_var rfl) rfl) (snd_one (snd_ret (snd_cmm (i := 0) rfl rfl mm_cut_out (snd_acons (snd_var rfl) (snd_acons (snd_var rfl) (snd_acons (snd_sub (snd_var rfl) (snd_int) (fun _ _ _ => by with_unfolding_all rfl)) (snd_anil) (fun _ => rfl)) (fun _ => rfl)) (fun _ => rfl)) (fun _ => rfl) (fun _ => rfl)))) (snd_nil)) (snd_one (snd_sif (snd_tcmp (snd_var rfl) (snd_var rfl) rfl) (snd_one (snd_ret (snd_cmm (i := 0) rfl rfl mm_cut_out (snd_acons (snd_bin (snd_var rfl) (snd_var rfl)) (snd_acons (snd_bin (snd_var rfl) (snd_var rfl)) (snd_acons (snd_sub (snd_var rfl) (snd_int) (fun _ _ _ => by with_unfolding_all rfl)) (snd_anil) (fun _ => rfl)) (fun _ => rfl)) (fun _ => rfl)) (fun _ => rfl) (fun _ => rfl)))) (snd_nil))))) (snd_nil)) (snd_seq (snd_sif (snd_tin2 (snd_var rfl)) (snd_seq (snd_asg rfl rfl (snd_cmk (i := 0) rfl rfl att_b mb_width (snd_acons (snd_sub (snd_var rfl) (snd_int) (fun _ _ _ => by with_unfolding_all rfl)) (snd_anil) (fun _ => rfl)) (fun _ => rfl) (fun _ => rfl) (fun _ => rfl)) (fun _ => rfl)) (snd_seq (snd_sif (snd_tcmp (snd_var rfl) (snd_var rfl) rfl) (snd_one (snd_ret (snd_cmm (i := 0) rfl rfl mm_cut_out (snd_acons (snd_var rfl) (snd_acons (snd_var rfl) (snd_acons (snd_sub (snd_var rfl) (snd_int) (fun _ _ _ => by with_unfolding_all rfl)) (snd_anil) (fun _ => rfl)) (fun _ => rfl)) (fun _ => rfl)) (fun _ => rfl) (fun _ => rfl)))) (snd_nil)) (snd_one (snd_sif (snd_bools (snd_and (snd_tcmp (snd_var rfl) (snd_str) rfl) (snd_and1 (snd_tcmp (snd_var rfl) (snd_var rfl) rfl)))) (snd_one (snd_ret (snd_cmk (i := 0) rfl rfl att_b mb_bv_num (snd_acons (snd_int) (snd_acons (snd_bin (snd_bin (snd_var rfl) (snd_var rfl)) (snd_int)) (snd_anil) (fun _ => rfl)) (fun _ => rfl)) (fun _ => rfl) (fun _ => rfl) (fun _ => rfl)))) (snd_nil))))) (snd_nil)) (snd_one (snd_ret (snd_cmk (i := 0) rfl rfl att_b mb_extract (snd_acons (snd_var rfl) (snd_acons (snd_var rfl) (snd_acons (snd_var rfl) (snd_anil) (fun _ => rfl)) (fun _ => rfl)) (fun _ => rfl)) (fun _ => rfl) (fun _ => rfl) (fun _ => rfl))))))))))
  case e => kernel_rfl!
  case f => kernel_rfl!
  case g => kernel_rfl!
  case h => decide
noncomputable def sc_bit_of : Sc := ⟨[Str.ofString "self", Str.ofString "i", Str.ofString "a", Str.ofString "kind", Str.ofString "args", Str.ofString "seam"], [some .maker, none, none, none, none, none], [Str.ofString "bit_value", Str.ofString "min"]⟩
noncomputable def code_bit_of : CS := sseq (spair 3 4 (cmk 327 (acons (cvar 2) (anil))) (cmk 334 (acons (cvar 2) (anil)))) (sseq (sif (tcmp .Eq (cvar 3) (cstr (Str.ofString "bvnum"))) (sret (cmk 418 (acons (cfn 212 (acons (cmk 348 (acons (cvar 2) (anil))) (acons (cvar 1) (anil)))) (anil)))) (snil)) (sseq (sif (tcmp .Eq (cvar 3) (cstr (Str.ofString "bvnot"))) (sret (cmm 0 805 (acons (cmm 0 1038 (acons (cvar 1) (acons (csub (cvar 4) (cint 0)) (anil)))) (anil)))) (snil)) (sseq (sif (tcmp .Eq (cvar 3) (cstr (Str.ofString "extract"))) (sret (cmm 0 1038 (acons (cbin .Add (cvar 1) (csub (cmk 348 (acons (cvar 2) (anil))) (cint 1))) (acons (csub (cvar 4) (cint 0)) (anil))))) (snil)) (sseq (sif (tcmp .Eq (cvar 3) (cstr (Str.ofString "concat"))) (sseq (sasg 5 (cmk 355 (acons (csub (cvar 4) (cint 1)) (anil)))) (sret (cif (tcmp .Lt (cvar 1) (cvar 5)) (cmm 0 1038 (acons (cvar 1) (acons (csub (cvar 4) (cint 1)) (anil)))) (cmm 0 1038 (acons (cbin .Sub (cvar 1) (cvar 5)) (acons (csub (cvar 4) (cint 0)) (anil))))))) (snil)) (sseq (sif (tcmp .Eq (cvar 3) (cstr (Str.ofString "zero_extend"))) (sret (cif (tcmp .Lt (cvar 1) (cmk 355 (acons (csub (cvar 4) (cint 0)) (anil)))) (cmm 0 1038 (acons (cvar 1) (acons (csub (cvar 4) (cint 0)) (anil)))) (cattr 0 (Str.ofString "no")))) (snil)) (sseq (sif (tcmp .Eq (cvar 3) (cstr (Str.ofString "sign_extend"))) (sret (cmm 0 1038 (acons (cbi "min" (acons (cvar 1) (acons (cbin .Sub (cmk 355 (acons (csub (cvar 4) (cint 0)) (anil))) (cint 1)) (anil)))) (acons (csub (cvar 4) (cint 0)) (anil))))) (snil)) (sret (cmk 731 (acons (cvar 1) (acons (cvar 2) (anil)))))))))))
theorem def_bit_of : Def sc_bit_of 1038 3 code_bit_of := by
  refine ⟨fun w => ?_⟩
  refine' Def.mk1 ?a ?b ?c ?d ?e ?f ?g ?h
  case a => k_is
  case b => k_is
  case c => exact fun s => lenS fun v0 => lenS fun v1 => lenS fun v2 => len0 (BindsTo.of_eq rfl)
  case d => exact snd_seq (snd_pair rfl rfl rfl rfl (snd_cmk (i := 0) rfl rfl att_b mb_op (snd_acons (snd_var rfl) (snd_anil) (fun _ => rfl)) (fun _ => rfl) (fun _ => rfl) (fun _ => rfl)) (snd_cmk (i := 0) rfl rfl att_b mb_args (snd_acons (snd_var rfl) (snd_anil) (fun _ => rfl)) (fun _ => rfl) (fun _ => rfl) (fun _ => rfl)) (fun _ => rfl) rfl rfl rfl rfl (by kernel_rfl!)) (snd_seq (snd_sif (snd_tcmp (snd_var rfl) (snd_str) rfl) (snd_one (snd_ret (snd_cmk (i := 0) rfl rfl att_b mb_bool_term (snd_acons (snd_cfn (.head _) fg_bit_value (snd_acons (snd_cmk (i := 0) rfl rfl att_b mb_data (snd_acons (snd_var rfl) (snd_anil) (fun _ => rfl)) (fun _ => rfl) (fun _ => rfl) (fun _ => rfl)) (snd_acons (snd_var rfl) (snd_anil) (fun _ => rfl)) (fun _ => rfl)) (fun _ => rfl)) (snd_anil) (fun _ => rfl)) (fun _ => rfl) (fun _ => rfl) (fun _ => rfl)))) (snd_nil)) (snd_seq (snd_sif (snd_tcmp (snd_var rfl) (snd_str) rfl) (snd_one (snd_ret (snd_cmm (i := 0) rfl rfl mm_negated (snd_acons (snd_cmm (i := 0) rfl rfl mm_bit_of (snd_acons (snd_var rfl) (snd_acons (snd_sub (snd_var rfl) (snd_int) (fun _ _ _ => by with_unfolding_all rfl)) (snd_anil) (fun _ => rfl)) (fun _ => rfl)) (fun _ => rfl) (fun _ => rfl)) (snd_anil) (fun _ => rfl)) (fun _ => rfl) (fun _ => rfl)))) (snd_nil)) (snd_seq (snd_sif (snd_tcmp (snd_var rfl) (snd_str) rfl) (snd_one (snd_ret (snd_cmm (i := 0) rfl rfl mm_bit_of (snd_acons (snd_bin (snd_var rfl) (snd_sub (snd_cmk (i := 0) rfl rfl att_b mb_data (snd_acons (snd_var rfl) (snd_anil) (fun _ => rfl)) (fun _ => rfl) (fun _ => rfl) (fun _ => rfl)) (snd_int) (fun _ _ _ => by with_unfolding_all rfl))) (snd_acons (snd_sub (snd_var rfl) (snd_int) (fun _ _ _ => by with_unfolding_all rfl)) (snd_anil) (fun _ => rfl)) (fun _ => rfl)) (fun _ => rfl) (fun _ => rfl)))) (snd_nil)) (snd_seq (snd_sif (snd_tcmp (snd_var rfl) (snd_str) rfl) (snd_seq (snd_asg rfl rfl (snd_cmk (i := 0) rfl rfl att_b mb_width (snd_acons (snd_sub (snd_var rfl) (snd_int) (fun _ _ _ => by with_unfolding_all rfl)) (snd_anil) (fun _ => rfl)) (fun _ => rfl) (fun _ => rfl) (fun _ => rfl)) (fun _ => rfl)) (snd_one (snd_ret (snd_if (snd_tcmp (snd_var rfl) (snd_var rfl) rfl) (snd_cmm (i := 0) rfl rfl mm_bit_of (snd_acons (snd_var rfl) (snd_acons (snd_sub (snd_var rfl) (snd_int) (fun _ _ _ => by with_unfolding_all rfl)) (snd_anil) (fun _ => rfl)) (fun _ => rfl)) (fun _ => rfl) (fun _ => rfl)) (snd_cmm (i := 0) rfl rfl mm_bit_of (snd_acons (snd_bin (snd_var rfl) (snd_var rfl)) (snd_acons (snd_sub (snd_var rfl) (snd_int) (fun _ _ _ => by with_unfolding_all rfl)) (snd_anil) (fun _ => rfl)) (fun _ => rfl)) (fun _ => rfl) (fun _ => rfl)))))) (snd_nil)) (snd_seq (snd_sif (snd_tcmp (snd_var rfl) (snd_str) rfl) (snd_one (snd_ret (snd_if (snd_tcmp (snd_var rfl) (snd_cmk (i := 0) rfl rfl att_b mb_width (snd_acons (snd_sub (snd_var rfl) (snd_int) (fun _ _ _ => by with_unfolding_all rfl)) (snd_anil) (fun _ => rfl)) (fun _ => rfl) (fun _ => rfl) (fun _ => rfl)) rfl) (snd_cmm (i := 0) rfl rfl mm_bit_of (snd_acons (snd_var rfl) (snd_acons (snd_sub (snd_var rfl) (snd_int) (fun _ _ _ => by with_unfolding_all rfl)) (snd_anil) (fun _ => rfl)) (fun _ => rfl)) (fun _ => rfl) (fun _ => rfl)) (snd_attr rfl (fun _ => rfl))))) (snd_nil)) (snd_seq (snd_sif (snd_tcmp (snd_var rfl) (snd_str) rfl) (snd_one (snd_ret (snd_cmm (i := 0) rfl rfl mm_bit_of (snd_acons (snd_cbi (.tail _ (.head _)) bi_min (snd_acons (snd_var rfl) (snd_acons (snd_bin (snd_cmk (i := 0) rfl rfl att_b mb_width (snd_acons (snd_sub (snd_var rfl) (snd_int) (fun _ _ _ => by with_unfolding_all rfl)) (snd_anil) (fun _ => rfl)) (fun _ => rfl) (fun _ => rfl) (fun _ => rfl)) (snd_int)) (snd_anil) (fun _ => rfl)) (fun _ => rfl)) (fun _ => rfl)) (snd_acons (snd_sub (snd_var rfl) (snd_int) (fun _ _ _ => by with_unfolding_all rfl)) (snd_anil) (fun _ => rfl)) (fun _ => rfl)) (fun _ => rfl) (fun _ => rfl)))) (snd_nil)) (snd_one (snd_ret (snd_cmk (i := 0) rfl rfl att_b mb_bit (snd_acons (snd_var rfl) (snd_acons (snd_var rfl) (snd_anil) (fun _ => rfl)) (fun _ => rfl)) (fun _ => rfl) (fun _ => rfl) (fun _ => rfl))))))))))
  case e => kernel_rfl!
  case f => kernel_rfl!
  case g => kernel_rfl!
  case h => decide
noncomputable def sc_negated : Sc := ⟨[Str.ofString "self", Str.ofString "t"], [some .maker, none], []⟩
noncomputable def code_negated : CS := sret (cmk 453 (acons (cvar 1) (anil)))
theorem def_negated : Def sc_negated 805 2 code_negated := by
  refine ⟨fun w => ?_⟩
  refine' Def.mk1 ?a ?b ?c ?d ?e ?f ?g ?h
  case a => k_is
  case b => k_is
  case c => exact fun s => lenS fun v0 => lenS fun v1 => len0 (BindsTo.of_eq rfl)
  case d => exact snd_one (snd_ret (snd_cmk (i := 0) rfl rfl att_b mb_not_of (snd_acons (snd_var rfl) (snd_anil) (fun _ => rfl)) (fun _ => rfl) (fun _ => rfl) (fun _ => rfl)))
  case e => kernel_rfl!
  case f => kernel_rfl!
  case g => kernel_rfl!
  case h => decide
noncomputable def sc_law_read : Sc := ⟨[Str.ofString "bank", Str.ofString "leaves", Str.ofString "t", Str.ofString "i", Str.ofString "kind", Str.ofString "args", Str.ofString "inner", Str.ofString "seam"], [some .bank, none, none, none, none, none, none, none], [Str.ofString "_law_read", Str.ofString "_law_flipped", Str.ofString "min"]⟩
noncomputable def code_law_read : CS := sseq (spair 4 5 (cmb 327 (acons (cvar 2) (anil))) (cmb 334 (acons (cvar 2) (anil)))) (sseq (sif (tcmp .In (cvar 2) (cvar 1)) (sret (ctup (acons (cli 1 "list.index" (acons (cvar 2) (anil))) (acons (cvar 3) (acons (cbool false) (anil)))))) (snil)) (sseq (sif (tcmp .Eq (cvar 4) (cstr (Str.ofString "bvnum"))) (sret (ctup (acons (cint 2) (acons (cbin .Mod (cbin .FloorDiv (cmb 348 (acons (cvar 2) (anil))) (cbin .Pow (cint 2) (cvar 3))) (cint 2)) (acons (cbool false) (anil)))))) (snil)) (sseq (sif (tcmp .Eq (cvar 4) (cstr (Str.ofString "bvnot"))) (sret (csub (cfn 1060 (acons (clst (acons (cfn 1067 (acons (cvar 0) (acons (cvar 1) (acons (csub (cvar 5) (cint 0)) (acons (cvar 3) (anil)))))) (anil))) (anil))) (cint 0))) (snil)) (sseq (sif (tcmp .Eq (cvar 4) (cstr (Str.ofString "extract"))) (sret (cfn 1067 (acons (cvar 0) (acons (cvar 1) (acons (csub (cvar 5) (cint 0)) (acons (cbin .Add (cvar 3) (csub (cmb 348 (acons (cvar 2) (anil))) (cint 1))) (anil))))))) (snil)) (sseq (sif (tcmp .Eq (cvar 4) (cstr (Str.ofString "concat"))) (sseq (sasg 7 (cmb 355 (acons (csub (cvar 5) (cint 1)) (anil)))) (sret (cif (tcmp .Lt (cvar 3) (cvar 7)) (cfn 1067 (acons (cvar 0) (acons (cvar 1) (acons (csub (cvar 5) (cint 1)) (acons (cvar 3) (anil)))))) (cfn 1067 (acons (cvar 0) (acons (cvar 1) (acons (csub (cvar 5) (cint 0)) (acons (cbin .Sub (cvar 3) (cvar 7)) (anil))))))))) (snil)) (sseq (sasg 6 (cmb 355 (acons (csub (cvar 5) (cint 0)) (anil)))) (sseq (sif (tcmp .Eq (cvar 4) (cstr (Str.ofString "zero_extend"))) (sret (cif (tcmp .Lt (cvar 3) (cvar 6)) (cfn 1067 (acons (cvar 0) (acons (cvar 1) (acons (csub (cvar 5) (cint 0)) (acons (cvar 3) (anil)))))) (ctup (acons (cint 2) (acons (cint 0) (acons (cbool false) (anil))))))) (snil)) (sret (cfn 1067 (acons (cvar 0) (acons (cvar 1) (acons (csub (cvar 5) (cint 0)) (acons (cbi "min" (acons (cvar 3) (acons (cbin .Sub (cvar 6) (cint 1)) (anil)))) (anil))))))))))))))
theorem def_law_read : Def sc_law_read 1067 4 code_law_read := by
  refine ⟨fun w => ?_⟩
  refine' Def.mk1 ?a ?b ?c ?d ?e ?f ?g ?h
  case a => k_is
  case b => k_is
  case c => exact fun s => lenS fun v0 => lenS fun v1 => lenS fun v2 => lenS fun v3 => len0 (BindsTo.of_eq rfl)
  case d => exact snd_seq (snd_pair rfl rfl rfl rfl (snd_cmb (i := 0) rfl rfl mb_op (snd_acons (snd_var rfl) (snd_anil) (fun _ => rfl)) (fun _ => rfl) (fun _ => rfl)) (snd_cmb (i := 0) rfl rfl mb_args (snd_acons (snd_var rfl) (snd_anil) (fun _ => rfl)) (fun _ => rfl) (fun _ => rfl)) (fun _ => rfl) rfl rfl rfl rfl (by kernel_rfl!)) (snd_seq (snd_sif (snd_tcmp (snd_var rfl) (snd_var rfl) rfl) (snd_one (snd_ret (snd_ctup (snd_acons (snd_cli (i := 1) rfl PySem.F.slot_list_index PySem.F.type_list_index (snd_acons (snd_var rfl) (snd_anil) (fun _ => rfl)) (fun _ => rfl) (fun _ => rfl)) (snd_acons (snd_var rfl) (snd_acons (snd_bool) (snd_anil) (fun _ => rfl)) (fun _ => rfl)) (fun _ => rfl))))) (snd_nil)) (snd_seq (snd_sif (snd_tcmp (snd_var rfl) (snd_str) rfl) (snd_one (snd_ret (snd_ctup (snd_acons (snd_int) (snd_acons (snd_bin (snd_bin (snd_cmb (i := 0) rfl rfl mb_data (snd_acons (snd_var rfl) (snd_anil) (fun _ => rfl)) (fun _ => rfl) (fun _ => rfl)) (snd_bin (snd_int) (snd_var rfl))) (snd_int)) (snd_acons (snd_bool) (snd_anil) (fun _ => rfl)) (fun _ => rfl)) (fun _ => rfl))))) (snd_nil)) (snd_seq (snd_sif (snd_tcmp (snd_var rfl) (snd_str) rfl) (snd_one (snd_ret (snd_sub (snd_cfn (.tail _ (.head _)) fg_law_flipped (snd_acons (snd_clst (snd_acons (snd_cfn (.head _) fg_law_read (snd_acons (snd_var rfl) (snd_acons (snd_var rfl) (snd_acons (snd_sub (snd_var rfl) (snd_int) (fun _ _ _ => by with_unfolding_all rfl)) (snd_acons (snd_var rfl) (snd_anil) (fun _ => rfl)) (fun _ => rfl)) (fun _ => rfl)) (fun _ => rfl)) (fun _ => rfl)) (snd_anil) (fun _ => rfl))) (snd_anil) (fun _ => rfl)) (fun _ => rfl)) (snd_int) (fun _ _ _ => by with_unfolding_all rfl)))) (snd_nil)) (snd_seq (snd_sif (snd_tcmp (snd_var rfl) (snd_str) rfl) (snd_one (snd_ret (snd_cfn (.head _) fg_law_read (snd_acons (snd_var rfl) (snd_acons (snd_var rfl) (snd_acons (snd_sub (snd_var rfl) (snd_int) (fun _ _ _ => by with_unfolding_all rfl)) (snd_acons (snd_bin (snd_var rfl) (snd_sub (snd_cmb (i := 0) rfl rfl mb_data (snd_acons (snd_var rfl) (snd_anil) (fun _ => rfl)) (fun _ => rfl) (fun _ => rfl)) (snd_int) (fun _ _ _ => by with_unfolding_all rfl))) (snd_anil) (fun _ => rfl)) (fun _ => rfl)) (fun _ => rfl)) (fun _ => rfl)) (fun _ => rfl)))) (snd_nil)) (snd_seq (snd_sif (snd_tcmp (snd_var rfl) (snd_str) rfl) (snd_seq (snd_asg rfl rfl (snd_cmb (i := 0) rfl rfl mb_width (snd_acons (snd_sub (snd_var rfl) (snd_int) (fun _ _ _ => by with_unfolding_all rfl)) (snd_anil) (fun _ => rfl)) (fun _ => rfl) (fun _ => rfl)) (fun _ => rfl)) (snd_one (snd_ret (snd_if (snd_tcmp (snd_var rfl) (snd_var rfl) rfl) (snd_cfn (.head _) fg_law_read (snd_acons (snd_var rfl) (snd_acons (snd_var rfl) (snd_acons (snd_sub (snd_var rfl) (snd_int) (fun _ _ _ => by with_unfolding_all rfl)) (snd_acons (snd_var rfl) (snd_anil) (fun _ => rfl)) (fun _ => rfl)) (fun _ => rfl)) (fun _ => rfl)) (fun _ => rfl)) (snd_cfn (.head _) fg_law_read (snd_acons (snd_var rfl) (snd_acons (snd_var rfl) (snd_acons (snd_sub (snd_var rfl) (snd_int) (fun _ _ _ => by with_unfolding_all rfl)) (snd_acons (snd_bin (snd_var rfl) (snd_var rfl)) (snd_anil) (fun _ => rfl)) (fun _ => rfl)) (fun _ => rfl)) (fun _ => rfl)) (fun _ => rfl)))))) (snd_nil)) (snd_seq (snd_asg rfl rfl (snd_cmb (i := 0) rfl rfl mb_width (snd_acons (snd_sub (snd_var rfl) (snd_int) (fun _ _ _ => by with_unfolding_all rfl)) (snd_anil) (fun _ => rfl)) (fun _ => rfl) (fun _ => rfl)) (fun _ => rfl)) (snd_seq (snd_sif (snd_tcmp (snd_var rfl) (snd_str) rfl) (snd_one (snd_ret (snd_if (snd_tcmp (snd_var rfl) (snd_var rfl) rfl) (snd_cfn (.head _) fg_law_read (snd_acons (snd_var rfl) (snd_acons (snd_var rfl) (snd_acons (snd_sub (snd_var rfl) (snd_int) (fun _ _ _ => by with_unfolding_all rfl)) (snd_acons (snd_var rfl) (snd_anil) (fun _ => rfl)) (fun _ => rfl)) (fun _ => rfl)) (fun _ => rfl)) (fun _ => rfl)) (snd_ctup (snd_acons (snd_int) (snd_acons (snd_int) (snd_acons (snd_bool) (snd_anil) (fun _ => rfl)) (fun _ => rfl)) (fun _ => rfl)))))) (snd_nil)) (snd_one (snd_ret (snd_cfn (.head _) fg_law_read (snd_acons (snd_var rfl) (snd_acons (snd_var rfl) (snd_acons (snd_sub (snd_var rfl) (snd_int) (fun _ _ _ => by with_unfolding_all rfl)) (snd_acons (snd_cbi (.tail _ (.tail _ (.head _))) bi_min (snd_acons (snd_var rfl) (snd_acons (snd_bin (snd_var rfl) (snd_int)) (snd_anil) (fun _ => rfl)) (fun _ => rfl)) (fun _ => rfl)) (snd_anil) (fun _ => rfl)) (fun _ => rfl)) (fun _ => rfl)) (fun _ => rfl)) (fun _ => rfl)))))))))))
  case e => kernel_rfl!
  case f => kernel_rfl!
  case g => kernel_rfl!
  case h => decide
end
section
theorem bi_len (w : World) : FnB w (Str.ofString "len") "len" := ⟨by k_is, by rfl, by decide⟩
noncomputable def sc_make : Sc := ⟨[Str.ofString "self", Str.ofString "op", Str.ofString "args", Str.ofString "sort", Str.ofString "data", Str.ofString "key", Str.ofString "found"], [none, none, none, none, none, none, none], [Str.ofString "len"]⟩
noncomputable def code_make : CS := sseq (sasg 5 (ctup (acons (cvar 1) (acons (cvar 2) (acons (cvar 3) (acons (cvar 4) (anil))))))) (sseq (sasg 6 (cme (cattr 0 (Str.ofString "numbers")) (Str.ofString "get") "dict.get" (acons (cvar 5) (acons (cint 0) (anil))))) (sseq (sif (tcmp .Eq (cvar 6) (cint 0)) (sseq (sasg 6 (cbi "len" (acons (cattr 0 (Str.ofString "term_ops")) (anil)))) (sseq (sexp (cme (cattr 0 (Str.ofString "term_ops")) (Str.ofString "append") "list.append" (acons (cvar 1) (anil)))) (sseq (sexp (cme (cattr 0 (Str.ofString "term_args")) (Str.ofString "append") "list.append" (acons (cvar 2) (anil)))) (sseq (sexp (cme (cattr 0 (Str.ofString "term_sorts")) (Str.ofString "append") "list.append" (acons (cvar 3) (anil)))) (sseq (sexp (cme (cattr 0 (Str.ofString "term_datas")) (Str.ofString "append") "list.append" (acons (cvar 4) (anil)))) (ssub (cattr 0 (Str.ofString "numbers")) (cvar 5) (cvar 6))))))) (snil)) (sret (cvar 6))))
theorem def_make : Def sc_make 369 5 code_make := by
  refine ⟨fun w => ?_⟩
  refine' Def.mk1 ?a ?b ?c ?d ?e ?f ?g ?h
  case a => k_is
  case b => k_is
  case c => exact fun s => lenS fun v0 => lenS fun v1 => lenS fun v2 => lenS fun v3 => lenS fun v4 => len0 (BindsTo.of_eq rfl)
  case d => exact snd_seq (snd_asg rfl rfl (snd_ctup (snd_acons (snd_var rfl) (snd_acons (snd_var rfl) (snd_acons (snd_var rfl) (snd_acons (snd_var rfl) (snd_anil) (fun _ => rfl)) (fun _ => rfl)) (fun _ => rfl)) (fun _ => rfl))) (fun _ => rfl)) (snd_seq (snd_asg rfl rfl (snd_cme (snd_attr rfl (fun _ => rfl)) (snd_acons (snd_var rfl) (snd_acons (snd_int) (snd_anil) (fun _ => rfl)) (fun _ => rfl)) (fun _ => rfl) (fun _ => rfl)) (fun _ => rfl)) (snd_seq (snd_sif (snd_tcmp (snd_var rfl) (snd_int) rfl) (snd_seq (snd_asg rfl rfl (snd_cbi (.head _) bi_len (snd_acons (snd_attr rfl (fun _ => rfl)) (snd_anil) (fun _ => rfl)) (fun _ => rfl)) (fun _ => rfl)) (snd_seq (snd_exp (snd_cme (snd_attr rfl (fun _ => rfl)) (snd_acons (snd_var rfl) (snd_anil) (fun _ => rfl)) (fun _ => rfl) (fun _ => rfl)) (fun _ => rfl)) (snd_seq (snd_exp (snd_cme (snd_attr rfl (fun _ => rfl)) (snd_acons (snd_var rfl) (snd_anil) (fun _ => rfl)) (fun _ => rfl) (fun _ => rfl)) (fun _ => rfl)) (snd_seq (snd_exp (snd_cme (snd_attr rfl (fun _ => rfl)) (snd_acons (snd_var rfl) (snd_anil) (fun _ => rfl)) (fun _ => rfl) (fun _ => rfl)) (fun _ => rfl)) (snd_seq (snd_exp (snd_cme (snd_attr rfl (fun _ => rfl)) (snd_acons (snd_var rfl) (snd_anil) (fun _ => rfl)) (fun _ => rfl) (fun _ => rfl)) (fun _ => rfl)) (snd_one (snd_ssub (snd_attr rfl (fun _ => rfl)) (snd_var rfl) (snd_var rfl) (fun _ => rfl)))))))) (snd_nil)) (snd_one (snd_ret (snd_var rfl)))))
  case e => kernel_rfl!
  case f => kernel_rfl!
  case g => kernel_rfl!
  case h => decide
noncomputable def sc_init : Sc := ⟨[Str.ofString "self"], [none], [Str.ofString "BOOL"]⟩
noncomputable def code_init : CS := sseq (sset 0 (Str.ofString "sort_names") (clst (acons (cstr (Str.ofString "Bool")) (acons (cstr (Str.ofString "Int")) (acons (cstr (Str.ofString "Real")) (anil)))))) (sseq (sset 0 (Str.ofString "sort_widths") (clst (acons (cint 0) (acons (cint 0) (acons (cint 0) (anil)))))) (sseq (sset 0 (Str.ofString "fun_names") (clst (anil))) (sseq (sset 0 (Str.ofString "fun_args") (clst (anil))) (sseq (sset 0 (Str.ofString "fun_results") (clst (anil))) (sseq (sset 0 (Str.ofString "fresh_count") (cint 0)) (sseq (sset 0 (Str.ofString "term_ops") (clst (acons (cstr (Str.ofString "")) (anil)))) (sseq (sset 0 (Str.ofString "term_args") (clst (acons (ctup (anil)) (anil)))) (sseq (sset 0 (Str.ofString "term_sorts") (clst (acons (cgi 0) (anil)))) (sseq (sset 0 (Str.ofString "term_datas") (clst (acons (cint 0) (anil)))) (sseq (sset 0 (Str.ofString "numbers") (cdct)) (sseq (sset 0 (Str.ofString "true_number") (cmu (cvar 0) (Str.ofString "make") 369 (acons (cstr (Str.ofString "true")) (acons (ctup (anil)) (acons (cgi 0) (acons (cint 0) (anil))))))) (sset 0 (Str.ofString "false_number") (cmu (cvar 0) (Str.ofString "make") 369 (acons (cstr (Str.ofString "false")) (acons (ctup (anil)) (acons (cgi 0) (acons (cint 0) (anil))))))))))))))))))
theorem def_init : Def sc_init 236 1 code_init := by
  refine ⟨fun w => ?_⟩
  refine' Def.mk1 ?a ?b ?c ?d ?e ?f ?g ?h
  case a => k_is
  case b => k_is
  case c => exact fun s => lenS fun v0 => len0 (BindsTo.of_eq rfl)
  case d => exact snd_seq (snd_sset rfl (snd_clst (snd_acons (snd_str) (snd_acons (snd_str) (snd_acons (snd_str) (snd_anil) (fun _ => rfl)) (fun _ => rfl)) (fun _ => rfl))) (fun _ => rfl)) (snd_seq (snd_sset rfl (snd_clst (snd_acons (snd_int) (snd_acons (snd_int) (snd_acons (snd_int) (snd_anil) (fun _ => rfl)) (fun _ => rfl)) (fun _ => rfl))) (fun _ => rfl)) (snd_seq (snd_sset rfl (snd_clst (snd_anil)) (fun _ => rfl)) (snd_seq (snd_sset rfl (snd_clst (snd_anil)) (fun _ => rfl)) (snd_seq (snd_sset rfl (snd_clst (snd_anil)) (fun _ => rfl)) (snd_seq (snd_sset rfl (snd_int) (fun _ => rfl)) (snd_seq (snd_sset rfl (snd_clst (snd_acons (snd_str) (snd_anil) (fun _ => rfl))) (fun _ => rfl)) (snd_seq (snd_sset rfl (snd_clst (snd_acons (snd_ctup (snd_anil)) (snd_anil) (fun _ => rfl))) (fun _ => rfl)) (snd_seq (snd_sset rfl (snd_clst (snd_acons (snd_cgi (.head _) gi_BOOL) (snd_anil) (fun _ => rfl))) (fun _ => rfl)) (snd_seq (snd_sset rfl (snd_clst (snd_acons (snd_int) (snd_anil) (fun _ => rfl))) (fun _ => rfl)) (snd_seq (snd_sset rfl (snd_cdct) (fun _ => rfl)) (snd_seq (snd_sset rfl (snd_cmu (snd_var rfl) (fun w => by k_is) (snd_acons (snd_str) (snd_acons (snd_ctup (snd_anil)) (snd_acons (snd_cgi (.head _) gi_BOOL) (snd_acons (snd_int) (snd_anil) (fun _ => rfl)) (fun _ => rfl)) (fun _ => rfl)) (fun _ => rfl)) (fun _ => rfl) (fun _ => rfl)) (fun _ => rfl)) (snd_one (snd_sset rfl (snd_cmu (snd_var rfl) (fun w => by k_is) (snd_acons (snd_str) (snd_acons (snd_ctup (snd_anil)) (snd_acons (snd_cgi (.head _) gi_BOOL) (snd_acons (snd_int) (snd_anil) (fun _ => rfl)) (fun _ => rfl)) (fun _ => rfl)) (fun _ => rfl)) (fun _ => rfl) (fun _ => rfl)) (fun _ => rfl))))))))))))))
  case e => kernel_rfl!
  case f => kernel_rfl!
  case g => kernel_rfl!
  case h => decide
end
section
noncomputable def M12 (A : Ba) (D : Obj) (c : Bc) : Led :=
  [(A.b, instObj 748 A.d), (A.d, D), (A.sn, listOf c.sn.toArray (c.e 0)), (A.sw, listOf c.sw.toArray (c.e 1)), (A.fn, listOf c.fn.toArray (c.e 2)), (A.fa, listOf c.fa.toArray (c.e 3)),
   (A.fr, listOf c.fr.toArray (c.e 4)), (A.to, listOf c.to.toArray (c.e 5)), (A.ta, listOf c.ta.toArray (c.e 6)), (A.ts, listOf c.ts.toArray (c.e 7)), (A.td, listOf c.td.toArray (c.e 8)), (A.nu, c.nu)]
noncomputable def Ba.ad12 (A : Ba) : List Addr := [A.b, A.d, A.sn, A.sw, A.fn, A.fa, A.fr, A.to, A.ta, A.ts, A.td, A.nu]
section
variable {S : Sc} {X : Cx} {w : World} {A : Ba} {c : Bc} {st Y l : Led} {tk D : Nat}
theorem own_split {l Y st : Led} {p : Addr × Obj} (i : Nat) {h₀ h : Heap} {L : Addr} (e : l = l.take i ++ p :: l.drop (i + 1)) (N : News h₀ L h ((l ++ Y) ++ st)) (nd : (l.map (·.1)).Nodup) (off : ∀ q ∈ Y ++ st, q.1 ∉ l.map (·.1)) :
    News h₀ L h (l.take i ++ p :: (l.drop (i + 1) ++ (Y ++ st))) ∧ (∀ q ∈ l.take i, q.1 ≠ p.1) ∧ ∀ q ∈ l.drop (i + 1) ++ (Y ++ st), q.1 ≠ p.1 := by
  have hm : p.1 ∈ l.map (·.1) := List.mem_map_of_mem (by rw [e]; exact List.mem_append_right _ (.head _))
  obtain ⟨q1, q2⟩ := ne_of_nd (d := p.1) (o := p.2) (pre := l.take i) (post := l.drop (i + 1)) (e ▸ nd)
  refine ⟨?_, q1, fun q hq => (List.mem_append.mp hq).elim (q2 q) fun hq => fun h => off q hq (h ▸ hm)⟩
  have e2 : l.take i ++ p :: (l.drop (i + 1) ++ (Y ++ st)) = (l ++ Y) ++ st := by
    conv => rhs; rw [e]
    simp only [List.append_assoc, List.cons_append]
  rw [e2]; exact N
theorem own_join {l l' Y st : Led} {p : Addr × Obj} (i : Nat) {h₀ h : Heap} {L : Addr} (e : l' = l.take i ++ p :: l.drop (i + 1)) (N : News h₀ L h (l.take i ++ p :: (l.drop (i + 1) ++ (Y ++ st)))) : News h₀ L h ((l' ++ Y) ++ st) := by
  have e2 : (l' ++ Y) ++ st = l.take i ++ p :: (l.drop (i + 1) ++ (Y ++ st)) := by
    rw [e]; simp only [List.append_assoc, List.cons_append]
  rw [e2]; exact N
theorem app_at {l' : Led} {d : Addr} {its : List Value} {n : Nat} {x : Value} {k : KO Value} (i : Nat) (e : l = l.take i ++ (d, listOf its.toArray n) :: l.drop (i + 1)) (e' : l' = l.take i ++ (d, listOf (its ++ [x]).toArray (n + 1)) :: l.drop (i + 1)) (nd : (l.map (·.1)).Nodup) (off : ∀ p ∈ Y ++ st, p.1 ∉ l.map (·.1)) (hz : its.length ≤ 2 ^ 20)
    (ret : k .none ⟨c, l' ++ Y⟩ st tk) : Stp ⟨S, X, w, A, none, false⟩ ⟨c, l ++ Y⟩ st tk (call (.builtin "list.append") [.ref d, x]) k :=
  ⟨fun h m q F N r => by
    obtain ⟨N1, q1, q2⟩ := own_split i e N.1 nd off
    refine append_at (s := Z.sh ⟨S, X, w, A, none, false⟩ h tk) (hsz := by simpa using Nat.le_trans hz (by decide)) (N1 _ (List.mem_append_right _ (.head _))).1 fun h' hs ho' => ?_
    rw [List.push_toArray] at ho'
    have hz := N1 _ (List.mem_append_right _ (.head _))
    exact r _ h' ⟨c, l' ++ Y⟩ _ _ (F.change hs hz.2.1 hz.2.2) ⟨own_join i e' (news_set N1 q1 q2 hs ho'), trivial⟩ ret⟩
theorem getL_none {nm : Str} {es : List DictEntry} (h : getL nm es = some none) (hsh : Int) (key v : Value) (n : Nat) : putL nm hsh key v es = es ++ [⟨hsh, key, v⟩] ∧ putN nm es n = n + 1 := by
  have hf : es.any (·.key.isStr nm) = false := by
    unfold getL at h
    cases hq : es.find? (·.key.isStr nm) with
    | some e => rw [hq] at h; cases h
    | none => simpa using hq
  refine ⟨?_, by unfold putN; rw [hf]; rfl⟩
  clear h
  induction es with
  | nil => rfl
  | cons e es ih =>
    rw [List.any_cons, Bool.or_eq_false_iff] at hf
    unfold putL
    rw [hf.1, ih hf.2]; rfl
theorem set_at {l' : Tok → Led} {x d C : Addr} {es : List DictEntry} {n : Nat} {nm : Str} {v : Value} {k : KO Unit} (i : Nat) (s : Std ⟨S, X, w, A, none, false⟩ D) (g : AttS w C nm) (hx : (x, instObj C d) ∈ l)
    (e : l = l.take i ++ (d, dictOf es n) :: l.drop (i + 1)) (e' : ∀ t, l' t = l.take i ++ (d, dictOf (es ++ [⟨PyData.keyHash w.params nm, .str nm t, v⟩]) (n + 1)) :: l.drop (i + 1)) (nd : (l.map (·.1)).Nodup) (off : ∀ p ∈ Y ++ st, p.1 ∉ l.map (·.1))
    (hl : getL nm es = some none) (hz : es.length ≤ 900) (ret : ∀ t tk, k () ⟨c, l' t ++ Y⟩ st tk) : Stp ⟨S, X, w, A, none, false⟩ ⟨c, l ++ Y⟩ st tk (setAttr (.ref x) nm v) k :=
  ⟨fun h m q F N r => by
    obtain ⟨N1, q1, q2⟩ := own_split i e N.1 nd off
    obtain ⟨p1, p2⟩ := getL_none hl (PyData.keyHash w.params nm) (.str nm (tk + 1)) v n
    refine set_plain (s := Z.sh ⟨S, X, w, A, none, false⟩ h tk) (s.K.keeps F.keep) (InstAt.of_news N.1 (List.mem_append_left _ (List.mem_append_left _ hx)) (List.mem_append_left _ (List.mem_append_left _ (by rw [e]; exact List.mem_append_right _ (.head _))))) g.h1 ?_
    refine osa_dict (s := { (Z.sh ⟨S, X, w, A, none, false⟩ h tk) with toks := tk + 1 }) F N1 (s.K.keeps F.keep) (InstAt.of_news N.1 (List.mem_append_left _ (List.mem_append_left _ hx)) (List.mem_append_left _ (List.mem_append_left _ (by rw [e]; exact List.mem_append_right _ (.head _))))) rfl g.h2 g.h3 g.h4 (by show (getL nm es).isSome = true; rw [hl]; rfl) q1 q2 (by rw [putName_dict, p1, p2]) rfl (by rw [List.length_append, List.length_singleton]; omega) fun h' F' N' => ?_
    exact r _ h' ⟨c, l' (tk + 1) ++ Y⟩ _ _ F' ⟨own_join i (e' (tk + 1)) N', trivial⟩ (ret _ _)⟩
theorem nset_at {l' : Obj → Led} {d a : Addr} {o : Obj} {xs : List (NK × Addr × Value)} {kk : NK} {v : Value} {k : KO Unit} (i : Nat) (hu : (Z.ar ⟨S, X, w, A, none, false⟩).units + 8 < cLine)
    (e : l = l.take i ++ (d, o) :: l.drop (i + 1)) (e' : ∀ o', l' o' = l.take i ++ (d, o') :: l.drop (i + 1)) (nd : (l.map (·.1)).Nodup) (off : ∀ p ∈ Y ++ st, p.1 ∉ l.map (·.1))
    (NO : NuIs w o xs) (ks : ∀ x ∈ xs, DatIn st (.ref x.2.1) x.1.dd ∧ x.1.ok) (ndx : (xs.map (·.1)).Nodup) (hk : DatIn st (.ref a) kk.dd) (ok : kk.ok) (hv : atKey xs kk = none) (hz : xs.length ≤ 2 ^ 20)
    (ret : ∀ o' tk, NuIs w o' (xs ++ [(kk, a, v)]) → k () ⟨c, l' o' ++ Y⟩ st tk) : Stp ⟨S, X, w, A, none, false⟩ ⟨c, l ++ Y⟩ st tk (setItem (.ref d) (.ref a) v) k :=
  ⟨fun h m q F N r => by
    obtain ⟨N1, q1, q2⟩ := own_split i e N.1 nd off
    have hs : ∀ p ∈ st, p ∈ l.take i ++ (d, o) :: (l.drop (i + 1) ++ (Y ++ st)) := fun p hp => List.mem_append_right _ (.tail _ (List.mem_append_right _ (List.mem_append_right _ hp)))
    have hm : (d, o) ∈ l.take i ++ (d, o) :: (l.drop (i + 1) ++ (Y ++ st)) := List.mem_append_right _ (.head _)
    have hd := nu_at (s := Z.sh ⟨S, X, w, A, none, false⟩ h tk) N1 hm NO (fun x hx => ⟨DatIn.mono hs (ks x hx).1, (ks x hx).2⟩) ndx
    refine wpAny_setItem_heap (knd := nkKind pw w) (hsz := Nat.le_trans hz (by decide)) ?_ (isNK_of N1 (DatIn.mono hs hk) ok) hd fun h' hd' hs' => ?_
    · show (Z.ar ⟨S, X, w, A, none, false⟩).units + 1 + 6 < cLine; omega
    · obtain ⟨o', es', ep', ho', ex', hdat', he', _, _⟩ := hd'
      rw [storedH_new hv] at he'
      exact r _ h' ⟨c, l' o' ++ Y⟩ _ _ (F.change hs' (N1 _ hm).2.1 (N1 _ hm).2.2) ⟨own_join i (e' o') (news_set N1 q1 q2 hs' ho'), trivial⟩ (ret o' _ ⟨ex', es', ep', hdat', he'⟩)⟩
theorem nget_at {d a : Addr} {o : Obj} {xs : List (NK × Addr × Value)} {kk : NK} {v dflt : Value} {k : KO Value} (hu : (Z.ar ⟨S, X, w, A, none, false⟩).units + 8 < cLine) (hm : (d, o) ∈ l ++ Y)
    (NO : NuIs w o xs) (ks : ∀ x ∈ xs, DatIn st (.ref x.2.1) x.1.dd ∧ x.1.ok) (ndx : (xs.map (·.1)).Nodup) (lo : (d == sysModules) = false) (hk : DatIn st (.ref a) kk.dd) (ok : kk.ok) (hv : ((atKey xs kk).map (·.2)).getD dflt = v)
    (ret : ∀ tk, k v ⟨c, l ++ Y⟩ st tk) : Stp ⟨S, X, w, A, none, false⟩ ⟨c, l ++ Y⟩ st tk (call (.builtin "dict.get") [.ref d, .ref a, dflt]) k :=
  ⟨fun h m q F N r => by
    have hs : ∀ p ∈ st, p ∈ (l ++ Y) ++ st := fun p hp => List.mem_append_right _ hp
    exact nu_get (s := Z.sh ⟨S, X, w, A, none, false⟩ h tk) N.1 (List.mem_append_left _ hm) NO (fun x hx => ⟨DatIn.mono hs (ks x hx).1, (ks x hx).2⟩) ndx lo (DatIn.mono hs hk) ok hu hv fun tk' => r _ h _ _ _ F N (ret tk')⟩
theorem units8 (hu : X.un + 13 + 16 * D < cLine) : (Z.ar ⟨S, X, w, A, none, false⟩).units + 8 < cLine := by
  show (ktrTop X.dp X.un X.gd X.cn X.cs X.L X.a X.ccd X.cl X.outer).units + 8 < cLine
  ktr_units
end
end
section
theorem ag_nu (w : World) : AttG w 748 (Str.ofString "numbers") := ⟨by k_is, by k_is, _, by k_is, by k_is⟩
theorem ag_to (w : World) : AttG w 748 (Str.ofString "term_ops") := ⟨by k_is, by k_is, _, by k_is, by k_is⟩
theorem ag_ta (w : World) : AttG w 748 (Str.ofString "term_args") := ⟨by k_is, by k_is, _, by k_is, by k_is⟩
theorem ag_ts (w : World) : AttG w 748 (Str.ofString "term_sorts") := ⟨by k_is, by k_is, _, by k_is, by k_is⟩
theorem ag_td (w : World) : AttG w 748 (Str.ofString "term_datas") := ⟨by k_is, by k_is, _, by k_is, by k_is⟩
structure GetM (es : List DictEntry) (A : Ba) : Prop where
  nu : getL (Str.ofString "numbers") es = some (some (.ref A.nu))
  to : getL (Str.ofString "term_ops") es = some (some (.ref A.to))
  ta : getL (Str.ofString "term_args") es = some (some (.ref A.ta))
  ts : getL (Str.ofString "term_sorts") es = some (some (.ref A.ts))
  td : getL (Str.ofString "term_datas") es = some (some (.ref A.td))
section
variable {S : Sc} {X : Cx} {w : World} {B A : Ba} {c0 c : Bc} {st Y : Led} {tk tk1 tk2 D n : Nat} {es : List DictEntry} {xs : List (NK × Addr × Value)} {kk : NK} {va vd : Value} {κ : KO Value}
theorem m_at (i : Nat) {p : Addr × Obj} (h : (M12 A (dictOf es n) c)[i]? = some p) : p ∈ (M12 A (dictOf es n) c ++ Y) ++ st := List.mem_append_left _ (List.mem_append_left _ (List.mem_of_getElem? h))
theorem g_v (i : Nat) {l : Addr} {nm : Str} {tk : Nat} (s : Std ⟨S, X, w, B, none, false⟩ D) (g : AttG w 748 nm) (hl : getL nm es = some (some (.ref l))) (ret : κ (.ref l) ⟨c0, M12 A (dictOf es n) c ++ Y⟩ st (tk + 1)) :
    Stp ⟨S, X, w, B, none, false⟩ ⟨c0, M12 A (dictOf es n) c ++ Y⟩ st tk (getAttr (.ref A.b) nm true) κ :=
  get_v s g (m_at 0 rfl) (m_at 1 rfl) hl rfl ret
structure MkP (w : World) (A : Ba) (nu : Obj) (Y st : Led) (xs : List (NK × Addr × Value)) : Prop where
  nd : A.ad12.Nodup
  off : ∀ p ∈ Y ++ st, p.1 ∉ A.ad12
  is : NuIs w nu xs
  ks : ∀ x ∈ xs, DatIn st (.ref x.2.1) x.1.dd ∧ x.1.ok
  ndx : (xs.map (·.1)).Nodup
  lo : (A.nu == sysModules) = false
  lx : xs.length ≤ 2 ^ 20
theorem MkP.cons {b : Addr} {o D nu : Obj} (P : MkP w A nu Y st xs) (h : ∀ p ∈ (M12 A D c ++ Y) ++ st, p.1 < b) : MkP w A nu Y ((b, o) :: st) xs :=
  ⟨P.nd, fun p hp => (List.mem_append.mp hp).elim (fun hp => P.off p (List.mem_append_left _ hp)) fun hp => (List.mem_cons.mp hp).elim (fun e => by
    subst e
    intro hm
    obtain ⟨q, hq, e⟩ := List.mem_map.mp (show b ∈ (M12 A D c).map (·.1) from hm)
    have := h q (List.mem_append_left _ (List.mem_append_left _ hq))
    rw [e] at this
    exact Nat.lt_irrefl _ this) fun hp => P.off p (List.mem_append_right _ hp), P.is, fun x hx => ⟨DatIn.mono (fun _ h => .tail _ h) (P.ks x hx).1, (P.ks x hx).2⟩, P.ndx, P.lo, P.lx⟩
theorem key_dat {b : Addr} {t1 t2 : Tok} (ha : DatIn st va (.tuple (kk.args.map .int))) (hv : DatIn st vd (datD kk.dat)) : DatIn ((b, tupOf [.str kk.op t1, va, .int kk.sort t2, vd]) :: st) (.ref b) kk.dd :=
  .tuple (.head _) (.cons (.str _ _) (.cons (DatIn.mono (fun _ h => .tail _ h) ha) (.cons (.int _ _) (.cons (DatIn.mono (fun _ h => .tail _ h) hv) .nil))))
theorem mk_old {v : Int} {t : Tok} (s : Std ⟨S, X, w, B, none, false⟩ 1) (g : GetM es A) (P : MkP w A c.nu Y st xs) (ok : kk.ok) (hv : (atKey xs kk).map (·.2) = some (.int v t)) (h0 : (v == 0) = false) (ha : DatIn st va (.tuple (kk.args.map .int))) (hd : DatIn st vd (datD kk.dat))
    (ret : ∀ b tk', (∀ p ∈ (M12 A (dictOf es n) c ++ Y) ++ st, p.1 < b) → κ (.int v t) ⟨c0, M12 A (dictOf es n) c ++ Y⟩ ((b, tupOf [.str kk.op tk1, va, .int kk.sort tk2, vd]) :: st) tk') :
    Stp ⟨S, X, w, B, none, false⟩ ⟨c0, M12 A (dictOf es n) c ++ Y⟩ st tk (call (.ref 369) [.ref A.b, .str kk.op tk1, va, .int kk.sort tk2, vd]) κ := by
  refine def_make.enter2 s (D' := 0) (by lia) rfl trivial rfl (by decide) fun Y2 s2 hu fin => ?_
  refine (?_ : Tp _ _ _ _ _ _)
  refine ⟨Nat.le_of_ble_eq_true rfl, fun b hb => ?_⟩
  have P2 := P.cons (o := tupOf [.str kk.op tk1, va, .int kk.sort tk2, vd]) hb
  refine g_v 11 s2 (ag_nu w) g.nu (gmeth_v (m_at 11 rfl) P.is ?_)
  refine (nget_at (units8 hu) (List.mem_append_left _ (List.mem_of_getElem? (i := 11) rfl)) P2.is P2.ks P.ndx P.lo (key_dat ha hd) ok (by rw [hv]) fun tk' => ?_)
  refine Cnd.neg h0 ?_
  exact fin _ _ _ _ (ret b _ hb)
theorem mk_new (s : Std ⟨S, X, w, B, none, false⟩ 1) (g : GetM es A) (P : MkP w A c.nu Y st xs) (ok : kk.ok) (hv : atKey xs kk = none) (ha : DatIn st va (.tuple (kk.args.map .int))) (hd : DatIn st vd (datD kk.dat))
    (e1 : c.to.length ≤ 2 ^ 20) (e2 : c.ta.length ≤ 2 ^ 20) (e3 : c.ts.length ≤ 2 ^ 20) (e4 : c.td.length ≤ 2 ^ 20)
    (ret : ∀ b t o' tk', (∀ p ∈ (M12 A (dictOf es n) c ++ Y) ++ st, p.1 < b) → NuIs w o' (xs ++ [(kk, b, .int (c.to.length : Nat) t)]) →
      κ (.int (c.to.length : Nat) t) ⟨c0, M12 A (dictOf es n) { c with to := c.to ++ [.str kk.op tk1], ta := c.ta ++ [va], ts := c.ts ++ [.int kk.sort tk2], td := c.td ++ [vd], nu := o', e := bump (bump (bump (bump c.e 5) 6) 7) 8 } ++ Y⟩ ((b, tupOf [.str kk.op tk1, va, .int kk.sort tk2, vd]) :: st) tk') :
    Stp ⟨S, X, w, B, none, false⟩ ⟨c0, M12 A (dictOf es n) c ++ Y⟩ st tk (call (.ref 369) [.ref A.b, .str kk.op tk1, va, .int kk.sort tk2, vd]) κ := by
  refine def_make.enter2 s (D' := 0) (by lia) rfl trivial rfl (by decide) fun Y2 s2 hu fin => ?_
  refine (?_ : Tp _ _ _ _ _ _)
  refine ⟨Nat.le_of_ble_eq_true rfl, fun b hb => ?_⟩
  have P2 := P.cons (o := tupOf [.str kk.op tk1, va, .int kk.sort tk2, vd]) hb
  refine g_v 11 s2 (ag_nu w) g.nu (gmeth_v (m_at 11 rfl) P.is ?_)
  refine (nget_at (units8 hu) (List.mem_append_left _ (List.mem_of_getElem? (i := 11) rfl)) P2.is P2.ks P.ndx P.lo (key_dat ha hd) ok (by rw [hv]) fun tk' => ?_)
  refine Cnd.pos rfl ?_
  refine g_v 7 s2 (ag_to w) g.to (len_v (m_at 7 rfl) e1 fun t tk3 => ?_)
  refine g_v 7 s2 (ag_to w) g.to (lmeth_v PySem.F.slot_list_append PySem.F.type_list_append (m_at 7 rfl) ?_)
  refine app_at (l' := M12 A (dictOf es n) { c with to := c.to ++ [.str kk.op tk1], e := bump c.e 5 }) 7 rfl rfl P.nd P2.off e1 ?_
  refine g_v 8 s2 (ag_ta w) g.ta (lmeth_v PySem.F.slot_list_append PySem.F.type_list_append (m_at 8 rfl) ?_)
  refine app_at (l' := M12 A (dictOf es n) { c with to := c.to ++ [.str kk.op tk1], ta := c.ta ++ [va], e := bump (bump c.e 5) 6 }) 8 rfl rfl P.nd P2.off e2 ?_
  refine g_v 9 s2 (ag_ts w) g.ts (lmeth_v PySem.F.slot_list_append PySem.F.type_list_append (m_at 9 rfl) ?_)
  refine app_at (l' := M12 A (dictOf es n) { c with to := c.to ++ [.str kk.op tk1], ta := c.ta ++ [va], ts := c.ts ++ [.int kk.sort tk2], e := bump (bump (bump c.e 5) 6) 7 }) 9 rfl rfl P.nd P2.off e3 ?_
  refine g_v 10 s2 (ag_td w) g.td (lmeth_v PySem.F.slot_list_append PySem.F.type_list_append (m_at 10 rfl) ?_)
  refine app_at (l' := M12 A (dictOf es n) { c with to := c.to ++ [.str kk.op tk1], ta := c.ta ++ [va], ts := c.ts ++ [.int kk.sort tk2], td := c.td ++ [vd], e := bump (bump (bump (bump c.e 5) 6) 7) 8 }) 10 rfl rfl P.nd P2.off e4 ?_
  refine g_v 11 s2 (ag_nu w) g.nu ?_
  refine nset_at (l' := fun o' => M12 A (dictOf es n) { c with to := c.to ++ [.str kk.op tk1], ta := c.ta ++ [va], ts := c.ts ++ [.int kk.sort tk2], td := c.td ++ [vd], nu := o', e := bump (bump (bump (bump c.e 5) 6) 7) 8 }) 11 (units8 hu) rfl (fun _ => rfl) P.nd P2.off P2.is P2.ks P.ndx (key_dat ha hd) ok hv P.lx fun o' tk4 NO => ?_
  exact fin _ _ _ _ (ret b t o' _ hb NO)
end
end
section
section
variable {S : Sc} {Y : Cx} {w : World} {A : Ba} {ko : Option Mk} {c : Bc} {X st : Led} {σ : St} {tk0 D : Nat} {τ : T} {i : Int} {va vd : Value} {tk tk1 tk2 : Tok} {κ : KO Value} {xs : List (NK × Addr × Value)}
theorem std_off (s : Std ⟨S, Y, w, A, ko, true⟩ D) : Std ⟨S, Y, w, A, none, false⟩ D := ⟨s.B, s.K, s.T, s.hk, s.hd, s.hu⟩
theorem get_mk (w : World) (A : Ba) : GetM (bankEs w A) A := ⟨by k_get, by k_get, by k_get, by k_get, by k_get⟩
theorem mkp_of (R : Rep w A c X st σ) (NU : NuRep w c.nu st σ xs) : MkP w A c.nu ((A.bv, c.bv) :: X) st xs where
  nd := (List.nodup_append.mp (show (A.ad12 ++ [A.bv]).Nodup from R.nd)).1
  off p hp := by
    rcases List.mem_cons.mp hp with rfl | hp
    · exact fun hm => (List.nodup_append.mp (show (A.ad12 ++ [A.bv]).Nodup from R.nd)).2.2 _ hm _ (.head _) rfl
    · exact fun hm => R.off p hp (List.mem_append_left [A.bv] hm)
  is := NU.is
  ks := NU.ks fun _ h => h
  ndx := NU.nd R.ok
  lo := R.lo1
  lx := Nat.le_trans NU.len R.room
theorem M_12 (w : World) (A : Ba) (c : Bc) (X : Led) : M w A c ++ X = M12 A (dictOf (bankEs w A) 14) c ++ ((A.bv, c.bv) :: X) := rfl
theorem Rep.key (R : Rep w A c X st σ) {b : Addr} {o : Obj} (h : ∀ p ∈ (M12 A (dictOf (bankEs w A) 14) c ++ ((A.bv, c.bv) :: X)) ++ st, p.1 < b) : Rep w A c X ((b, o) :: st) σ := by
  rw [← M_12 w A c X, List.append_assoc] at h
  exact R.cons (not_addr (w := w) (c := c) h) (not_X (w := w) (A := A) (c := c) h)
theorem make_gv (τ : T) {o : Str} {ns : List Int} (s : Std ⟨S, Y, w, A, ko, true⟩ 1) (R : Rep w A c X st σ) (ho : o = τ.op) (hi : i = (σ.sx τ.wd : Nat)) (f : Fits σ τ) (hn : τ ≠ .nil) (hr : σ.ts.length + 1 ≤ 2 ^ 20) (ha : DatIn st va (.tuple (ns.map .int))) (hns : ns = τ.kids.map fun k => (σ.ix k : Int)) (hv : DatIn st vd (datD τ.dat))
    (ret : ∀ n' t c' st' tk', Gr st st' → Rep w A c' X st' (σ.add τ) → At (σ.add τ) n' τ → κ (.int (n' : Nat) t) ⟨c', X⟩ st' tk') : Stp ⟨S, Y, w, A, ko, true⟩ ⟨c, X⟩ st tk0 (call (.ref 369) [.ref A.b, .str o tk, va, .int i tk2, vd]) κ := by
  subst ho hi hns
  obtain ⟨xs, NU⟩ := R.nu
  have P := mkp_of R NU
  have ha2 : DatIn st va (.tuple ((σ.key τ).args.map .int)) := ha
  refine off_nb ?_
  by_cases hm : τ ∈ σ.ts
  · have hat := at_ix hm
    have h0 : σ.ix τ ≠ 0 := fun e => by
      have := R.ok.n0
      rw [e] at hat
      exact hn (Option.some.inj (hat.symm.trans this))
    obtain ⟨t, hg⟩ := NU.atKey_old R.ok hat h0
    refine mk_old (kk := σ.key τ) (std_off s) (get_mk w A) P (St.key_ok _ _) hg (by simpa using h0) ha2 hv fun b tk' hb => ⟨c, rfl, ?_⟩
    rw [add_old hm] at ret
    exact ret _ _ _ _ _ (fun _ h => .tail _ h) (R.key hb) hat
  · have hg := NU.atKey_new R.ok f hm
    have el : ∀ {l : List Value}, l.length = σ.ts.length → l.length ≤ 2 ^ 20 := fun e => e ▸ R.room
    have e1 : c.to.length = σ.ts.length := by rw [R.to.length, List.length_map]
    refine mk_new (kk := σ.key τ) (std_off s) (get_mk w A) P (St.key_ok _ _) hg ha2 hv (el e1) (el (by rw [R.ta.length, List.length_map])) (el (by rw [R.ts.length, List.length_map])) (el (by rw [R.td.length, List.length_map])) fun b t o' tk' hb NO => ⟨_, rfl, ?_⟩
    have R2 := R.key (o := tupOf [.str (σ.key τ).op tk, va, .int (σ.key τ).sort tk2, vd]) hb
    rw [e1] at NO ⊢
    exact ret _ _ _ _ _ (fun _ h => .tail _ h) (Rep.add R2 f hm hr (NU.up fun _ h => .tail _ h) (datUp (by simpa [St.key, List.map_map, Function.comp_def] using ha2) fun _ h => .tail _ h) (datUp hv fun _ h => .tail _ h) (key_dat (kk := σ.key τ) ha2 hv) NO) (at_add hm)
theorem make_v (τ : T) {o : Str} {ns : List Int} (s : Std ⟨S, Y, w, A, ko, true⟩ 1) (R : Rep w A c X st σ) (ho : o = τ.op) (hi : i = (σ.sx τ.wd : Nat)) (f : Fits σ τ) (hn : τ ≠ .nil) (hr : σ.ts.length + 1 ≤ 2 ^ 20) (ha : DatIn st va (.tuple (ns.map .int))) (hns : ns = τ.kids.map fun k => (σ.ix k : Int)) (hv : DatIn st vd (datD τ.dat))
    (ret : ∀ n' t c' st' σ' tk', Gr st st' → Rep w A c' X st' σ' → Ext σ σ' 1 → At σ' n' τ → κ (.int (n' : Nat) t) ⟨c', X⟩ st' tk') : Stp ⟨S, Y, w, A, ko, true⟩ ⟨c, X⟩ st tk0 (call (.ref 369) [.ref A.b, .str o tk, va, .int i tk2, vd]) κ :=
  make_gv τ s R ho hi f hn hr ha hns hv fun n' t c' st' tk' hs R' a => ret n' t c' st' _ tk' hs R' (ext_add _ _) a
end
section
variable {So : Sc} {Y : Cx} {w : World} {A : Ba} {c : Bc} {ko : Option Mk} {X st st' : Led} {σ : St}
theorem of_stp {α : Type} {mean : ExcName → Option Value} {mg mb : Str → Option Value} {dp un : Nat} {gd : Option (List Code)} {cn : Str} {cs : Scope} {a L : Addr} {ccd : Value} {cl : List (Str × Addr)} {outer : List Env} {A₀ : Around} {base h₀ : Heap} {m : Str → Option Value} {s : Shared} {Q : α → Shared → Prop} {E : Value → Shared → Prop} {t : Sem α} {D : Nat} {κ : KO α}
    (B : Below A₀ base outer h₀) (F : Fr h₀ L s.heap m) (K : (Mine.hd.heap_39 w.params).In h₀) (N : News h₀ L s.heap (M w A c ++ (X ++ st))) (TT : TopL mean mg mb h₀) (hk : cs.kind = .function) (hd : dp + D < recursionLimit) (hu : un + 16 * D < cLine) (hx : match ko with | some k => ∃ X', X = mkL w A k X' | none => True)
    (h : ∀ Y : Cx, Std ⟨⟨[], [], []⟩, Y, w, A, ko, true⟩ D → Stp ⟨⟨[], [], []⟩, Y, w, A, ko, true⟩ ⟨c, X⟩ st s.toks t κ)
    (hκ : ∀ v c' X' st' h' tk', κ v ⟨c', X'⟩ st' tk' → Fr h₀ L h' m → News h₀ L h' (M w A c' ++ (X' ++ st')) → Q v { s with heap := h', toks := tk' }) :
    wpAny (model pw w) (ktrTop dp un gd cn cs L a ccd cl outer) t Q E s :=
  (h ⟨cn, cs, dp, un, gd, L, a, ccd, cl, outer, A₀, base, h₀, s.gens, s.drawn, s.os, E, fun _ _ _ _ => True⟩ ⟨B, K, ⟨mean, mg, mb, TT⟩, hk, hd, hu⟩).h s.heap m Q F ⟨N, hx⟩ fun v h' c' st' tk' F' N' hk' => hκ v c'.c c'.xs st' h' tk' hk' F' N'.1
end
end
section
theorem kr_Bk : True := by
  k_with_none
  trivial
noncomputable def WantW (_ : Nat) : Prop := True
noncomputable def T.notB : T → T
  | .neg x => x
  | .tt => .ff
  | .ff => .tt
  | x => .neg x
theorem At.uniq {σ : St} (o : σ.Ok) {i j : Nat} {τ : T} (h : At σ i τ) (k : At σ j τ) : i = j := by rw [← h.ix o, ← k.ix o]
theorem At.inj {σ : St} {i : Nat} {τ τ' : T} (h : At σ i τ) (k : At σ i τ') : τ = τ' := Option.some.inj (h.symm.trans k)
theorem fits_neg {σ : St} (o : σ.Ok) {τ : T} (h : τ ∈ σ.ts) : Fits σ (.neg τ) := ⟨by simp only [T.kids, List.mem_cons, List.not_mem_nil, or_false, forall_eq]; exact h, .inl rfl⟩
end
section
theorem kr_Tree : True := by
  k_with_none
  trivial
namespace T
noncomputable def dep : T → Nat
  | .bnot x => x.dep + 1
  | .ext _ _ x => x.dep + 1
  | .zx _ x => x.dep + 1
  | .sx _ x => x.dep + 1
  | .bit _ x => x.dep + 1
  | .neg x => x.dep + 1
  | .cat x y => max x.dep y.dep + 1
  | .nil => 0
  | .tt => 0
  | .ff => 0
  | .leaf _ _ => 0
  | .num _ _ => 0
noncomputable def isNum : T → Bool
  | .num .. => true
  | _ => false
noncomputable def isBnot : T → Bool
  | .bnot .. => true
  | _ => false
noncomputable def ok : T → Prop
  | .leaf _ w => 1 ≤ w ∧ w ≤ 30
  | .num v w => 1 ≤ w ∧ w ≤ 30 ∧ v < 2 ^ w
  | .bnot x => x.ok ∧ x.isNum = false ∧ x.isBnot = false
  | .cat x y => x.ok ∧ y.ok ∧ x.wd + y.wd ≤ 30
  | .ext h l x => l ≤ h ∧ h < x.wd ∧ x.ok
  | .zx m x => 1 ≤ m ∧ x.ok ∧ x.wd + m ≤ 30
  | .sx m x => 1 ≤ m ∧ x.ok ∧ x.wd + m ≤ 30
  | _ => False
theorem ok_wd : ∀ {τ : T}, τ.ok → 1 ≤ τ.wd ∧ τ.wd ≤ 30
  | .leaf _ _, h => h
  | .num _ _, h => ⟨h.1, h.2.1⟩
  | .bnot x, h => ok_wd (τ := x) h.1
  | .cat x y, h => by have := ok_wd h.1; have := ok_wd h.2.1; have := h.2.2; simp only [wd]; lia
  | .ext a b x, h => by have := ok_wd h.2.2; have := h.1; have := h.2.1; simp only [wd]; lia
  | .zx m x, h => by have := ok_wd h.2.1; have := h.2.2; simp only [wd]; lia
  | .sx m x, h => by have := ok_wd h.2.1; have := h.2.2; simp only [wd]; lia
noncomputable def notT : T → T
  | .num v w => .num (2 ^ w - 1 - v) w
  | .bnot x => x
  | .nil => .bnot .nil
  | .tt => .bnot .tt
  | .ff => .bnot .ff
  | .leaf k w => .bnot (.leaf k w)
  | .cat x y => .bnot (.cat x y)
  | .ext h l x => .bnot (.ext h l x)
  | .zx m x => .bnot (.zx m x)
  | .sx m x => .bnot (.sx m x)
  | .bit i x => .bnot (.bit i x)
  | .neg x => .bnot (.neg x)
noncomputable def cutT : T → Nat → Nat → T
  | .num v w, h, l => if l = 0 ∧ h + 1 = w then .num v w else .num (v / 2 ^ l % 2 ^ (h - l + 1)) (h - l + 1)
  | .ext h' l' x, h, l => if l = 0 ∧ h + 1 = h' - l' + 1 then .ext h' l' x else cutT x (h + l') (l + l')
  | .bnot x, h, l => if l = 0 ∧ h + 1 = x.wd then .bnot x else notT (cutT x h l)
  | .cat x y, h, l => if l = 0 ∧ h + 1 = x.wd + y.wd then .cat x y else if h < y.wd then cutT y h l else if y.wd ≤ l then cutT x (h - y.wd) (l - y.wd) else .ext h l (.cat x y)
  | .zx m x, h, l => if l = 0 ∧ h + 1 = x.wd + m then .zx m x else if h < x.wd then cutT x h l else if x.wd ≤ l then .num 0 (h - l + 1) else .ext h l (.zx m x)
  | .sx m x, h, l => if l = 0 ∧ h + 1 = x.wd + m then .sx m x else if h < x.wd then cutT x h l else .ext h l (.sx m x)
  | .leaf k w, h, l => if l = 0 ∧ h + 1 = (.leaf k w : T).wd then .leaf k w else .ext h l (.leaf k w)
  | .nil, h, l => if l = 0 ∧ h + 1 = (.nil : T).wd then .nil else .ext h l .nil
  | .tt, h, l => if l = 0 ∧ h + 1 = (.tt : T).wd then .tt else .ext h l .tt
  | .ff, h, l => if l = 0 ∧ h + 1 = (.ff : T).wd then .ff else .ext h l .ff
  | .bit i x, h, l => if l = 0 ∧ h + 1 = (.bit i x : T).wd then .bit i x else .ext h l (.bit i x)
  | .neg x, h, l => if l = 0 ∧ h + 1 = (.neg x : T).wd then .neg x else .ext h l (.neg x)
noncomputable def sext (v w m : Nat) : Nat := if 2 ^ (w - 1) ≤ v then v + (2 ^ (w + m) - 2 ^ w) else v
noncomputable def widerT (m : Nat) (τ : T) : T := if m = 0 then τ else match τ with
  | .num v w => .num v (w + m)
  | .zx k x => .zx (m + k) x
  | .nil => .zx m (.nil)
  | .tt => .zx m (.tt)
  | .ff => .zx m (.ff)
  | .leaf k w => .zx m (.leaf k w)
  | .bnot x => .zx m (.bnot x)
  | .cat x y => .zx m (.cat x y)
  | .ext h l x => .zx m (.ext h l x)
  | .sx k x => .zx m (.sx k x)
  | .bit i x => .zx m (.bit i x)
  | .neg x => .zx m (.neg x)
noncomputable def sxT (m : Nat) (τ : T) : T := if m = 0 then τ else match τ with
  | .num v w => .num (sext v w m) (w + m)
  | .sx k x => .sx (m + k) x
  | .zx k x => .zx (m + k) x
  | .nil => .sx m (.nil)
  | .tt => .sx m (.tt)
  | .ff => .sx m (.ff)
  | .leaf k w => .sx m (.leaf k w)
  | .bnot x => .sx m (.bnot x)
  | .cat x y => .sx m (.cat x y)
  | .ext h l x => .sx m (.ext h l x)
  | .bit i x => .sx m (.bit i x)
  | .neg x => .sx m (.neg x)
noncomputable def nv : T → Nat
  | .num v _ => v
  | _ => 0
noncomputable def putE (h l : Nat) (x : T) : T → T
  | .ext h' l' y => if x = y ∧ l = h' + 1 then cutT x h l' else .cat (.ext h l x) (.ext h' l' y)
  | b => .cat (.ext h l x) b
noncomputable def putT (a b : T) : T := match a with
  | .num v w => if b.isNum = true then .num (v * 2 ^ b.wd + b.nv) (w + b.wd) else if v = 0 then widerT w b else .cat (.num v w) b
  | .cat x y => if (b.isNum && y.isNum) = true then .cat x (.num (y.nv * 2 ^ b.wd + b.nv) (y.wd + b.wd)) else .cat (.cat x y) b
  | .ext h l x => putE h l x b
  | a => .cat a b
theorem isNum_is : ∀ {b : T}, b.isNum = true → b = .num b.nv b.wd
  | .num _ _, _ => rfl
noncomputable def bitT : T → Nat → T
  | .num v _, i => if v.testBit i then .tt else .ff
  | .bnot x, i => (bitT x i).notB
  | .ext _ l x, i => bitT x (i + l)
  | .cat x y, i => if i < y.wd then bitT y i else bitT x (i - y.wd)
  | .zx _ x, i => if i < x.wd then bitT x i else .ff
  | .sx _ x, i => bitT x (min i (x.wd - 1))
  | .leaf k w, i => .bit i (.leaf k w)
  | .nil, i => .bit i (.nil)
  | .tt, i => .bit i (.tt)
  | .ff, i => .bit i (.ff)
  | .bit j x, i => .bit i (.bit j x)
  | .neg x, i => .bit i (.neg x)
end T
theorem isNum_ex {b : T} (h : b.isNum = true) : ∃ v n, b = .num v n := ⟨_, _, T.isNum_is h⟩
theorem At.cast {σ : St} {n : Nat} {τ τ' : T} (e : τ = τ') (h : At σ n τ') : At σ n τ := e ▸ h
theorem min_cast {i w : Nat} (h : 1 ≤ w) : (if (w : Int) - 1 < (i : Int) then (w : Int) - 1 else (i : Int)) = ((min i (w - 1) : Nat) : Int) := by
  rw [show (w : Int) - 1 = ((w - 1 : Nat) : Int) from (Int.ofNat_sub h).symm]
  by_cases q : w - 1 < i
  · rw [if_pos (Int.ofNat_lt.mpr q), Nat.min_eq_right (Nat.le_of_lt q)]
  · rw [if_neg fun z => q (Int.ofNat_lt.mp z), Nat.min_eq_left (Nat.le_of_not_lt q)]
theorem minlt {i w : Nat} (q : 1 ≤ w) : min i (w - 1) < w := Nat.lt_of_le_of_lt (Nat.min_le_right _ _) (Nat.sub_lt q Nat.one_pos)
theorem ext_lt {i h l w : Nat} (o1 : l ≤ h) (hi : i < h - l + 1) (o2 : h < w) : i + l < w := Nat.lt_of_le_of_lt (Nat.add_le_of_le_sub o1 (Nat.le_of_lt_succ hi)) o2
theorem sub_lt' {i x y : Nat} (hc : ¬ i < y) (hi : i < x + y) : i - y < x := Nat.sub_lt_right_of_lt_add (Nat.le_of_not_lt hc) hi
theorem un_D {a d : Nat} : a + 1 + d ≤ a + (d + 1) := Nat.le_of_eq (Nat.succ_add_eq_add_succ a d)
theorem bi_D {a e d : Nat} (h : e ≤ d) : a + 1 + e ≤ a + (d + 1) := Nat.le_trans (Nat.add_le_add_left h _) un_D
theorem un_rm {n d N : Nat} (h : n + (d + 1 + 1) ≤ N) : n + (d + 1) ≤ N := Nat.le_of_succ_le h
theorem bi_rm {n a d N : Nat} (q : a ≤ d) (h : n + (d + 1 + 1) ≤ N) : n + (a + 1) ≤ N := Nat.le_trans (Nat.add_le_add_left (Nat.succ_le_succ q) n) (Nat.le_of_succ_le h)
theorem un_r1 {n n' d N : Nat} (l : n' ≤ n + (d + 1)) (h : n + (d + 1 + 1) ≤ N) : n' + 1 ≤ N := Nat.le_trans (Nat.succ_le_succ l) h
theorem op_num (τ : T) : (τ.op == Str.ofString "bvnum") = τ.isNum := by cases τ <;> kernel_rfl!
theorem item_tupI {value slice : PySem.Expr} {prog : Program} {w w' : World} {Ar : Around} {E : Value → Shared → Prop} {s : Shared} {h₀ : Heap} {L : Addr} {A : Ba} {c : Bc} {X st : List (Addr × Obj)} {v : Value} {ds : List Dat} {k : Int} {u : Tok} {i : Int} {Q : Value → Shared → Prop}
    (N : News h₀ L s.heap (M w' A c ++ (X ++ st))) (hd : DatIn st v (.tuple ds)) (h0 : 0 ≤ k) (hx : ds[k.toNat]? = some (.int i)) (hk : k < 2 ^ 63) (h : ∀ t, Q (.int i t) s)
    (hs : ∀ a, subscripted slice false (.ref a) (.int k u) = operate [.ref a, .int k u] (getItem (.ref a) (.int k u)) := by intro _; with_unfolding_all rfl) :
    wpAny (model prog w) Ar (subscriptTail value slice v (.int k u)) Q E s :=
  item_tupD N hd h0 hx hk (fun v' hv => by cases hv; exact h _) hs
theorem T.notB_cases {τ : T} : τ.notB = τ.notB := rfl
end
section
noncomputable def sc_op : Sc := ⟨[Str.ofString "self", Str.ofString "t"], [none, none], []⟩
noncomputable def code_op : CS := sret (csub (cattr 0 (Str.ofString "term_ops")) (cvar 1))
theorem def_op : Def sc_op 327 2 code_op := by
  refine ⟨fun w => ?_⟩
  refine' Def.mk1 ?a ?b ?c ?d ?e ?f ?g ?h
  case a => k_is
  case b => k_is
  case c => exact fun s => lenS fun v0 => lenS fun v1 => len0 (BindsTo.of_eq rfl)
  case d => exact snd_one (snd_ret (snd_sub (snd_attr rfl (fun _ => rfl)) (snd_var rfl) (fun _ _ _ => by with_unfolding_all rfl)))
  case e => kernel_rfl!
  case f => kernel_rfl!
  case g => kernel_rfl!
  case h => decide
noncomputable def sc_args : Sc := ⟨[Str.ofString "self", Str.ofString "t"], [none, none], []⟩
noncomputable def code_args : CS := sret (csub (cattr 0 (Str.ofString "term_args")) (cvar 1))
theorem def_args : Def sc_args 334 2 code_args := by
  refine ⟨fun w => ?_⟩
  refine' Def.mk1 ?a ?b ?c ?d ?e ?f ?g ?h
  case a => k_is
  case b => k_is
  case c => exact fun s => lenS fun v0 => lenS fun v1 => len0 (BindsTo.of_eq rfl)
  case d => exact snd_one (snd_ret (snd_sub (snd_attr rfl (fun _ => rfl)) (snd_var rfl) (fun _ _ _ => by with_unfolding_all rfl)))
  case e => kernel_rfl!
  case f => kernel_rfl!
  case g => kernel_rfl!
  case h => decide
noncomputable def sc_sort : Sc := ⟨[Str.ofString "self", Str.ofString "t"], [none, none], []⟩
noncomputable def code_sort : CS := sret (csub (cattr 0 (Str.ofString "term_sorts")) (cvar 1))
theorem def_sort : Def sc_sort 341 2 code_sort := by
  refine ⟨fun w => ?_⟩
  refine' Def.mk1 ?a ?b ?c ?d ?e ?f ?g ?h
  case a => k_is
  case b => k_is
  case c => exact fun s => lenS fun v0 => lenS fun v1 => len0 (BindsTo.of_eq rfl)
  case d => exact snd_one (snd_ret (snd_sub (snd_attr rfl (fun _ => rfl)) (snd_var rfl) (fun _ _ _ => by with_unfolding_all rfl)))
  case e => kernel_rfl!
  case f => kernel_rfl!
  case g => kernel_rfl!
  case h => decide
noncomputable def sc_data : Sc := ⟨[Str.ofString "self", Str.ofString "t"], [none, none], []⟩
noncomputable def code_data : CS := sret (csub (cattr 0 (Str.ofString "term_datas")) (cvar 1))
theorem def_data : Def sc_data 348 2 code_data := by
  refine ⟨fun w => ?_⟩
  refine' Def.mk1 ?a ?b ?c ?d ?e ?f ?g ?h
  case a => k_is
  case b => k_is
  case c => exact fun s => lenS fun v0 => lenS fun v1 => len0 (BindsTo.of_eq rfl)
  case d => exact snd_one (snd_ret (snd_sub (snd_attr rfl (fun _ => rfl)) (snd_var rfl) (fun _ _ _ => by with_unfolding_all rfl)))
  case e => kernel_rfl!
  case f => kernel_rfl!
  case g => kernel_rfl!
  case h => decide
noncomputable def sc_width : Sc := ⟨[Str.ofString "self", Str.ofString "t"], [none, none], []⟩
noncomputable def code_width : CS := sret (csub (cattr 0 (Str.ofString "sort_widths")) (csub (cattr 0 (Str.ofString "term_sorts")) (cvar 1)))
theorem def_width : Def sc_width 355 2 code_width := by
  refine ⟨fun w => ?_⟩
  refine' Def.mk1 ?a ?b ?c ?d ?e ?f ?g ?h
  case a => k_is
  case b => k_is
  case c => exact fun s => lenS fun v0 => lenS fun v1 => len0 (BindsTo.of_eq rfl)
  case d => exact snd_one (snd_ret (snd_sub (snd_attr rfl (fun _ => rfl)) (snd_sub (snd_attr rfl (fun _ => rfl)) (snd_var rfl) (fun _ _ _ => by with_unfolding_all rfl)) (fun _ _ _ => by with_unfolding_all rfl)))
  case e => kernel_rfl!
  case f => kernel_rfl!
  case g => kernel_rfl!
  case h => decide
theorem sub_v {S : Sc} {X : Cx} {w : World} {A : Ba} {mk : Option Mk} {xs : Led} {v : Value} {ds : List Dat} {j : Int} {u : Tok} {i : Int} {c : Bc} {st : Led} {tk : Nat} {k : KO Value} (hd : DatIn st v (.tuple ds)) (hx : ds[j.toNat]? = some (.int i)) (h : ∀ t, k (.int i t) ⟨c, xs⟩ st tk)
    (h0 : 0 ≤ j := by decide) (hk : j < 2 ^ 63 := by decide) : Sub ⟨S, X, w, A, mk, true⟩ v (.int j u) ⟨c, xs⟩ st tk k :=
  ⟨fun ve ie ho => ⟨fun h₁ m q F N l => item_tupI N.1 hd h0 hx hk (fun t => l _ h₁ _ _ _ F N (h t)) fun a => ho a j u⟩⟩
section
variable {S : Sc} {Y : Cx} {w : World} {A : Ba} {c : Bc} {k : Mk} {ko : Option Mk} {X st : Led} {σ : St} {n n1 n2 n3 n4 n5 v m1 i1 tk0 : Nat} {i j : Int} {τ τ1 τ2 x y : T} {tk tk1 tk2 tk3 : Tok} {κ : KO Value}
variable {D : Nat} {u : Tok}
theorem att_v {nm : Str} {v : Value} (s : Std ⟨S, Y, w, A, ko, true⟩ D) (g : AttG w 748 nm) (hl : getL nm (bankEs w A) = some (some v)) (hh : handedIn v = true) (ret : κ v ⟨c, X⟩ st (tk0 + 1)) : Stp ⟨S, Y, w, A, ko, true⟩ ⟨c, X⟩ st tk0 (getAttr (.ref A.b) nm true) κ := get_v s g mem_b mem_d hl hh ret
theorem att_sn_v (s : Std ⟨S, Y, w, A, ko, true⟩ D) (ret : κ (.ref A.sn) ⟨c, X⟩ st (tk0 + 1)) : Stp ⟨S, Y, w, A, ko, true⟩ ⟨c, X⟩ st tk0 (getAttr (.ref A.b) (Str.ofString "sort_names") true) κ := att_v s ⟨by k_is, by k_is, _, by k_is, by k_is⟩ (by k_get) rfl ret
theorem att_sw_v (s : Std ⟨S, Y, w, A, ko, true⟩ D) (ret : κ (.ref A.sw) ⟨c, X⟩ st (tk0 + 1)) : Stp ⟨S, Y, w, A, ko, true⟩ ⟨c, X⟩ st tk0 (getAttr (.ref A.b) (Str.ofString "sort_widths") true) κ := att_v s ⟨by k_is, by k_is, _, by k_is, by k_is⟩ (by k_get) rfl ret
theorem att_to_v (s : Std ⟨S, Y, w, A, ko, true⟩ D) (ret : κ (.ref A.to) ⟨c, X⟩ st (tk0 + 1)) : Stp ⟨S, Y, w, A, ko, true⟩ ⟨c, X⟩ st tk0 (getAttr (.ref A.b) (Str.ofString "term_ops") true) κ := att_v s ⟨by k_is, by k_is, _, by k_is, by k_is⟩ (by k_get) rfl ret
theorem att_ta_v (s : Std ⟨S, Y, w, A, ko, true⟩ D) (ret : κ (.ref A.ta) ⟨c, X⟩ st (tk0 + 1)) : Stp ⟨S, Y, w, A, ko, true⟩ ⟨c, X⟩ st tk0 (getAttr (.ref A.b) (Str.ofString "term_args") true) κ := att_v s ⟨by k_is, by k_is, _, by k_is, by k_is⟩ (by k_get) rfl ret
theorem att_ts_v (s : Std ⟨S, Y, w, A, ko, true⟩ D) (ret : κ (.ref A.ts) ⟨c, X⟩ st (tk0 + 1)) : Stp ⟨S, Y, w, A, ko, true⟩ ⟨c, X⟩ st tk0 (getAttr (.ref A.b) (Str.ofString "term_sorts") true) κ := att_v s ⟨by k_is, by k_is, _, by k_is, by k_is⟩ (by k_get) rfl ret
theorem att_td_v (s : Std ⟨S, Y, w, A, ko, true⟩ D) (ret : κ (.ref A.td) ⟨c, X⟩ st (tk0 + 1)) : Stp ⟨S, Y, w, A, ko, true⟩ ⟨c, X⟩ st tk0 (getAttr (.ref A.b) (Str.ofString "term_datas") true) κ := att_v s ⟨by k_is, by k_is, _, by k_is, by k_is⟩ (by k_get) rfl ret
theorem att_bv_v (s : Std ⟨S, Y, w, A, ko, true⟩ D) (ret : κ (.ref A.bv) ⟨c, X⟩ st (tk0 + 1)) : Stp ⟨S, Y, w, A, ko, true⟩ ⟨c, X⟩ st tk0 (getAttr (.ref A.b) (Str.ofString "bv_numbers") true) κ := att_v s ⟨by k_is, by k_is, _, by k_is, by k_is⟩ (by k_get) rfl ret
theorem att_tt_v (s : Std ⟨S, Y, w, A, ko, true⟩ D) (ret : κ (.int 1 (A.tk 21)) ⟨c, X⟩ st (tk0 + 1)) : Stp ⟨S, Y, w, A, ko, true⟩ ⟨c, X⟩ st tk0 (getAttr (.ref A.b) (Str.ofString "true_number") true) κ := att_v s ⟨by k_is, by k_is, _, by k_is, by k_is⟩ (by k_get) rfl ret
theorem att_ff_v (s : Std ⟨S, Y, w, A, ko, true⟩ D) (ret : κ (.int 2 (A.tk 22)) ⟨c, X⟩ st (tk0 + 1)) : Stp ⟨S, Y, w, A, ko, true⟩ ⟨c, X⟩ st tk0 (getAttr (.ref A.b) (Str.ofString "false_number") true) κ := att_v s ⟨by k_is, by k_is, _, by k_is, by k_is⟩ (by k_get) rfl ret
theorem mem_M {p : Addr × Obj} {w : World} {A : Ba} {c : Bc} {Y : Led} (h : p ∈ M w A c) : p ∈ M w A c ++ Y := List.mem_append_left _ h
theorem it_v {l : Addr} {vs : List Value} {e n : Nat} {v : Value} (i : Nat) (hm : (M w A c)[i]? = some (l, listOf vs.toArray e)) (hv : vs[n]? = some v) (hz : n < 2 ^ 20) (ret : κ v ⟨c, X⟩ st tk0) : Sub ⟨S, Y, w, A, ko, true⟩ (.ref l) (.int (n : Nat) u) ⟨c, X⟩ st tk0 κ :=
  ⟨fun ve ie ho => ⟨fun h₁ m q F N l' => item_litK (N.1.isList (mem_M (List.mem_of_getElem? hm))) (Int.natCast_nonneg _) (by omega) (by simpa using hv) (l' _ h₁ _ _ _ F N ret) (ho _ _ _)⟩⟩
theorem sub_to_v (R : Rep w A c X st σ) (ha : At σ n τ) (ret : ∀ t, κ (.str τ.op t) ⟨c, X⟩ st tk0) : Sub ⟨S, Y, w, A, ko, true⟩ (.ref A.to) (.int (n : Nat) u) ⟨c, X⟩ st tk0 κ := let ⟨t, hv⟩ := R.op ha; it_v 7 rfl hv (R.lt ha) (ret t)
theorem sub_ts_v (R : Rep w A c X st σ) (ha : At σ n τ) (ret : ∀ t, κ (.int (σ.sx τ.wd : Nat) t) ⟨c, X⟩ st tk0) : Sub ⟨S, Y, w, A, ko, true⟩ (.ref A.ts) (.int (n : Nat) u) ⟨c, X⟩ st tk0 κ := let ⟨t, hv⟩ := R.sort ha; it_v 9 rfl hv (R.lt ha) (ret t)
theorem sub_ta_v (R : Rep w A c X st σ) (ha : At σ n τ) (ret : ∀ v, DatIn st v (.tuple (τ.kids.map fun k => .int (σ.ix k))) → κ v ⟨c, X⟩ st tk0) : Sub ⟨S, Y, w, A, ko, true⟩ (.ref A.ta) (.int (n : Nat) u) ⟨c, X⟩ st tk0 κ := let ⟨v, hv, hd⟩ := R.args ha; it_v 8 rfl hv (R.lt ha) (ret v hd)
theorem sub_td_v (R : Rep w A c X st σ) (ha : At σ n τ) (ret : ∀ v, DatIn st v (datD τ.dat) → κ v ⟨c, X⟩ st tk0) : Sub ⟨S, Y, w, A, ko, true⟩ (.ref A.td) (.int (n : Nat) u) ⟨c, X⟩ st tk0 κ := let ⟨v, hv, hd⟩ := R.data ha; it_v 10 rfl hv (R.lt ha) (ret v hd)
theorem sub_sw_v {x : Nat} (R : Rep w A c X st σ) (hx : x = 0 ∨ x ∈ σ.ws) (hz : σ.sx x < 2 ^ 20) (ret : ∀ t, κ (.int (x : Nat) t) ⟨c, X⟩ st tk0) : Sub ⟨S, Y, w, A, ko, true⟩ (.ref A.sw) (.int (σ.sx x : Nat) u) ⟨c, X⟩ st tk0 κ := let ⟨t, hv⟩ := R.width hx; it_v 3 rfl hv hz (ret t)
theorem op_use_v (s : Std ⟨S, Y, w, A, ko, true⟩ 1) (R : Rep w A c X st σ) (ha : At σ n τ) (ret : ∀ t tk', κ (.str τ.op t) ⟨c, X⟩ st tk') : Stp ⟨S, Y, w, A, ko, true⟩ ⟨c, X⟩ st tk0 (call (.ref 327) [.ref A.b, .int n tk]) κ :=
  def_op.enter s (D' := 0) (by lia) rfl trivial rfl (by decide) fun Y2 s2 fin => att_to_v s2 (sub_to_v R ha fun t => fin _ _ _ _ (ret t _))
theorem args_use_v (s : Std ⟨S, Y, w, A, ko, true⟩ 1) (R : Rep w A c X st σ) (ha : At σ n τ) (ret : ∀ v, DatIn st v (.tuple (τ.kids.map fun k => .int (σ.ix k))) → ∀ tk', κ v ⟨c, X⟩ st tk') : Stp ⟨S, Y, w, A, ko, true⟩ ⟨c, X⟩ st tk0 (call (.ref 334) [.ref A.b, .int n tk]) κ :=
  def_args.enter s (D' := 0) (by lia) rfl trivial rfl (by decide) fun Y2 s2 fin => att_ta_v s2 (sub_ta_v R ha fun v hd => fin _ _ _ _ (ret v hd _))
theorem data_use_v (s : Std ⟨S, Y, w, A, ko, true⟩ 1) (R : Rep w A c X st σ) (ha : At σ n τ) (ret : ∀ v, DatIn st v (datD τ.dat) → ∀ tk', κ v ⟨c, X⟩ st tk') : Stp ⟨S, Y, w, A, ko, true⟩ ⟨c, X⟩ st tk0 (call (.ref 348) [.ref A.b, .int n tk]) κ :=
  def_data.enter s (D' := 0) (by lia) rfl trivial rfl (by decide) fun Y2 s2 fin => att_td_v s2 (sub_td_v R ha fun v hd => fin _ _ _ _ (ret v hd _))
theorem width_use_v (s : Std ⟨S, Y, w, A, ko, true⟩ 1) (R : Rep w A c X st σ) (ha : At σ n τ) (ret : ∀ t tk', κ (.int (τ.wd : Nat) t) ⟨c, X⟩ st tk') : Stp ⟨S, Y, w, A, ko, true⟩ ⟨c, X⟩ st tk0 (call (.ref 355) [.ref A.b, .int n tk]) κ :=
  def_width.enter s (D' := 0) (by lia) rfl trivial rfl (by decide) fun Y2 s2 fin => att_sw_v s2 (att_ts_v s2 (sub_ts_v R ha fun t => sub_sw_v R (R.ok.wi _ ha.mem) (R.sx_lt (R.ok.wi _ ha.mem)) fun t => fin _ _ _ _ (ret t _)))
theorem bool_term_use_v {b : Bool} (s : Std ⟨S, Y, w, A, ko, true⟩ 1) (ret : ∀ t tk', κ (.int (if b = true then 1 else 2) t) ⟨c, X⟩ st tk') : Stp ⟨S, Y, w, A, ko, true⟩ ⟨c, X⟩ st tk0 (call (.ref 418) [.ref A.b, .bool b]) κ :=
  def_bool_term.enter s (D' := 0) (by lia) rfl ⟨rfl, trivial⟩ rfl (by decide) fun Y2 s2 fin => by
    cases b
    · exact .neg rfl (att_ff_v s2 (fin _ _ _ _ (ret _ _)))
    · exact .pos rfl (att_tt_v s2 (fin _ _ _ _ (ret _ _)))
end
end
section
noncomputable def cfs (i : Nat) : CC Value := fun _ fr k c st _ => match slot fr i with
  | some (.int n _) => n.natAbs ≤ 4096 ∧ ∀ y t tk, k (.str y t) c st tk
  | _ => False
theorem snd_cfs {S : Sc} {i : Nat} {x a b : Str} {k1 k2 : Nat} {p p1 p2 p3 p4 : Pos} (hi : S.sl[i]? = some x) (hab : a.length + b.length ≤ 1000) : SndE S (.JoinedStr [.Constant (.str a) k1 p1, .FormattedValue (.Name x p2) (-1) none p3, .Constant (.str b) k2 p4] p) (cfs i) := by
  intro z fr e O k q c st tk h F N l hp
  subst e
  unfold cfs at hp
  split at hp
  next n t hs =>
    have h2 : n.natAbs.log2 < 1920 := by
      by_cases e : n.natAbs = 0
      · rw [e]; decide
      · exact Nat.lt_of_lt_of_le ((Nat.log2_lt e).mpr (Nat.lt_of_le_of_lt hp.1 (by decide : 4096 < 2 ^ 13))) (by decide)
    have hl := int_text_len_1921 h2
    have e0 : Str.empty.length = 0 := rfl
    have sz : (1000000 : Nat) ≤ sizeLine := by rw [sizeLine_eq]; decide
    refine JoinedStr_many (joinParts_cons (Constant_str ⟨?_, joinParts_cons (FormattedValue_plain (O.name F hi hs (formatField_int_small h2 ⟨?_, joinParts_cons (Constant_str ⟨?_, joinParts_nil (l _ _ _ _ _ F N (hp.2 _ _ _)) ?_⟩)⟩)))⟩))
    all_goals (simp only [strLen_append]; omega)
  next => exact hp.elim
theorem gi_WIDEST (w : World) : GlI w (Str.ofString "WIDEST") 4096 := ⟨_, by k_is⟩
noncomputable def sc_bv_sort : Sc := ⟨[Str.ofString "self", Str.ofString "width"], [none, none], [Str.ofString "WIDEST", Str.ofString "len"]⟩
noncomputable def code_bv_sort : CS := sseq (sif (tcmp .Lt (cvar 1) (cint 1)) (sdead) (snil)) (sseq (sif (tcmp .Gt (cvar 1) (cgi 4096)) (sdead) (snil)) (sseq (sif (tcmp .NotIn (cvar 1) (cattr 0 (Str.ofString "bv_numbers"))) (sseq (sexp (cme (cattr 0 (Str.ofString "sort_names")) (Str.ofString "append") "list.append" (acons (cfs 1) (anil)))) (sseq (sexp (cme (cattr 0 (Str.ofString "sort_widths")) (Str.ofString "append") "list.append" (acons (cvar 1) (anil)))) (ssub (cattr 0 (Str.ofString "bv_numbers")) (cvar 1) (cbin .Sub (cbi "len" (acons (cattr 0 (Str.ofString "sort_names")) (anil))) (cint 1))))) (snil)) (sret (csub (cattr 0 (Str.ofString "bv_numbers")) (cvar 1)))))
theorem def_bv_sort : Def sc_bv_sort 654 2 code_bv_sort := by
  refine ⟨fun w => ?_⟩
  refine' Def.mk1 ?a ?b ?c ?d ?e ?f ?g ?h
  case a => k_is
  case b => k_is
  case c => exact fun s => lenS fun v0 => lenS fun v1 => len0 (BindsTo.of_eq rfl)
  case d => exact snd_seq (snd_sif (snd_tcmp (snd_var rfl) (snd_int) rfl) (snd_one (snd_dead)) (snd_nil)) (snd_seq (snd_sif (snd_tcmp (snd_var rfl) (snd_cgi (.head _) gi_WIDEST) rfl) (snd_one (snd_dead)) (snd_nil)) (snd_seq (snd_sif (snd_tcmp (snd_var rfl) (snd_attr rfl (fun _ => rfl)) rfl) (snd_seq (snd_exp (snd_cme (snd_attr rfl (fun _ => rfl)) (snd_acons (snd_cfs rfl (by decide)) (snd_anil) (fun _ => rfl)) (fun _ => rfl) (fun _ => rfl)) (fun _ => rfl)) (snd_seq (snd_exp (snd_cme (snd_attr rfl (fun _ => rfl)) (snd_acons (snd_var rfl) (snd_anil) (fun _ => rfl)) (fun _ => rfl) (fun _ => rfl)) (fun _ => rfl)) (snd_one (snd_ssub (snd_attr rfl (fun _ => rfl)) (snd_var rfl) (snd_bin (snd_cbi (.tail _ (.head _)) bi_len (snd_acons (snd_attr rfl (fun _ => rfl)) (snd_anil) (fun _ => rfl)) (fun _ => rfl)) (snd_int)) (fun _ => rfl))))) (snd_nil)) (snd_one (snd_ret (snd_sub (snd_attr rfl (fun _ => rfl)) (snd_var rfl) (fun _ _ _ => by with_unfolding_all rfl))))))
  case e => kernel_rfl!
  case f => kernel_rfl!
  case g => kernel_rfl!
  case h => decide
section
variable {S : Sc} {Y : Cx} {w : World} {A : Ba} {c : Bc} {k : Mk} {ko : Option Mk} {X st : Led} {σ : St} {n n1 n2 n3 n4 n5 v m1 i1 tk0 : Nat} {i j : Int} {τ τ1 τ2 x y : T} {tk tk1 tk2 tk3 : Tok} {κ : KO Value}
variable {D : Nat} {u : Tok} {v : Value} {kvs : List (Int × Value)} {Dd : List (PyData × PyData)}
open PySem.Spec PyProof.V
theorem mapp_v {c' : Bc} {d : Addr} {its : List Value} {e : Nat} {y : Value} (g : Nat) (R : Rep w A c1 X st σ) (h1 : M w A c = (M w A c).take g ++ (d, listOf its.toArray e) :: (M w A c).drop (g + 1)) (h2 : M w A c' = (M w A c).take g ++ (d, listOf (its ++ [y]).toArray (e + 1)) :: (M w A c).drop (g + 1)) (hz : its.length ≤ 2 ^ 20)
    (ret : κ .none ⟨c', X⟩ st tk0) : Stp ⟨S, Y, w, A, ko, true⟩ ⟨c, X⟩ st tk0 (call (.builtin "list.append") [.ref d, y]) κ := off_nb (app_at g h1 h2 R.nd R.off hz ⟨c', rfl, ret⟩)
theorem mmeth_v {d : Addr} {its : List Value} {e : Nat} {p : Prop} (g : Nat) (h1 : (M w A c)[g]? = some (d, listOf its.toArray e)) (hp : p) : Mt ⟨S, Y, w, A, ko, true⟩ (.ref d) (Str.ofString "append") (.builtin "list.append") ⟨c, X⟩ st p := lmeth_v PySem.F.slot_list_append PySem.F.type_list_append (mem_M (List.mem_of_getElem? h1)) hp
theorem item0 {prog : Program} {w : World} {Ar : Around} {E Q : Value → Shared → Prop} {s : Shared} {d : Addr} {i j : Int} {t : Tok} {ve ie : PySem.Expr} {Dd : List (PyData × PyData)} (T : IntTab prog w s.heap d Dd) (hl : PySem.Spec.lookup (.int i) Dd = some (.int j)) (h : ∀ t tk, Q (.int j t) { s with toks := tk })
    (hs : subscripted ie false (.ref d) (.int i t) = operate [.ref d, .int i t] (getItem (.ref d) (.int i t))) : wpAny (model prog w) Ar (subscriptTail ve ie (.ref d) (.int i t)) Q E s :=
  tab_tail T (getItem_tab PyProof.V.same_int (intKind_is _ _ _ _) T hl fun v hv => by have q := hv s.heap; cases q; exact h _ _) hs
theorem bnin_v (lo : (A.bv == sysModules) = false) (hd : c.bv.IsDictOf (intKind pw w) kvs) (hf : FlatPairs PyData.int kvs Dd) {r : Option PyData} (hl : PySem.Spec.lookup (.int i) Dd = r) (ret : ∀ tk', κ (.bool (!r.isSome)) ⟨c, X⟩ st tk') : Stp ⟨S, Y, w, A, ko, true⟩ ⟨c, X⟩ st tk0 (compareOp .NotIn (.int i tk) (.ref A.bv)) κ :=
  ⟨fun h₁ m q F N l => bv_notin N.1 lo hd hf hl fun tk' => l _ h₁ _ _ _ F N (ret tk')⟩
theorem bit_v0 (lo : (A.bv == sysModules) = false) (hd : c.bv.IsDictOf (intKind pw w) kvs) (hf : FlatPairs PyData.int kvs Dd) (hl : PySem.Spec.lookup (.int i) Dd = some (.int j)) (ret : ∀ t tk', κ (.int j t) ⟨c, X⟩ st tk') : Sub ⟨S, Y, w, A, ko, true⟩ (.ref A.bv) (.int i u) ⟨c, X⟩ st tk0 κ :=
  ⟨fun ve ie ho => ⟨fun h₁ m q F N l => item0 (bv_tab N.1 lo hd hf) hl (fun t tk => l _ h₁ _ _ _ F N (ret t tk)) (ho _ _ _)⟩⟩
theorem bset_v {q9 : KO Unit} (R : Rep w A c1 X st σ) (hd : c.bv.IsDictOf (intKind pw w) kvs) (hf : FlatPairs PyData.int kvs Dd) (hz : Dd.length ≤ 2 ^ 20) (ret : ∀ o' tk' kvs', o'.IsDictOf (intKind pw w) kvs' → FlatPairs PyData.int kvs' (putD (.int i) (.int j) Dd) → PySem.Spec.lookup (.int i) (putD (.int i) (.int j) Dd) = some (.int j) → q9 () ⟨{ c with bv := o' }, X⟩ st tk') : Stp ⟨S, Y, w, A, ko, true⟩ ⟨c, X⟩ st tk0 (setItem (.ref A.bv) (.int i tk) (.int j tk1)) q9 :=
  ⟨fun h₁ m q F N l => bv_set F N.1 R hd hf hz fun h' o' tk' kvs' F' N' a b d => l _ h' ⟨{ c with bv := o' }, X⟩ _ _ F' ⟨N', N.2⟩ (ret o' tk' kvs' a b d)⟩
theorem sort_go_v {x : Nat} (s : Std ⟨S, Y, w, A, ko, true⟩ 1) (R : Rep w A c X st σ) (W : WantW x) (hi : i = (x : Nat)) (hx : 1 ≤ x ∧ x ≤ 4096)
    (ret : ∀ t c' σ' tk', Rep w A c' X st σ' → Ext σ σ' 0 → σ'.fs = σ.fs → x ∈ σ'.ws → κ (.int (σ'.sx x : Nat) t) ⟨c', X⟩ st tk') : Stp ⟨S, Y, w, A, ko, true⟩ ⟨c, X⟩ st tk0 (call (.ref 654) [.ref A.b, .int i tk]) κ := by
  subst hi
  obtain ⟨kvs, Dd, BV⟩ := R.bv
  have bvLk := BV.at_ x
  have hw := nodup_bound R.ok.nw R.ok.wb
  have hz1 := R.sn
  have hz2 : c.sw.length = σ.ws.length + 3 := by rw [R.sw.length, List.length_map]; rfl
  have hz3 : Dd.length ≤ 2 ^ 20 := by have := BV.ln; omega
  refine def_bv_sort.enter s (D' := 0) (by lia) rfl trivial rfl (by decide) fun Y2 s2 fin => ?_
  refine (?_ : Cnd _ _ _); refine .neg (decide_eq_false (by omega)) ?_
  refine (?_ : ∀ _ : Tok, _); intro t9
  refine (?_ : Cnd _ _ _); refine .neg (decide_eq_false (by omega)) ?_
  refine att_bv_v s2 (bnin_v R.lo2 BV.is BV.fl bvLk fun tk9 => ?_)
  by_cases hm : x ∈ σ.ws
  · rw [if_pos hm] at bvLk ⊢
    refine (?_ : Cnd _ _ _); refine .neg rfl ?_
    refine att_bv_v s2 (bit_v0 R.lo2 BV.is BV.fl bvLk fun t tk' => ?_)
    have e : (σ.ws.idxOf x + 3 : Nat) = σ.sx x := by unfold St.sx; rw [if_neg (by omega)]
    rw [e]
    exact fin _ _ _ _ (ret _ _ _ _ R (Ext.refl _ _) rfl hm)
  · rw [if_neg hm] at bvLk ⊢
    refine (?_ : Cnd _ _ _); refine .pos rfl ?_
    refine att_sn_v s2 (mmeth_v 2 rfl ⟨?_, fun y t8 tk8 => ?_⟩)
    · omega
    refine mapp_v (c' := { c with sn := c.sn ++ [.str y t8], e := bump c.e 0 }) 2 R rfl rfl (by omega) ?_
    refine att_sw_v s2 (mmeth_v 3 rfl ?_)
    refine mapp_v (c' := { c with sn := c.sn ++ [.str y t8], sw := c.sw ++ [.int (x : Nat) tk], e := bump (bump c.e 0) 1 }) 3 R rfl rfl (by show c.sw.length ≤ _; omega) ?_
    refine att_sn_v s2 (len_v (vs := c.sn ++ [.str y t8]) (mem_M (List.mem_of_getElem? (i := 2) rfl)) (by rw [List.length_append, hz1]; show _ + 1 ≤ _; omega) fun t tk8 => ?_)
    have e : (((c.sn ++ [Value.str y t8]).length : Nat) : Int) - 1 = ((σ.ws.length + 3 : Nat) : Int) := by rw [List.length_append, hz1]; simp only [List.length_cons, List.length_nil]; omega
    have e2 : ((σ.ws.length + 3 : Nat) : Int) = ((⟨σ.ts, σ.ws ++ [x], σ.fs⟩ : St).sx x : Nat) := by
      unfold St.sx
      rw [if_neg (by omega)]
      simp only [List.idxOf_append, if_neg hm, List.idxOf_cons_self, Nat.zero_add]
    refine att_bv_v s2 (bset_v (c := { c with sn := c.sn ++ [.str y t8], sw := c.sw ++ [.int (x : Nat) tk], e := bump (bump c.e 0) 1 }) R BV.is BV.fl hz3 fun o' tk7 kvs' a b d => ?_)
    rw [e] at b d
    refine att_bv_v s2 (bit_v0 R.lo2 a b d fun t tk' => ?_)
    rw [e2]
    exact fin _ _ _ _ (ret _ _ _ _ (R.wide hm hx BV a b) ⟨⟨[], by simp, Nat.le_refl _⟩, ⟨[x], rfl⟩⟩ rfl (List.mem_append_right _ (.head _)))
end
end
section
section
variable {S : Sc} {Y : Cx} {w : World} {A : Ba} {k : Option Mk} {c : Bc} {X st : Led} {σ : St} {n n1 x tk0 : Nat} {τ : T} {i j0 j : Int} {p : Int × Int} {tk tk1 tk2 : Tok} {κ : KO Value}
theorem data_int_v (s : Std ⟨S, Y, w, A, k, true⟩ 1) (R : Rep w A c X st σ) (ha : At σ n τ) (hi : τ.dat = .inl i) (ret : ∀ t tk', κ (.int i t) ⟨c, X⟩ st tk') : Stp ⟨S, Y, w, A, k, true⟩ ⟨c, X⟩ st tk0 (call (.ref 348) [.ref A.b, .int n tk]) κ :=
  data_use_v s R ha fun v D tk' => by
    rw [hi] at D
    cases D
    exact ret _ _
theorem data_pair_v (s : Std ⟨S, Y, w, A, k, true⟩ 1) (R : Rep w A c X st σ) (ha : At σ n τ) (hi : τ.dat = .inr p) (ret : ∀ v, DatIn st v (.tuple [.int p.1, .int p.2]) → ∀ tk', κ v ⟨c, X⟩ st tk') : Stp ⟨S, Y, w, A, k, true⟩ ⟨c, X⟩ st tk0 (call (.ref 348) [.ref A.b, .int n tk]) κ :=
  data_use_v s R ha fun v D tk' => by
    rw [hi] at D
    exact ret _ D _
end
end
section
theorem pow1_ne (i : Nat) : (1 : Int) * (2 : Int) ^ ((i : Int)).toNat ≠ 0 := by
  rw [Int.one_mul]; exact Int.pow_ne_zero (by decide)
theorem mod_1 (n1 n2 : Nat) : ((n1 : Nat) : Int).fmod (1 * 2 ^ ((n2 : Nat) : Int).toNat) = ((n1 % 2 ^ n2 : Nat) : Int) := by
  rw [Int.one_mul, Int.toNat_natCast, Int.fmod_eq_emod_of_nonneg _ (by exact Int.le_of_lt (Int.pow_pos (by decide))), Int.natCast_emod, Int.natCast_pow]; rfl
theorem kr_vbank1 : True := by
  k_with_none
  k_with "cn" => first
    | (with_reducible refine Cnd.neg (by first | assumption | exact rfl) ?_) | (with_reducible refine Cnd.pos (by first | assumption | exact rfl) ?_)
    | (refine Cnd.neg (by kernel_rfl!) ?_) | (refine Cnd.pos (by kernel_rfl!) ?_)
    | (refine Cnd.pos (by (first | (simp only [bne_self_eq_false, beq_self_eq_true, beq_iff_eq, bne_iff_ne, ne_eq, beq_eq_false_iff_ne, decide_eq_true_eq, decide_eq_false_iff_not, Bool.not_eq_true', Bool.not_eq_false', Bool.not_true, Bool.not_false, Option.isSome_some, Option.isSome_none, not_false_eq_true, Bool.false_eq_true, reduceCtorEq, eq_self]; done) | ((try simp only [bne_self_eq_false, beq_self_eq_true, beq_iff_eq, bne_iff_ne, ne_eq, beq_eq_false_iff_ne, decide_eq_true_eq, decide_eq_false_iff_not, Bool.not_eq_true', Bool.not_eq_false', Bool.not_true, Bool.not_false, Option.isSome_some, Option.isSome_none, not_false_eq_true, Bool.false_eq_true, reduceCtorEq, eq_self]); first | with_reducible assumption | (law_purse 20000 => omega)))) ?_) | (refine Cnd.neg (by (first | (simp only [bne_self_eq_false, beq_self_eq_true, beq_iff_eq, bne_iff_ne, ne_eq, beq_eq_false_iff_ne, decide_eq_true_eq, decide_eq_false_iff_not, Bool.not_eq_true', Bool.not_eq_false', Bool.not_true, Bool.not_false, Option.isSome_some, Option.isSome_none, not_false_eq_true, Bool.false_eq_true, reduceCtorEq, eq_self]; done) | ((try simp only [bne_self_eq_false, beq_self_eq_true, beq_iff_eq, bne_iff_ne, ne_eq, beq_eq_false_iff_ne, decide_eq_true_eq, decide_eq_false_iff_not, Bool.not_eq_true', Bool.not_eq_false', Bool.not_true, Bool.not_false, Option.isSome_some, Option.isSome_none, not_false_eq_true, Bool.false_eq_true, reduceCtorEq, eq_self]); first | with_reducible assumption | (law_purse 20000 => omega)))) ?_)
  k_with "cj" => first
    | (with_reducible refine Conj.no (by first | assumption | exact rfl) ?_) | (with_reducible refine Conj.yes (by first | assumption | exact rfl) ?_)
    | (refine Conj.no (by kernel_rfl!) ?_) | (refine Conj.yes (by kernel_rfl!) ?_)
    | (refine Conj.yes (by (first | (simp only [bne_self_eq_false, beq_self_eq_true, beq_iff_eq, bne_iff_ne, ne_eq, beq_eq_false_iff_ne, decide_eq_true_eq, decide_eq_false_iff_not, Bool.not_eq_true', Bool.not_eq_false', Bool.not_true, Bool.not_false, Option.isSome_some, Option.isSome_none, not_false_eq_true, Bool.false_eq_true, reduceCtorEq, eq_self]; done) | ((try simp only [bne_self_eq_false, beq_self_eq_true, beq_iff_eq, bne_iff_ne, ne_eq, beq_eq_false_iff_ne, decide_eq_true_eq, decide_eq_false_iff_not, Bool.not_eq_true', Bool.not_eq_false', Bool.not_true, Bool.not_false, Option.isSome_some, Option.isSome_none, not_false_eq_true, Bool.false_eq_true, reduceCtorEq, eq_self]); first | with_reducible assumption | (law_purse 20000 => omega)))) ?_) | (refine Conj.no (by (first | (simp only [bne_self_eq_false, beq_self_eq_true, beq_iff_eq, bne_iff_ne, ne_eq, beq_eq_false_iff_ne, decide_eq_true_eq, decide_eq_false_iff_not, Bool.not_eq_true', Bool.not_eq_false', Bool.not_true, Bool.not_false, Option.isSome_some, Option.isSome_none, not_false_eq_true, Bool.false_eq_true, reduceCtorEq, eq_self]; done) | ((try simp only [bne_self_eq_false, beq_self_eq_true, beq_iff_eq, bne_iff_ne, ne_eq, beq_eq_false_iff_ne, decide_eq_true_eq, decide_eq_false_iff_not, Bool.not_eq_true', Bool.not_eq_false', Bool.not_true, Bool.not_false, Option.isSome_some, Option.isSome_none, not_false_eq_true, Bool.false_eq_true, reduceCtorEq, eq_self]); first | with_reducible assumption | (law_purse 20000 => omega)))) ?_)
  k_with "up" => (intro p9 h9; repeat' (first | exact h9 | refine List.mem_cons_of_mem _ ?_ | refine (show ∀ p ∈ _, p ∈ _ by assumption) _ ?_))
  k_with "vm1" => first
    | (refine (?_ : Stp _ _ _ _ _ _); k_extra "st")
    | (refine (?_ : Cnd _ _ _); k_extra "cn")
    | (refine (?_ : Conj _ _ _ _ _ _ _ _); k_extra "cj")
    | (refine (?_ : Sub _ _ _ _ _ _ _); k_extra "sb")
    | (refine (?_ : Tp _ _ _ _ _ _); refine' tp_v ?R ?_; (case R => assumption); intro b9 R9)
    | k_extra "vm9" 
  k_with "sb" => (refine' sub_v ?hd ?hx ?_; (case hd => first | assumption | exact datUp (by assumption) (by k_extra "up")); (case hx => exact rfl); intro t9)
  k_with "vm" => (repeat' (k_extra "vm1"))
  k_with "st" => ((with_reducible refine' op_use_v ?s ?R ?ha ?_); (case s => exact Std.le (by assumption) (by lia)); (case R => assumption); (case ha => first | assumption | exact at_ix (by assumption) | exact Ext.at (by assumption) (by first | assumption | exact at_ix (by assumption)));  intro t9 tk9)
  k_with "st" => ((with_reducible refine' args_use_v ?s ?R ?ha ?_); (case s => exact Std.le (by assumption) (by lia)); (case R => assumption); (case ha => first | assumption | exact at_ix (by assumption) | exact Ext.at (by assumption) (by first | assumption | exact at_ix (by assumption)));  intro v9 D9 tk9)
  k_with "st" => ((with_reducible refine' width_use_v ?s ?R ?ha ?_); (case s => exact Std.le (by assumption) (by lia)); (case R => assumption); (case ha => first | assumption | exact at_ix (by assumption) | exact Ext.at (by assumption) (by first | assumption | exact at_ix (by assumption)));  intro t9 tk9)
  k_with "st" => ((with_reducible refine' sort_use_v ?s ?R ?ha ?_); (case s => exact Std.le (by assumption) (by lia)); (case R => assumption); (case ha => first | assumption | exact at_ix (by assumption) | exact Ext.at (by assumption) (by first | assumption | exact at_ix (by assumption)));  intro t9 tk9)
  k_with "st" => ((with_reducible refine' data_pair_v ?s ?R ?ha ?hi ?_); (case s => exact Std.le (by assumption) (by lia)); (case R => assumption); (case ha => first | assumption | exact at_ix (by assumption) | exact Ext.at (by assumption) (by first | assumption | exact at_ix (by assumption))); (case hi => exact rfl);  intro v9 D9 tk9)
  k_with "st" => ((with_reducible refine' data_int_v ?s ?R ?ha ?hi ?_); (case s => exact Std.le (by assumption) (by lia)); (case R => assumption); (case ha => first | assumption | exact at_ix (by assumption) | exact Ext.at (by assumption) (by first | assumption | exact at_ix (by assumption))); (case hi => exact rfl);  intro t9 tk9)
  k_with "st" => ((with_reducible refine' bool_term_use_v ?s  ?_); (case s => exact Std.le (by assumption) (by lia));  intro t9 tk9)
  k_with "st" => ((with_reducible refine' att_to_v ?s ?_); (case s => assumption))
  k_with "st" => ((with_reducible refine' att_ta_v ?s ?_); (case s => assumption))
  k_with "st" => ((with_reducible refine' att_ts_v ?s ?_); (case s => assumption))
  k_with "st" => ((with_reducible refine' att_tt_v ?s ?_); (case s => assumption))
  k_with "st" => ((with_reducible refine' att_ff_v ?s ?_); (case s => assumption))
  k_with "sb" => ((with_reducible refine' sub_to_v ?R ?ha ?_); (case R => assumption); (case ha => first | assumption | exact at_ix (by assumption) | exact Ext.at (by assumption) (by first | assumption | exact at_ix (by assumption))); intro t9)
  k_with "sb" => ((with_reducible refine' sub_ts_v ?R ?ha ?_); (case R => assumption); (case ha => first | assumption | exact at_ix (by assumption) | exact Ext.at (by assumption) (by first | assumption | exact at_ix (by assumption))); intro t9)
  k_with "sb" => ((with_reducible refine' sub_ta_v ?R ?ha ?_); (case R => assumption); (case ha => first | assumption | exact at_ix (by assumption) | exact Ext.at (by assumption) (by first | assumption | exact at_ix (by assumption))); intro v9 D9)
  k_with "vm9" => (refine (?_ : ∀ _ : Tok, _); intro t9)
  k_with "st" => ((with_reducible refine' sort_go_v ?s ?R ?W ?hi ?hx ?_); (case s => exact Std.le (by assumption) (by lia)); (case R => assumption); (case W => assumption); (case hi => first | rfl | lia); (case hx => first | assumption | lia); intro t9 c9 σ9 tk9 R9 X9 f9 w9; have l9 := Ext.len X9)
  k_with "st" => ((with_reducible refine' lsh_v ?za ?zb ?zc ?_); (case za => first | decide | lia); (case zb => first | decide | lia); (case zc => first | decide | lia); intro t9 tk9)
  k_with "st" => ((with_reducible refine' mod_v ?za ?_); (case za => first | decide | exact pow1_ne _ | lia); intro t9 tk9)
  trivial
section
variable {S : Sc} {Y : Cx} {w : World} {A : Ba} {c : Bc} {k : Mk} {ko : Option Mk} {X st : Led} {σ : St} {n n1 n2 n3 n4 n5 v m1 i1 tk0 : Nat} {i j : Int} {τ τ1 τ2 x y : T} {tk tk1 tk2 tk3 : Tok} {κ : KO Value}
theorem want_bits_v (s : Std ⟨S, Y, w, A, ko, true⟩ 2) (R : Rep w A c X st σ) {va : Value} (ha : At σ n τ) (hw : 0 < τ.wd) 
    (ret : ∀  tk', κ (.none) ⟨c, X⟩ st tk') :
    Stp ⟨S, Y, w, A, ko, true⟩ ⟨c, X⟩ st tk0 (call (.ref 668) [.ref A.b, .int n tk, va]) κ := by
  refine def_want_bits.enter s (D' := 1) (by lia) rfl ⟨rfl, trivial⟩ rfl (by decide) fun Y2 s2 fin => ?_
  k_extra "vm"
  exact fin _ _ _ _ (ret _)
theorem want_v (s : Std ⟨S, Y, w, A, ko, true⟩ 2) (R : Rep w A c X st σ) {va : Value} (ha : At σ n τ) (hi : i = (σ.sx τ.wd : Nat))
    (ret : ∀  tk', κ (.none) ⟨c, X⟩ st tk') :
    Stp ⟨S, Y, w, A, ko, true⟩ ⟨c, X⟩ st tk0 (call (.ref 390) [.ref A.b, .int n tk, .int i tk1, va]) κ := by
  subst hi
  refine def_want.enter s (D' := 1) (by lia) rfl ⟨rfl, trivial⟩ rfl (by decide) fun Y2 s2 fin => ?_
  k_extra "vm"
  exact fin _ _ _ _ (ret _)
end
theorem kr_vbank2 : True := by
  k_with_none
  k_with "cn" => first
    | (with_reducible refine Cnd.neg (by first | assumption | exact rfl) ?_) | (with_reducible refine Cnd.pos (by first | assumption | exact rfl) ?_)
    | (refine Cnd.neg (by kernel_rfl!) ?_) | (refine Cnd.pos (by kernel_rfl!) ?_)
    | (refine Cnd.pos (by (first | (simp only [bne_self_eq_false, beq_self_eq_true, beq_iff_eq, bne_iff_ne, ne_eq, beq_eq_false_iff_ne, decide_eq_true_eq, decide_eq_false_iff_not, Bool.not_eq_true', Bool.not_eq_false', Bool.not_true, Bool.not_false, Option.isSome_some, Option.isSome_none, not_false_eq_true, Bool.false_eq_true, reduceCtorEq, eq_self]; done) | ((try simp only [bne_self_eq_false, beq_self_eq_true, beq_iff_eq, bne_iff_ne, ne_eq, beq_eq_false_iff_ne, decide_eq_true_eq, decide_eq_false_iff_not, Bool.not_eq_true', Bool.not_eq_false', Bool.not_true, Bool.not_false, Option.isSome_some, Option.isSome_none, not_false_eq_true, Bool.false_eq_true, reduceCtorEq, eq_self]); first | with_reducible assumption | (law_purse 20000 => omega)))) ?_) | (refine Cnd.neg (by (first | (simp only [bne_self_eq_false, beq_self_eq_true, beq_iff_eq, bne_iff_ne, ne_eq, beq_eq_false_iff_ne, decide_eq_true_eq, decide_eq_false_iff_not, Bool.not_eq_true', Bool.not_eq_false', Bool.not_true, Bool.not_false, Option.isSome_some, Option.isSome_none, not_false_eq_true, Bool.false_eq_true, reduceCtorEq, eq_self]; done) | ((try simp only [bne_self_eq_false, beq_self_eq_true, beq_iff_eq, bne_iff_ne, ne_eq, beq_eq_false_iff_ne, decide_eq_true_eq, decide_eq_false_iff_not, Bool.not_eq_true', Bool.not_eq_false', Bool.not_true, Bool.not_false, Option.isSome_some, Option.isSome_none, not_false_eq_true, Bool.false_eq_true, reduceCtorEq, eq_self]); first | with_reducible assumption | (law_purse 20000 => omega)))) ?_)
  k_with "cj" => first
    | (with_reducible refine Conj.no (by first | assumption | exact rfl) ?_) | (with_reducible refine Conj.yes (by first | assumption | exact rfl) ?_)
    | (refine Conj.no (by kernel_rfl!) ?_) | (refine Conj.yes (by kernel_rfl!) ?_)
    | (refine Conj.yes (by (first | (simp only [bne_self_eq_false, beq_self_eq_true, beq_iff_eq, bne_iff_ne, ne_eq, beq_eq_false_iff_ne, decide_eq_true_eq, decide_eq_false_iff_not, Bool.not_eq_true', Bool.not_eq_false', Bool.not_true, Bool.not_false, Option.isSome_some, Option.isSome_none, not_false_eq_true, Bool.false_eq_true, reduceCtorEq, eq_self]; done) | ((try simp only [bne_self_eq_false, beq_self_eq_true, beq_iff_eq, bne_iff_ne, ne_eq, beq_eq_false_iff_ne, decide_eq_true_eq, decide_eq_false_iff_not, Bool.not_eq_true', Bool.not_eq_false', Bool.not_true, Bool.not_false, Option.isSome_some, Option.isSome_none, not_false_eq_true, Bool.false_eq_true, reduceCtorEq, eq_self]); first | with_reducible assumption | (law_purse 20000 => omega)))) ?_) | (refine Conj.no (by (first | (simp only [bne_self_eq_false, beq_self_eq_true, beq_iff_eq, bne_iff_ne, ne_eq, beq_eq_false_iff_ne, decide_eq_true_eq, decide_eq_false_iff_not, Bool.not_eq_true', Bool.not_eq_false', Bool.not_true, Bool.not_false, Option.isSome_some, Option.isSome_none, not_false_eq_true, Bool.false_eq_true, reduceCtorEq, eq_self]; done) | ((try simp only [bne_self_eq_false, beq_self_eq_true, beq_iff_eq, bne_iff_ne, ne_eq, beq_eq_false_iff_ne, decide_eq_true_eq, decide_eq_false_iff_not, Bool.not_eq_true', Bool.not_eq_false', Bool.not_true, Bool.not_false, Option.isSome_some, Option.isSome_none, not_false_eq_true, Bool.false_eq_true, reduceCtorEq, eq_self]); first | with_reducible assumption | (law_purse 20000 => omega)))) ?_)
  k_with "up" => (intro p9 h9; repeat' (first | exact h9 | refine List.mem_cons_of_mem _ ?_ | refine (show ∀ p ∈ _, p ∈ _ by assumption) _ ?_))
  k_with "vm1" => first
    | (refine (?_ : Stp _ _ _ _ _ _); k_extra "st")
    | (refine (?_ : Cnd _ _ _); k_extra "cn")
    | (refine (?_ : Conj _ _ _ _ _ _ _ _); k_extra "cj")
    | (refine (?_ : Sub _ _ _ _ _ _ _); k_extra "sb")
    | (refine (?_ : Tp _ _ _ _ _ _); refine' tp_v ?R ?_; (case R => assumption); intro b9 R9)
    | k_extra "vm9" 
  k_with "sb" => (refine' sub_v ?hd ?hx ?_; (case hd => first | assumption | exact datUp (by assumption) (by k_extra "up")); (case hx => exact rfl); intro t9)
  k_with "vm" => (repeat' (k_extra "vm1"))
  k_with "st" => ((with_reducible refine' op_use_v ?s ?R ?ha ?_); (case s => exact Std.le (by assumption) (by lia)); (case R => assumption); (case ha => first | assumption | exact at_ix (by assumption) | exact Ext.at (by assumption) (by first | assumption | exact at_ix (by assumption)));  intro t9 tk9)
  k_with "st" => ((with_reducible refine' args_use_v ?s ?R ?ha ?_); (case s => exact Std.le (by assumption) (by lia)); (case R => assumption); (case ha => first | assumption | exact at_ix (by assumption) | exact Ext.at (by assumption) (by first | assumption | exact at_ix (by assumption)));  intro v9 D9 tk9)
  k_with "st" => ((with_reducible refine' width_use_v ?s ?R ?ha ?_); (case s => exact Std.le (by assumption) (by lia)); (case R => assumption); (case ha => first | assumption | exact at_ix (by assumption) | exact Ext.at (by assumption) (by first | assumption | exact at_ix (by assumption)));  intro t9 tk9)
  k_with "st" => ((with_reducible refine' sort_use_v ?s ?R ?ha ?_); (case s => exact Std.le (by assumption) (by lia)); (case R => assumption); (case ha => first | assumption | exact at_ix (by assumption) | exact Ext.at (by assumption) (by first | assumption | exact at_ix (by assumption)));  intro t9 tk9)
  k_with "st" => ((with_reducible refine' data_pair_v ?s ?R ?ha ?hi ?_); (case s => exact Std.le (by assumption) (by lia)); (case R => assumption); (case ha => first | assumption | exact at_ix (by assumption) | exact Ext.at (by assumption) (by first | assumption | exact at_ix (by assumption))); (case hi => exact rfl);  intro v9 D9 tk9)
  k_with "st" => ((with_reducible refine' data_int_v ?s ?R ?ha ?hi ?_); (case s => exact Std.le (by assumption) (by lia)); (case R => assumption); (case ha => first | assumption | exact at_ix (by assumption) | exact Ext.at (by assumption) (by first | assumption | exact at_ix (by assumption))); (case hi => exact rfl);  intro t9 tk9)
  k_with "st" => ((with_reducible refine' bool_term_use_v ?s  ?_); (case s => exact Std.le (by assumption) (by lia));  intro t9 tk9)
  k_with "st" => ((with_reducible refine' att_to_v ?s ?_); (case s => assumption))
  k_with "st" => ((with_reducible refine' att_ta_v ?s ?_); (case s => assumption))
  k_with "st" => ((with_reducible refine' att_ts_v ?s ?_); (case s => assumption))
  k_with "st" => ((with_reducible refine' att_tt_v ?s ?_); (case s => assumption))
  k_with "st" => ((with_reducible refine' att_ff_v ?s ?_); (case s => assumption))
  k_with "sb" => ((with_reducible refine' sub_to_v ?R ?ha ?_); (case R => assumption); (case ha => first | assumption | exact at_ix (by assumption) | exact Ext.at (by assumption) (by first | assumption | exact at_ix (by assumption))); intro t9)
  k_with "sb" => ((with_reducible refine' sub_ts_v ?R ?ha ?_); (case R => assumption); (case ha => first | assumption | exact at_ix (by assumption) | exact Ext.at (by assumption) (by first | assumption | exact at_ix (by assumption))); intro t9)
  k_with "sb" => ((with_reducible refine' sub_ta_v ?R ?ha ?_); (case R => assumption); (case ha => first | assumption | exact at_ix (by assumption) | exact Ext.at (by assumption) (by first | assumption | exact at_ix (by assumption))); intro v9 D9)
  k_with "vm9" => (refine (?_ : ∀ _ : Tok, _); intro t9)
  k_with "st" => ((with_reducible refine' sort_go_v ?s ?R ?W ?hi ?hx ?_); (case s => exact Std.le (by assumption) (by lia)); (case R => assumption); (case W => assumption); (case hi => first | rfl | lia); (case hx => first | assumption | lia); intro t9 c9 σ9 tk9 R9 X9 f9 w9; have l9 := Ext.len X9)
  k_with "st" => ((with_reducible refine' lsh_v ?za ?zb ?zc ?_); (case za => first | decide | lia); (case zb => first | decide | lia); (case zc => first | decide | lia); intro t9 tk9)
  k_with "st" => ((with_reducible refine' mod_v ?za ?_); (case za => first | decide | exact pow1_ne _ | lia); intro t9 tk9)
  k_with "st" => ((with_reducible refine' want_bits_v ?s ?R ?ha ?hw ?_); (case s => exact Std.le (by assumption) (by lia)); (case R => assumption); (case ha => first | assumption | exact at_ix (by assumption) | exact Ext.at (by assumption) (by first | assumption | exact at_ix (by assumption))); (case hw => first | assumption | lia);  intro tk9)
  k_with "st" => ((with_reducible refine' want_v ?s ?R ?ha ?hi ?_); (case s => exact Std.le (by assumption) (by lia)); (case R => assumption); (case ha => first | assumption | exact at_ix (by assumption) | exact Ext.at (by assumption) (by first | assumption | exact at_ix (by assumption))); (case hi => first | exact rfl | assumption);  intro tk9)
  trivial
section
variable {S : Sc} {Y : Cx} {w : World} {A : Ba} {c : Bc} {k : Mk} {ko : Option Mk} {X st : Led} {σ : St} {n n1 n2 n3 n4 n5 v m1 i1 tk0 : Nat} {i j : Int} {τ τ1 τ2 x y : T} {tk tk1 tk2 tk3 : Tok} {κ : KO Value}
theorem zx_go_v (s : Std ⟨S, Y, w, A, ko, true⟩ 4) (R : Rep w A c X st σ) (W : WantW m1) (hj : j = (m1 : Nat)) (ha : At σ n τ) (hw : 0 < τ.wd) (hr : σ.ts.length + 1 ≤ 2 ^ 20) (hm : 1 ≤ m1) (hb : τ.wd + m1 ≤ 4096)
    (ret : ∀ n' t c' st' σ' tk', Gr st st' → Rep w A c' X st' σ' → Ext σ σ' (1) → At σ' n' (.zx m1 τ) → κ (.int (n' : Nat) t) ⟨c', X⟩ st' tk') :
    Stp ⟨S, Y, w, A, ko, true⟩ ⟨c, X⟩ st tk0 (call (.ref 710) [.ref A.b, .int j tk1, .int n tk]) κ := by
  subst hj
  have W : WantW (τ.wd + m1) := trivial
  refine def_zero_extend.enter s (D' := 3) (by lia) rfl ⟨rfl, trivial⟩ rfl (by decide) fun Y2 s2 fin => ?_
  k_extra "vm"
  refine make_v (.zx m1 τ) (s2.le (by lia)) (by assumption) rfl (rfl) (⟨by simp only [T.kids, List.mem_cons, List.not_mem_nil, or_false, forall_eq]; exact ((‹Ext σ _ 0›).at ha).mem, .inr (by assumption)⟩) (by simp) (by have := (‹Ext σ _ 0›).len; lia) (DatIn.tuple (List.Mem.head _) (DatAll.one (.int _ _))) (by simp only [T.kids, List.map_cons, List.map_nil]; rw [At.ix (‹Rep w A _ X (_ :: st) _›).ok ((‹Ext σ _ 0›).at ha)]) (.int _ _) ?_
  intro n8 t8 c8 st8 σ8 tk8 hs8 R8 X8 A8
  k_extra "vm"
  exact fin _ _ _ _ (ret _ _ _ _ _ _ (by k_extra "up") (by assumption) (((‹Ext σ _ 0›).trans X8).le (by lia)) (by assumption))
theorem sx_go_v (s : Std ⟨S, Y, w, A, ko, true⟩ 4) (R : Rep w A c X st σ) (W : WantW m1) (hj : j = (m1 : Nat)) (ha : At σ n τ) (hw : 0 < τ.wd) (hr : σ.ts.length + 1 ≤ 2 ^ 20) (hm : 1 ≤ m1) (hb : τ.wd + m1 ≤ 4096)
    (ret : ∀ n' t c' st' σ' tk', Gr st st' → Rep w A c' X st' σ' → Ext σ σ' (1) → At σ' n' (.sx m1 τ) → κ (.int (n' : Nat) t) ⟨c', X⟩ st' tk') :
    Stp ⟨S, Y, w, A, ko, true⟩ ⟨c, X⟩ st tk0 (call (.ref 717) [.ref A.b, .int j tk1, .int n tk]) κ := by
  subst hj
  have W : WantW (τ.wd + m1) := trivial
  refine def_sign_extend.enter s (D' := 3) (by lia) rfl ⟨rfl, trivial⟩ rfl (by decide) fun Y2 s2 fin => ?_
  k_extra "vm"
  refine make_v (.sx m1 τ) (s2.le (by lia)) (by assumption) rfl (rfl) (⟨by simp only [T.kids, List.mem_cons, List.not_mem_nil, or_false, forall_eq]; exact ((‹Ext σ _ 0›).at ha).mem, .inr (by assumption)⟩) (by simp) (by have := (‹Ext σ _ 0›).len; lia) (DatIn.tuple (List.Mem.head _) (DatAll.one (.int _ _))) (by simp only [T.kids, List.map_cons, List.map_nil]; rw [At.ix (‹Rep w A _ X (_ :: st) _›).ok ((‹Ext σ _ 0›).at ha)]) (.int _ _) ?_
  intro n8 t8 c8 st8 σ8 tk8 hs8 R8 X8 A8
  k_extra "vm"
  exact fin _ _ _ _ (ret _ _ _ _ _ _ (by k_extra "up") (by assumption) (((‹Ext σ _ 0›).trans X8).le (by lia)) (by assumption))
theorem bit_use_v (s : Std ⟨S, Y, w, A, ko, true⟩ 4) (R : Rep w A c X st σ) (ha : At σ n τ) (hw : 0 < τ.wd) (hr : σ.ts.length + 1 ≤ 2 ^ 20) (hm : m1 < τ.wd)
    (ret : ∀ n' t c' st' σ' tk', Gr st st' → Rep w A c' X st' σ' → Ext σ σ' (1) → At σ' n' (.bit m1 τ) → κ (.int (n' : Nat) t) ⟨c', X⟩ st' tk') :
    Stp ⟨S, Y, w, A, ko, true⟩ ⟨c, X⟩ st tk0 (call (.ref 731) [.ref A.b, .int (m1 : Nat) tk1, .int n tk]) κ := by
  refine def_bit.enter s (D' := 3) (by lia) rfl ⟨rfl, trivial⟩ rfl (by decide) fun Y2 s2 fin => ?_
  k_extra "vm"
  refine make_v (.bit m1 τ) (s2.le (by lia)) (by assumption) rfl (rfl) (⟨by simp only [T.kids, List.mem_cons, List.not_mem_nil, or_false, forall_eq]; exact ha.mem, .inl rfl⟩) (by simp) (by lia) (DatIn.tuple (List.Mem.head _) (DatAll.one (.int _ _))) (by simp only [T.kids, List.map_cons, List.map_nil]; rw [At.ix R.ok ha]) (.int _ _) ?_
  intro n8 t8 c8 st8 σ8 tk8 hs8 R8 X8 A8
  k_extra "vm"
  exact fin _ _ _ _ (ret _ _ _ _ _ _ (by k_extra "up") (by assumption) (X8) (by assumption))
theorem bvnot_use_v (s : Std ⟨S, Y, w, A, ko, true⟩ 4) (R : Rep w A c X st σ) (ha : At σ n τ) (hw : 0 < τ.wd) (hr : σ.ts.length + 1 ≤ 2 ^ 20)
    (ret : ∀ n' t c' st' σ' tk', Gr st st' → Rep w A c' X st' σ' → Ext σ σ' (1) → At σ' n' (.bnot τ) → κ (.int (n' : Nat) t) ⟨c', X⟩ st' tk') :
    Stp ⟨S, Y, w, A, ko, true⟩ ⟨c, X⟩ st tk0 (call (.ref 682) [.ref A.b, .str (Str.ofString "bvnot") tk1, .int n tk]) κ := by
  refine def_bv_one.enter s (D' := 3) (by lia) rfl ⟨rfl, trivial⟩ rfl (by decide) fun Y2 s2 fin => ?_
  k_extra "vm"
  refine make_v (.bnot τ) (s2.le (by lia)) (by assumption) rfl (rfl) (⟨by simp only [T.kids, List.mem_cons, List.not_mem_nil, or_false, forall_eq]; exact ha.mem, (show τ.wd = 0 ∨ τ.wd ∈ σ.ws from R.ok.wi _ ha.mem)⟩) (by simp) (by lia) (DatIn.tuple (List.Mem.head _) (DatAll.one (.int _ _))) (by simp only [T.kids, List.map_cons, List.map_nil]; rw [At.ix R.ok ha]) (.int _ _) ?_
  intro n8 t8 c8 st8 σ8 tk8 hs8 R8 X8 A8
  k_extra "vm"
  exact fin _ _ _ _ (ret _ _ _ _ _ _ (by k_extra "up") (by assumption) (X8) (by assumption))
theorem concat_use_v (s : Std ⟨S, Y, w, A, ko, true⟩ 4) (R : Rep w A c X st σ) (ha : At σ n τ) (hw : 0 < τ.wd) (hr : σ.ts.length + 1 ≤ 2 ^ 20) (ha2 : At σ n2 τ2) (hw2 : 0 < τ2.wd) (hb : τ.wd + τ2.wd ≤ 4096)
    (ret : ∀ n' t c' st' σ' tk', Gr st st' → Rep w A c' X st' σ' → Ext σ σ' (1) → At σ' n' (.cat τ τ2) → κ (.int (n' : Nat) t) ⟨c', X⟩ st' tk') :
    Stp ⟨S, Y, w, A, ko, true⟩ ⟨c, X⟩ st tk0 (call (.ref 696) [.ref A.b, .int n tk, .int n2 tk2]) κ := by
  have W : WantW (τ.wd + τ2.wd) := trivial
  refine def_concat.enter s (D' := 3) (by lia) rfl ⟨rfl, trivial⟩ rfl (by decide) fun Y2 s2 fin => ?_
  k_extra "vm"
  refine make_v (.cat τ τ2) (s2.le (by lia)) (by assumption) rfl (rfl) (⟨by simp only [T.kids, List.mem_cons, List.not_mem_nil, or_false, forall_eq_or_imp, forall_eq]; exact ⟨((‹Ext σ _ 0›).at ha).mem, ((‹Ext σ _ 0›).at ha2).mem⟩, .inr (by assumption)⟩) (by simp) (by have := (‹Ext σ _ 0›).len; lia) (DatIn.tuple (List.Mem.head _) (DatAll.cons (.int _ _) (DatAll.one (.int _ _)))) (by simp only [T.kids, List.map_cons, List.map_nil]; rw [At.ix (‹Rep w A _ X (_ :: st) _›).ok ((‹Ext σ _ 0›).at ha), At.ix (‹Rep w A _ X (_ :: st) _›).ok ((‹Ext σ _ 0›).at ha2)]) (.int _ _) ?_
  intro n8 t8 c8 st8 σ8 tk8 hs8 R8 X8 A8
  k_extra "vm"
  exact fin _ _ _ _ (ret _ _ _ _ _ _ (by k_extra "up") (by assumption) (((‹Ext σ _ 0›).trans X8).le (by lia)) (by assumption))
theorem extract_use_v (s : Std ⟨S, Y, w, A, ko, true⟩ 4) (R : Rep w A c X st σ) (ha : At σ n τ) (hw : 0 < τ.wd) (hr : σ.ts.length + 1 ≤ 2 ^ 20) (hl : n2 ≤ n1) (hh : n1 < τ.wd) (hb : τ.wd ≤ 4096)
    (ret : ∀ n' t c' st' σ' tk', Gr st st' → Rep w A c' X st' σ' → Ext σ σ' (1) → At σ' n' (.ext n1 n2 τ) → κ (.int (n' : Nat) t) ⟨c', X⟩ st' tk') :
    Stp ⟨S, Y, w, A, ko, true⟩ ⟨c, X⟩ st tk0 (call (.ref 703) [.ref A.b, .int (n1 : Nat) tk1, .int (n2 : Nat) tk2, .int n tk]) κ := by
  have W : WantW (n1 - n2 + 1) := trivial
  refine def_extract.enter s (D' := 3) (by lia) rfl ⟨rfl, trivial⟩ rfl (by decide) fun Y2 s2 fin => ?_
  k_extra "vm"
  refine make_v (.ext n1 n2 τ) (s2.le (by lia)) (by assumption) rfl (rfl) (⟨by simp only [T.kids, List.mem_cons, List.not_mem_nil, or_false, forall_eq]; exact ((‹Ext σ _ 0›).at ha).mem, .inr (by assumption)⟩) (by simp) (by have := (‹Ext σ _ 0›).len; lia) (DatIn.tuple (.tail _ (List.Mem.head _)) (DatAll.one (.int _ _))) (by simp only [T.kids, List.map_cons, List.map_nil]; rw [At.ix (‹Rep w A _ X (_ :: _ :: st) _›).ok ((‹Ext σ _ 0›).at ha)]) (DatIn.tuple (List.Mem.head _) (DatAll.cons (.int _ _) (DatAll.one (.int _ _)))) ?_
  intro n8 t8 c8 st8 σ8 tk8 hs8 R8 X8 A8
  k_extra "vm"
  exact fin _ _ _ _ (ret _ _ _ _ _ _ (by k_extra "up") (by assumption) (((‹Ext σ _ 0›).trans X8).le (by lia)) (by assumption))
theorem bv_num_j_v (s : Std ⟨S, Y, w, A, ko, true⟩ 4) (R : Rep w A c X st σ) {j0 : Int} {x : Nat} (e : j0 = (n1 : Nat)) (W : WantW x) (hj : j = (x : Nat)) (hr : σ.ts.length + 1 ≤ 2 ^ 20) (hx : 1 ≤ x ∧ x ≤ 40)
    (ret : ∀ n' t c' st' σ' tk', Gr st st' → Rep w A c' X st' σ' → Ext σ σ' (1) → At σ' n' (.num (n1 % 2 ^ x) x) → κ (.int (n' : Nat) t) ⟨c', X⟩ st' tk') :
    Stp ⟨S, Y, w, A, ko, true⟩ ⟨c, X⟩ st tk0 (call (.ref 675) [.ref A.b, .int j0 tk1, .int j tk2]) κ := by
  subst e hj
  refine def_bv_num.enter s (D' := 3) (by lia) rfl ⟨rfl, trivial⟩ rfl (by decide) fun Y2 s2 fin => ?_
  k_extra "vm"
  rw [mod_1]
  refine make_v (ns := []) (.num (n1 % 2 ^ x) x) (s2.le (by lia)) (by assumption) rfl (rfl) (⟨by simp [T.kids], .inr (by assumption)⟩) (by simp) (by have := (‹Ext σ _ 0›).len; lia) (DatIn.tuple (List.Mem.head _) DatAll.nil) (by simp [T.kids]) (.int _ _) ?_
  intro n8 t8 c8 st8 σ8 tk8 hs8 R8 X8 A8
  k_extra "vm"
  exact fin _ _ _ _ (ret _ _ _ _ _ _ (by k_extra "up") (by assumption) (((‹Ext σ _ 0›).trans X8).le (by lia)) (by assumption))
theorem not_tt_v (s : Std ⟨S, Y, w, A, ko, true⟩ 4) (R : Rep w A c X st σ) (ha : At σ n .tt) (hr : σ.ts.length + 1 ≤ 2 ^ 20)
    (ret : ∀ n' t c' st' σ' tk', Gr st st' → Rep w A c' X st' σ' → Ext σ σ' (1) → At σ' n' (.ff) → κ (.int (n' : Nat) t) ⟨c', X⟩ st' tk') :
    Stp ⟨S, Y, w, A, ko, true⟩ ⟨c, X⟩ st tk0 (call (.ref 453) [.ref A.b, .int n tk]) κ := by
  have hn : n = 1 := At.uniq R.ok ha R.ok.n1
  have e0 : ((n : Nat) : Int) = 1 := by lia
  refine def_not_of.enter s (D' := 3) (by lia) rfl ⟨rfl, trivial⟩ rfl (by decide) fun Y2 s2 fin => ?_
  k_extra "vm"
  exact fin _ _ _ _ (ret 2 _ _ st σ _ (fun _ h => h) R (Ext.refl _ _) R.ok.n2)
theorem not_ff_v (s : Std ⟨S, Y, w, A, ko, true⟩ 4) (R : Rep w A c X st σ) (ha : At σ n .ff) (hr : σ.ts.length + 1 ≤ 2 ^ 20)
    (ret : ∀ n' t c' st' σ' tk', Gr st st' → Rep w A c' X st' σ' → Ext σ σ' (1) → At σ' n' (.tt) → κ (.int (n' : Nat) t) ⟨c', X⟩ st' tk') :
    Stp ⟨S, Y, w, A, ko, true⟩ ⟨c, X⟩ st tk0 (call (.ref 453) [.ref A.b, .int n tk]) κ := by
  have hn : n = 2 := At.uniq R.ok ha R.ok.n2
  have e0 : ((n : Nat) : Int) = 2 := by lia
  have e1 : ¬ ((n : Nat) : Int) = 1 := by lia
  refine def_not_of.enter s (D' := 3) (by lia) rfl ⟨rfl, trivial⟩ rfl (by decide) fun Y2 s2 fin => ?_
  k_extra "vm"
  exact fin _ _ _ _ (ret 1 _ _ st σ _ (fun _ h => h) R (Ext.refl _ _) R.ok.n1)
theorem not_neg_v (s : Std ⟨S, Y, w, A, ko, true⟩ 4) (R : Rep w A c X st σ) (ha : At σ n (.neg τ)) (hr : σ.ts.length + 1 ≤ 2 ^ 20)
    (ret : ∀ n' t c' st' σ' tk', Gr st st' → Rep w A c' X st' σ' → Ext σ σ' (1) → At σ' n' (τ) → κ (.int (n' : Nat) t) ⟨c', X⟩ st' tk') :
    Stp ⟨S, Y, w, A, ko, true⟩ ⟨c, X⟩ st tk0 (call (.ref 453) [.ref A.b, .int n tk]) κ := by
  refine def_not_of.enter s (D' := 3) (by lia) rfl ⟨rfl, trivial⟩ rfl (by decide) fun Y2 s2 fin => ?_
  k_extra "vm"
  exact fin _ _ _ _ (ret (σ.ix τ) _ _ st σ _ (fun _ h => h) R (Ext.refl _ _) (at_ix (R.ok.cl _ ha.mem τ (.head _))))
theorem not_bit_v (s : Std ⟨S, Y, w, A, ko, true⟩ 4) (R : Rep w A c X st σ) (ha : At σ n (.bit n1 τ)) (hr : σ.ts.length + 1 ≤ 2 ^ 20)
    (ret : ∀ n' t c' st' σ' tk', Gr st st' → Rep w A c' X st' σ' → Ext σ σ' (1) → At σ' n' (.neg (.bit n1 τ)) → κ (.int (n' : Nat) t) ⟨c', X⟩ st' tk') :
    Stp ⟨S, Y, w, A, ko, true⟩ ⟨c, X⟩ st tk0 (call (.ref 453) [.ref A.b, .int n tk]) κ := by
  have hn1 : ¬ ((n : Nat) : Int) = 1 := fun e => by (have e' : n = 1 := by lia); subst e'; cases At.inj ha R.ok.n1
  have hn2 : ¬ ((n : Nat) : Int) = 2 := fun e => by (have e' : n = 2 := by lia); subst e'; cases At.inj ha R.ok.n2
  refine def_not_of.enter s (D' := 3) (by lia) rfl ⟨rfl, trivial⟩ rfl (by decide) fun Y2 s2 fin => ?_
  k_extra "vm"
  refine make_v (.neg (.bit n1 τ)) (s2.le (by lia)) (by assumption) rfl (rfl) (fits_neg R.ok ha.mem) (by simp) (by lia) (DatIn.tuple (List.Mem.head _) (DatAll.one (.int _ _))) (by simp only [T.kids, List.map_cons, List.map_nil]; rw [At.ix R.ok ha]) (.int _ _) ?_
  intro n8 t8 c8 st8 σ8 tk8 hs8 R8 X8 A8
  k_extra "vm"
  exact fin _ _ _ _ (ret _ _ _ _ _ _ (by k_extra "up") (by assumption) (X8) (by assumption))
end
end
section
theorem toNat_cast (n : Nat) : ((n : Nat) : Int).toNat = n := rfl
theorem pow_cast (n : Nat) : ((2 : Int) ^ n) = ((2 ^ n : Nat) : Int) := by rw [Int.natCast_pow]; rfl
theorem fdiv_cast (a n : Nat) : ((a : Nat) : Int).fdiv (2 ^ n) = ((a / 2 ^ n : Nat) : Int) := by
  rw [pow_cast, Int.fdiv_eq_ediv_of_nonneg _ (Int.natCast_nonneg _), Int.natCast_ediv]
theorem bitOr_nat (a b : Nat) : Builtin.bitOr (a : Nat) (b : Nat) = ((a ||| b : Nat) : Int) := by
  unfold Builtin.bitOr
  rw [bitAnd_nn (by unfold Builtin.bitNot; omega) (by unfold Builtin.bitNot; omega)]
  have h : ∀ n : Nat, (Builtin.bitNot (Builtin.bitNot (n : Int))).toNat = n := fun n => by unfold Builtin.bitNot; omega
  rw [h, h]
  unfold Builtin.bitNot
  omega
theorem or_low {a b n : Nat} (h : b < 2 ^ n) : (a * 2 ^ n) ||| b = a * 2 ^ n + b := by
  have := Nat.shiftLeft_add_eq_or_of_lt h a
  rw [Nat.shiftLeft_eq] at this
  exact this.symm
theorem mask_cast (n : Nat) : (2 : Int) ^ n - 1 = ((2 ^ n - 1 : Nat) : Int) := by
  have := Nat.pow_pos (n := n) (show 0 < 2 by decide)
  rw [pow_cast]; omega
theorem and_mask (a n : Nat) : Builtin.bitAnd (a : Nat) (2 ^ n - 1) = ((a % 2 ^ n : Nat) : Int) := by
  rw [kbt_mask, pow_cast, Int.natCast_emod]
theorem pow_le40 {n : Nat} (h : n ≤ 40) : 2 ^ n ≤ 2 ^ 40 := Nat.pow_le_pow_right (by decide) h
end
section
theorem fg_mask_of (w : World) : FnG w (Str.ofString "mask_of") 142 := ⟨by k_is, by k_is⟩
theorem fg_signed_of (w : World) : FnG w (Str.ofString "signed_of") 149 := ⟨by k_is, by k_is⟩
noncomputable def sc_mask_of : Sc := ⟨[Str.ofString "width"], [none], []⟩
noncomputable def code_mask_of : CS := sret (cbin .Sub (cbin .LShift (cint 1) (cvar 0)) (cint 1))
theorem def_mask_of : Def sc_mask_of 142 1 code_mask_of := by
  refine ⟨fun w => ?_⟩
  refine' Def.mk1 ?a ?b ?c ?d ?e ?f ?g ?h
  case a => k_is
  case b => k_is
  case c => exact fun s => lenS fun v0 => len0 (BindsTo.of_eq rfl)
  case d => exact snd_one (snd_ret (snd_bin (snd_bin (snd_int) (snd_var rfl)) (snd_int)))
  case e => kernel_rfl!
  case f => kernel_rfl!
  case g => kernel_rfl!
  case h => decide
noncomputable def sc_signed_of : Sc := ⟨[Str.ofString "x", Str.ofString "width"], [none, none], []⟩
noncomputable def code_signed_of : CS := sret (cif (tcmp .Eq (cbin .RShift (cvar 0) (cbin .Sub (cvar 1) (cint 1))) (cint 1)) (cbin .Sub (cvar 0) (cbin .LShift (cint 1) (cvar 1))) (cvar 0))
theorem def_signed_of : Def sc_signed_of 149 2 code_signed_of := by
  refine ⟨fun w => ?_⟩
  refine' Def.mk1 ?a ?b ?c ?d ?e ?f ?g ?h
  case a => k_is
  case b => k_is
  case c => exact fun s => lenS fun v0 => lenS fun v1 => len0 (BindsTo.of_eq rfl)
  case d => exact snd_one (snd_ret (snd_if (snd_tcmp (snd_bin (snd_var rfl) (snd_bin (snd_var rfl) (snd_int))) (snd_int) rfl) (snd_bin (snd_var rfl) (snd_bin (snd_int) (snd_var rfl))) (snd_var rfl)))
  case e => kernel_rfl!
  case f => kernel_rfl!
  case g => kernel_rfl!
  case h => decide
noncomputable def sc_one_value : Sc := ⟨[Str.ofString "op", Str.ofString "x", Str.ofString "width"], [none, none, none], [Str.ofString "mask_of"]⟩
noncomputable def code_one_value : CS := sseq (sif (tcmp .Eq (cvar 0) (cstr (Str.ofString "bvnot"))) (sret (cbin .Sub (cfn 142 (acons (cvar 2) (anil))) (cvar 1))) (snil)) (sseq (sif (tcmp .Eq (cvar 0) (cstr (Str.ofString "bvneg"))) (sret (cbin .BitAnd (cneg (cvar 1)) (cfn 142 (acons (cvar 2) (anil))))) (snil)) (sdead))
theorem def_one_value : Def sc_one_value 156 3 code_one_value := by
  refine ⟨fun w => ?_⟩
  refine' Def.mk1 ?a ?b ?c ?d ?e ?f ?g ?h
  case a => k_is
  case b => k_is
  case c => exact fun s => lenS fun v0 => lenS fun v1 => lenS fun v2 => len0 (BindsTo.of_eq rfl)
  case d => exact snd_seq (snd_sif (snd_tcmp (snd_var rfl) (snd_str) rfl) (snd_one (snd_ret (snd_bin (snd_cfn (.head _) fg_mask_of (snd_acons (snd_var rfl) (snd_anil) (fun _ => rfl)) (fun _ => rfl)) (snd_var rfl)))) (snd_nil)) (snd_seq (snd_sif (snd_tcmp (snd_var rfl) (snd_str) rfl) (snd_one (snd_ret (snd_bin (snd_neg (snd_var rfl)) (snd_cfn (.head _) fg_mask_of (snd_acons (snd_var rfl) (snd_anil) (fun _ => rfl)) (fun _ => rfl))))) (snd_nil)) (snd_one (snd_dead)))
  case e => kernel_rfl!
  case f => kernel_rfl!
  case g => kernel_rfl!
  case h => decide
noncomputable def sc_extract_value : Sc := ⟨[Str.ofString "x", Str.ofString "high", Str.ofString "low"], [none, none, none], [Str.ofString "mask_of"]⟩
noncomputable def code_extract_value : CS := sret (cbin .BitAnd (cbin .RShift (cvar 0) (cvar 2)) (cfn 142 (acons (cbin .Add (cbin .Sub (cvar 1) (cvar 2)) (cint 1)) (anil))))
theorem def_extract_value : Def sc_extract_value 191 3 code_extract_value := by
  refine ⟨fun w => ?_⟩
  refine' Def.mk1 ?a ?b ?c ?d ?e ?f ?g ?h
  case a => k_is
  case b => k_is
  case c => exact fun s => lenS fun v0 => lenS fun v1 => lenS fun v2 => len0 (BindsTo.of_eq rfl)
  case d => exact snd_one (snd_ret (snd_bin (snd_bin (snd_var rfl) (snd_var rfl)) (snd_cfn (.head _) fg_mask_of (snd_acons (snd_bin (snd_bin (snd_var rfl) (snd_var rfl)) (snd_int)) (snd_anil) (fun _ => rfl)) (fun _ => rfl))))
  case e => kernel_rfl!
  case f => kernel_rfl!
  case g => kernel_rfl!
  case h => decide
noncomputable def sc_concat_value : Sc := ⟨[Str.ofString "x", Str.ofString "y", Str.ofString "width_of_y"], [none, none, none], []⟩
noncomputable def code_concat_value : CS := sret (cbin .BitOr (cbin .LShift (cvar 0) (cvar 2)) (cvar 1))
theorem def_concat_value : Def sc_concat_value 198 3 code_concat_value := by
  refine ⟨fun w => ?_⟩
  refine' Def.mk1 ?a ?b ?c ?d ?e ?f ?g ?h
  case a => k_is
  case b => k_is
  case c => exact fun s => lenS fun v0 => lenS fun v1 => lenS fun v2 => len0 (BindsTo.of_eq rfl)
  case d => exact snd_one (snd_ret (snd_bin (snd_bin (snd_var rfl) (snd_var rfl)) (snd_var rfl)))
  case e => kernel_rfl!
  case f => kernel_rfl!
  case g => kernel_rfl!
  case h => decide
noncomputable def sc_sign_extended : Sc := ⟨[Str.ofString "x", Str.ofString "width", Str.ofString "many"], [none, none, none], [Str.ofString "signed_of", Str.ofString "mask_of"]⟩
noncomputable def code_sign_extended : CS := sret (cbin .BitAnd (cfn 149 (acons (cvar 0) (acons (cvar 1) (anil)))) (cfn 142 (acons (cbin .Add (cvar 1) (cvar 2)) (anil))))
theorem def_sign_extended : Def sc_sign_extended 205 3 code_sign_extended := by
  refine ⟨fun w => ?_⟩
  refine' Def.mk1 ?a ?b ?c ?d ?e ?f ?g ?h
  case a => k_is
  case b => k_is
  case c => exact fun s => lenS fun v0 => lenS fun v1 => lenS fun v2 => len0 (BindsTo.of_eq rfl)
  case d => exact snd_one (snd_ret (snd_bin (snd_cfn (.head _) fg_signed_of (snd_acons (snd_var rfl) (snd_acons (snd_var rfl) (snd_anil) (fun _ => rfl)) (fun _ => rfl)) (fun _ => rfl)) (snd_cfn (.tail _ (.head _)) fg_mask_of (snd_acons (snd_bin (snd_var rfl) (snd_var rfl)) (snd_anil) (fun _ => rfl)) (fun _ => rfl))))
  case e => kernel_rfl!
  case f => kernel_rfl!
  case g => kernel_rfl!
  case h => decide
noncomputable def sc_bit_value : Sc := ⟨[Str.ofString "x", Str.ofString "i"], [none, none], []⟩
noncomputable def code_bit_value : CS := sret (ccmp .Eq (cbin .BitAnd (cbin .RShift (cvar 0) (cvar 1)) (cint 1)) (cint 1))
theorem def_bit_value : Def sc_bit_value 212 2 code_bit_value := by
  refine ⟨fun w => ?_⟩
  refine' Def.mk1 ?a ?b ?c ?d ?e ?f ?g ?h
  case a => k_is
  case b => k_is
  case c => exact fun s => lenS fun v0 => lenS fun v1 => len0 (BindsTo.of_eq rfl)
  case d => exact snd_one (snd_ret (snd_ccmp (snd_bin (snd_bin (snd_var rfl) (snd_var rfl)) (snd_int)) (snd_int) rfl))
  case e => kernel_rfl!
  case f => kernel_rfl!
  case g => kernel_rfl!
  case h => decide
end
section
section
variable {S : Sc} {X : Cx} {w : World} {A : Ba} {mk : Option Mk} {st : Led} {tk : Nat} {k : KO Value} {e : Es} {a b : Int} {t u : Tok}
theorem rsh_v (h0 : 0 ≤ b) (ret : ∀ t tk', k (.int (a.fdiv (2 ^ b.toNat)) t) e st tk') : Stp ⟨S, X, w, A, mk, true⟩ e st tk (binaryOp .RShift (.int a t) (.int b u)) k := ⟨fun h₁ m q F N l => rshift_int h0 (l _ h₁ _ _ _ F N (ret _ _))⟩
theorem and_v (ret : ∀ t tk', k (.int (Builtin.bitAnd a b) t) e st tk') : Stp ⟨S, X, w, A, mk, true⟩ e st tk (binaryOp .BitAnd (.int a t) (.int b u)) k := ⟨fun h₁ m q F N l => and_int (l _ h₁ _ _ _ F N (ret _ _))⟩
theorem or_v (ret : ∀ t tk', k (.int (Builtin.bitOr a b) t) e st tk') : Stp ⟨S, X, w, A, mk, true⟩ e st tk (binaryOp .BitOr (.int a t) (.int b u)) k := ⟨fun h₁ m q F N l => or_int (l _ h₁ _ _ _ F N (ret _ _))⟩
end
theorem kr_vval1 : True := by
  k_with_none
  k_with "cn" => first
    | (with_reducible refine Cnd.neg (by first | assumption | exact rfl) ?_) | (with_reducible refine Cnd.pos (by first | assumption | exact rfl) ?_)
    | (refine Cnd.neg (by kernel_rfl!) ?_) | (refine Cnd.pos (by kernel_rfl!) ?_)
    | (refine Cnd.pos (by (first | (simp only [bne_self_eq_false, beq_self_eq_true, beq_iff_eq, bne_iff_ne, ne_eq, beq_eq_false_iff_ne, decide_eq_true_eq, decide_eq_false_iff_not, Bool.not_eq_true', Bool.not_eq_false', Bool.not_true, Bool.not_false, Option.isSome_some, Option.isSome_none, not_false_eq_true, Bool.false_eq_true, reduceCtorEq, eq_self]; done) | ((try simp only [bne_self_eq_false, beq_self_eq_true, beq_iff_eq, bne_iff_ne, ne_eq, beq_eq_false_iff_ne, decide_eq_true_eq, decide_eq_false_iff_not, Bool.not_eq_true', Bool.not_eq_false', Bool.not_true, Bool.not_false, Option.isSome_some, Option.isSome_none, not_false_eq_true, Bool.false_eq_true, reduceCtorEq, eq_self]); first | with_reducible assumption | (law_purse 20000 => omega)))) ?_) | (refine Cnd.neg (by (first | (simp only [bne_self_eq_false, beq_self_eq_true, beq_iff_eq, bne_iff_ne, ne_eq, beq_eq_false_iff_ne, decide_eq_true_eq, decide_eq_false_iff_not, Bool.not_eq_true', Bool.not_eq_false', Bool.not_true, Bool.not_false, Option.isSome_some, Option.isSome_none, not_false_eq_true, Bool.false_eq_true, reduceCtorEq, eq_self]; done) | ((try simp only [bne_self_eq_false, beq_self_eq_true, beq_iff_eq, bne_iff_ne, ne_eq, beq_eq_false_iff_ne, decide_eq_true_eq, decide_eq_false_iff_not, Bool.not_eq_true', Bool.not_eq_false', Bool.not_true, Bool.not_false, Option.isSome_some, Option.isSome_none, not_false_eq_true, Bool.false_eq_true, reduceCtorEq, eq_self]); first | with_reducible assumption | (law_purse 20000 => omega)))) ?_)
  k_with "cj" => first
    | (with_reducible refine Conj.no (by first | assumption | exact rfl) ?_) | (with_reducible refine Conj.yes (by first | assumption | exact rfl) ?_)
    | (refine Conj.no (by kernel_rfl!) ?_) | (refine Conj.yes (by kernel_rfl!) ?_)
    | (refine Conj.yes (by (first | (simp only [bne_self_eq_false, beq_self_eq_true, beq_iff_eq, bne_iff_ne, ne_eq, beq_eq_false_iff_ne, decide_eq_true_eq, decide_eq_false_iff_not, Bool.not_eq_true', Bool.not_eq_false', Bool.not_true, Bool.not_false, Option.isSome_some, Option.isSome_none, not_false_eq_true, Bool.false_eq_true, reduceCtorEq, eq_self]; done) | ((try simp only [bne_self_eq_false, beq_self_eq_true, beq_iff_eq, bne_iff_ne, ne_eq, beq_eq_false_iff_ne, decide_eq_true_eq, decide_eq_false_iff_not, Bool.not_eq_true', Bool.not_eq_false', Bool.not_true, Bool.not_false, Option.isSome_some, Option.isSome_none, not_false_eq_true, Bool.false_eq_true, reduceCtorEq, eq_self]); first | with_reducible assumption | (law_purse 20000 => omega)))) ?_) | (refine Conj.no (by (first | (simp only [bne_self_eq_false, beq_self_eq_true, beq_iff_eq, bne_iff_ne, ne_eq, beq_eq_false_iff_ne, decide_eq_true_eq, decide_eq_false_iff_not, Bool.not_eq_true', Bool.not_eq_false', Bool.not_true, Bool.not_false, Option.isSome_some, Option.isSome_none, not_false_eq_true, Bool.false_eq_true, reduceCtorEq, eq_self]; done) | ((try simp only [bne_self_eq_false, beq_self_eq_true, beq_iff_eq, bne_iff_ne, ne_eq, beq_eq_false_iff_ne, decide_eq_true_eq, decide_eq_false_iff_not, Bool.not_eq_true', Bool.not_eq_false', Bool.not_true, Bool.not_false, Option.isSome_some, Option.isSome_none, not_false_eq_true, Bool.false_eq_true, reduceCtorEq, eq_self]); first | with_reducible assumption | (law_purse 20000 => omega)))) ?_)
  k_with "up" => (intro p9 h9; repeat' (first | exact h9 | refine List.mem_cons_of_mem _ ?_ | refine (show ∀ p ∈ _, p ∈ _ by assumption) _ ?_))
  k_with "vm1" => first
    | (refine (?_ : Stp _ _ _ _ _ _); k_extra "st")
    | (refine (?_ : Cnd _ _ _); k_extra "cn")
    | (refine (?_ : Conj _ _ _ _ _ _ _ _); k_extra "cj")
    | (refine (?_ : Sub _ _ _ _ _ _ _); k_extra "sb")
    | (refine (?_ : Tp _ _ _ _ _ _); refine' tp_v ?R ?_; (case R => assumption); intro b9 R9)
    | k_extra "vm9" 
  k_with "sb" => (refine' sub_v ?hd ?hx ?_; (case hd => first | assumption | exact datUp (by assumption) (by k_extra "up")); (case hx => exact rfl); intro t9)
  k_with "vm" => (repeat' (k_extra "vm1"))
  k_with "st" => ((with_reducible refine' lsh_v ?za ?zb ?zc ?_); (case za => first | decide | lia); (case zb => first | decide | lia); (case zc => first | decide | lia);  intro t9 tk9)
  k_with "st" => ((with_reducible refine' rsh_v ?za ?_); (case za => first | decide | lia);  intro t9 tk9)
  k_with "st" => ((with_reducible refine' and_v  ?_);  intro t9 tk9)
  k_with "st" => ((with_reducible refine' or_v  ?_);  intro t9 tk9)
  trivial
section
variable {S : Sc} {Y : Cx} {w : World} {A : Ba} {c : Bc} {k : Mk} {ko : Option Mk} {X st : Led} {σ : St} {n n1 n2 n3 n4 n5 v m1 i1 tk0 : Nat} {i j : Int} {τ τ1 τ2 x y : T} {tk tk1 tk2 tk3 : Tok} {κ : KO Value}
theorem mask_use_v (s : Std ⟨S, Y, w, A, ko, true⟩ 1) (h0 : 0 ≤ i) (h1 : i ≤ 40)
    (ret : ∀ t tk', κ (.int (2 ^ i.toNat - 1) t) ⟨c, X⟩ st tk') :
    Stp ⟨S, Y, w, A, ko, true⟩ ⟨c, X⟩ st tk0 (call (.ref 142) [.int i tk]) κ := by
  refine def_mask_of.enter s (D' := 0) (by lia) rfl trivial rfl (by decide) fun Y2 s2 fin => ?_
  k_extra "vm"
  refine (?_ : Fin _ _ _ _ _)
  rw [Int.one_mul]
  exact fin _ _ _ _ (ret _ _)
end
theorem kr_vval2 : True := by
  k_with_none
  k_with "cn" => first
    | (with_reducible refine Cnd.neg (by first | assumption | exact rfl) ?_) | (with_reducible refine Cnd.pos (by first | assumption | exact rfl) ?_)
    | (refine Cnd.neg (by kernel_rfl!) ?_) | (refine Cnd.pos (by kernel_rfl!) ?_)
    | (refine Cnd.pos (by (first | (simp only [bne_self_eq_false, beq_self_eq_true, beq_iff_eq, bne_iff_ne, ne_eq, beq_eq_false_iff_ne, decide_eq_true_eq, decide_eq_false_iff_not, Bool.not_eq_true', Bool.not_eq_false', Bool.not_true, Bool.not_false, Option.isSome_some, Option.isSome_none, not_false_eq_true, Bool.false_eq_true, reduceCtorEq, eq_self]; done) | ((try simp only [bne_self_eq_false, beq_self_eq_true, beq_iff_eq, bne_iff_ne, ne_eq, beq_eq_false_iff_ne, decide_eq_true_eq, decide_eq_false_iff_not, Bool.not_eq_true', Bool.not_eq_false', Bool.not_true, Bool.not_false, Option.isSome_some, Option.isSome_none, not_false_eq_true, Bool.false_eq_true, reduceCtorEq, eq_self]); first | with_reducible assumption | (law_purse 20000 => omega)))) ?_) | (refine Cnd.neg (by (first | (simp only [bne_self_eq_false, beq_self_eq_true, beq_iff_eq, bne_iff_ne, ne_eq, beq_eq_false_iff_ne, decide_eq_true_eq, decide_eq_false_iff_not, Bool.not_eq_true', Bool.not_eq_false', Bool.not_true, Bool.not_false, Option.isSome_some, Option.isSome_none, not_false_eq_true, Bool.false_eq_true, reduceCtorEq, eq_self]; done) | ((try simp only [bne_self_eq_false, beq_self_eq_true, beq_iff_eq, bne_iff_ne, ne_eq, beq_eq_false_iff_ne, decide_eq_true_eq, decide_eq_false_iff_not, Bool.not_eq_true', Bool.not_eq_false', Bool.not_true, Bool.not_false, Option.isSome_some, Option.isSome_none, not_false_eq_true, Bool.false_eq_true, reduceCtorEq, eq_self]); first | with_reducible assumption | (law_purse 20000 => omega)))) ?_)
  k_with "cj" => first
    | (with_reducible refine Conj.no (by first | assumption | exact rfl) ?_) | (with_reducible refine Conj.yes (by first | assumption | exact rfl) ?_)
    | (refine Conj.no (by kernel_rfl!) ?_) | (refine Conj.yes (by kernel_rfl!) ?_)
    | (refine Conj.yes (by (first | (simp only [bne_self_eq_false, beq_self_eq_true, beq_iff_eq, bne_iff_ne, ne_eq, beq_eq_false_iff_ne, decide_eq_true_eq, decide_eq_false_iff_not, Bool.not_eq_true', Bool.not_eq_false', Bool.not_true, Bool.not_false, Option.isSome_some, Option.isSome_none, not_false_eq_true, Bool.false_eq_true, reduceCtorEq, eq_self]; done) | ((try simp only [bne_self_eq_false, beq_self_eq_true, beq_iff_eq, bne_iff_ne, ne_eq, beq_eq_false_iff_ne, decide_eq_true_eq, decide_eq_false_iff_not, Bool.not_eq_true', Bool.not_eq_false', Bool.not_true, Bool.not_false, Option.isSome_some, Option.isSome_none, not_false_eq_true, Bool.false_eq_true, reduceCtorEq, eq_self]); first | with_reducible assumption | (law_purse 20000 => omega)))) ?_) | (refine Conj.no (by (first | (simp only [bne_self_eq_false, beq_self_eq_true, beq_iff_eq, bne_iff_ne, ne_eq, beq_eq_false_iff_ne, decide_eq_true_eq, decide_eq_false_iff_not, Bool.not_eq_true', Bool.not_eq_false', Bool.not_true, Bool.not_false, Option.isSome_some, Option.isSome_none, not_false_eq_true, Bool.false_eq_true, reduceCtorEq, eq_self]; done) | ((try simp only [bne_self_eq_false, beq_self_eq_true, beq_iff_eq, bne_iff_ne, ne_eq, beq_eq_false_iff_ne, decide_eq_true_eq, decide_eq_false_iff_not, Bool.not_eq_true', Bool.not_eq_false', Bool.not_true, Bool.not_false, Option.isSome_some, Option.isSome_none, not_false_eq_true, Bool.false_eq_true, reduceCtorEq, eq_self]); first | with_reducible assumption | (law_purse 20000 => omega)))) ?_)
  k_with "up" => (intro p9 h9; repeat' (first | exact h9 | refine List.mem_cons_of_mem _ ?_ | refine (show ∀ p ∈ _, p ∈ _ by assumption) _ ?_))
  k_with "vm1" => first
    | (refine (?_ : Stp _ _ _ _ _ _); k_extra "st")
    | (refine (?_ : Cnd _ _ _); k_extra "cn")
    | (refine (?_ : Conj _ _ _ _ _ _ _ _); k_extra "cj")
    | (refine (?_ : Sub _ _ _ _ _ _ _); k_extra "sb")
    | (refine (?_ : Tp _ _ _ _ _ _); refine' tp_v ?R ?_; (case R => assumption); intro b9 R9)
    | k_extra "vm9" 
  k_with "sb" => (refine' sub_v ?hd ?hx ?_; (case hd => first | assumption | exact datUp (by assumption) (by k_extra "up")); (case hx => exact rfl); intro t9)
  k_with "vm" => (repeat' (k_extra "vm1"))
  k_with "st" => ((with_reducible refine' lsh_v ?za ?zb ?zc ?_); (case za => first | decide | lia); (case zb => first | decide | lia); (case zc => first | decide | lia);  intro t9 tk9)
  k_with "st" => ((with_reducible refine' rsh_v ?za ?_); (case za => first | decide | lia);  intro t9 tk9)
  k_with "st" => ((with_reducible refine' and_v  ?_);  intro t9 tk9)
  k_with "st" => ((with_reducible refine' or_v  ?_);  intro t9 tk9)
  k_with "st" => ((with_reducible refine' mask_use_v ?s ?h0 ?h1 ?_); (case s => exact Std.le (by assumption) (by lia)); (case h0 => first | assumption | lia); (case h1 => first | assumption | lia);  intro t9 tk9)
  trivial
section
variable {S : Sc} {Y : Cx} {w : World} {A : Ba} {c : Bc} {k : Mk} {ko : Option Mk} {X st : Led} {σ : St} {n n1 n2 n3 n4 n5 v m1 i1 tk0 : Nat} {i j : Int} {τ τ1 τ2 x y : T} {tk tk1 tk2 tk3 : Tok} {κ : KO Value}
theorem extv_use_v (s : Std ⟨S, Y, w, A, ko, true⟩ 3) (h1 : n1 < 2 ^ 40) (h2 : n3 ≤ n2) (h3 : n2 < 40)
    (ret : ∀ t tk', κ (.int ((n1 / 2 ^ n3 % 2 ^ (n2 - n3 + 1) : Nat) : Int) t) ⟨c, X⟩ st tk') :
    Stp ⟨S, Y, w, A, ko, true⟩ ⟨c, X⟩ st tk0 (call (.ref 191) [.int (n1 : Nat) tk, .int (n2 : Nat) tk1, .int (n3 : Nat) tk2]) κ := by
  refine def_extract_value.enter s (D' := 2) (by lia) rfl trivial rfl (by decide) fun Y2 s2 fin => ?_
  k_extra "vm"
  refine (?_ : Fin _ _ _ _ _)
  rw [toNat_cast, fdiv_cast, show ((n2 : Nat) - (n3 : Nat) + 1 : Int).toNat = n2 - n3 + 1 from by omega, and_mask]
  exact fin _ _ _ _ (ret _ _)
theorem onev_use_v (s : Std ⟨S, Y, w, A, ko, true⟩ 3) (h1 : n1 < 2 ^ n2) (h2 : n2 ≤ 40)
    (ret : ∀ t tk', κ (.int ((2 ^ n2 - 1 - n1 : Nat) : Int) t) ⟨c, X⟩ st tk') :
    Stp ⟨S, Y, w, A, ko, true⟩ ⟨c, X⟩ st tk0 (call (.ref 156) [.str (Str.ofString "bvnot") tk, .int (n1 : Nat) tk1, .int (n2 : Nat) tk2]) κ := by
  refine def_one_value.enter s (D' := 2) (by lia) rfl trivial rfl (by decide) fun Y2 s2 fin => ?_
  k_extra "vm"
  refine (?_ : Fin _ _ _ _ _)
  rw [toNat_cast, mask_cast, show ((2 ^ n2 - 1 : Nat) : Int) - (n1 : Nat) = ((2 ^ n2 - 1 - n1 : Nat) : Int) from by omega]
  exact fin _ _ _ _ (ret _ _)
theorem catv_use_v (s : Std ⟨S, Y, w, A, ko, true⟩ 3) (h1 : n1 < 2 ^ 40) (h2 : n2 < 2 ^ n3) (h3 : n3 ≤ 40)
    (ret : ∀ t tk', κ (.int ((n1 * 2 ^ n3 + n2 : Nat) : Int) t) ⟨c, X⟩ st tk') :
    Stp ⟨S, Y, w, A, ko, true⟩ ⟨c, X⟩ st tk0 (call (.ref 198) [.int (n1 : Nat) tk, .int (n2 : Nat) tk1, .int (n3 : Nat) tk2]) κ := by
  refine def_concat_value.enter s (D' := 2) (by lia) rfl trivial rfl (by decide) fun Y2 s2 fin => ?_
  k_extra "vm"
  refine (?_ : Fin _ _ _ _ _)
  rw [toNat_cast, pow_cast, ← Int.natCast_mul, bitOr_nat, or_low h2]
  exact fin _ _ _ _ (ret _ _)
theorem signed_use_v (s : Std ⟨S, Y, w, A, ko, true⟩ 1) (h1 : n1 < 2 ^ n2) (h2 : 1 ≤ n2) (h3 : n2 ≤ 40)
    (ret : ∀ t tk', κ (.int (if 2 ^ (n2 - 1) ≤ n1 then (n1 : Int) - 2 ^ n2 else n1) t) ⟨c, X⟩ st tk') :
    Stp ⟨S, Y, w, A, ko, true⟩ ⟨c, X⟩ st tk0 (call (.ref 149) [.int (n1 : Nat) tk, .int (n2 : Nat) tk1]) κ := by
  have c1 : (n1 / 2 ^ (n2 - 1) = 1) ↔ 2 ^ (n2 - 1) ≤ n1 := by
    have e : 2 ^ n2 = 2 * 2 ^ (n2 - 1) := by rw [← Nat.pow_succ']; congr 1; omega
    have hp := Nat.pow_pos (n := n2 - 1) (show 0 < 2 by decide)
    constructor
    · intro h
      have := Nat.div_mul_le_self n1 (2 ^ (n2 - 1))
      rw [h] at this; omega
    · intro h
      have a := (Nat.le_div_iff_mul_le hp (x := 1) (y := n1)).mpr (by omega)
      have b := (Nat.div_lt_iff_lt_mul hp (x := n1) (y := 2)).mpr (by omega)
      omega
  have c0 : ((n1 : Nat) : Int).fdiv (2 ^ ((n2 : Nat) - 1 : Int).toNat) = ((n1 / 2 ^ (n2 - 1) : Nat) : Int) := by
    rw [show ((n2 : Nat) - 1 : Int).toNat = n2 - 1 from by omega, fdiv_cast]
  refine def_signed_of.enter s (D' := 0) (by lia) rfl trivial rfl (by decide) fun Y2 s2 fin => ?_
  k_extra "vm"
  by_cases c2 : 2 ^ (n2 - 1) ≤ n1
  · have c3 : ((n1 : Nat) : Int).fdiv (2 ^ ((n2 : Nat) - 1 : Int).toNat) = 1 := by rw [c0, c1.mpr c2]; rfl
    k_extra "vm"
    refine (?_ : Fin _ _ _ _ _)
    rw [toNat_cast, Int.one_mul]
    rw [if_pos c2] at ret
    exact fin _ _ _ _ (ret _ _)
  · have c3 : ¬ ((n1 : Nat) : Int).fdiv (2 ^ ((n2 : Nat) - 1 : Int).toNat) = 1 := by rw [c0]; intro h; exact c2 (c1.mp (by omega))
    k_extra "vm"
    rw [if_neg c2] at ret
    exact fin _ _ _ _ (ret _ _)
end
theorem kr_vval3 : True := by
  k_with_none
  k_with "cn" => first
    | (with_reducible refine Cnd.neg (by first | assumption | exact rfl) ?_) | (with_reducible refine Cnd.pos (by first | assumption | exact rfl) ?_)
    | (refine Cnd.neg (by kernel_rfl!) ?_) | (refine Cnd.pos (by kernel_rfl!) ?_)
    | (refine Cnd.pos (by (first | (simp only [bne_self_eq_false, beq_self_eq_true, beq_iff_eq, bne_iff_ne, ne_eq, beq_eq_false_iff_ne, decide_eq_true_eq, decide_eq_false_iff_not, Bool.not_eq_true', Bool.not_eq_false', Bool.not_true, Bool.not_false, Option.isSome_some, Option.isSome_none, not_false_eq_true, Bool.false_eq_true, reduceCtorEq, eq_self]; done) | ((try simp only [bne_self_eq_false, beq_self_eq_true, beq_iff_eq, bne_iff_ne, ne_eq, beq_eq_false_iff_ne, decide_eq_true_eq, decide_eq_false_iff_not, Bool.not_eq_true', Bool.not_eq_false', Bool.not_true, Bool.not_false, Option.isSome_some, Option.isSome_none, not_false_eq_true, Bool.false_eq_true, reduceCtorEq, eq_self]); first | with_reducible assumption | (law_purse 20000 => omega)))) ?_) | (refine Cnd.neg (by (first | (simp only [bne_self_eq_false, beq_self_eq_true, beq_iff_eq, bne_iff_ne, ne_eq, beq_eq_false_iff_ne, decide_eq_true_eq, decide_eq_false_iff_not, Bool.not_eq_true', Bool.not_eq_false', Bool.not_true, Bool.not_false, Option.isSome_some, Option.isSome_none, not_false_eq_true, Bool.false_eq_true, reduceCtorEq, eq_self]; done) | ((try simp only [bne_self_eq_false, beq_self_eq_true, beq_iff_eq, bne_iff_ne, ne_eq, beq_eq_false_iff_ne, decide_eq_true_eq, decide_eq_false_iff_not, Bool.not_eq_true', Bool.not_eq_false', Bool.not_true, Bool.not_false, Option.isSome_some, Option.isSome_none, not_false_eq_true, Bool.false_eq_true, reduceCtorEq, eq_self]); first | with_reducible assumption | (law_purse 20000 => omega)))) ?_)
  k_with "cj" => first
    | (with_reducible refine Conj.no (by first | assumption | exact rfl) ?_) | (with_reducible refine Conj.yes (by first | assumption | exact rfl) ?_)
    | (refine Conj.no (by kernel_rfl!) ?_) | (refine Conj.yes (by kernel_rfl!) ?_)
    | (refine Conj.yes (by (first | (simp only [bne_self_eq_false, beq_self_eq_true, beq_iff_eq, bne_iff_ne, ne_eq, beq_eq_false_iff_ne, decide_eq_true_eq, decide_eq_false_iff_not, Bool.not_eq_true', Bool.not_eq_false', Bool.not_true, Bool.not_false, Option.isSome_some, Option.isSome_none, not_false_eq_true, Bool.false_eq_true, reduceCtorEq, eq_self]; done) | ((try simp only [bne_self_eq_false, beq_self_eq_true, beq_iff_eq, bne_iff_ne, ne_eq, beq_eq_false_iff_ne, decide_eq_true_eq, decide_eq_false_iff_not, Bool.not_eq_true', Bool.not_eq_false', Bool.not_true, Bool.not_false, Option.isSome_some, Option.isSome_none, not_false_eq_true, Bool.false_eq_true, reduceCtorEq, eq_self]); first | with_reducible assumption | (law_purse 20000 => omega)))) ?_) | (refine Conj.no (by (first | (simp only [bne_self_eq_false, beq_self_eq_true, beq_iff_eq, bne_iff_ne, ne_eq, beq_eq_false_iff_ne, decide_eq_true_eq, decide_eq_false_iff_not, Bool.not_eq_true', Bool.not_eq_false', Bool.not_true, Bool.not_false, Option.isSome_some, Option.isSome_none, not_false_eq_true, Bool.false_eq_true, reduceCtorEq, eq_self]; done) | ((try simp only [bne_self_eq_false, beq_self_eq_true, beq_iff_eq, bne_iff_ne, ne_eq, beq_eq_false_iff_ne, decide_eq_true_eq, decide_eq_false_iff_not, Bool.not_eq_true', Bool.not_eq_false', Bool.not_true, Bool.not_false, Option.isSome_some, Option.isSome_none, not_false_eq_true, Bool.false_eq_true, reduceCtorEq, eq_self]); first | with_reducible assumption | (law_purse 20000 => omega)))) ?_)
  k_with "up" => (intro p9 h9; repeat' (first | exact h9 | refine List.mem_cons_of_mem _ ?_ | refine (show ∀ p ∈ _, p ∈ _ by assumption) _ ?_))
  k_with "vm1" => first
    | (refine (?_ : Stp _ _ _ _ _ _); k_extra "st")
    | (refine (?_ : Cnd _ _ _); k_extra "cn")
    | (refine (?_ : Conj _ _ _ _ _ _ _ _); k_extra "cj")
    | (refine (?_ : Sub _ _ _ _ _ _ _); k_extra "sb")
    | (refine (?_ : Tp _ _ _ _ _ _); refine' tp_v ?R ?_; (case R => assumption); intro b9 R9)
    | k_extra "vm9" 
  k_with "sb" => (refine' sub_v ?hd ?hx ?_; (case hd => first | assumption | exact datUp (by assumption) (by k_extra "up")); (case hx => exact rfl); intro t9)
  k_with "vm" => (repeat' (k_extra "vm1"))
  k_with "st" => ((with_reducible refine' lsh_v ?za ?zb ?zc ?_); (case za => first | decide | lia); (case zb => first | decide | lia); (case zc => first | decide | lia);  intro t9 tk9)
  k_with "st" => ((with_reducible refine' rsh_v ?za ?_); (case za => first | decide | lia);  intro t9 tk9)
  k_with "st" => ((with_reducible refine' and_v  ?_);  intro t9 tk9)
  k_with "st" => ((with_reducible refine' or_v  ?_);  intro t9 tk9)
  k_with "st" => ((with_reducible refine' mask_use_v ?s ?h0 ?h1 ?_); (case s => exact Std.le (by assumption) (by lia)); (case h0 => first | assumption | lia); (case h1 => first | assumption | lia);  intro t9 tk9)
  k_with "st" => ((with_reducible refine' signed_use_v ?s ?h1 ?h2 ?h3 ?_); (case s => exact Std.le (by assumption) (by lia)); (case h1 => first | assumption | lia); (case h2 => first | assumption | lia); (case h3 => first | assumption | lia);  intro t9 tk9)
  trivial
section
variable {S : Sc} {Y : Cx} {w : World} {A : Ba} {c : Bc} {k : Mk} {ko : Option Mk} {X st : Led} {σ : St} {n n1 n2 n3 n4 n5 v m1 i1 tk0 : Nat} {i j : Int} {τ τ1 τ2 x y : T} {tk tk1 tk2 tk3 : Tok} {κ : KO Value}
theorem sxv_use_v (s : Std ⟨S, Y, w, A, ko, true⟩ 4) (h1 : n1 < 2 ^ n2) (h2 : 1 ≤ n2) (h3 : n2 + n3 ≤ 40)
    (ret : ∀ t tk', κ (.int (T.sext n1 n2 n3 : Nat) t) ⟨c, X⟩ st tk') :
    Stp ⟨S, Y, w, A, ko, true⟩ ⟨c, X⟩ st tk0 (call (.ref 205) [.int (n1 : Nat) tk, .int (n2 : Nat) tk1, .int (n3 : Nat) tk2]) κ := by
  refine def_sign_extended.enter s (D' := 3) (by lia) rfl trivial rfl (by decide) fun Y2 s2 fin => ?_
  k_extra "vm"
  have e : Builtin.bitAnd (if 2 ^ (n2 - 1) ≤ n1 then (n1 : Int) - 2 ^ n2 else n1) (2 ^ ((n2 : Nat) + (n3 : Nat) : Int).toNat - 1) = ((T.sext n1 n2 n3 : Nat) : Int) := by
    rw [show ((n2 : Nat) + (n3 : Nat) : Int).toNat = n2 + n3 from by omega, kbt_mask]
    unfold T.sext
    have e2 : 2 ^ n2 ≤ 2 ^ (n2 + n3) := Nat.pow_le_pow_right (by decide) (by omega)
    split
    · rw [pow_cast, pow_cast, Int.emod_eq_add_self_emod, Int.emod_eq_of_lt] <;> omega
    · rw [pow_cast, Int.emod_eq_of_lt] <;> omega
  refine (?_ : Fin _ _ _ _ _)
  rw [e]
  exact fin _ _ _ _ (ret _ _)
theorem bitv_use_v (s : Std ⟨S, Y, w, A, ko, true⟩ 3) (h1 : n1 < 2 ^ 40) (h2 : n2 < 40)
    (ret : ∀  tk', κ (.bool (n1.testBit n2)) ⟨c, X⟩ st tk') :
    Stp ⟨S, Y, w, A, ko, true⟩ ⟨c, X⟩ st tk0 (call (.ref 212) [.int (n1 : Nat) tk, .int (n2 : Nat) tk1]) κ := by
  refine def_bit_value.enter s (D' := 2) (by lia) rfl trivial rfl (by decide) fun Y2 s2 fin => ?_
  k_extra "vm"
  refine (?_ : Fin _ _ _ _ _)
  rw [toNat_cast, fdiv_cast]
  have e : (Builtin.bitAnd ((n1 / 2 ^ n2 : Nat) : Int) 1 == 1) = n1.testBit n2 := by
    rw [bitAnd_m1, Nat.testBit_eq_decide_div_mod_eq, Bool.eq_iff_iff]
    simp only [beq_iff_eq, decide_eq_true_eq]
    omega
  rw [e]
  exact fin _ _ _ _ (ret _)
end
end
section
theorem T.one_ways {τ : T} (ho : τ.ok) : (∃ v w, τ = .num v w) ∨ (∃ x, τ = .bnot x) ∨ (τ.isNum = false ∧ (τ.op == Str.ofString "bvnot") = false ∧ τ.notT = .bnot τ) := by
  cases τ <;> first | exact ho.elim | exact .inl ⟨_, _, rfl⟩ | exact .inr (.inl ⟨_, rfl⟩) | exact .inr (.inr ⟨rfl, by kernel_rfl!, rfl⟩)
theorem T.wid_ways {τ : T} {m : Nat} (hm : m ≠ 0) (ho : τ.ok) : (∃ v w, τ = .num v w) ∨ (∃ j x, τ = .zx j x) ∨ (τ.isNum = false ∧ (τ.op == Str.ofString "zero_extend") = false ∧ τ.widerT m = .zx m τ) := by
  unfold T.widerT; rw [if_neg hm]
  cases τ <;> first | exact ho.elim | exact .inl ⟨_, _, rfl⟩ | exact .inr (.inl ⟨_, _, rfl⟩) | exact .inr (.inr ⟨rfl, by kernel_rfl!, rfl⟩)
theorem T.sx_ways {τ : T} {m : Nat} (hm : m ≠ 0) (ho : τ.ok) : (∃ v w, τ = .num v w) ∨ (∃ j x, τ = .sx j x) ∨ (∃ j x, τ = .zx j x) ∨ (τ.isNum = false ∧ (τ.op == Str.ofString "sign_extend") = false ∧ (τ.op == Str.ofString "zero_extend") = false ∧ τ.sxT m = .sx m τ) := by
  unfold T.sxT; rw [if_neg hm]
  cases τ <;> first | exact ho.elim | exact .inl ⟨_, _, rfl⟩ | exact .inr (.inl ⟨_, _, rfl⟩) | exact .inr (.inr (.inl ⟨_, _, rfl⟩)) | exact .inr (.inr (.inr ⟨rfl, by kernel_rfl!, by kernel_rfl!, rfl⟩))
theorem sext_lt {v n4 m1 : Nat} (h : v < 2 ^ n4) : T.sext v n4 m1 < 2 ^ (n4 + m1) := by
  have h1 : 2 ^ n4 ≤ 2 ^ (n4 + m1) := Nat.pow_le_pow_right (by decide) (by omega)
  unfold T.sext; split <;> omega
theorem kr_vrw1 : True := by
  k_with_none
  k_with "cn" => first
    | (with_reducible refine Cnd.neg (by first | assumption | exact rfl) ?_) | (with_reducible refine Cnd.pos (by first | assumption | exact rfl) ?_)
    | (refine Cnd.neg (by kernel_rfl!) ?_) | (refine Cnd.pos (by kernel_rfl!) ?_)
    | (refine Cnd.pos (by (first | (simp only [bne_self_eq_false, beq_self_eq_true, beq_iff_eq, bne_iff_ne, ne_eq, beq_eq_false_iff_ne, decide_eq_true_eq, decide_eq_false_iff_not, Bool.not_eq_true', Bool.not_eq_false', Bool.not_true, Bool.not_false, Option.isSome_some, Option.isSome_none, not_false_eq_true, Bool.false_eq_true, reduceCtorEq, eq_self]; done) | ((try simp only [bne_self_eq_false, beq_self_eq_true, beq_iff_eq, bne_iff_ne, ne_eq, beq_eq_false_iff_ne, decide_eq_true_eq, decide_eq_false_iff_not, Bool.not_eq_true', Bool.not_eq_false', Bool.not_true, Bool.not_false, Option.isSome_some, Option.isSome_none, not_false_eq_true, Bool.false_eq_true, reduceCtorEq, eq_self]); first | with_reducible assumption | (law_purse 20000 => omega)))) ?_) | (refine Cnd.neg (by (first | (simp only [bne_self_eq_false, beq_self_eq_true, beq_iff_eq, bne_iff_ne, ne_eq, beq_eq_false_iff_ne, decide_eq_true_eq, decide_eq_false_iff_not, Bool.not_eq_true', Bool.not_eq_false', Bool.not_true, Bool.not_false, Option.isSome_some, Option.isSome_none, not_false_eq_true, Bool.false_eq_true, reduceCtorEq, eq_self]; done) | ((try simp only [bne_self_eq_false, beq_self_eq_true, beq_iff_eq, bne_iff_ne, ne_eq, beq_eq_false_iff_ne, decide_eq_true_eq, decide_eq_false_iff_not, Bool.not_eq_true', Bool.not_eq_false', Bool.not_true, Bool.not_false, Option.isSome_some, Option.isSome_none, not_false_eq_true, Bool.false_eq_true, reduceCtorEq, eq_self]); first | with_reducible assumption | (law_purse 20000 => omega)))) ?_)
  k_with "cj" => first
    | (with_reducible refine Conj.no (by first | assumption | exact rfl) ?_) | (with_reducible refine Conj.yes (by first | assumption | exact rfl) ?_)
    | (refine Conj.no (by kernel_rfl!) ?_) | (refine Conj.yes (by kernel_rfl!) ?_)
    | (refine Conj.yes (by (first | (simp only [bne_self_eq_false, beq_self_eq_true, beq_iff_eq, bne_iff_ne, ne_eq, beq_eq_false_iff_ne, decide_eq_true_eq, decide_eq_false_iff_not, Bool.not_eq_true', Bool.not_eq_false', Bool.not_true, Bool.not_false, Option.isSome_some, Option.isSome_none, not_false_eq_true, Bool.false_eq_true, reduceCtorEq, eq_self]; done) | ((try simp only [bne_self_eq_false, beq_self_eq_true, beq_iff_eq, bne_iff_ne, ne_eq, beq_eq_false_iff_ne, decide_eq_true_eq, decide_eq_false_iff_not, Bool.not_eq_true', Bool.not_eq_false', Bool.not_true, Bool.not_false, Option.isSome_some, Option.isSome_none, not_false_eq_true, Bool.false_eq_true, reduceCtorEq, eq_self]); first | with_reducible assumption | (law_purse 20000 => omega)))) ?_) | (refine Conj.no (by (first | (simp only [bne_self_eq_false, beq_self_eq_true, beq_iff_eq, bne_iff_ne, ne_eq, beq_eq_false_iff_ne, decide_eq_true_eq, decide_eq_false_iff_not, Bool.not_eq_true', Bool.not_eq_false', Bool.not_true, Bool.not_false, Option.isSome_some, Option.isSome_none, not_false_eq_true, Bool.false_eq_true, reduceCtorEq, eq_self]; done) | ((try simp only [bne_self_eq_false, beq_self_eq_true, beq_iff_eq, bne_iff_ne, ne_eq, beq_eq_false_iff_ne, decide_eq_true_eq, decide_eq_false_iff_not, Bool.not_eq_true', Bool.not_eq_false', Bool.not_true, Bool.not_false, Option.isSome_some, Option.isSome_none, not_false_eq_true, Bool.false_eq_true, reduceCtorEq, eq_self]); first | with_reducible assumption | (law_purse 20000 => omega)))) ?_)
  k_with "up" => (intro p9 h9; repeat' (first | exact h9 | refine List.mem_cons_of_mem _ ?_ | refine (show ∀ p ∈ _, p ∈ _ by assumption) _ ?_))
  k_with "vm1" => first
    | (refine (?_ : Stp _ _ _ _ _ _); k_extra "st")
    | (refine (?_ : Cnd _ _ _); k_extra "cn")
    | (refine (?_ : Conj _ _ _ _ _ _ _ _); k_extra "cj")
    | (refine (?_ : Sub _ _ _ _ _ _ _); k_extra "sb")
    | (refine (?_ : Tp _ _ _ _ _ _); refine' tp_v ?R ?_; (case R => assumption); intro b9 R9)
    | k_extra "vm9" 
  k_with "sb" => (refine' sub_v ?hd ?hx ?_; (case hd => first | assumption | exact datUp (by assumption) (by k_extra "up")); (case hx => exact rfl); intro t9)
  k_with "vm" => (repeat' (k_extra "vm1"))
  k_with "st" => ((with_reducible refine' op_use_v ?s ?R ?ha ?_); (case s => exact Std.le (by assumption) (by lia)); (case R => assumption); (case ha => first | assumption | exact at_ix (by assumption) | exact Ext.at (by assumption) (by first | assumption | exact at_ix (by assumption)));  intro t9 tk9)
  k_with "st" => ((with_reducible refine' args_use_v ?s ?R ?ha ?_); (case s => exact Std.le (by assumption) (by lia)); (case R => assumption); (case ha => first | assumption | exact at_ix (by assumption) | exact Ext.at (by assumption) (by first | assumption | exact at_ix (by assumption)));  intro v9 D9 tk9)
  k_with "st" => ((with_reducible refine' width_use_v ?s ?R ?ha ?_); (case s => exact Std.le (by assumption) (by lia)); (case R => assumption); (case ha => first | assumption | exact at_ix (by assumption) | exact Ext.at (by assumption) (by first | assumption | exact at_ix (by assumption)));  intro t9 tk9)
  k_with "st" => ((with_reducible refine' sort_use_v ?s ?R ?ha ?_); (case s => exact Std.le (by assumption) (by lia)); (case R => assumption); (case ha => first | assumption | exact at_ix (by assumption) | exact Ext.at (by assumption) (by first | assumption | exact at_ix (by assumption)));  intro t9 tk9)
  k_with "st" => ((with_reducible refine' data_pair_v ?s ?R ?ha ?hi ?_); (case s => exact Std.le (by assumption) (by lia)); (case R => assumption); (case ha => first | assumption | exact at_ix (by assumption) | exact Ext.at (by assumption) (by first | assumption | exact at_ix (by assumption))); (case hi => exact rfl);  intro v9 D9 tk9)
  k_with "st" => ((with_reducible refine' data_int_v ?s ?R ?ha ?hi ?_); (case s => exact Std.le (by assumption) (by lia)); (case R => assumption); (case ha => first | assumption | exact at_ix (by assumption) | exact Ext.at (by assumption) (by first | assumption | exact at_ix (by assumption))); (case hi => exact rfl);  intro t9 tk9)
  k_with "st" => ((with_reducible refine' bool_term_use_v ?s  ?_); (case s => exact Std.le (by assumption) (by lia));  intro t9 tk9)
  k_with "st" => ((with_reducible refine' bv_num_j_v ?s ?R ?e ?W ?hj ?hr ?hx ?_); (case s => exact Std.le (by assumption) (by lia)); (case R => assumption); (case e => exact rfl); (case W => assumption); (case hj => first | rfl | lia); (case hr => first | assumption | lia); (case hx => first | assumption | lia);  intro n9 t9 c9 st9 σ9 tk9 hs9 R9 X9 A9; have l9 := Ext.len X9)
  trivial
section
variable {S : Sc} {Y : Cx} {w : World} {A : Ba} {c : Bc} {k : Mk} {ko : Option Mk} {X st : Led} {σ : St} {n n1 n2 n3 n4 n5 v m1 i1 tk0 : Nat} {i j : Int} {τ τ1 τ2 x y : T} {tk tk1 tk2 tk3 : Tok} {κ : KO Value}
theorem is_bits_v (s : Std ⟨S, Y, w, A, some k, true⟩ 3) (R : Rep w A c (mkL w A k X) st σ) (ha : At σ n τ)
    (ret : ∀  tk', κ (.bool τ.isNum) ⟨c, (mkL w A k X)⟩ st tk') :
    Stp ⟨S, Y, w, A, some k, true⟩ ⟨c, (mkL w A k X)⟩ st tk0 (call (.ref 912) [.ref k.m, .int n tk]) κ := by
  refine def_is_bits.enter s (D' := 2) (by lia) rfl ⟨rfl, trivial⟩ rfl (by decide) fun Y2 s2 fin => ?_
  k_extra "vm"
  exact fin _ _ _ _ (op_num τ ▸ ret _)
theorem number_v (s : Std ⟨S, Y, w, A, some k, true⟩ 6) (R : Rep w A c (mkL w A k X) st σ) (ha : At σ n τ) (hw : 1 ≤ τ.wd ∧ τ.wd ≤ 40) (hr : σ.ts.length + 1 ≤ 2 ^ 20)
    (ret : ∀ n' t c' st' σ' tk', Gr st st' → Rep w A c' (mkL w A k X) st' σ' → Ext σ σ' (1) → At σ' n' (.num (n1 % 2 ^ τ.wd) τ.wd) → κ (.int (n' : Nat) t) ⟨c', (mkL w A k X)⟩ st' tk') :
    Stp ⟨S, Y, w, A, some k, true⟩ ⟨c, (mkL w A k X)⟩ st tk0 (call (.ref 926) [.ref k.m, .int (n1 : Nat) tk1, .int n tk]) κ := by
  have W : WantW τ.wd := trivial
  refine def_number.enter s (D' := 5) (by lia) rfl ⟨rfl, trivial⟩ rfl (by decide) fun Y2 s2 fin => ?_
  k_extra "vm"
  exact fin _ _ _ _ (ret _ _ _ _ _ _ (by k_extra "up") (by assumption) (Ext.le (by assumption) (by lia)) (by assumption))
end
theorem kr_vrw2 : True := by
  k_with_none
  k_with "cn" => first
    | (with_reducible refine Cnd.neg (by first | assumption | exact rfl) ?_) | (with_reducible refine Cnd.pos (by first | assumption | exact rfl) ?_)
    | (refine Cnd.neg (by kernel_rfl!) ?_) | (refine Cnd.pos (by kernel_rfl!) ?_)
    | (refine Cnd.pos (by (first | (simp only [bne_self_eq_false, beq_self_eq_true, beq_iff_eq, bne_iff_ne, ne_eq, beq_eq_false_iff_ne, decide_eq_true_eq, decide_eq_false_iff_not, Bool.not_eq_true', Bool.not_eq_false', Bool.not_true, Bool.not_false, Option.isSome_some, Option.isSome_none, not_false_eq_true, Bool.false_eq_true, reduceCtorEq, eq_self]; done) | ((try simp only [bne_self_eq_false, beq_self_eq_true, beq_iff_eq, bne_iff_ne, ne_eq, beq_eq_false_iff_ne, decide_eq_true_eq, decide_eq_false_iff_not, Bool.not_eq_true', Bool.not_eq_false', Bool.not_true, Bool.not_false, Option.isSome_some, Option.isSome_none, not_false_eq_true, Bool.false_eq_true, reduceCtorEq, eq_self]); first | with_reducible assumption | (law_purse 20000 => omega)))) ?_) | (refine Cnd.neg (by (first | (simp only [bne_self_eq_false, beq_self_eq_true, beq_iff_eq, bne_iff_ne, ne_eq, beq_eq_false_iff_ne, decide_eq_true_eq, decide_eq_false_iff_not, Bool.not_eq_true', Bool.not_eq_false', Bool.not_true, Bool.not_false, Option.isSome_some, Option.isSome_none, not_false_eq_true, Bool.false_eq_true, reduceCtorEq, eq_self]; done) | ((try simp only [bne_self_eq_false, beq_self_eq_true, beq_iff_eq, bne_iff_ne, ne_eq, beq_eq_false_iff_ne, decide_eq_true_eq, decide_eq_false_iff_not, Bool.not_eq_true', Bool.not_eq_false', Bool.not_true, Bool.not_false, Option.isSome_some, Option.isSome_none, not_false_eq_true, Bool.false_eq_true, reduceCtorEq, eq_self]); first | with_reducible assumption | (law_purse 20000 => omega)))) ?_)
  k_with "cj" => first
    | (with_reducible refine Conj.no (by first | assumption | exact rfl) ?_) | (with_reducible refine Conj.yes (by first | assumption | exact rfl) ?_)
    | (refine Conj.no (by kernel_rfl!) ?_) | (refine Conj.yes (by kernel_rfl!) ?_)
    | (refine Conj.yes (by (first | (simp only [bne_self_eq_false, beq_self_eq_true, beq_iff_eq, bne_iff_ne, ne_eq, beq_eq_false_iff_ne, decide_eq_true_eq, decide_eq_false_iff_not, Bool.not_eq_true', Bool.not_eq_false', Bool.not_true, Bool.not_false, Option.isSome_some, Option.isSome_none, not_false_eq_true, Bool.false_eq_true, reduceCtorEq, eq_self]; done) | ((try simp only [bne_self_eq_false, beq_self_eq_true, beq_iff_eq, bne_iff_ne, ne_eq, beq_eq_false_iff_ne, decide_eq_true_eq, decide_eq_false_iff_not, Bool.not_eq_true', Bool.not_eq_false', Bool.not_true, Bool.not_false, Option.isSome_some, Option.isSome_none, not_false_eq_true, Bool.false_eq_true, reduceCtorEq, eq_self]); first | with_reducible assumption | (law_purse 20000 => omega)))) ?_) | (refine Conj.no (by (first | (simp only [bne_self_eq_false, beq_self_eq_true, beq_iff_eq, bne_iff_ne, ne_eq, beq_eq_false_iff_ne, decide_eq_true_eq, decide_eq_false_iff_not, Bool.not_eq_true', Bool.not_eq_false', Bool.not_true, Bool.not_false, Option.isSome_some, Option.isSome_none, not_false_eq_true, Bool.false_eq_true, reduceCtorEq, eq_self]; done) | ((try simp only [bne_self_eq_false, beq_self_eq_true, beq_iff_eq, bne_iff_ne, ne_eq, beq_eq_false_iff_ne, decide_eq_true_eq, decide_eq_false_iff_not, Bool.not_eq_true', Bool.not_eq_false', Bool.not_true, Bool.not_false, Option.isSome_some, Option.isSome_none, not_false_eq_true, Bool.false_eq_true, reduceCtorEq, eq_self]); first | with_reducible assumption | (law_purse 20000 => omega)))) ?_)
  k_with "up" => (intro p9 h9; repeat' (first | exact h9 | refine List.mem_cons_of_mem _ ?_ | refine (show ∀ p ∈ _, p ∈ _ by assumption) _ ?_))
  k_with "vm1" => first
    | (refine (?_ : Stp _ _ _ _ _ _); k_extra "st")
    | (refine (?_ : Cnd _ _ _); k_extra "cn")
    | (refine (?_ : Conj _ _ _ _ _ _ _ _); k_extra "cj")
    | (refine (?_ : Sub _ _ _ _ _ _ _); k_extra "sb")
    | (refine (?_ : Tp _ _ _ _ _ _); refine' tp_v ?R ?_; (case R => assumption); intro b9 R9)
    | k_extra "vm9" 
  k_with "sb" => (refine' sub_v ?hd ?hx ?_; (case hd => first | assumption | exact datUp (by assumption) (by k_extra "up")); (case hx => exact rfl); intro t9)
  k_with "vm" => (repeat' (k_extra "vm1"))
  k_with "st" => ((with_reducible refine' op_use_v ?s ?R ?ha ?_); (case s => exact Std.le (by assumption) (by lia)); (case R => assumption); (case ha => first | assumption | exact at_ix (by assumption) | exact Ext.at (by assumption) (by first | assumption | exact at_ix (by assumption)));  intro t9 tk9)
  k_with "st" => ((with_reducible refine' args_use_v ?s ?R ?ha ?_); (case s => exact Std.le (by assumption) (by lia)); (case R => assumption); (case ha => first | assumption | exact at_ix (by assumption) | exact Ext.at (by assumption) (by first | assumption | exact at_ix (by assumption)));  intro v9 D9 tk9)
  k_with "st" => ((with_reducible refine' width_use_v ?s ?R ?ha ?_); (case s => exact Std.le (by assumption) (by lia)); (case R => assumption); (case ha => first | assumption | exact at_ix (by assumption) | exact Ext.at (by assumption) (by first | assumption | exact at_ix (by assumption)));  intro t9 tk9)
  k_with "st" => ((with_reducible refine' sort_use_v ?s ?R ?ha ?_); (case s => exact Std.le (by assumption) (by lia)); (case R => assumption); (case ha => first | assumption | exact at_ix (by assumption) | exact Ext.at (by assumption) (by first | assumption | exact at_ix (by assumption)));  intro t9 tk9)
  k_with "st" => ((with_reducible refine' data_pair_v ?s ?R ?ha ?hi ?_); (case s => exact Std.le (by assumption) (by lia)); (case R => assumption); (case ha => first | assumption | exact at_ix (by assumption) | exact Ext.at (by assumption) (by first | assumption | exact at_ix (by assumption))); (case hi => exact rfl);  intro v9 D9 tk9)
  k_with "st" => ((with_reducible refine' data_int_v ?s ?R ?ha ?hi ?_); (case s => exact Std.le (by assumption) (by lia)); (case R => assumption); (case ha => first | assumption | exact at_ix (by assumption) | exact Ext.at (by assumption) (by first | assumption | exact at_ix (by assumption))); (case hi => exact rfl);  intro t9 tk9)
  k_with "st" => ((with_reducible refine' bool_term_use_v ?s  ?_); (case s => exact Std.le (by assumption) (by lia));  intro t9 tk9)
  k_with "st" => ((with_reducible refine' bv_num_j_v ?s ?R ?e ?W ?hj ?hr ?hx ?_); (case s => exact Std.le (by assumption) (by lia)); (case R => assumption); (case e => exact rfl); (case W => assumption); (case hj => first | rfl | lia); (case hr => first | assumption | lia); (case hx => first | assumption | lia);  intro n9 t9 c9 st9 σ9 tk9 hs9 R9 X9 A9; have l9 := Ext.len X9)
  k_with "st" => ((with_reducible refine' is_bits_v ?s ?R ?ha ?_); (case s => exact Std.le (by assumption) (by lia)); (case R => assumption); (case ha => first | assumption | exact at_ix (by assumption) | exact Ext.at (by assumption) (by first | assumption | exact at_ix (by assumption)));  intro tk9)
  k_with "st" => ((with_reducible refine' number_v ?s ?R ?ha ?hw ?hr ?_); (case s => exact Std.le (by assumption) (by lia)); (case R => assumption); (case ha => first | assumption | exact at_ix (by assumption) | exact Ext.at (by assumption) (by first | assumption | exact at_ix (by assumption))); (case hw => first | assumption | lia); (case hr => first | assumption | lia);  intro n9 t9 c9 st9 σ9 tk9 hs9 R9 X9 A9; have l9 := Ext.len X9)
  k_with "st" => ((with_reducible refine' onev_use_v ?s ?h1 ?h2 ?_); (case s => exact Std.le (by assumption) (by lia)); (case h1 => first | assumption | lia); (case h2 => first | assumption | lia);  intro t9 tk9)
  k_with "st" => ((with_reducible refine' sxv_use_v ?s ?h1 ?h2 ?h3 ?_); (case s => exact Std.le (by assumption) (by lia)); (case h1 => first | assumption | lia); (case h2 => first | assumption | lia); (case h3 => first | assumption | lia);  intro t9 tk9)
  k_with "st" => ((with_reducible refine' zx_go_v ?s ?R ?W ?hj ?ha ?hw ?hr ?hm ?hb ?_); (case s => exact Std.le (by assumption) (by lia)); (case R => assumption); (case W => assumption); (case hj => first | rfl | lia); (case ha => first | assumption | exact at_ix (by assumption) | exact Ext.at (by assumption) (by first | assumption | exact at_ix (by assumption))); (case hw => first | assumption | lia); (case hr => first | assumption | lia); (case hm => first | assumption | lia); (case hb => first | assumption | lia);  intro n9 t9 c9 st9 σ9 tk9 hs9 R9 X9 A9; have l9 := Ext.len X9)
  k_with "st" => ((with_reducible refine' sx_go_v ?s ?R ?W ?hj ?ha ?hw ?hr ?hm ?hb ?_); (case s => exact Std.le (by assumption) (by lia)); (case R => assumption); (case W => assumption); (case hj => first | rfl | lia); (case ha => first | assumption | exact at_ix (by assumption) | exact Ext.at (by assumption) (by first | assumption | exact at_ix (by assumption))); (case hw => first | assumption | lia); (case hr => first | assumption | lia); (case hm => first | assumption | lia); (case hb => first | assumption | lia);  intro n9 t9 c9 st9 σ9 tk9 hs9 R9 X9 A9; have l9 := Ext.len X9)
  k_with "st" => ((with_reducible refine' bvnot_use_v ?s ?R ?ha ?hw ?hr ?_); (case s => exact Std.le (by assumption) (by lia)); (case R => assumption); (case ha => first | assumption | exact at_ix (by assumption) | exact Ext.at (by assumption) (by first | assumption | exact at_ix (by assumption))); (case hw => first | assumption | lia); (case hr => first | assumption | lia);  intro n9 t9 c9 st9 σ9 tk9 hs9 R9 X9 A9; have l9 := Ext.len X9)
  trivial
section
variable {S : Sc} {Y : Cx} {w : World} {A : Ba} {c : Bc} {k : Mk} {ko : Option Mk} {X st : Led} {σ : St} {n n1 n2 n3 n4 n5 v m1 i1 tk0 : Nat} {i j : Int} {τ τ1 τ2 x y : T} {tk tk1 tk2 tk3 : Tok} {κ : KO Value}
theorem one_v (s : Std ⟨S, Y, w, A, some k, true⟩ 8) (R : Rep w A c (mkL w A k X) st σ) (ha : At σ n τ) (ho : τ.ok) (hr : σ.ts.length + 1 ≤ 2 ^ 20)
    (ret : ∀ n' t c' st' σ' tk', Gr st st' → Rep w A c' (mkL w A k X) st' σ' → Ext σ σ' (1) → At σ' n' (τ.notT) → κ (.int (n' : Nat) t) ⟨c', (mkL w A k X)⟩ st' tk') :
    Stp ⟨S, Y, w, A, some k, true⟩ ⟨c, (mkL w A k X)⟩ st tk0 (call (.ref 933) [.ref k.m, .str (Str.ofString "bvnot") tk1, .int n tk]) κ := by
  have hw := T.ok_wd ho
  refine def_one_bits.enter s (D' := 7) (by lia) rfl ⟨rfl, trivial⟩ rfl (by decide) fun Y2 s2 fin => ?_
  k_extra "vm"
  rcases T.one_ways ho with ⟨v, w', rfl⟩ | ⟨x, rfl⟩ | ⟨q1, q2, e⟩
  · obtain ⟨o1, o2, o3⟩ := ho
    have hw9 : (T.num v w').wd = w' := rfl
    rw [hw9] at hw
    k_extra "vm"
    (rename At _ _ (T.num (_ % _) _) => A8)
    rw [hw9, Nat.mod_eq_of_lt (by omega)] at A8
    exact fin _ _ _ _ (ret _ _ _ _ _ _ (by k_extra "up") (by assumption) (Ext.le (by assumption) (by lia)) A8)
  · have hx : x ∈ σ.ts := R.ok.cl _ ha.mem x (.head _)
    k_extra "vm"
    exact fin _ _ _ _ (ret _ _ _ _ σ _ (by k_extra "up") (by assumption) (Ext.refl _ _) (at_ix hx))
  · rw [e] at ret
    k_extra "vm"
    exact fin _ _ _ _ (ret _ _ _ _ _ _ (by k_extra "up") (by assumption) (Ext.le (by assumption) (by lia)) (by assumption))
theorem wider_v (s : Std ⟨S, Y, w, A, some k, true⟩ 8) (R : Rep w A c (mkL w A k X) st σ) (ha : At σ n τ) (ho : τ.ok) (hb : τ.wd + m1 ≤ 30) (hr : σ.ts.length + 1 ≤ 2 ^ 20)
    (ret : ∀ n' t c' st' σ' tk', Gr st st' → Rep w A c' (mkL w A k X) st' σ' → Ext σ σ' (1) → At σ' n' (τ.widerT m1) → κ (.int (n' : Nat) t) ⟨c', (mkL w A k X)⟩ st' tk') :
    Stp ⟨S, Y, w, A, some k, true⟩ ⟨c, (mkL w A k X)⟩ st tk0 (call (.ref 1010) [.ref k.m, .int (m1 : Nat) tk1, .int n tk]) κ := by
  by_cases hm : m1 = 0
  · unfold T.widerT at ret; rw [if_pos hm] at ret
    subst hm
    refine def_wider.enter s (D' := 7) (by lia) rfl ⟨rfl, trivial⟩ rfl (by decide) fun Y2 s2 fin => ?_
    k_extra "vm"
    exact fin _ _ _ _ (ret _ _ _ _ σ _ (by k_extra "up") (by assumption) (Ext.refl _ _) ha)
  · have hw := T.ok_wd ho
    have W : WantW m1 := trivial
    refine def_wider.enter s (D' := 7) (by lia) rfl ⟨rfl, trivial⟩ rfl (by decide) fun Y2 s2 fin => ?_
    k_extra "vm"
    rcases T.wid_ways hm ho with ⟨v, w', rfl⟩ | ⟨j, x, rfl⟩ | ⟨q1, q2, e⟩
    · unfold T.widerT at ret; rw [if_neg hm] at ret
      obtain ⟨o1, o2, o3⟩ := ho
      have hw9 : (T.num v w').wd = w' := rfl
      have W' : WantW (w' + m1) := trivial
      rw [hw9] at hw hb
      k_extra "vm"
      (rename At _ _ (T.num (_ % _) _) => A8)
      rw [Nat.mod_eq_of_lt (Nat.lt_of_lt_of_le o3 (Nat.pow_le_pow_right (by decide) (by omega)))] at A8
      exact fin _ _ _ _ (ret _ _ _ _ _ _ (by k_extra "up") (by assumption) (Ext.le (by assumption) (by lia)) A8)
    · unfold T.widerT at ret; rw [if_neg hm] at ret
      have hx : x ∈ σ.ts := R.ok.cl _ ha.mem x (.head _)
      have hxw := T.ok_wd ho.2.1
      have hw9 : (T.zx j x).wd = x.wd + j := rfl
      have W' : WantW (m1 + j) := trivial
      k_extra "vm"
      exact fin _ _ _ _ (ret _ _ _ _ _ _ (by k_extra "up") (by assumption) (Ext.le (by assumption) (by lia)) (by assumption))
    · rw [e] at ret
      k_extra "vm"
      exact fin _ _ _ _ (ret _ _ _ _ _ _ (by k_extra "up") (by assumption) (Ext.le (by assumption) (by lia)) (by assumption))
end
theorem kr_vrw3 : True := by
  k_with_none
  k_with "cn" => first
    | (with_reducible refine Cnd.neg (by first | assumption | exact rfl) ?_) | (with_reducible refine Cnd.pos (by first | assumption | exact rfl) ?_)
    | (refine Cnd.neg (by kernel_rfl!) ?_) | (refine Cnd.pos (by kernel_rfl!) ?_)
    | (refine Cnd.pos (by (first | (simp only [bne_self_eq_false, beq_self_eq_true, beq_iff_eq, bne_iff_ne, ne_eq, beq_eq_false_iff_ne, decide_eq_true_eq, decide_eq_false_iff_not, Bool.not_eq_true', Bool.not_eq_false', Bool.not_true, Bool.not_false, Option.isSome_some, Option.isSome_none, not_false_eq_true, Bool.false_eq_true, reduceCtorEq, eq_self]; done) | ((try simp only [bne_self_eq_false, beq_self_eq_true, beq_iff_eq, bne_iff_ne, ne_eq, beq_eq_false_iff_ne, decide_eq_true_eq, decide_eq_false_iff_not, Bool.not_eq_true', Bool.not_eq_false', Bool.not_true, Bool.not_false, Option.isSome_some, Option.isSome_none, not_false_eq_true, Bool.false_eq_true, reduceCtorEq, eq_self]); first | with_reducible assumption | (law_purse 20000 => omega)))) ?_) | (refine Cnd.neg (by (first | (simp only [bne_self_eq_false, beq_self_eq_true, beq_iff_eq, bne_iff_ne, ne_eq, beq_eq_false_iff_ne, decide_eq_true_eq, decide_eq_false_iff_not, Bool.not_eq_true', Bool.not_eq_false', Bool.not_true, Bool.not_false, Option.isSome_some, Option.isSome_none, not_false_eq_true, Bool.false_eq_true, reduceCtorEq, eq_self]; done) | ((try simp only [bne_self_eq_false, beq_self_eq_true, beq_iff_eq, bne_iff_ne, ne_eq, beq_eq_false_iff_ne, decide_eq_true_eq, decide_eq_false_iff_not, Bool.not_eq_true', Bool.not_eq_false', Bool.not_true, Bool.not_false, Option.isSome_some, Option.isSome_none, not_false_eq_true, Bool.false_eq_true, reduceCtorEq, eq_self]); first | with_reducible assumption | (law_purse 20000 => omega)))) ?_)
  k_with "cj" => first
    | (with_reducible refine Conj.no (by first | assumption | exact rfl) ?_) | (with_reducible refine Conj.yes (by first | assumption | exact rfl) ?_)
    | (refine Conj.no (by kernel_rfl!) ?_) | (refine Conj.yes (by kernel_rfl!) ?_)
    | (refine Conj.yes (by (first | (simp only [bne_self_eq_false, beq_self_eq_true, beq_iff_eq, bne_iff_ne, ne_eq, beq_eq_false_iff_ne, decide_eq_true_eq, decide_eq_false_iff_not, Bool.not_eq_true', Bool.not_eq_false', Bool.not_true, Bool.not_false, Option.isSome_some, Option.isSome_none, not_false_eq_true, Bool.false_eq_true, reduceCtorEq, eq_self]; done) | ((try simp only [bne_self_eq_false, beq_self_eq_true, beq_iff_eq, bne_iff_ne, ne_eq, beq_eq_false_iff_ne, decide_eq_true_eq, decide_eq_false_iff_not, Bool.not_eq_true', Bool.not_eq_false', Bool.not_true, Bool.not_false, Option.isSome_some, Option.isSome_none, not_false_eq_true, Bool.false_eq_true, reduceCtorEq, eq_self]); first | with_reducible assumption | (law_purse 20000 => omega)))) ?_) | (refine Conj.no (by (first | (simp only [bne_self_eq_false, beq_self_eq_true, beq_iff_eq, bne_iff_ne, ne_eq, beq_eq_false_iff_ne, decide_eq_true_eq, decide_eq_false_iff_not, Bool.not_eq_true', Bool.not_eq_false', Bool.not_true, Bool.not_false, Option.isSome_some, Option.isSome_none, not_false_eq_true, Bool.false_eq_true, reduceCtorEq, eq_self]; done) | ((try simp only [bne_self_eq_false, beq_self_eq_true, beq_iff_eq, bne_iff_ne, ne_eq, beq_eq_false_iff_ne, decide_eq_true_eq, decide_eq_false_iff_not, Bool.not_eq_true', Bool.not_eq_false', Bool.not_true, Bool.not_false, Option.isSome_some, Option.isSome_none, not_false_eq_true, Bool.false_eq_true, reduceCtorEq, eq_self]); first | with_reducible assumption | (law_purse 20000 => omega)))) ?_)
  k_with "up" => (intro p9 h9; repeat' (first | exact h9 | refine List.mem_cons_of_mem _ ?_ | refine (show ∀ p ∈ _, p ∈ _ by assumption) _ ?_))
  k_with "vm1" => first
    | (refine (?_ : Stp _ _ _ _ _ _); k_extra "st")
    | (refine (?_ : Cnd _ _ _); k_extra "cn")
    | (refine (?_ : Conj _ _ _ _ _ _ _ _); k_extra "cj")
    | (refine (?_ : Sub _ _ _ _ _ _ _); k_extra "sb")
    | (refine (?_ : Tp _ _ _ _ _ _); refine' tp_v ?R ?_; (case R => assumption); intro b9 R9)
    | k_extra "vm9" 
  k_with "sb" => (refine' sub_v ?hd ?hx ?_; (case hd => first | assumption | exact datUp (by assumption) (by k_extra "up")); (case hx => exact rfl); intro t9)
  k_with "vm" => (repeat' (k_extra "vm1"))
  k_with "st" => ((with_reducible refine' op_use_v ?s ?R ?ha ?_); (case s => exact Std.le (by assumption) (by lia)); (case R => assumption); (case ha => first | assumption | exact at_ix (by assumption) | exact Ext.at (by assumption) (by first | assumption | exact at_ix (by assumption)));  intro t9 tk9)
  k_with "st" => ((with_reducible refine' args_use_v ?s ?R ?ha ?_); (case s => exact Std.le (by assumption) (by lia)); (case R => assumption); (case ha => first | assumption | exact at_ix (by assumption) | exact Ext.at (by assumption) (by first | assumption | exact at_ix (by assumption)));  intro v9 D9 tk9)
  k_with "st" => ((with_reducible refine' width_use_v ?s ?R ?ha ?_); (case s => exact Std.le (by assumption) (by lia)); (case R => assumption); (case ha => first | assumption | exact at_ix (by assumption) | exact Ext.at (by assumption) (by first | assumption | exact at_ix (by assumption)));  intro t9 tk9)
  k_with "st" => ((with_reducible refine' sort_use_v ?s ?R ?ha ?_); (case s => exact Std.le (by assumption) (by lia)); (case R => assumption); (case ha => first | assumption | exact at_ix (by assumption) | exact Ext.at (by assumption) (by first | assumption | exact at_ix (by assumption)));  intro t9 tk9)
  k_with "st" => ((with_reducible refine' data_pair_v ?s ?R ?ha ?hi ?_); (case s => exact Std.le (by assumption) (by lia)); (case R => assumption); (case ha => first | assumption | exact at_ix (by assumption) | exact Ext.at (by assumption) (by first | assumption | exact at_ix (by assumption))); (case hi => exact rfl);  intro v9 D9 tk9)
  k_with "st" => ((with_reducible refine' data_int_v ?s ?R ?ha ?hi ?_); (case s => exact Std.le (by assumption) (by lia)); (case R => assumption); (case ha => first | assumption | exact at_ix (by assumption) | exact Ext.at (by assumption) (by first | assumption | exact at_ix (by assumption))); (case hi => exact rfl);  intro t9 tk9)
  k_with "st" => ((with_reducible refine' bool_term_use_v ?s  ?_); (case s => exact Std.le (by assumption) (by lia));  intro t9 tk9)
  k_with "st" => ((with_reducible refine' bv_num_j_v ?s ?R ?e ?W ?hj ?hr ?hx ?_); (case s => exact Std.le (by assumption) (by lia)); (case R => assumption); (case e => exact rfl); (case W => assumption); (case hj => first | rfl | lia); (case hr => first | assumption | lia); (case hx => first | assumption | lia);  intro n9 t9 c9 st9 σ9 tk9 hs9 R9 X9 A9; have l9 := Ext.len X9)
  k_with "st" => ((with_reducible refine' is_bits_v ?s ?R ?ha ?_); (case s => exact Std.le (by assumption) (by lia)); (case R => assumption); (case ha => first | assumption | exact at_ix (by assumption) | exact Ext.at (by assumption) (by first | assumption | exact at_ix (by assumption)));  intro tk9)
  k_with "st" => ((with_reducible refine' number_v ?s ?R ?ha ?hw ?hr ?_); (case s => exact Std.le (by assumption) (by lia)); (case R => assumption); (case ha => first | assumption | exact at_ix (by assumption) | exact Ext.at (by assumption) (by first | assumption | exact at_ix (by assumption))); (case hw => first | assumption | lia); (case hr => first | assumption | lia);  intro n9 t9 c9 st9 σ9 tk9 hs9 R9 X9 A9; have l9 := Ext.len X9)
  k_with "st" => ((with_reducible refine' onev_use_v ?s ?h1 ?h2 ?_); (case s => exact Std.le (by assumption) (by lia)); (case h1 => first | assumption | lia); (case h2 => first | assumption | lia);  intro t9 tk9)
  k_with "st" => ((with_reducible refine' sxv_use_v ?s ?h1 ?h2 ?h3 ?_); (case s => exact Std.le (by assumption) (by lia)); (case h1 => first | assumption | lia); (case h2 => first | assumption | lia); (case h3 => first | assumption | lia);  intro t9 tk9)
  k_with "st" => ((with_reducible refine' zx_go_v ?s ?R ?W ?hj ?ha ?hw ?hr ?hm ?hb ?_); (case s => exact Std.le (by assumption) (by lia)); (case R => assumption); (case W => assumption); (case hj => first | rfl | lia); (case ha => first | assumption | exact at_ix (by assumption) | exact Ext.at (by assumption) (by first | assumption | exact at_ix (by assumption))); (case hw => first | assumption | lia); (case hr => first | assumption | lia); (case hm => first | assumption | lia); (case hb => first | assumption | lia);  intro n9 t9 c9 st9 σ9 tk9 hs9 R9 X9 A9; have l9 := Ext.len X9)
  k_with "st" => ((with_reducible refine' sx_go_v ?s ?R ?W ?hj ?ha ?hw ?hr ?hm ?hb ?_); (case s => exact Std.le (by assumption) (by lia)); (case R => assumption); (case W => assumption); (case hj => first | rfl | lia); (case ha => first | assumption | exact at_ix (by assumption) | exact Ext.at (by assumption) (by first | assumption | exact at_ix (by assumption))); (case hw => first | assumption | lia); (case hr => first | assumption | lia); (case hm => first | assumption | lia); (case hb => first | assumption | lia);  intro n9 t9 c9 st9 σ9 tk9 hs9 R9 X9 A9; have l9 := Ext.len X9)
  k_with "st" => ((with_reducible refine' bvnot_use_v ?s ?R ?ha ?hw ?hr ?_); (case s => exact Std.le (by assumption) (by lia)); (case R => assumption); (case ha => first | assumption | exact at_ix (by assumption) | exact Ext.at (by assumption) (by first | assumption | exact at_ix (by assumption))); (case hw => first | assumption | lia); (case hr => first | assumption | lia);  intro n9 t9 c9 st9 σ9 tk9 hs9 R9 X9 A9; have l9 := Ext.len X9)
  k_with "st" => ((with_reducible refine' wider_v ?s ?R ?ha ?ho ?hb ?hr ?_); (case s => exact Std.le (by assumption) (by lia)); (case R => assumption); (case ha => first | assumption | exact at_ix (by assumption) | exact Ext.at (by assumption) (by first | assumption | exact at_ix (by assumption))); (case ho => assumption); (case hb => first | assumption | lia); (case hr => first | assumption | lia);  intro n9 t9 c9 st9 σ9 tk9 hs9 R9 X9 A9; have l9 := Ext.len X9)
  trivial
section
variable {S : Sc} {Y : Cx} {w : World} {A : Ba} {c : Bc} {k : Mk} {ko : Option Mk} {X st : Led} {σ : St} {n n1 n2 n3 n4 n5 v m1 i1 tk0 : Nat} {i j : Int} {τ τ1 τ2 x y : T} {tk tk1 tk2 tk3 : Tok} {κ : KO Value}
theorem sxt_v (s : Std ⟨S, Y, w, A, some k, true⟩ 10) (R : Rep w A c (mkL w A k X) st σ) (ha : At σ n τ) (ho : τ.ok) (hb : τ.wd + m1 ≤ 30) (hr : σ.ts.length + 1 ≤ 2 ^ 20)
    (ret : ∀ n' t c' st' σ' tk', Gr st st' → Rep w A c' (mkL w A k X) st' σ' → Ext σ σ' (1) → At σ' n' (τ.sxT m1) → κ (.int (n' : Nat) t) ⟨c', (mkL w A k X)⟩ st' tk') :
    Stp ⟨S, Y, w, A, some k, true⟩ ⟨c, (mkL w A k X)⟩ st tk0 (call (.ref 1017) [.ref k.m, .int (m1 : Nat) tk1, .int n tk]) κ := by
  by_cases hm : m1 = 0
  · unfold T.sxT at ret; rw [if_pos hm] at ret
    subst hm
    refine def_wider_signed.enter s (D' := 9) (by lia) rfl ⟨rfl, trivial⟩ rfl (by decide) fun Y2 s2 fin => ?_
    k_extra "vm"
    exact fin _ _ _ _ (ret _ _ _ _ σ _ (by k_extra "up") (by assumption) (Ext.refl _ _) ha)
  · have hw := T.ok_wd ho
    have W : WantW m1 := trivial
    refine def_wider_signed.enter s (D' := 9) (by lia) rfl ⟨rfl, trivial⟩ rfl (by decide) fun Y2 s2 fin => ?_
    k_extra "vm"
    rcases T.sx_ways hm ho with ⟨v, w', rfl⟩ | ⟨j, x, rfl⟩ | ⟨j, x, rfl⟩ | ⟨q1, q2, q3, e⟩
    · unfold T.sxT at ret; rw [if_neg hm] at ret
      obtain ⟨o1, o2, o3⟩ := ho
      have hw9 : (T.num v w').wd = w' := rfl
      have W' : WantW (w' + m1) := trivial
      rw [hw9] at hw hb
      k_extra "vm"
      (rename At _ _ (T.num (_ % _) _) => A8)
      rw [hw9, Nat.mod_eq_of_lt (sext_lt o3)] at A8
      exact fin _ _ _ _ (ret _ _ _ _ _ _ (by k_extra "up") (by assumption) (Ext.le (by assumption) (by lia)) A8)
    · unfold T.sxT at ret; rw [if_neg hm] at ret
      have hx : x ∈ σ.ts := R.ok.cl _ ha.mem x (.head _)
      have hxw := T.ok_wd ho.2.1
      have hw9 : (T.sx j x).wd = x.wd + j := rfl
      have W' : WantW (m1 + j) := trivial
      k_extra "vm"
      exact fin _ _ _ _ (ret _ _ _ _ _ _ (by k_extra "up") (by assumption) (Ext.le (by assumption) (by lia)) (by assumption))
    · unfold T.sxT at ret; rw [if_neg hm] at ret
      k_extra "vm"
      (rename At _ _ (T.widerT _ _) => A8)
      unfold T.widerT at A8; rw [if_neg hm] at A8
      exact fin _ _ _ _ (ret _ _ _ _ _ _ (by k_extra "up") (by assumption) (Ext.le (by assumption) (by lia)) A8)
    · rw [e] at ret
      k_extra "vm"
      exact fin _ _ _ _ (ret _ _ _ _ _ _ (by k_extra "up") (by assumption) (Ext.le (by assumption) (by lia)) (by assumption))
end
end
section
noncomputable def T.isB : T → Bool
  | .tt | .ff | .bit _ _ | .neg (.bit _ _) => true
  | _ => false
theorem T.isB_notB {τ : T} (h : τ.isB = true) : τ.notB.isB = true := by
  cases τ with
  | neg x => cases x <;> first | exact (Bool.noConfusion h) | rfl
  | _ => first | exact (Bool.noConfusion h) | rfl
theorem T.isB_bitT {τ : T} (h : τ.ok) (i : Nat) : (τ.bitT i).isB = true := by
  induction τ generalizing i with
  | leaf => rfl
  | num v => simp only [bitT]; split <;> rfl
  | bnot x ih => exact isB_notB (ih h.1 i)
  | cat x y ihx ihy => simp only [bitT]; split; exact ihy h.2.1 _; exact ihx h.1 _
  | ext _ _ x ih => exact ih h.2.2 _
  | zx _ x ih => simp only [bitT]; split; exact ih h.2.1 _; rfl
  | sx _ x ih => exact ih h.2.1 _
  | _ => exact h.elim
section
variable {S : Sc} {Y : Cx} {w : World} {A : Ba} {c : Bc} {k : Mk} {ko : Option Mk} {X st : Led} {σ : St} {n n1 n2 n3 n4 n5 v m1 i1 tk0 : Nat} {i j : Int} {τ τ1 τ2 x y : T} {tk tk1 tk2 tk3 : Tok} {κ : KO Value}
theorem not_use_v (s : Std ⟨S, Y, w, A, ko, true⟩ 4) (R : Rep w A c X st σ) (ha : At σ n τ) (hB : τ.isB = true) (hr : σ.ts.length + 1 ≤ 2 ^ 20)
    (ret : ∀ n' t c' st' σ' tk', Gr st st' → Rep w A c' X st' σ' → Ext σ σ' (1) → At σ' n' (τ.notB) → κ (.int (n' : Nat) t) ⟨c', X⟩ st' tk') :
    Stp ⟨S, Y, w, A, ko, true⟩ ⟨c, X⟩ st tk0 (call (.ref 453) [.ref A.b, .int n tk]) κ := by
  cases τ with
  | tt => exact not_tt_v s R ha hr ret
  | ff => exact not_ff_v s R ha hr ret
  | bit i x => exact not_bit_v s R ha hr ret
  | neg x => exact not_neg_v s R ha hr ret
  | _ => cases hB
end
section
variable {S : Sc} {Y : Cx} {w : World} {A : Ba} {c : Bc} {k : Mk} {X st : Led} {tk0 D : Nat} {a b : Int} {tk tk1 : Tok} {κ : KO Value}
theorem min_v (ret : ∀ t tk', κ (.int (if b < a then b else a) t) ⟨c, X⟩ st tk') : Stp ⟨S, Y, w, A, ko, true⟩ ⟨c, X⟩ st tk0 (call (.builtin "min") [.int a tk, .int b tk1]) κ :=
  ⟨fun h₁ m q F N l => min_two_N rfl F N.1 fun h' tk' F' N' => by
    by_cases e : b < a
    · rw [if_pos e]
      exact l _ h' _ _ _ F' ⟨N', N.2⟩ (by simpa only [if_pos e] using ret tk1 tk')
    · rw [if_neg e]
      exact l _ h' _ _ _ F' ⟨N', N.2⟩ (by simpa only [if_neg e] using ret tk tk')⟩
theorem att_no_v (s : Std ⟨S, Y, w, A, some k, true⟩ D) (ret : κ (.int 2 (k.tk 5)) ⟨c, mkL w A k X⟩ st (tk0 + 1)) : Stp ⟨S, Y, w, A, some k, true⟩ ⟨c, mkL w A k X⟩ st tk0 (getAttr (.ref k.m) (Str.ofString "no") true) κ :=
  ⟨fun h₁ m q F N l => get_own F s.K (InstAt.of_news N.1 mem_m mem_md) (by k_is) (by k_is) (by k_is) (by k_is) (by k_get) rfl (l _ h₁ _ _ _ F N ret)⟩
end
theorem kr_vbit1 : True := by
  k_with_none
  k_with "cn" => first
    | (with_reducible refine Cnd.neg (by first | assumption | exact rfl) ?_) | (with_reducible refine Cnd.pos (by first | assumption | exact rfl) ?_)
    | (refine Cnd.neg (by kernel_rfl!) ?_) | (refine Cnd.pos (by kernel_rfl!) ?_)
    | (refine Cnd.pos (by (first | (simp only [bne_self_eq_false, beq_self_eq_true, beq_iff_eq, bne_iff_ne, ne_eq, beq_eq_false_iff_ne, decide_eq_true_eq, decide_eq_false_iff_not, Bool.not_eq_true', Bool.not_eq_false', Bool.not_true, Bool.not_false, Option.isSome_some, Option.isSome_none, not_false_eq_true, Bool.false_eq_true, reduceCtorEq, eq_self]; done) | ((try simp only [bne_self_eq_false, beq_self_eq_true, beq_iff_eq, bne_iff_ne, ne_eq, beq_eq_false_iff_ne, decide_eq_true_eq, decide_eq_false_iff_not, Bool.not_eq_true', Bool.not_eq_false', Bool.not_true, Bool.not_false, Option.isSome_some, Option.isSome_none, not_false_eq_true, Bool.false_eq_true, reduceCtorEq, eq_self]); first | with_reducible assumption | (law_purse 20000 => omega)))) ?_) | (refine Cnd.neg (by (first | (simp only [bne_self_eq_false, beq_self_eq_true, beq_iff_eq, bne_iff_ne, ne_eq, beq_eq_false_iff_ne, decide_eq_true_eq, decide_eq_false_iff_not, Bool.not_eq_true', Bool.not_eq_false', Bool.not_true, Bool.not_false, Option.isSome_some, Option.isSome_none, not_false_eq_true, Bool.false_eq_true, reduceCtorEq, eq_self]; done) | ((try simp only [bne_self_eq_false, beq_self_eq_true, beq_iff_eq, bne_iff_ne, ne_eq, beq_eq_false_iff_ne, decide_eq_true_eq, decide_eq_false_iff_not, Bool.not_eq_true', Bool.not_eq_false', Bool.not_true, Bool.not_false, Option.isSome_some, Option.isSome_none, not_false_eq_true, Bool.false_eq_true, reduceCtorEq, eq_self]); first | with_reducible assumption | (law_purse 20000 => omega)))) ?_)
  k_with "cj" => first
    | (with_reducible refine Conj.no (by first | assumption | exact rfl) ?_) | (with_reducible refine Conj.yes (by first | assumption | exact rfl) ?_)
    | (refine Conj.no (by kernel_rfl!) ?_) | (refine Conj.yes (by kernel_rfl!) ?_)
    | (refine Conj.yes (by (first | (simp only [bne_self_eq_false, beq_self_eq_true, beq_iff_eq, bne_iff_ne, ne_eq, beq_eq_false_iff_ne, decide_eq_true_eq, decide_eq_false_iff_not, Bool.not_eq_true', Bool.not_eq_false', Bool.not_true, Bool.not_false, Option.isSome_some, Option.isSome_none, not_false_eq_true, Bool.false_eq_true, reduceCtorEq, eq_self]; done) | ((try simp only [bne_self_eq_false, beq_self_eq_true, beq_iff_eq, bne_iff_ne, ne_eq, beq_eq_false_iff_ne, decide_eq_true_eq, decide_eq_false_iff_not, Bool.not_eq_true', Bool.not_eq_false', Bool.not_true, Bool.not_false, Option.isSome_some, Option.isSome_none, not_false_eq_true, Bool.false_eq_true, reduceCtorEq, eq_self]); first | with_reducible assumption | (law_purse 20000 => omega)))) ?_) | (refine Conj.no (by (first | (simp only [bne_self_eq_false, beq_self_eq_true, beq_iff_eq, bne_iff_ne, ne_eq, beq_eq_false_iff_ne, decide_eq_true_eq, decide_eq_false_iff_not, Bool.not_eq_true', Bool.not_eq_false', Bool.not_true, Bool.not_false, Option.isSome_some, Option.isSome_none, not_false_eq_true, Bool.false_eq_true, reduceCtorEq, eq_self]; done) | ((try simp only [bne_self_eq_false, beq_self_eq_true, beq_iff_eq, bne_iff_ne, ne_eq, beq_eq_false_iff_ne, decide_eq_true_eq, decide_eq_false_iff_not, Bool.not_eq_true', Bool.not_eq_false', Bool.not_true, Bool.not_false, Option.isSome_some, Option.isSome_none, not_false_eq_true, Bool.false_eq_true, reduceCtorEq, eq_self]); first | with_reducible assumption | (law_purse 20000 => omega)))) ?_)
  k_with "up" => (intro p9 h9; repeat' (first | exact h9 | refine List.mem_cons_of_mem _ ?_ | refine (show ∀ p ∈ _, p ∈ _ by assumption) _ ?_))
  k_with "vm1" => first
    | (refine (?_ : Stp _ _ _ _ _ _); k_extra "st")
    | (refine (?_ : Cnd _ _ _); k_extra "cn")
    | (refine (?_ : Conj _ _ _ _ _ _ _ _); k_extra "cj")
    | (refine (?_ : Sub _ _ _ _ _ _ _); k_extra "sb")
    | (refine (?_ : Tp _ _ _ _ _ _); refine' tp_v ?R ?_; (case R => assumption); intro b9 R9)
    | k_extra "vm9" 
  k_with "sb" => (refine' sub_v ?hd ?hx ?_; (case hd => first | assumption | exact datUp (by assumption) (by k_extra "up")); (case hx => exact rfl); intro t9)
  k_with "vm" => (repeat' (k_extra "vm1"))
  k_with "st" => ((with_reducible refine' op_use_v ?s ?R ?ha ?_); (case s => exact Std.le (by assumption) (by lia)); (case R => assumption); (case ha => first | assumption | exact at_ix (by assumption) | exact Ext.at (by assumption) (by first | assumption | exact at_ix (by assumption)));  intro t9 tk9)
  k_with "st" => ((with_reducible refine' args_use_v ?s ?R ?ha ?_); (case s => exact Std.le (by assumption) (by lia)); (case R => assumption); (case ha => first | assumption | exact at_ix (by assumption) | exact Ext.at (by assumption) (by first | assumption | exact at_ix (by assumption)));  intro v9 D9 tk9)
  k_with "st" => ((with_reducible refine' width_use_v ?s ?R ?ha ?_); (case s => exact Std.le (by assumption) (by lia)); (case R => assumption); (case ha => first | assumption | exact at_ix (by assumption) | exact Ext.at (by assumption) (by first | assumption | exact at_ix (by assumption)));  intro t9 tk9)
  k_with "st" => ((with_reducible refine' sort_use_v ?s ?R ?ha ?_); (case s => exact Std.le (by assumption) (by lia)); (case R => assumption); (case ha => first | assumption | exact at_ix (by assumption) | exact Ext.at (by assumption) (by first | assumption | exact at_ix (by assumption)));  intro t9 tk9)
  k_with "st" => ((with_reducible refine' data_pair_v ?s ?R ?ha ?hi ?_); (case s => exact Std.le (by assumption) (by lia)); (case R => assumption); (case ha => first | assumption | exact at_ix (by assumption) | exact Ext.at (by assumption) (by first | assumption | exact at_ix (by assumption))); (case hi => exact rfl);  intro v9 D9 tk9)
  k_with "st" => ((with_reducible refine' data_int_v ?s ?R ?ha ?hi ?_); (case s => exact Std.le (by assumption) (by lia)); (case R => assumption); (case ha => first | assumption | exact at_ix (by assumption) | exact Ext.at (by assumption) (by first | assumption | exact at_ix (by assumption))); (case hi => exact rfl);  intro t9 tk9)
  k_with "st" => ((with_reducible refine' bool_term_use_v ?s  ?_); (case s => exact Std.le (by assumption) (by lia));  intro t9 tk9)
  k_with "st" => ((with_reducible refine' not_use_v ?s ?R ?ha ?hB ?hr ?_); (case s => exact Std.le (by assumption) (by lia)); (case R => assumption); (case ha => first | assumption | exact at_ix (by assumption) | exact Ext.at (by assumption) (by first | assumption | exact at_ix (by assumption))); (case hB => assumption); (case hr => first | assumption | lia);  intro n9 t9 c9 st9 σ9 tk9 hs9 R9 X9 A9; have l9 := Ext.len X9)
  trivial
section
variable {S : Sc} {Y : Cx} {w : World} {A : Ba} {c : Bc} {k : Mk} {ko : Option Mk} {X st : Led} {σ : St} {n n1 n2 n3 n4 n5 v m1 i1 tk0 : Nat} {i j : Int} {τ τ1 τ2 x y : T} {tk tk1 tk2 tk3 : Tok} {κ : KO Value}
theorem negated_v (s : Std ⟨S, Y, w, A, some k, true⟩ 6) (R : Rep w A c (mkL w A k X) st σ) (ha : At σ n τ) (hB : τ.isB = true) (hr : σ.ts.length + 1 ≤ 2 ^ 20)
    (ret : ∀ n' t c' st' σ' tk', Gr st st' → Rep w A c' (mkL w A k X) st' σ' → Ext σ σ' (1) → At σ' n' (τ.notB) → κ (.int (n' : Nat) t) ⟨c', (mkL w A k X)⟩ st' tk') :
    Stp ⟨S, Y, w, A, some k, true⟩ ⟨c, (mkL w A k X)⟩ st tk0 (call (.ref 805) [.ref k.m, .int n tk]) κ := by
  refine def_negated.enter s (D' := 5) (by lia) rfl ⟨rfl, trivial⟩ rfl (by decide) fun Y2 s2 fin => ?_
  k_extra "vm"
  exact fin _ _ _ _ (ret _ _ _ _ _ _ (by k_extra "up") (by assumption) (Ext.le (by assumption) (by lia)) (by assumption))
end
theorem kr_vbit2 : True := by
  k_with_none
  k_with "cn" => first
    | (with_reducible refine Cnd.neg (by first | assumption | exact rfl) ?_) | (with_reducible refine Cnd.pos (by first | assumption | exact rfl) ?_)
    | (refine Cnd.neg (by kernel_rfl!) ?_) | (refine Cnd.pos (by kernel_rfl!) ?_)
    | (refine Cnd.pos (by (first | (simp only [bne_self_eq_false, beq_self_eq_true, beq_iff_eq, bne_iff_ne, ne_eq, beq_eq_false_iff_ne, decide_eq_true_eq, decide_eq_false_iff_not, Bool.not_eq_true', Bool.not_eq_false', Bool.not_true, Bool.not_false, Option.isSome_some, Option.isSome_none, not_false_eq_true, Bool.false_eq_true, reduceCtorEq, eq_self]; done) | ((try simp only [bne_self_eq_false, beq_self_eq_true, beq_iff_eq, bne_iff_ne, ne_eq, beq_eq_false_iff_ne, decide_eq_true_eq, decide_eq_false_iff_not, Bool.not_eq_true', Bool.not_eq_false', Bool.not_true, Bool.not_false, Option.isSome_some, Option.isSome_none, not_false_eq_true, Bool.false_eq_true, reduceCtorEq, eq_self]); first | with_reducible assumption | (law_purse 20000 => omega)))) ?_) | (refine Cnd.neg (by (first | (simp only [bne_self_eq_false, beq_self_eq_true, beq_iff_eq, bne_iff_ne, ne_eq, beq_eq_false_iff_ne, decide_eq_true_eq, decide_eq_false_iff_not, Bool.not_eq_true', Bool.not_eq_false', Bool.not_true, Bool.not_false, Option.isSome_some, Option.isSome_none, not_false_eq_true, Bool.false_eq_true, reduceCtorEq, eq_self]; done) | ((try simp only [bne_self_eq_false, beq_self_eq_true, beq_iff_eq, bne_iff_ne, ne_eq, beq_eq_false_iff_ne, decide_eq_true_eq, decide_eq_false_iff_not, Bool.not_eq_true', Bool.not_eq_false', Bool.not_true, Bool.not_false, Option.isSome_some, Option.isSome_none, not_false_eq_true, Bool.false_eq_true, reduceCtorEq, eq_self]); first | with_reducible assumption | (law_purse 20000 => omega)))) ?_)
  k_with "cj" => first
    | (with_reducible refine Conj.no (by first | assumption | exact rfl) ?_) | (with_reducible refine Conj.yes (by first | assumption | exact rfl) ?_)
    | (refine Conj.no (by kernel_rfl!) ?_) | (refine Conj.yes (by kernel_rfl!) ?_)
    | (refine Conj.yes (by (first | (simp only [bne_self_eq_false, beq_self_eq_true, beq_iff_eq, bne_iff_ne, ne_eq, beq_eq_false_iff_ne, decide_eq_true_eq, decide_eq_false_iff_not, Bool.not_eq_true', Bool.not_eq_false', Bool.not_true, Bool.not_false, Option.isSome_some, Option.isSome_none, not_false_eq_true, Bool.false_eq_true, reduceCtorEq, eq_self]; done) | ((try simp only [bne_self_eq_false, beq_self_eq_true, beq_iff_eq, bne_iff_ne, ne_eq, beq_eq_false_iff_ne, decide_eq_true_eq, decide_eq_false_iff_not, Bool.not_eq_true', Bool.not_eq_false', Bool.not_true, Bool.not_false, Option.isSome_some, Option.isSome_none, not_false_eq_true, Bool.false_eq_true, reduceCtorEq, eq_self]); first | with_reducible assumption | (law_purse 20000 => omega)))) ?_) | (refine Conj.no (by (first | (simp only [bne_self_eq_false, beq_self_eq_true, beq_iff_eq, bne_iff_ne, ne_eq, beq_eq_false_iff_ne, decide_eq_true_eq, decide_eq_false_iff_not, Bool.not_eq_true', Bool.not_eq_false', Bool.not_true, Bool.not_false, Option.isSome_some, Option.isSome_none, not_false_eq_true, Bool.false_eq_true, reduceCtorEq, eq_self]; done) | ((try simp only [bne_self_eq_false, beq_self_eq_true, beq_iff_eq, bne_iff_ne, ne_eq, beq_eq_false_iff_ne, decide_eq_true_eq, decide_eq_false_iff_not, Bool.not_eq_true', Bool.not_eq_false', Bool.not_true, Bool.not_false, Option.isSome_some, Option.isSome_none, not_false_eq_true, Bool.false_eq_true, reduceCtorEq, eq_self]); first | with_reducible assumption | (law_purse 20000 => omega)))) ?_)
  k_with "up" => (intro p9 h9; repeat' (first | exact h9 | refine List.mem_cons_of_mem _ ?_ | refine (show ∀ p ∈ _, p ∈ _ by assumption) _ ?_))
  k_with "vm1" => first
    | (refine (?_ : Stp _ _ _ _ _ _); k_extra "st")
    | (refine (?_ : Cnd _ _ _); k_extra "cn")
    | (refine (?_ : Conj _ _ _ _ _ _ _ _); k_extra "cj")
    | (refine (?_ : Sub _ _ _ _ _ _ _); k_extra "sb")
    | (refine (?_ : Tp _ _ _ _ _ _); refine' tp_v ?R ?_; (case R => assumption); intro b9 R9)
    | k_extra "vm9" 
  k_with "sb" => (refine' sub_v ?hd ?hx ?_; (case hd => first | assumption | exact datUp (by assumption) (by k_extra "up")); (case hx => exact rfl); intro t9)
  k_with "vm" => (repeat' (k_extra "vm1"))
  k_with "st" => ((with_reducible refine' op_use_v ?s ?R ?ha ?_); (case s => exact Std.le (by assumption) (by lia)); (case R => assumption); (case ha => first | assumption | exact at_ix (by assumption) | exact Ext.at (by assumption) (by first | assumption | exact at_ix (by assumption)));  intro t9 tk9)
  k_with "st" => ((with_reducible refine' args_use_v ?s ?R ?ha ?_); (case s => exact Std.le (by assumption) (by lia)); (case R => assumption); (case ha => first | assumption | exact at_ix (by assumption) | exact Ext.at (by assumption) (by first | assumption | exact at_ix (by assumption)));  intro v9 D9 tk9)
  k_with "st" => ((with_reducible refine' width_use_v ?s ?R ?ha ?_); (case s => exact Std.le (by assumption) (by lia)); (case R => assumption); (case ha => first | assumption | exact at_ix (by assumption) | exact Ext.at (by assumption) (by first | assumption | exact at_ix (by assumption)));  intro t9 tk9)
  k_with "st" => ((with_reducible refine' sort_use_v ?s ?R ?ha ?_); (case s => exact Std.le (by assumption) (by lia)); (case R => assumption); (case ha => first | assumption | exact at_ix (by assumption) | exact Ext.at (by assumption) (by first | assumption | exact at_ix (by assumption)));  intro t9 tk9)
  k_with "st" => ((with_reducible refine' data_pair_v ?s ?R ?ha ?hi ?_); (case s => exact Std.le (by assumption) (by lia)); (case R => assumption); (case ha => first | assumption | exact at_ix (by assumption) | exact Ext.at (by assumption) (by first | assumption | exact at_ix (by assumption))); (case hi => exact rfl);  intro v9 D9 tk9)
  k_with "st" => ((with_reducible refine' data_int_v ?s ?R ?ha ?hi ?_); (case s => exact Std.le (by assumption) (by lia)); (case R => assumption); (case ha => first | assumption | exact at_ix (by assumption) | exact Ext.at (by assumption) (by first | assumption | exact at_ix (by assumption))); (case hi => exact rfl);  intro t9 tk9)
  k_with "st" => ((with_reducible refine' bool_term_use_v ?s  ?_); (case s => exact Std.le (by assumption) (by lia));  intro t9 tk9)
  k_with "st" => ((with_reducible refine' negated_v ?s ?R ?ha ?hB ?hr ?_); (case s => exact Std.le (by assumption) (by lia)); (case R => assumption); (case ha => first | assumption | exact at_ix (by assumption) | exact Ext.at (by assumption) (by first | assumption | exact at_ix (by assumption))); (case hB => assumption); (case hr => first | assumption | lia);  intro n9 t9 c9 st9 σ9 tk9 hs9 R9 X9 A9; have l9 := Ext.len X9)
  k_with "st" => ((with_reducible refine' bitv_use_v ?s ?h1 ?h2 ?_); (case s => exact Std.le (by assumption) (by lia)); (case h1 => first | assumption | lia); (case h2 => first | assumption | lia);  intro tk9)
  k_with "st" => ((with_reducible refine' bit_use_v ?s ?R ?ha ?hw ?hr ?hm ?_); (case s => exact Std.le (by assumption) (by lia)); (case R => assumption); (case ha => first | assumption | exact at_ix (by assumption) | exact Ext.at (by assumption) (by first | assumption | exact at_ix (by assumption))); (case hw => first | assumption | lia); (case hr => first | assumption | lia); (case hm => first | assumption | lia);  intro n9 t9 c9 st9 σ9 tk9 hs9 R9 X9 A9; have l9 := Ext.len X9)
  k_with "st" => ((with_reducible refine min_v ?_); intro t9 tk9)
  k_with "st" => ((with_reducible refine' att_no_v ?s ?_); (case s => assumption))
  trivial
noncomputable def BitV (w : World) (x : T) : Prop := ∀ {S : Sc} {Y : Cx} {A : Ba} {c : Bc} {k : Mk} {X st : Led} {tk0 n : Nat} {σ : St} {tk tk1 : Tok} {j : Int} {κ : KO Value} (i : Nat) (s : Std ⟨S, Y, w, A, some k, true⟩ (12 + x.dep)) (R : Rep w A c (mkL w A k X) st σ) (ha : At σ n x) (ho : x.ok) (hj : j = (i : Nat)) (hi : i < x.wd) (hr : σ.ts.length + (x.dep + 1) ≤ 2 ^ 20)
    (ret : ∀ n' t c' st' σ' tk', Gr st st' → Rep w A c' (mkL w A k X) st' σ' → Ext σ σ' (x.dep + 1) → At σ' n' (x.bitT i) → κ (.int (n' : Nat) t) ⟨c', (mkL w A k X)⟩ st' tk'), Stop (Stp ⟨S, Y, w, A, some k, true⟩ ⟨c, mkL w A k X⟩ st tk0 (call (.ref 1038) [.ref k.m, .int j tk, .int n tk1]) κ)
theorem bit_v {w : World} {x : T} (IH : ∀ y ∈ x.kids, BitV w y) : BitV w x := by
  intro S Y A c k X st tk0 n σ tk tk1 j κ i s R ha ho hj hi hr ret
  subst hj
  unfold Stop
  refine def_bit_of.enter s (D' := 11 + x.dep) (by lia) rfl ⟨rfl, trivial⟩ rfl (by decide) fun Y2 s2 fin => ?_
  k_extra "vm"
  cases x with
  | leaf v n4 =>
    obtain ⟨o1, o2⟩ := ho
    have hwx : (T.leaf v n4).wd = n4 := rfl
    k_extra "vm"
    exact fin _ _ _ _ (ret _ _ _ _ _ _ (by k_extra "up") (by assumption) (Ext.le (by assumption) (Nat.le_add_left 1 _)) (by assumption))
  | num v n4 =>
    obtain ⟨o1, o2, o3⟩ := ho
    have hwx : (T.num v n4).wd = n4 := rfl
    have h40 : v < 2 ^ 40 := Nat.lt_of_lt_of_le o3 (pow_le40 (by omega))
    k_extra "vm"
    cases hb : v.testBit i
    · simp only [hb, Bool.false_eq_true, if_false]
      simp only [T.bitT, hb, Bool.false_eq_true, if_false] at ret
      exact fin _ _ _ _ (ret 2 _ _ _ σ _ (by k_extra "up") (by assumption) (Ext.refl _ _) R.ok.n2)
    · simp only [hb, if_true]
      simp only [T.bitT, hb, if_true] at ret
      exact fin _ _ _ _ (ret 1 _ _ _ σ _ (by k_extra "up") (by assumption) (Ext.refl _ _) R.ok.n1)
  | bnot x =>
    have hx : x ∈ σ.ts := R.ok.cl _ ha.mem x (.head _)
    have hBx := T.isB_bitT ho.1 i
    k_extra "vm"
    refine IH x (.head _) i (s2.le un_D) (by assumption) (at_ix hx) ho.1 rfl hi (un_rm hr) ?_
    intro n8 t8 c8 st8 σ8 tk8 hs8 R8 X8 A8
    have l8 : σ8.ts.length + 1 ≤ 2 ^ 20 := un_r1 X8.len hr
    k_extra "vm"
    exact fin _ _ _ _ (ret _ _ _ _ _ _ (by k_extra "up") (by assumption) ((X8.trans (by assumption)).le (Nat.le_refl _)) (by assumption))
  | ext h' l' x =>
    have hx : x ∈ σ.ts := R.ok.cl _ ha.mem x (.head _)
    obtain ⟨o1, o2, o3⟩ := ho
    k_extra "vm"
    refine IH x (.head _) (i + l') (s2.le un_D) (by assumption) (at_ix hx) o3 rfl (ext_lt o1 hi o2) (un_rm hr) ?_
    intro n8 t8 c8 st8 σ8 tk8 hs8 R8 X8 A8
    exact fin _ _ _ _ (ret _ _ _ _ _ _ (by k_extra "up") (by assumption) (X8.le (Nat.le_succ _)) A8)
  | cat x y =>
    have hx : x ∈ σ.ts := R.ok.cl _ ha.mem x (.head _)
    have hy : y ∈ σ.ts := R.ok.cl _ ha.mem y (.tail _ (.head _))
    obtain ⟨o1, o2, o3⟩ := ho
    have hxw := T.ok_wd o1
    have hyw := T.ok_wd o2
    by_cases hc : i < y.wd
    · have hwx : (T.cat x y).wd = x.wd + y.wd := rfl
      k_extra "vm"
      refine IH y (.tail _ (.head _)) i (s2.le (bi_D (Nat.le_max_right _ _))) (by assumption) (at_ix hy) o2 rfl hc (bi_rm (Nat.le_max_right _ _) hr) ?_
      intro n8 t8 c8 st8 σ8 tk8 hs8 R8 X8 A8
      exact fin _ _ _ _ (ret _ _ _ _ _ _ (by k_extra "up") (by assumption) (X8.le (Nat.succ_le_succ (Nat.le_succ_of_le (Nat.le_max_right _ _)))) (At.cast (if_pos hc) A8))
    · have hwx : (T.cat x y).wd = x.wd + y.wd := rfl
      k_extra "vm"
      refine IH x (.head _) (i - y.wd) (s2.le (bi_D (Nat.le_max_left _ _))) (by assumption) (at_ix hx) o1 (Int.ofNat_sub (Nat.le_of_not_lt hc)).symm (sub_lt' hc hi) (bi_rm (Nat.le_max_left _ _) hr) ?_
      intro n8 t8 c8 st8 σ8 tk8 hs8 R8 X8 A8
      exact fin _ _ _ _ (ret _ _ _ _ _ _ (by k_extra "up") (by assumption) (X8.le (Nat.succ_le_succ (Nat.le_succ_of_le (Nat.le_max_left _ _)))) (At.cast (if_neg hc) A8))
  | zx m x =>
    have hx : x ∈ σ.ts := R.ok.cl _ ha.mem x (.head _)
    obtain ⟨o1, o2, o3⟩ := ho
    have hxw := T.ok_wd o2
    by_cases hc : i < x.wd
    · k_extra "vm"
      refine IH x (.head _) i (s2.le un_D) (by assumption) (at_ix hx) o2 rfl hc (un_rm hr) ?_
      intro n8 t8 c8 st8 σ8 tk8 hs8 R8 X8 A8
      exact fin _ _ _ _ (ret _ _ _ _ _ _ (by k_extra "up") (by assumption) (X8.le (Nat.le_succ _)) (At.cast (if_pos hc) A8))
    · k_extra "vm"
      exact fin _ _ _ _ (ret 2 _ _ _ σ _ (by k_extra "up") (by assumption) (Ext.refl _ _) (At.cast (if_neg hc) R.ok.n2))
  | sx m x =>
    have hx : x ∈ σ.ts := R.ok.cl _ ha.mem x (.head _)
    obtain ⟨o1, o2, o3⟩ := ho
    have hxw := T.ok_wd o2
    k_extra "vm"
    refine IH x (.head _) (min i (x.wd - 1)) (s2.le un_D) (by assumption) (at_ix hx) o2 (min_cast hxw.1) (minlt hxw.1) (un_rm hr) ?_
    intro n8 t8 c8 st8 σ8 tk8 hs8 R8 X8 A8
    exact fin _ _ _ _ (ret _ _ _ _ _ _ (by k_extra "up") (by assumption) (X8.le (Nat.le_succ _)) A8)
  | _ => exact ho.elim
theorem bit_bad {w : World} {x : T} (hb : ¬ x.ok) : BitV w x := fun i s R ha ho => absurd ho hb
theorem bit_all (w : World) (x : T) : BitV w x := by
  induction x with
  | cat x y ihx ihy =>
    refine bit_v fun z hz => ?_
    rcases List.mem_cons.mp hz with e | hz
    · rw [e]; exact ihx
    · rw [List.mem_singleton.mp hz]; exact ihy
  | bnot x ih => exact bit_v fun z hz => by rw [List.mem_singleton.mp hz]; exact ih
  | ext h l x ih => exact bit_v fun z hz => by rw [List.mem_singleton.mp hz]; exact ih
  | zx m x ih => exact bit_v fun z hz => by rw [List.mem_singleton.mp hz]; exact ih
  | sx m x ih => exact bit_v fun z hz => by rw [List.mem_singleton.mp hz]; exact ih
  | bit m x ih => exact bit_bad id
  | neg x ih => exact bit_bad id
  | nil => exact bit_bad id
  | tt => exact bit_bad id
  | ff => exact bit_bad id
  | leaf => exact bit_v fun z hz => by cases hz
  | num => exact bit_v fun z hz => by cases hz
end
section
theorem kr_Ar : True := by
  k_with_none
  trivial
theorem ar_min1 {k w a : Nat} : min (min k (w + a - 1)) (w - 1) = min k (w - 1) := by
  rw [Nat.min_assoc, Nat.min_eq_right (Nat.sub_le_sub_right (Nat.le_add_right w a) 1)]
theorem ar_s1 {h l : Nat} (q : l ≤ h) : h + 1 - l = h - l + 1 := Nat.sub_add_comm q
theorem ar_seam {h h' l' : Nat} (q : h' + 1 ≤ h) (r : l' ≤ h') : (h - (h' + 1) + 1) + (h' - l' + 1) = h + 1 - l' := by
  rw [← Nat.sub_add_comm q, Nat.add_sub_add_right, ← Nat.add_assoc, Nat.sub_add_sub_cancel (Nat.le_of_lt q) r, ar_s1 (Nat.le_trans r (Nat.le_of_lt q))]
theorem ar_sh {h l w : Nat} (q : w ≤ l) (r : l ≤ h) : h - w + 1 - (l - w) = h + 1 - l := by
  rw [← Nat.sub_add_comm (Nat.le_trans q r), Nat.sub_sub_sub_cancel_right q]
theorem ar_notnot {v n : Nat} (q : v < n) : n - 1 - (n - 1 - v) = v := Nat.sub_sub_self (Nat.le_sub_one_of_lt q)
theorem ar_le {l w h : Nat} (q : l ≤ h) : l - w ≤ h - w := Nat.sub_le_sub_right q w
theorem ar_minlt {i w : Nat} (q : 1 ≤ w) : min i (w - 1) < w := Nat.lt_of_le_of_lt (Nat.min_le_right _ _) (Nat.sub_lt q Nat.one_pos)
theorem ar_e1 {h l e b : Nat} (q : b = 0 ∧ e + 1 = h + 1 - l) (r : l ≤ h) : h = l + e ∧ l = l + b := by
  obtain ⟨rfl, q⟩ := q
  rw [ar_s1 r] at q
  exact ⟨by rw [Nat.succ.inj q, Nat.add_sub_cancel' r], rfl⟩
theorem ar_flip {p : Nat} (q : p ≤ 1) : 1 - (1 - p) = p := Nat.sub_sub_self q
theorem ar_back {i h' l' : Nat} (q : l' ≤ h') (r : ¬ i < h' - l' + 1) : i + l' = i - (h' - l' + 1) + (h' + 1) := by
  obtain ⟨j, rfl⟩ := Nat.exists_eq_add_of_le (Nat.le_of_not_lt r)
  rw [Nat.add_sub_cancel_left, Nat.add_comm _ j, Nat.add_assoc, Nat.add_right_comm, Nat.sub_add_cancel q]
theorem ar_il {i h l w : Nat} (r : h < w) (c : i < h + 1 - l) : i + l < w := Nat.lt_of_le_of_lt (Nat.le_of_lt_succ (Nat.add_lt_of_lt_sub c)) r
theorem ar_subl {h y x : Nat} (q : y ≤ h) (b : h < x + y) : h - y < x := Nat.sub_lt_right_of_lt_add q b
theorem ar_nlt {y l i : Nat} (q : y ≤ l) : ¬ i + l < y := Nat.not_lt_of_le (Nat.le_trans q (Nat.le_add_left l i))
theorem ar_nlt' {y l i : Nat} (q : y ≤ l) : ¬ l + i < y := Nat.not_lt_of_le (Nat.le_trans q (Nat.le_add_right l i))
theorem ar_hl {h h' l' w : Nat} (q : l' ≤ h') (b : h < h' - l' + 1) (c : h' < w) : h + l' < w := Nat.lt_of_le_of_lt (Nat.add_le_of_le_sub q (Nat.le_of_lt_succ b)) c
theorem ar_rr {h l l' : Nat} : h + l' + 1 - (l + l') = h + 1 - l := by rw [Nat.add_right_comm, Nat.add_sub_add_right]
theorem ar_ll {l e b : Nat} : l + e - (l + b) = e - b := Nat.add_sub_add_left l e b
theorem ar_le2 {l e h : Nat} (q : l ≤ h) (r : e ≤ h - l) : l + e ≤ h := Nat.add_le_of_le_sub' q r
theorem ar_lt2 {l e h : Nat} (q : l ≤ h) (r : e ≤ h - l) : e < h + 1 - l := (ar_s1 q).symm ▸ Nat.lt_succ_of_le r
theorem ar_nf {h l e b W : Nat} (a : l ≤ h) (h2 : h < W) (h4 : e ≤ h - l) (q : ¬(l = 0 ∧ h + 1 = W)) : ¬(l + b = 0 ∧ l + e + 1 = W) := fun ⟨p, r⟩ =>
  q ⟨Nat.eq_zero_of_add_eq_zero_right p, Nat.le_antisymm h2 (r ▸ Nat.succ_le_succ (ar_le2 a h4))⟩
theorem ar_nq {h l e b : Nat} (a : l ≤ h) (q : ¬(b = 0 ∧ e + 1 = h + 1 - l)) : ¬(b = 0 ∧ e + 1 = h - l + 1) := ar_s1 a ▸ q
theorem ar_bk {k e b n : Nat} (r : k < e - b + 1) (h3 : b ≤ e) (h4 : e ≤ n) : b + k < n + 1 := Nat.lt_succ_of_le (Nat.le_trans (ar_le2 h3 (Nat.le_of_lt_succ r)) h4)
theorem ar_min2 {h l w : Nat} (a : l ≤ h) (b : h < w) : min (h + 1 - l) (w - l) = h + 1 - l := Nat.min_eq_left (Nat.sub_le_sub_right b l)
theorem ar_pred {k w : Nat} (a : 1 ≤ w) (q : ¬ k < w) : w - 1 ≤ k := Nat.le_trans (Nat.sub_le w 1) (Nat.le_of_not_lt q)
theorem ar_mo {k w m : Nat} (q : ¬ k < w) (b : k < w + m) : k - w < m := Nat.sub_lt_left_of_lt_add (Nat.le_of_not_lt q) b
end
section
theorem T.ok_notT : ∀ {τ : T}, τ.ok → τ.notT.ok ∧ τ.notT.wd = τ.wd
  | .num v n, h => ⟨⟨h.1, h.2.1, Nat.lt_of_le_of_lt (Nat.sub_le _ _) (Nat.sub_lt (Nat.two_pow_pos n) Nat.one_pos)⟩, rfl⟩
  | .bnot x, h => ⟨h.1, rfl⟩
  | .leaf _ _, h | .cat _ _, h | .ext _ _ _, h | .zx _ _, h | .sx _ _, h => ⟨⟨h, rfl, rfl⟩, rfl⟩
theorem ar_q {h l w : Nat} (q : l = 0 ∧ h + 1 = w) : w = h + 1 - l := by
  obtain ⟨rfl, q⟩ := q; exact q.symm
theorem ar_w30 {h l w : Nat} (b : h < w) (c : w ≤ 30) : h - l + 1 ≤ 30 := Nat.le_trans (Nat.succ_le_succ (Nat.sub_le h l)) (Nat.le_trans b c)
theorem T.ok_cutT : ∀ {τ : T} {h l : Nat}, τ.ok → l ≤ h → h < τ.wd → (τ.cutT h l).ok ∧ (τ.cutT h l).wd = h + 1 - l
  | .leaf _ _, h, l, o, a, b => by
    simp only [cutT]; split
    next q => exact ⟨o, ar_q q⟩
    next q => exact ⟨⟨a, b, o⟩, (ar_s1 a).symm⟩
  | .num v n, h, l, o, a, b => by
    rw [cutT]; split
    next q => exact ⟨o, ar_q q⟩
    next q => exact ⟨⟨Nat.le_add_left 1 _, ar_w30 b o.2.1, Nat.mod_lt _ (Nat.two_pow_pos _)⟩, (ar_s1 a).symm⟩
  | .bnot x, h, l, o, a, b => by
    have ih := ok_cutT (τ := x) o.1 a b
    rw [cutT]; split
    next q => exact ⟨o, ar_q q⟩
    next q => exact ⟨(ok_notT ih.1).1, (ok_notT ih.1).2.trans ih.2⟩
  | .cat x y, h, l, o, a, b => by
    rw [cutT]; split
    next q => exact ⟨o, ar_q q⟩
    next q =>
      split
      next r => exact ok_cutT o.2.1 a r
      next r =>
        split
        next r' => have ih := ok_cutT (τ := x) (h := h - y.wd) (l := l - y.wd) o.1 (ar_le a) (ar_subl (Nat.le_of_not_lt r) b); exact ⟨ih.1, ih.2.trans (ar_sh r' a)⟩
        next r' => exact ⟨⟨a, b, o⟩, (ar_s1 a).symm⟩
  | .ext h' l' x, h, l, o, a, b => by
    rw [cutT]; split
    next q => exact ⟨o, ar_q q⟩
    next q => have ih := ok_cutT (τ := x) (h := h + l') (l := l + l') o.2.2 (Nat.add_le_add_right a l') (ar_hl o.1 b o.2.1); exact ⟨ih.1, ih.2.trans ar_rr⟩
  | .zx m x, h, l, o, a, b => by
    rw [cutT]; split
    next q => exact ⟨o, ar_q q⟩
    next q =>
      split
      next r => exact ok_cutT o.2.1 a r
      next r =>
        split
        next r' => exact ⟨⟨Nat.le_add_left 1 _, ar_w30 b o.2.2, Nat.two_pow_pos _⟩, (ar_s1 a).symm⟩
        next r' => exact ⟨⟨a, b, o⟩, (ar_s1 a).symm⟩
  | .sx m x, h, l, o, a, b => by
    rw [cutT]; split
    next q => exact ⟨o, ar_q q⟩
    next q =>
      split
      next r => exact ok_cutT o.2.1 a r
      next r' => exact ⟨⟨a, b, o⟩, (ar_s1 a).symm⟩
theorem T.cutT_all {τ : T} {h l : Nat} (o : τ.ok) (q : l = 0 ∧ h + 1 = τ.wd) : τ.cutT h l = τ := by
  cases τ <;> first | exact o.elim | (simp only [cutT]; exact if_pos q)
theorem kr_vcut : True := by
  k_with_none
  k_with "cn" => first
    | (with_reducible refine Cnd.neg (by first | assumption | exact rfl) ?_) | (with_reducible refine Cnd.pos (by first | assumption | exact rfl) ?_)
    | (refine Cnd.neg (by kernel_rfl!) ?_) | (refine Cnd.pos (by kernel_rfl!) ?_)
    | (refine Cnd.pos (by (first | (simp only [bne_self_eq_false, beq_self_eq_true, beq_iff_eq, bne_iff_ne, ne_eq, beq_eq_false_iff_ne, decide_eq_true_eq, decide_eq_false_iff_not, Bool.not_eq_true', Bool.not_eq_false', Bool.not_true, Bool.not_false, Option.isSome_some, Option.isSome_none, not_false_eq_true, Bool.false_eq_true, reduceCtorEq, eq_self]; done) | ((try simp only [bne_self_eq_false, beq_self_eq_true, beq_iff_eq, bne_iff_ne, ne_eq, beq_eq_false_iff_ne, decide_eq_true_eq, decide_eq_false_iff_not, Bool.not_eq_true', Bool.not_eq_false', Bool.not_true, Bool.not_false, Option.isSome_some, Option.isSome_none, not_false_eq_true, Bool.false_eq_true, reduceCtorEq, eq_self]); first | with_reducible assumption | (law_purse 20000 => omega)))) ?_) | (refine Cnd.neg (by (first | (simp only [bne_self_eq_false, beq_self_eq_true, beq_iff_eq, bne_iff_ne, ne_eq, beq_eq_false_iff_ne, decide_eq_true_eq, decide_eq_false_iff_not, Bool.not_eq_true', Bool.not_eq_false', Bool.not_true, Bool.not_false, Option.isSome_some, Option.isSome_none, not_false_eq_true, Bool.false_eq_true, reduceCtorEq, eq_self]; done) | ((try simp only [bne_self_eq_false, beq_self_eq_true, beq_iff_eq, bne_iff_ne, ne_eq, beq_eq_false_iff_ne, decide_eq_true_eq, decide_eq_false_iff_not, Bool.not_eq_true', Bool.not_eq_false', Bool.not_true, Bool.not_false, Option.isSome_some, Option.isSome_none, not_false_eq_true, Bool.false_eq_true, reduceCtorEq, eq_self]); first | with_reducible assumption | (law_purse 20000 => omega)))) ?_)
  k_with "cj" => first
    | (with_reducible refine Conj.no (by first | assumption | exact rfl) ?_) | (with_reducible refine Conj.yes (by first | assumption | exact rfl) ?_)
    | (refine Conj.no (by kernel_rfl!) ?_) | (refine Conj.yes (by kernel_rfl!) ?_)
    | (refine Conj.yes (by (first | (simp only [bne_self_eq_false, beq_self_eq_true, beq_iff_eq, bne_iff_ne, ne_eq, beq_eq_false_iff_ne, decide_eq_true_eq, decide_eq_false_iff_not, Bool.not_eq_true', Bool.not_eq_false', Bool.not_true, Bool.not_false, Option.isSome_some, Option.isSome_none, not_false_eq_true, Bool.false_eq_true, reduceCtorEq, eq_self]; done) | ((try simp only [bne_self_eq_false, beq_self_eq_true, beq_iff_eq, bne_iff_ne, ne_eq, beq_eq_false_iff_ne, decide_eq_true_eq, decide_eq_false_iff_not, Bool.not_eq_true', Bool.not_eq_false', Bool.not_true, Bool.not_false, Option.isSome_some, Option.isSome_none, not_false_eq_true, Bool.false_eq_true, reduceCtorEq, eq_self]); first | with_reducible assumption | (law_purse 20000 => omega)))) ?_) | (refine Conj.no (by (first | (simp only [bne_self_eq_false, beq_self_eq_true, beq_iff_eq, bne_iff_ne, ne_eq, beq_eq_false_iff_ne, decide_eq_true_eq, decide_eq_false_iff_not, Bool.not_eq_true', Bool.not_eq_false', Bool.not_true, Bool.not_false, Option.isSome_some, Option.isSome_none, not_false_eq_true, Bool.false_eq_true, reduceCtorEq, eq_self]; done) | ((try simp only [bne_self_eq_false, beq_self_eq_true, beq_iff_eq, bne_iff_ne, ne_eq, beq_eq_false_iff_ne, decide_eq_true_eq, decide_eq_false_iff_not, Bool.not_eq_true', Bool.not_eq_false', Bool.not_true, Bool.not_false, Option.isSome_some, Option.isSome_none, not_false_eq_true, Bool.false_eq_true, reduceCtorEq, eq_self]); first | with_reducible assumption | (law_purse 20000 => omega)))) ?_)
  k_with "up" => (intro p9 h9; repeat' (first | exact h9 | refine List.mem_cons_of_mem _ ?_ | refine (show ∀ p ∈ _, p ∈ _ by assumption) _ ?_))
  k_with "vm1" => first
    | (refine (?_ : Stp _ _ _ _ _ _); k_extra "st")
    | (refine (?_ : Cnd _ _ _); k_extra "cn")
    | (refine (?_ : Conj _ _ _ _ _ _ _ _); k_extra "cj")
    | (refine (?_ : Sub _ _ _ _ _ _ _); k_extra "sb")
    | (refine (?_ : Tp _ _ _ _ _ _); refine' tp_v ?R ?_; (case R => assumption); intro b9 R9)
    | k_extra "vm9" 
  k_with "sb" => (refine' sub_v ?hd ?hx ?_; (case hd => first | assumption | exact datUp (by assumption) (by k_extra "up")); (case hx => exact rfl); intro t9)
  k_with "vm" => (repeat' (k_extra "vm1"))
  k_with "st" => ((with_reducible refine' op_use_v ?s ?R ?ha ?_); (case s => exact Std.le (by assumption) (by lia)); (case R => assumption); (case ha => first | assumption | exact at_ix (by assumption) | exact Ext.at (by assumption) (by first | assumption | exact at_ix (by assumption)));  intro t9 tk9)
  k_with "st" => ((with_reducible refine' args_use_v ?s ?R ?ha ?_); (case s => exact Std.le (by assumption) (by lia)); (case R => assumption); (case ha => first | assumption | exact at_ix (by assumption) | exact Ext.at (by assumption) (by first | assumption | exact at_ix (by assumption)));  intro v9 D9 tk9)
  k_with "st" => ((with_reducible refine' width_use_v ?s ?R ?ha ?_); (case s => exact Std.le (by assumption) (by lia)); (case R => assumption); (case ha => first | assumption | exact at_ix (by assumption) | exact Ext.at (by assumption) (by first | assumption | exact at_ix (by assumption)));  intro t9 tk9)
  k_with "st" => ((with_reducible refine' sort_use_v ?s ?R ?ha ?_); (case s => exact Std.le (by assumption) (by lia)); (case R => assumption); (case ha => first | assumption | exact at_ix (by assumption) | exact Ext.at (by assumption) (by first | assumption | exact at_ix (by assumption)));  intro t9 tk9)
  k_with "st" => ((with_reducible refine' data_pair_v ?s ?R ?ha ?hi ?_); (case s => exact Std.le (by assumption) (by lia)); (case R => assumption); (case ha => first | assumption | exact at_ix (by assumption) | exact Ext.at (by assumption) (by first | assumption | exact at_ix (by assumption))); (case hi => exact rfl);  intro v9 D9 tk9)
  k_with "st" => ((with_reducible refine' data_int_v ?s ?R ?ha ?hi ?_); (case s => exact Std.le (by assumption) (by lia)); (case R => assumption); (case ha => first | assumption | exact at_ix (by assumption) | exact Ext.at (by assumption) (by first | assumption | exact at_ix (by assumption))); (case hi => exact rfl);  intro t9 tk9)
  k_with "st" => ((with_reducible refine' bool_term_use_v ?s  ?_); (case s => exact Std.le (by assumption) (by lia));  intro t9 tk9)
  k_with "st" => ((with_reducible refine' extv_use_v ?s ?h1 ?h2 ?h3 ?_); (case s => exact Std.le (by assumption) (by lia)); (case h1 => first | assumption | lia); (case h2 => first | assumption | lia); (case h3 => first | assumption | lia);  intro t9 tk9)
  k_with "st" => ((with_reducible refine' bv_num_j_v ?s ?R ?e ?W ?hj ?hr ?hx ?_); (case s => exact Std.le (by assumption) (by lia)); (case R => assumption); (case e => exact rfl); (case W => assumption); (case hj => first | rfl | lia); (case hr => first | assumption | lia); (case hx => first | assumption | lia);  intro n9 t9 c9 st9 σ9 tk9 hs9 R9 X9 A9; have l9 := Ext.len X9)
  k_with "st" => ((with_reducible refine' number_v ?s ?R ?ha ?hw ?hr ?_); (case s => exact Std.le (by assumption) (by lia)); (case R => assumption); (case ha => first | assumption | exact at_ix (by assumption) | exact Ext.at (by assumption) (by first | assumption | exact at_ix (by assumption))); (case hw => first | assumption | lia); (case hr => first | assumption | lia);  intro n9 t9 c9 st9 σ9 tk9 hs9 R9 X9 A9; have l9 := Ext.len X9)
  k_with "st" => ((with_reducible refine' extract_use_v ?s ?R ?ha ?hw ?hr ?hl ?hh ?hb ?_); (case s => exact Std.le (by assumption) (by lia)); (case R => assumption); (case ha => first | assumption | exact at_ix (by assumption) | exact Ext.at (by assumption) (by first | assumption | exact at_ix (by assumption))); (case hw => first | assumption | lia); (case hr => first | assumption | lia); (case hl => first | assumption | lia); (case hh => first | assumption | lia); (case hb => first | assumption | lia);  intro n9 t9 c9 st9 σ9 tk9 hs9 R9 X9 A9; have l9 := Ext.len X9)
  k_with "st" => ((with_reducible refine' one_v ?s ?R ?ha ?ho ?hr ?_); (case s => exact Std.le (by assumption) (by lia)); (case R => assumption); (case ha => first | assumption | exact at_ix (by assumption) | exact Ext.at (by assumption) (by first | assumption | exact at_ix (by assumption))); (case ho => assumption); (case hr => first | assumption | lia);  intro n9 t9 c9 st9 σ9 tk9 hs9 R9 X9 A9; have l9 := Ext.len X9)
  trivial
noncomputable def CutV (w : World) (x : T) : Prop := ∀ {S : Sc} {Y : Cx} {A : Ba} {c : Bc} {k : Mk} {X st : Led} {tk0 n : Nat} {σ : St} {tk tk1 tk2 : Tok} {jh jl : Int} {κ : KO Value} (h l : Nat) (s : Std ⟨S, Y, w, A, some k, true⟩ (14 + x.dep)) (R : Rep w A c (mkL w A k X) st σ) (ha : At σ n x) (ho : x.ok)
    (hjh : jh = (h : Nat)) (hjl : jl = (l : Nat)) (hlh : l ≤ h) (hw : h < x.wd) (hr : σ.ts.length + (x.dep + 1) ≤ 2 ^ 20)
    (ret : ∀ n' t c' st' σ' tk', Gr st st' → Rep w A c' (mkL w A k X) st' σ' → Ext σ σ' (x.dep + 1) → At σ' n' (x.cutT h l) → κ (.int (n' : Nat) t) ⟨c', mkL w A k X⟩ st' tk'),
    Stop (Stp ⟨S, Y, w, A, some k, true⟩ ⟨c, mkL w A k X⟩ st tk0 (call (.ref 1003) [.ref k.m, .int jh tk, .int jl tk1, .int n tk2]) κ)
theorem cut_v {w : World} {x : T} (IH : ∀ y ∈ x.kids, CutV w y) : CutV w x := by
  intro S Y A c k X st tk0 n σ tk tk1 tk2 jh jl κ h l s R ha ho hjh hjl hlh hw hr ret
  subst hjh hjl
  unfold Stop
  refine def_cut_out.enter s (D' := 13 + x.dep) (by lia) rfl ⟨rfl, trivial⟩ rfl (by decide) fun Y2 s2 fin => ?_
  k_extra "vm"
  have hwd := T.ok_wd ho
  by_cases hc : l = 0 ∧ h + 1 = x.wd
  · refine Conj.yes (by simp [hc.1]) ?_
    k_extra "vm"
    exact fin _ _ _ _ (ret _ _ _ _ σ _ (by k_extra "up") (by assumption) (Ext.refl _ _) (At.cast (T.cutT_all ho hc) ha))
  · refine Conj.join (fun tk3 => ?_) fun e K K' => ?_
    case' neg.refine_2 =>
      k_extra "vm"
      exact kFalse K' (by have e' : l = 0 := (by simpa using e); simp only [beq_eq_false_iff_ne, ne_eq]; omega)
    refine Cnd.neg rfl ?_
    cases x with
    | leaf v n4 =>
      have e : (T.leaf v n4).cutT h l = _ := if_neg hc
      k_extra "vm"
      exact fin _ _ _ _ (ret _ _ _ _ _ _ (by k_extra "up") (by assumption) (Ext.le (by assumption) (Nat.le_add_left 1 _)) (At.cast e (by assumption)))
    | num v n4 =>
      obtain ⟨o1, o2, o3⟩ := ho
      have h40 : v < 2 ^ 40 := Nat.lt_of_lt_of_le o3 (pow_le40 (Nat.le_trans o2 (Nat.le_of_ble_eq_true rfl)))
      have W : WantW (h - l + 1) := trivial
      have hwx : (T.num v n4).wd = n4 := rfl
      have e : (T.num v n4).cutT h l = _ := if_neg hc
      k_extra "vm"
      (rename At _ _ (T.num (_ % _ % _) _) => A8)
      rw [Nat.mod_mod] at A8
      exact fin _ _ _ _ (ret _ _ _ _ _ _ (by k_extra "up") (by assumption) (Ext.le (by assumption) (Nat.le_add_left 1 _)) (At.cast e A8))
    | bnot x =>
      have hwx : (T.bnot x).wd = x.wd := rfl
      have hx : x ∈ σ.ts := R.ok.cl _ ha.mem x (.head _)
      have okc := (T.ok_cutT ho.1 hlh hw).1
      have e : (T.bnot x).cutT h l = _ := if_neg hc
      have hr0 := un_rm hr
      k_extra "vm"
      refine IH x (.head _) h l (s2.le un_D) (by assumption) (at_ix hx) ho.1 rfl rfl hlh hw hr0 ?_
      intro n8 t8 c8 st8 σ8 tk8 hs8 R8 X8 A8
      have l8 : σ8.ts.length + 1 ≤ 2 ^ 20 := un_r1 X8.len hr
      k_extra "vm"
      exact fin _ _ _ _ (ret _ _ _ _ _ _ (by k_extra "up") (by assumption) ((X8.trans (by assumption)).le (Nat.le_refl _)) (At.cast e (by assumption)))
    | ext h' l' x =>
      have hx : x ∈ σ.ts := R.ok.cl _ ha.mem x (.head _)
      obtain ⟨o1, o2, o3⟩ := ho
      have e : (T.ext h' l' x).cutT h l = _ := if_neg hc
      k_extra "vm"
      refine IH x (.head _) (h + l') (l + l') (s2.le un_D) (by assumption) (at_ix hx) o3 rfl rfl (Nat.add_le_add_right hlh l') (ar_hl o1 hw o2) (un_rm hr) ?_
      intro n8 t8 c8 st8 σ8 tk8 hs8 R8 X8 A8
      exact fin _ _ _ _ (ret _ _ _ _ _ _ (by k_extra "up") (by assumption) (X8.le (Nat.le_succ _)) (At.cast e A8))
    | cat x y =>
      have hwx : (T.cat x y).wd = x.wd + y.wd := rfl
      have hx : x ∈ σ.ts := R.ok.cl _ ha.mem x (.head _)
      have hy : y ∈ σ.ts := R.ok.cl _ ha.mem y (.tail _ (.head _))
      have hok := ho
      have hdx : (T.cat x y).dep = max x.dep y.dep + 1 := rfl
      obtain ⟨o1, o2, o3⟩ := ho
      have hxw := T.ok_wd o1
      have hyw := T.ok_wd o2
      have e : (T.cat x y).cutT h l = _ := if_neg hc
      by_cases r1 : h < y.wd
      · k_extra "vm"
        refine IH y (.tail _ (.head _)) h l (s2.le (bi_D (Nat.le_max_right _ _))) (by assumption) (at_ix hy) o2 rfl rfl hlh r1 (bi_rm (Nat.le_max_right _ _) hr) ?_
        intro n8 t8 c8 st8 σ8 tk8 hs8 R8 X8 A8
        exact fin _ _ _ _ (ret _ _ _ _ _ _ (by k_extra "up") (by assumption) (X8.le (Nat.succ_le_succ (Nat.le_succ_of_le (Nat.le_max_right _ _)))) (At.cast (e.trans (if_pos r1)) A8))
      · replace e := e.trans (if_neg r1)
        have r3 := Nat.le_of_not_lt r1
        by_cases r2 : y.wd ≤ l
        · k_extra "vm"
          refine IH x (.head _) (h - y.wd) (l - y.wd) (s2.le (bi_D (Nat.le_max_left _ _))) (by assumption) (at_ix hx) o1 (Int.ofNat_sub r3).symm (Int.ofNat_sub r2).symm (ar_le hlh) (ar_subl r3 hw) (bi_rm (Nat.le_max_left _ _) hr) ?_
          intro n8 t8 c8 st8 σ8 tk8 hs8 R8 X8 A8
          exact fin _ _ _ _ (ret _ _ _ _ _ _ (by k_extra "up") (by assumption) (X8.le (Nat.succ_le_succ (Nat.le_succ_of_le (Nat.le_max_left _ _)))) (At.cast (e.trans (if_pos r2)) A8))
        · k_extra "vm"
          exact fin _ _ _ _ (ret _ _ _ _ _ _ (by k_extra "up") (by assumption) (Ext.le (by assumption) (Nat.le_add_left 1 _)) (At.cast (e.trans (if_neg r2)) (by assumption)))
    | zx m x =>
      have hwx : (T.zx m x).wd = x.wd + m := rfl
      have hx : x ∈ σ.ts := R.ok.cl _ ha.mem x (.head _)
      have hok := ho
      obtain ⟨o1, o2, o3⟩ := ho
      have hxw := T.ok_wd o2
      have W : WantW (h - l + 1) := trivial
      have e : (T.zx m x).cutT h l = _ := if_neg hc
      have hr0 := un_rm hr
      by_cases r1 : h < x.wd
      · k_extra "vm"
        refine IH x (.head _) h l (s2.le un_D) (by assumption) (at_ix hx) o2 rfl rfl hlh r1 hr0 ?_
        intro n8 t8 c8 st8 σ8 tk8 hs8 R8 X8 A8
        exact fin _ _ _ _ (ret _ _ _ _ _ _ (by k_extra "up") (by assumption) (X8.le (Nat.le_succ _)) (At.cast (e.trans (if_pos r1)) A8))
      · replace e := e.trans (if_neg r1)
        by_cases r2 : x.wd ≤ l
        · k_extra "vm"
          (rename At _ _ (T.num (_ % _) _) => A8)
          rw [Nat.zero_mod] at A8
          exact fin _ _ _ _ (ret _ _ _ _ _ _ (by k_extra "up") (by assumption) (Ext.le (by assumption) (Nat.le_add_left 1 _)) (At.cast (e.trans (if_pos r2)) A8))
        · k_extra "vm"
          exact fin _ _ _ _ (ret _ _ _ _ _ _ (by k_extra "up") (by assumption) (Ext.le (by assumption) (Nat.le_add_left 1 _)) (At.cast (e.trans (if_neg r2)) (by assumption)))
    | sx m x =>
      have hwx : (T.sx m x).wd = x.wd + m := rfl
      have hx : x ∈ σ.ts := R.ok.cl _ ha.mem x (.head _)
      have hok := ho
      obtain ⟨o1, o2, o3⟩ := ho
      have hxw := T.ok_wd o2
      have e : (T.sx m x).cutT h l = _ := if_neg hc
      have hr0 := un_rm hr
      by_cases r1 : h < x.wd
      · k_extra "vm"
        refine IH x (.head _) h l (s2.le un_D) (by assumption) (at_ix hx) o2 rfl rfl hlh r1 hr0 ?_
        intro n8 t8 c8 st8 σ8 tk8 hs8 R8 X8 A8
        exact fin _ _ _ _ (ret _ _ _ _ _ _ (by k_extra "up") (by assumption) (X8.le (Nat.le_succ _)) (At.cast (e.trans (if_pos r1)) A8))
      · k_extra "vm"
        exact fin _ _ _ _ (ret _ _ _ _ _ _ (by k_extra "up") (by assumption) (Ext.le (by assumption) (Nat.le_add_left 1 _)) (At.cast (e.trans (if_neg r1)) (by assumption)))
    | _ => exact ho.elim
theorem cut_bad {w : World} {x : T} (hb : ¬ x.ok) : CutV w x := fun h l s R ha ho => absurd ho hb
theorem cut_all (w : World) (x : T) : CutV w x := by
  induction x with
  | cat x y ihx ihy =>
    refine cut_v fun z hz => ?_
    rcases List.mem_cons.mp hz with e | hz
    · rw [e]; exact ihx
    · rw [List.mem_singleton.mp hz]; exact ihy
  | bnot x ih => exact cut_v fun z hz => by rw [List.mem_singleton.mp hz]; exact ih
  | ext h l x ih => exact cut_v fun z hz => by rw [List.mem_singleton.mp hz]; exact ih
  | zx m x ih => exact cut_v fun z hz => by rw [List.mem_singleton.mp hz]; exact ih
  | sx m x ih => exact cut_v fun z hz => by rw [List.mem_singleton.mp hz]; exact ih
  | bit m x ih => exact cut_bad id
  | neg x ih => exact cut_bad id
  | nil => exact cut_bad id
  | tt => exact cut_bad id
  | ff => exact cut_bad id
  | leaf => exact cut_v fun z hz => by cases hz
  | num => exact cut_v fun z hz => by cases hz
end
section
theorem eq_tup1 {prog : Program} {w : World} {A : Around} {E : Value → Shared → Prop} {s : Shared} {h₀ : Heap} {L : Addr} {news st : List (Addr × Obj)} {i j : Int} {v u : Value} {Q : Value → Shared → Prop} (N : News h₀ L s.heap news) (ha : DatIn st v (.tuple [.int i])) (hb : DatIn st u (.tuple [.int j])) (hs : ∀ p ∈ st, p ∈ news) (hu : A.units + 64 < cLine)
    (h : Q (.bool (i == j)) s) : wpAny (model prog w) A (compareOp .Eq v u) Q E s := by
  obtain ⟨as, ra⟩ := kqd_in N 8 (ha.mono hs) rfl
  obtain ⟨bs, rb⟩ := kqd_in N 8 (hb.mono hs) rfl
  refine eq_dataH ra rb rfl rfl hu ?_
  simpa [kqdP, kqdPs, PyData.eqv, PyData.eqvAll] using h
theorem cat_lt {a b n m : Nat} (ha : a < 2 ^ n) (hb : b < 2 ^ m) : a * 2 ^ m + b < 2 ^ (n + m) := by
  have : (a + 1) * 2 ^ m ≤ 2 ^ n * 2 ^ m := Nat.mul_le_mul_right _ ha
  rw [Nat.pow_add]
  rw [Nat.add_mul] at this
  omega
theorem ix_eq {σ : St} {x y : T} (hx : x ∈ σ.ts) (hy : y ∈ σ.ts) : (((σ.ix x : Nat) : Int) == ((σ.ix y : Nat) : Int)) = (x == y) := by
  by_cases e : x = y
  · subst e; simp
  · have : σ.ix x ≠ σ.ix y := fun q => e (idx_inj hx hy q)
    rw [beq_eq_false_iff_ne.mpr e, beq_eq_false_iff_ne]; omega
noncomputable def T.isExt : T → Bool
  | .ext .. => true
  | _ => false
noncomputable def T.isCat : T → Bool
  | .cat .. => true
  | _ => false
theorem op_ext (τ : T) : (τ.op == Str.ofString "extract") = τ.isExt := by cases τ <;> kernel_rfl!
theorem isExt_ex : ∀ {b : T}, b.isExt = true → ∃ h l x, b = .ext h l x
  | .ext h l x, _ => ⟨h, l, x, rfl⟩
theorem T.putT_num {v n : Nat} {b : T} (h : b.isNum = false) : putT (.num v n) b = if v = 0 then widerT n b else .cat (.num v n) b := if_neg (h ▸ Bool.false_ne_true)
theorem T.putT_cat {x y b : T} (h : (b.isNum && y.isNum) = false) : putT (.cat x y) b = .cat (.cat x y) b := if_neg (h ▸ Bool.false_ne_true)
theorem T.putT_ext {p q : Nat} {x b : T} (h : (b.op == Str.ofString "extract") = false) : putT (.ext p q x) b = .cat (.ext p q x) b := by
  rw [op_ext] at h
  cases b <;> first | rfl | (cases h; done)
theorem T.putT_ee {p q r t : Nat} {x y : T} : putT (.ext p q x) (.ext r t y) = if x = y ∧ q = r + 1 then cutT x p t else .cat (.ext p q x) (.ext r t y) := rfl
section
variable {S : Sc} {Y : Cx} {w : World} {A : Ba} {c : Bc} {ko : Option Mk} {X st : Led} {tk0 D : Nat} {i j : Int} {u v : Value} {tk tk1 : Tok} {κ : KO Value}
theorem usub_v (ret : ∀ t tk', κ (.int (-i) t) ⟨c, X⟩ st tk') : Stp ⟨S, Y, w, A, ko, true⟩ ⟨c, X⟩ st tk0 (unaryOp .USub (.int i tk)) κ :=
  ⟨fun h₁ m q F N l => PyProof.Rows.neg_int (l _ h₁ _ _ _ F N (ret _ _))⟩
theorem cmp_tup1_v (s : Std ⟨S, Y, w, A, ko, true⟩ 4) (D1 : DatIn st v (.tuple [.int i])) (D2 : DatIn st u (.tuple [.int j])) (ret : κ (.bool (i == j)) ⟨c, X⟩ st tk0) : cmpK ⟨S, Y, w, A, ko, true⟩ κ ⟨c, X⟩ st tk0 .Eq v u := by
  have hq : Stp ⟨S, Y, w, A, ko, true⟩ ⟨c, X⟩ st tk0 (compareOp .Eq v u) κ := ⟨fun h₁ m q F N l => eq_tup1 N.1 D1 D2 (fun p hp => List.mem_append_right _ (List.mem_append_right _ hp)) (by have := s.hu; show Y.un + 64 < cLine; omega) (l _ h₁ _ _ _ F N ret)⟩
  cases D1; cases D2
  exact hq
end
theorem kr_vput1 : True := by
  k_with_none
  k_with "cn" => first
    | (with_reducible refine Cnd.neg (by first | assumption | exact rfl) ?_) | (with_reducible refine Cnd.pos (by first | assumption | exact rfl) ?_)
    | (refine Cnd.neg (by kernel_rfl!) ?_) | (refine Cnd.pos (by kernel_rfl!) ?_)
    | (refine Cnd.pos (by (first | (simp only [bne_self_eq_false, beq_self_eq_true, beq_iff_eq, bne_iff_ne, ne_eq, beq_eq_false_iff_ne, decide_eq_true_eq, decide_eq_false_iff_not, Bool.not_eq_true', Bool.not_eq_false', Bool.not_true, Bool.not_false, Option.isSome_some, Option.isSome_none, not_false_eq_true, Bool.false_eq_true, reduceCtorEq, eq_self]; done) | ((try simp only [bne_self_eq_false, beq_self_eq_true, beq_iff_eq, bne_iff_ne, ne_eq, beq_eq_false_iff_ne, decide_eq_true_eq, decide_eq_false_iff_not, Bool.not_eq_true', Bool.not_eq_false', Bool.not_true, Bool.not_false, Option.isSome_some, Option.isSome_none, not_false_eq_true, Bool.false_eq_true, reduceCtorEq, eq_self]); first | with_reducible assumption | (law_purse 20000 => omega)))) ?_) | (refine Cnd.neg (by (first | (simp only [bne_self_eq_false, beq_self_eq_true, beq_iff_eq, bne_iff_ne, ne_eq, beq_eq_false_iff_ne, decide_eq_true_eq, decide_eq_false_iff_not, Bool.not_eq_true', Bool.not_eq_false', Bool.not_true, Bool.not_false, Option.isSome_some, Option.isSome_none, not_false_eq_true, Bool.false_eq_true, reduceCtorEq, eq_self]; done) | ((try simp only [bne_self_eq_false, beq_self_eq_true, beq_iff_eq, bne_iff_ne, ne_eq, beq_eq_false_iff_ne, decide_eq_true_eq, decide_eq_false_iff_not, Bool.not_eq_true', Bool.not_eq_false', Bool.not_true, Bool.not_false, Option.isSome_some, Option.isSome_none, not_false_eq_true, Bool.false_eq_true, reduceCtorEq, eq_self]); first | with_reducible assumption | (law_purse 20000 => omega)))) ?_)
  k_with "cj" => first
    | (with_reducible refine Conj.no (by first | assumption | exact rfl) ?_) | (with_reducible refine Conj.yes (by first | assumption | exact rfl) ?_)
    | (refine Conj.no (by kernel_rfl!) ?_) | (refine Conj.yes (by kernel_rfl!) ?_)
    | (refine Conj.yes (by (first | (simp only [bne_self_eq_false, beq_self_eq_true, beq_iff_eq, bne_iff_ne, ne_eq, beq_eq_false_iff_ne, decide_eq_true_eq, decide_eq_false_iff_not, Bool.not_eq_true', Bool.not_eq_false', Bool.not_true, Bool.not_false, Option.isSome_some, Option.isSome_none, not_false_eq_true, Bool.false_eq_true, reduceCtorEq, eq_self]; done) | ((try simp only [bne_self_eq_false, beq_self_eq_true, beq_iff_eq, bne_iff_ne, ne_eq, beq_eq_false_iff_ne, decide_eq_true_eq, decide_eq_false_iff_not, Bool.not_eq_true', Bool.not_eq_false', Bool.not_true, Bool.not_false, Option.isSome_some, Option.isSome_none, not_false_eq_true, Bool.false_eq_true, reduceCtorEq, eq_self]); first | with_reducible assumption | (law_purse 20000 => omega)))) ?_) | (refine Conj.no (by (first | (simp only [bne_self_eq_false, beq_self_eq_true, beq_iff_eq, bne_iff_ne, ne_eq, beq_eq_false_iff_ne, decide_eq_true_eq, decide_eq_false_iff_not, Bool.not_eq_true', Bool.not_eq_false', Bool.not_true, Bool.not_false, Option.isSome_some, Option.isSome_none, not_false_eq_true, Bool.false_eq_true, reduceCtorEq, eq_self]; done) | ((try simp only [bne_self_eq_false, beq_self_eq_true, beq_iff_eq, bne_iff_ne, ne_eq, beq_eq_false_iff_ne, decide_eq_true_eq, decide_eq_false_iff_not, Bool.not_eq_true', Bool.not_eq_false', Bool.not_true, Bool.not_false, Option.isSome_some, Option.isSome_none, not_false_eq_true, Bool.false_eq_true, reduceCtorEq, eq_self]); first | with_reducible assumption | (law_purse 20000 => omega)))) ?_)
  k_with "up" => (intro p9 h9; repeat' (first | exact h9 | refine List.mem_cons_of_mem _ ?_ | refine (show ∀ p ∈ _, p ∈ _ by assumption) _ ?_))
  k_with "vm1" => first
    | (refine (?_ : Stp _ _ _ _ _ _); k_extra "st")
    | (refine (?_ : Cnd _ _ _); k_extra "cn")
    | (refine (?_ : Conj _ _ _ _ _ _ _ _); k_extra "cj")
    | (refine (?_ : Sub _ _ _ _ _ _ _); k_extra "sb")
    | (refine (?_ : Tp _ _ _ _ _ _); refine' tp_v ?R ?_; (case R => assumption); intro b9 R9)
    | k_extra "vm9" 
  k_with "sb" => (refine' sub_v ?hd ?hx ?_; (case hd => first | assumption | exact datUp (by assumption) (by k_extra "up")); (case hx => exact rfl); intro t9)
  k_with "vm" => (repeat' (k_extra "vm1"))
  k_with "st" => ((with_reducible refine' op_use_v ?s ?R ?ha ?_); (case s => exact Std.le (by assumption) (by lia)); (case R => assumption); (case ha => first | assumption | exact at_ix (by assumption) | exact Ext.at (by assumption) (by first | assumption | exact at_ix (by assumption)));  intro t9 tk9)
  k_with "st" => ((with_reducible refine' args_use_v ?s ?R ?ha ?_); (case s => exact Std.le (by assumption) (by lia)); (case R => assumption); (case ha => first | assumption | exact at_ix (by assumption) | exact Ext.at (by assumption) (by first | assumption | exact at_ix (by assumption)));  intro v9 D9 tk9)
  k_with "st" => ((with_reducible refine' width_use_v ?s ?R ?ha ?_); (case s => exact Std.le (by assumption) (by lia)); (case R => assumption); (case ha => first | assumption | exact at_ix (by assumption) | exact Ext.at (by assumption) (by first | assumption | exact at_ix (by assumption)));  intro t9 tk9)
  k_with "st" => ((with_reducible refine' sort_use_v ?s ?R ?ha ?_); (case s => exact Std.le (by assumption) (by lia)); (case R => assumption); (case ha => first | assumption | exact at_ix (by assumption) | exact Ext.at (by assumption) (by first | assumption | exact at_ix (by assumption)));  intro t9 tk9)
  k_with "st" => ((with_reducible refine' data_pair_v ?s ?R ?ha ?hi ?_); (case s => exact Std.le (by assumption) (by lia)); (case R => assumption); (case ha => first | assumption | exact at_ix (by assumption) | exact Ext.at (by assumption) (by first | assumption | exact at_ix (by assumption))); (case hi => exact rfl);  intro v9 D9 tk9)
  k_with "st" => ((with_reducible refine' data_int_v ?s ?R ?ha ?hi ?_); (case s => exact Std.le (by assumption) (by lia)); (case R => assumption); (case ha => first | assumption | exact at_ix (by assumption) | exact Ext.at (by assumption) (by first | assumption | exact at_ix (by assumption))); (case hi => exact rfl);  intro t9 tk9)
  k_with "st" => ((with_reducible refine' bool_term_use_v ?s  ?_); (case s => exact Std.le (by assumption) (by lia));  intro t9 tk9)
  k_with "st" => ((with_reducible refine' bv_num_j_v ?s ?R ?e ?W ?hj ?hr ?hx ?_); (case s => exact Std.le (by assumption) (by lia)); (case R => assumption); (case e => exact rfl); (case W => assumption); (case hj => first | rfl | lia); (case hr => first | assumption | lia); (case hx => first | assumption | lia);  intro n9 t9 c9 st9 σ9 tk9 hs9 R9 X9 A9; have l9 := Ext.len X9)
  k_with "st" => ((with_reducible refine' is_bits_v ?s ?R ?ha ?_); (case s => exact Std.le (by assumption) (by lia)); (case R => assumption); (case ha => first | assumption | exact at_ix (by assumption) | exact Ext.at (by assumption) (by first | assumption | exact at_ix (by assumption)));  intro tk9)
  k_with "st" => ((with_reducible refine' number_v ?s ?R ?ha ?hw ?hr ?_); (case s => exact Std.le (by assumption) (by lia)); (case R => assumption); (case ha => first | assumption | exact at_ix (by assumption) | exact Ext.at (by assumption) (by first | assumption | exact at_ix (by assumption))); (case hw => first | assumption | lia); (case hr => first | assumption | lia);  intro n9 t9 c9 st9 σ9 tk9 hs9 R9 X9 A9; have l9 := Ext.len X9)
  trivial
section
variable {S : Sc} {Y : Cx} {w : World} {A : Ba} {c : Bc} {k : Mk} {ko : Option Mk} {X st : Led} {σ : St} {n n1 n2 n3 n4 n5 v m1 i1 tk0 : Nat} {i j : Int} {τ τ1 τ2 x y : T} {tk tk1 tk2 tk3 : Tok} {κ : KO Value}
theorem vor_num_v (s : Std ⟨S, Y, w, A, some k, true⟩ 6) (R : Rep w A c (mkL w A k X) st σ) (ha : At σ n (.num v n4))
    (ret : ∀ t tk', κ (.int (v : Nat) t) ⟨c, (mkL w A k X)⟩ st tk') :
    Stp ⟨S, Y, w, A, some k, true⟩ ⟨c, (mkL w A k X)⟩ st tk0 (call (.ref 919) [.ref k.m, .int n tk, .int i tk1]) κ := by
  refine def_value_or.enter s (D' := 5) (by lia) rfl ⟨rfl, trivial⟩ rfl (by decide) fun Y2 s2 fin => ?_
  k_extra "vm"
  exact fin _ _ _ _ (ret _ _)
theorem vor_else_v (s : Std ⟨S, Y, w, A, some k, true⟩ 6) (R : Rep w A c (mkL w A k X) st σ) (ha : At σ n τ) (q1 : τ.isNum = false)
    (ret : ∀  tk', κ (.int i tk1) ⟨c, (mkL w A k X)⟩ st tk') :
    Stp ⟨S, Y, w, A, some k, true⟩ ⟨c, (mkL w A k X)⟩ st tk0 (call (.ref 919) [.ref k.m, .int n tk, .int i tk1]) κ := by
  refine def_value_or.enter s (D' := 5) (by lia) rfl ⟨rfl, trivial⟩ rfl (by decide) fun Y2 s2 fin => ?_
  k_extra "vm"
  exact fin _ _ _ _ (ret _)
end
theorem kr_vput2 : True := by
  k_with_none
  k_with "cn" => first
    | (with_reducible refine Cnd.neg (by first | assumption | exact rfl) ?_) | (with_reducible refine Cnd.pos (by first | assumption | exact rfl) ?_)
    | (refine Cnd.neg (by kernel_rfl!) ?_) | (refine Cnd.pos (by kernel_rfl!) ?_)
    | (refine Cnd.pos (by (first | (simp only [bne_self_eq_false, beq_self_eq_true, beq_iff_eq, bne_iff_ne, ne_eq, beq_eq_false_iff_ne, decide_eq_true_eq, decide_eq_false_iff_not, Bool.not_eq_true', Bool.not_eq_false', Bool.not_true, Bool.not_false, Option.isSome_some, Option.isSome_none, not_false_eq_true, Bool.false_eq_true, reduceCtorEq, eq_self]; done) | ((try simp only [bne_self_eq_false, beq_self_eq_true, beq_iff_eq, bne_iff_ne, ne_eq, beq_eq_false_iff_ne, decide_eq_true_eq, decide_eq_false_iff_not, Bool.not_eq_true', Bool.not_eq_false', Bool.not_true, Bool.not_false, Option.isSome_some, Option.isSome_none, not_false_eq_true, Bool.false_eq_true, reduceCtorEq, eq_self]); first | with_reducible assumption | (law_purse 20000 => omega)))) ?_) | (refine Cnd.neg (by (first | (simp only [bne_self_eq_false, beq_self_eq_true, beq_iff_eq, bne_iff_ne, ne_eq, beq_eq_false_iff_ne, decide_eq_true_eq, decide_eq_false_iff_not, Bool.not_eq_true', Bool.not_eq_false', Bool.not_true, Bool.not_false, Option.isSome_some, Option.isSome_none, not_false_eq_true, Bool.false_eq_true, reduceCtorEq, eq_self]; done) | ((try simp only [bne_self_eq_false, beq_self_eq_true, beq_iff_eq, bne_iff_ne, ne_eq, beq_eq_false_iff_ne, decide_eq_true_eq, decide_eq_false_iff_not, Bool.not_eq_true', Bool.not_eq_false', Bool.not_true, Bool.not_false, Option.isSome_some, Option.isSome_none, not_false_eq_true, Bool.false_eq_true, reduceCtorEq, eq_self]); first | with_reducible assumption | (law_purse 20000 => omega)))) ?_)
  k_with "cj" => first
    | (with_reducible refine Conj.no (by first | assumption | exact rfl) ?_) | (with_reducible refine Conj.yes (by first | assumption | exact rfl) ?_)
    | (refine Conj.no (by kernel_rfl!) ?_) | (refine Conj.yes (by kernel_rfl!) ?_)
    | (refine Conj.yes (by (first | (simp only [bne_self_eq_false, beq_self_eq_true, beq_iff_eq, bne_iff_ne, ne_eq, beq_eq_false_iff_ne, decide_eq_true_eq, decide_eq_false_iff_not, Bool.not_eq_true', Bool.not_eq_false', Bool.not_true, Bool.not_false, Option.isSome_some, Option.isSome_none, not_false_eq_true, Bool.false_eq_true, reduceCtorEq, eq_self]; done) | ((try simp only [bne_self_eq_false, beq_self_eq_true, beq_iff_eq, bne_iff_ne, ne_eq, beq_eq_false_iff_ne, decide_eq_true_eq, decide_eq_false_iff_not, Bool.not_eq_true', Bool.not_eq_false', Bool.not_true, Bool.not_false, Option.isSome_some, Option.isSome_none, not_false_eq_true, Bool.false_eq_true, reduceCtorEq, eq_self]); first | with_reducible assumption | (law_purse 20000 => omega)))) ?_) | (refine Conj.no (by (first | (simp only [bne_self_eq_false, beq_self_eq_true, beq_iff_eq, bne_iff_ne, ne_eq, beq_eq_false_iff_ne, decide_eq_true_eq, decide_eq_false_iff_not, Bool.not_eq_true', Bool.not_eq_false', Bool.not_true, Bool.not_false, Option.isSome_some, Option.isSome_none, not_false_eq_true, Bool.false_eq_true, reduceCtorEq, eq_self]; done) | ((try simp only [bne_self_eq_false, beq_self_eq_true, beq_iff_eq, bne_iff_ne, ne_eq, beq_eq_false_iff_ne, decide_eq_true_eq, decide_eq_false_iff_not, Bool.not_eq_true', Bool.not_eq_false', Bool.not_true, Bool.not_false, Option.isSome_some, Option.isSome_none, not_false_eq_true, Bool.false_eq_true, reduceCtorEq, eq_self]); first | with_reducible assumption | (law_purse 20000 => omega)))) ?_)
  k_with "up" => (intro p9 h9; repeat' (first | exact h9 | refine List.mem_cons_of_mem _ ?_ | refine (show ∀ p ∈ _, p ∈ _ by assumption) _ ?_))
  k_with "vm1" => first
    | k_extra "vm1x"
    | (refine (?_ : Stp _ _ _ _ _ _); k_extra "st")
    | (refine (?_ : Cnd _ _ _); k_extra "cn")
    | (refine (?_ : Conj _ _ _ _ _ _ _ _); k_extra "cj")
    | (refine (?_ : Sub _ _ _ _ _ _ _); k_extra "sb")
    | (refine (?_ : Tp _ _ _ _ _ _); refine' tp_v ?R ?_; (case R => assumption); intro b9 R9)
    | k_extra "vm9" 
  k_with "sb" => (refine' sub_v ?hd ?hx ?_; (case hd => first | assumption | exact datUp (by assumption) (by k_extra "up")); (case hx => exact rfl); intro t9)
  k_with "vm" => (repeat' (k_extra "vm1"))
  k_with "st" => ((with_reducible refine' op_use_v ?s ?R ?ha ?_); (case s => exact Std.le (by assumption) (by lia)); (case R => assumption); (case ha => first | assumption | exact at_ix (by assumption) | exact Ext.at (by assumption) (by first | assumption | exact at_ix (by assumption)));  intro t9 tk9)
  k_with "st" => ((with_reducible refine' args_use_v ?s ?R ?ha ?_); (case s => exact Std.le (by assumption) (by lia)); (case R => assumption); (case ha => first | assumption | exact at_ix (by assumption) | exact Ext.at (by assumption) (by first | assumption | exact at_ix (by assumption)));  intro v9 D9 tk9)
  k_with "st" => ((with_reducible refine' width_use_v ?s ?R ?ha ?_); (case s => exact Std.le (by assumption) (by lia)); (case R => assumption); (case ha => first | assumption | exact at_ix (by assumption) | exact Ext.at (by assumption) (by first | assumption | exact at_ix (by assumption)));  intro t9 tk9)
  k_with "st" => ((with_reducible refine' sort_use_v ?s ?R ?ha ?_); (case s => exact Std.le (by assumption) (by lia)); (case R => assumption); (case ha => first | assumption | exact at_ix (by assumption) | exact Ext.at (by assumption) (by first | assumption | exact at_ix (by assumption)));  intro t9 tk9)
  k_with "st" => ((with_reducible refine' data_pair_v ?s ?R ?ha ?hi ?_); (case s => exact Std.le (by assumption) (by lia)); (case R => assumption); (case ha => first | assumption | exact at_ix (by assumption) | exact Ext.at (by assumption) (by first | assumption | exact at_ix (by assumption))); (case hi => exact rfl);  intro v9 D9 tk9)
  k_with "st" => ((with_reducible refine' data_int_v ?s ?R ?ha ?hi ?_); (case s => exact Std.le (by assumption) (by lia)); (case R => assumption); (case ha => first | assumption | exact at_ix (by assumption) | exact Ext.at (by assumption) (by first | assumption | exact at_ix (by assumption))); (case hi => exact rfl);  intro t9 tk9)
  k_with "st" => ((with_reducible refine' bool_term_use_v ?s  ?_); (case s => exact Std.le (by assumption) (by lia));  intro t9 tk9)
  k_with "st" => ((with_reducible refine' bv_num_j_v ?s ?R ?e ?W ?hj ?hr ?hx ?_); (case s => exact Std.le (by assumption) (by lia)); (case R => assumption); (case e => exact rfl); (case W => assumption); (case hj => first | rfl | lia); (case hr => first | assumption | lia); (case hx => first | assumption | lia);  intro n9 t9 c9 st9 σ9 tk9 hs9 R9 X9 A9; have l9 := Ext.len X9)
  k_with "st" => ((with_reducible refine' is_bits_v ?s ?R ?ha ?_); (case s => exact Std.le (by assumption) (by lia)); (case R => assumption); (case ha => first | assumption | exact at_ix (by assumption) | exact Ext.at (by assumption) (by first | assumption | exact at_ix (by assumption)));  intro tk9)
  k_with "st" => ((with_reducible refine' number_v ?s ?R ?ha ?hw ?hr ?_); (case s => exact Std.le (by assumption) (by lia)); (case R => assumption); (case ha => first | assumption | exact at_ix (by assumption) | exact Ext.at (by assumption) (by first | assumption | exact at_ix (by assumption))); (case hw => first | assumption | lia); (case hr => first | assumption | lia);  intro n9 t9 c9 st9 σ9 tk9 hs9 R9 X9 A9; have l9 := Ext.len X9)
  k_with "vm1x" => (refine (?_ : cmpK _ _ _ _ _ _ _ _); refine' cmp_tup1_v ?s ?D1 ?D2 ?_; (case s => exact Std.le (by assumption) (by lia)); (case D1 => first | assumption | exact datUp (by assumption) (by k_extra "up")); (case D2 => first | assumption | exact datUp (by assumption) (by k_extra "up")))
  k_with "st" => ((with_reducible refine' catv_use_v ?s ?h1 ?h2 ?h3 ?_); (case s => exact Std.le (by assumption) (by lia)); (case h1 => first | assumption | lia); (case h2 => first | assumption | lia); (case h3 => first | assumption | lia);  intro t9 tk9)
  k_with "st" => ((with_reducible refine' vor_num_v ?s ?R ?ha ?_); (case s => exact Std.le (by assumption) (by lia)); (case R => assumption); (case ha => first | assumption | exact at_ix (by assumption) | exact Ext.at (by assumption) (by first | assumption | exact at_ix (by assumption)));  intro t9 tk9)
  k_with "st" => ((with_reducible refine' vor_else_v ?s ?R ?ha ?q1 ?_); (case s => exact Std.le (by assumption) (by lia)); (case R => assumption); (case ha => first | assumption | exact at_ix (by assumption) | exact Ext.at (by assumption) (by first | assumption | exact at_ix (by assumption))); (case q1 => first | assumption | exact rfl);  intro tk9)
  k_with "st" => ((with_reducible refine usub_v ?_); intro t9 tk9)
  k_with "st" => ((with_reducible refine' concat_use_v ?s ?R ?ha ?hw ?hr ?ha2 ?hw2 ?hb ?_); (case s => exact Std.le (by assumption) (by lia)); (case R => assumption); (case ha => first | assumption | exact at_ix (by assumption) | exact Ext.at (by assumption) (by first | assumption | exact at_ix (by assumption))); (case hw => first | assumption | lia); (case hr => first | assumption | lia); (case ha2 => first | assumption | exact at_ix (by assumption) | exact Ext.at (by assumption) (by first | assumption | exact at_ix (by assumption))); (case hw2 => first | assumption | lia); (case hb => first | assumption | lia);  intro n9 t9 c9 st9 σ9 tk9 hs9 R9 X9 A9; have l9 := Ext.len X9)
  k_with "st" => ((with_reducible refine' wider_v ?s ?R ?ha ?ho ?hb ?hr ?_); (case s => exact Std.le (by assumption) (by lia)); (case R => assumption); (case ha => first | assumption | exact at_ix (by assumption) | exact Ext.at (by assumption) (by first | assumption | exact at_ix (by assumption))); (case ho => assumption); (case hb => first | assumption | lia); (case hr => first | assumption | lia);  intro n9 t9 c9 st9 σ9 tk9 hs9 R9 X9 A9; have l9 := Ext.len X9)
  trivial
section
variable {S : Sc} {Y : Cx} {w : World} {A : Ba} {c : Bc} {k : Mk} {ko : Option Mk} {X st : Led} {σ : St} {n n1 n2 n3 n4 n5 v m1 i1 tk0 : Nat} {i j : Int} {τ τ1 τ2 x y : T} {tk tk1 tk2 tk3 : Tok} {κ : KO Value}
theorem put_nn_v (s : Std ⟨S, Y, w, A, some k, true⟩ 8) (R : Rep w A c (mkL w A k X) st σ) (ha : At σ n (.num v n4)) (ha2 : At σ n1 (.num i1 n5)) (ho : T.ok (.num v n4)) (ho2 : T.ok (.num i1 n5)) (hb : T.wd (.num v n4) + T.wd (.num i1 n5) ≤ 30) (hr : σ.ts.length + 1 ≤ 2 ^ 20)
    (ret : ∀ n' t c' st' σ' tk', Gr st st' → Rep w A c' (mkL w A k X) st' σ' → Ext σ σ' (1) → At σ' n' (.num (v * 2 ^ n5 + i1) (n4 + n5)) → κ (.int (n' : Nat) t) ⟨c', (mkL w A k X)⟩ st' tk') :
    Stp ⟨S, Y, w, A, some k, true⟩ ⟨c, (mkL w A k X)⟩ st tk0 (call (.ref 996) [.ref k.m, .int n tk, .int n1 tk1]) κ := by
  obtain ⟨o1, o2, o3⟩ := ho
  obtain ⟨o4, o5, o6⟩ := ho2
  have hwa : (T.num v n4).wd = n4 := rfl
  have hwb : (T.num i1 n5).wd = n5 := rfl
  rw [hwa, hwb] at hb
  have W : WantW (n4 + n5) := trivial
  have h40 : v < 2 ^ 40 := Nat.lt_of_lt_of_le o3 (pow_le40 (by omega))
  have h41 : i1 < 2 ^ 40 := Nat.lt_of_lt_of_le o6 (pow_le40 (by omega))
  refine def_put_together.enter s (D' := 7) (by lia) rfl ⟨rfl, trivial⟩ rfl (by decide) fun Y2 s2 fin => ?_
  k_extra "vm"
  (rename At _ _ (T.num (_ % _) _) => A8)
  rw [hwb, Nat.mod_eq_of_lt (cat_lt o3 o6)] at A8
  exact fin _ _ _ _ (ret _ _ _ _ _ _ (by k_extra "up") (by assumption) (Ext.le (by assumption) (by lia)) A8)
end
theorem kr_vput3 : True := by
  k_with_none
  k_with "cn" => first
    | (with_reducible refine Cnd.neg (by first | assumption | exact rfl) ?_) | (with_reducible refine Cnd.pos (by first | assumption | exact rfl) ?_)
    | (refine Cnd.neg (by kernel_rfl!) ?_) | (refine Cnd.pos (by kernel_rfl!) ?_)
    | (refine Cnd.pos (by (first | (simp only [bne_self_eq_false, beq_self_eq_true, beq_iff_eq, bne_iff_ne, ne_eq, beq_eq_false_iff_ne, decide_eq_true_eq, decide_eq_false_iff_not, Bool.not_eq_true', Bool.not_eq_false', Bool.not_true, Bool.not_false, Option.isSome_some, Option.isSome_none, not_false_eq_true, Bool.false_eq_true, reduceCtorEq, eq_self]; done) | ((try simp only [bne_self_eq_false, beq_self_eq_true, beq_iff_eq, bne_iff_ne, ne_eq, beq_eq_false_iff_ne, decide_eq_true_eq, decide_eq_false_iff_not, Bool.not_eq_true', Bool.not_eq_false', Bool.not_true, Bool.not_false, Option.isSome_some, Option.isSome_none, not_false_eq_true, Bool.false_eq_true, reduceCtorEq, eq_self]); first | with_reducible assumption | (law_purse 20000 => omega)))) ?_) | (refine Cnd.neg (by (first | (simp only [bne_self_eq_false, beq_self_eq_true, beq_iff_eq, bne_iff_ne, ne_eq, beq_eq_false_iff_ne, decide_eq_true_eq, decide_eq_false_iff_not, Bool.not_eq_true', Bool.not_eq_false', Bool.not_true, Bool.not_false, Option.isSome_some, Option.isSome_none, not_false_eq_true, Bool.false_eq_true, reduceCtorEq, eq_self]; done) | ((try simp only [bne_self_eq_false, beq_self_eq_true, beq_iff_eq, bne_iff_ne, ne_eq, beq_eq_false_iff_ne, decide_eq_true_eq, decide_eq_false_iff_not, Bool.not_eq_true', Bool.not_eq_false', Bool.not_true, Bool.not_false, Option.isSome_some, Option.isSome_none, not_false_eq_true, Bool.false_eq_true, reduceCtorEq, eq_self]); first | with_reducible assumption | (law_purse 20000 => omega)))) ?_)
  k_with "cj" => first
    | (with_reducible refine Conj.no (by first | assumption | exact rfl) ?_) | (with_reducible refine Conj.yes (by first | assumption | exact rfl) ?_)
    | (refine Conj.no (by kernel_rfl!) ?_) | (refine Conj.yes (by kernel_rfl!) ?_)
    | (refine Conj.yes (by (first | (simp only [bne_self_eq_false, beq_self_eq_true, beq_iff_eq, bne_iff_ne, ne_eq, beq_eq_false_iff_ne, decide_eq_true_eq, decide_eq_false_iff_not, Bool.not_eq_true', Bool.not_eq_false', Bool.not_true, Bool.not_false, Option.isSome_some, Option.isSome_none, not_false_eq_true, Bool.false_eq_true, reduceCtorEq, eq_self]; done) | ((try simp only [bne_self_eq_false, beq_self_eq_true, beq_iff_eq, bne_iff_ne, ne_eq, beq_eq_false_iff_ne, decide_eq_true_eq, decide_eq_false_iff_not, Bool.not_eq_true', Bool.not_eq_false', Bool.not_true, Bool.not_false, Option.isSome_some, Option.isSome_none, not_false_eq_true, Bool.false_eq_true, reduceCtorEq, eq_self]); first | with_reducible assumption | (law_purse 20000 => omega)))) ?_) | (refine Conj.no (by (first | (simp only [bne_self_eq_false, beq_self_eq_true, beq_iff_eq, bne_iff_ne, ne_eq, beq_eq_false_iff_ne, decide_eq_true_eq, decide_eq_false_iff_not, Bool.not_eq_true', Bool.not_eq_false', Bool.not_true, Bool.not_false, Option.isSome_some, Option.isSome_none, not_false_eq_true, Bool.false_eq_true, reduceCtorEq, eq_self]; done) | ((try simp only [bne_self_eq_false, beq_self_eq_true, beq_iff_eq, bne_iff_ne, ne_eq, beq_eq_false_iff_ne, decide_eq_true_eq, decide_eq_false_iff_not, Bool.not_eq_true', Bool.not_eq_false', Bool.not_true, Bool.not_false, Option.isSome_some, Option.isSome_none, not_false_eq_true, Bool.false_eq_true, reduceCtorEq, eq_self]); first | with_reducible assumption | (law_purse 20000 => omega)))) ?_)
  k_with "up" => (intro p9 h9; repeat' (first | exact h9 | refine List.mem_cons_of_mem _ ?_ | refine (show ∀ p ∈ _, p ∈ _ by assumption) _ ?_))
  k_with "vm1" => first
    | k_extra "vm1x"
    | (refine (?_ : Stp _ _ _ _ _ _); k_extra "st")
    | (refine (?_ : Cnd _ _ _); k_extra "cn")
    | (refine (?_ : Conj _ _ _ _ _ _ _ _); k_extra "cj")
    | (refine (?_ : Sub _ _ _ _ _ _ _); k_extra "sb")
    | (refine (?_ : Tp _ _ _ _ _ _); refine' tp_v ?R ?_; (case R => assumption); intro b9 R9)
    | k_extra "vm9" 
  k_with "sb" => (refine' sub_v ?hd ?hx ?_; (case hd => first | assumption | exact datUp (by assumption) (by k_extra "up")); (case hx => exact rfl); intro t9)
  k_with "vm" => (repeat' (k_extra "vm1"))
  k_with "st" => ((with_reducible refine' op_use_v ?s ?R ?ha ?_); (case s => exact Std.le (by assumption) (by lia)); (case R => assumption); (case ha => first | assumption | exact at_ix (by assumption) | exact Ext.at (by assumption) (by first | assumption | exact at_ix (by assumption)));  intro t9 tk9)
  k_with "st" => ((with_reducible refine' args_use_v ?s ?R ?ha ?_); (case s => exact Std.le (by assumption) (by lia)); (case R => assumption); (case ha => first | assumption | exact at_ix (by assumption) | exact Ext.at (by assumption) (by first | assumption | exact at_ix (by assumption)));  intro v9 D9 tk9)
  k_with "st" => ((with_reducible refine' width_use_v ?s ?R ?ha ?_); (case s => exact Std.le (by assumption) (by lia)); (case R => assumption); (case ha => first | assumption | exact at_ix (by assumption) | exact Ext.at (by assumption) (by first | assumption | exact at_ix (by assumption)));  intro t9 tk9)
  k_with "st" => ((with_reducible refine' sort_use_v ?s ?R ?ha ?_); (case s => exact Std.le (by assumption) (by lia)); (case R => assumption); (case ha => first | assumption | exact at_ix (by assumption) | exact Ext.at (by assumption) (by first | assumption | exact at_ix (by assumption)));  intro t9 tk9)
  k_with "st" => ((with_reducible refine' data_pair_v ?s ?R ?ha ?hi ?_); (case s => exact Std.le (by assumption) (by lia)); (case R => assumption); (case ha => first | assumption | exact at_ix (by assumption) | exact Ext.at (by assumption) (by first | assumption | exact at_ix (by assumption))); (case hi => exact rfl);  intro v9 D9 tk9)
  k_with "st" => ((with_reducible refine' data_int_v ?s ?R ?ha ?hi ?_); (case s => exact Std.le (by assumption) (by lia)); (case R => assumption); (case ha => first | assumption | exact at_ix (by assumption) | exact Ext.at (by assumption) (by first | assumption | exact at_ix (by assumption))); (case hi => exact rfl);  intro t9 tk9)
  k_with "st" => ((with_reducible refine' bool_term_use_v ?s  ?_); (case s => exact Std.le (by assumption) (by lia));  intro t9 tk9)
  k_with "st" => ((with_reducible refine' bv_num_j_v ?s ?R ?e ?W ?hj ?hr ?hx ?_); (case s => exact Std.le (by assumption) (by lia)); (case R => assumption); (case e => exact rfl); (case W => assumption); (case hj => first | rfl | lia); (case hr => first | assumption | lia); (case hx => first | assumption | lia);  intro n9 t9 c9 st9 σ9 tk9 hs9 R9 X9 A9; have l9 := Ext.len X9)
  k_with "st" => ((with_reducible refine' is_bits_v ?s ?R ?ha ?_); (case s => exact Std.le (by assumption) (by lia)); (case R => assumption); (case ha => first | assumption | exact at_ix (by assumption) | exact Ext.at (by assumption) (by first | assumption | exact at_ix (by assumption)));  intro tk9)
  k_with "st" => ((with_reducible refine' number_v ?s ?R ?ha ?hw ?hr ?_); (case s => exact Std.le (by assumption) (by lia)); (case R => assumption); (case ha => first | assumption | exact at_ix (by assumption) | exact Ext.at (by assumption) (by first | assumption | exact at_ix (by assumption))); (case hw => first | assumption | lia); (case hr => first | assumption | lia);  intro n9 t9 c9 st9 σ9 tk9 hs9 R9 X9 A9; have l9 := Ext.len X9)
  k_with "vm1x" => (refine (?_ : cmpK _ _ _ _ _ _ _ _); refine' cmp_tup1_v ?s ?D1 ?D2 ?_; (case s => exact Std.le (by assumption) (by lia)); (case D1 => first | assumption | exact datUp (by assumption) (by k_extra "up")); (case D2 => first | assumption | exact datUp (by assumption) (by k_extra "up")))
  k_with "st" => ((with_reducible refine' catv_use_v ?s ?h1 ?h2 ?h3 ?_); (case s => exact Std.le (by assumption) (by lia)); (case h1 => first | assumption | lia); (case h2 => first | assumption | lia); (case h3 => first | assumption | lia);  intro t9 tk9)
  k_with "st" => ((with_reducible refine' vor_num_v ?s ?R ?ha ?_); (case s => exact Std.le (by assumption) (by lia)); (case R => assumption); (case ha => first | assumption | exact at_ix (by assumption) | exact Ext.at (by assumption) (by first | assumption | exact at_ix (by assumption)));  intro t9 tk9)
  k_with "st" => ((with_reducible refine' vor_else_v ?s ?R ?ha ?q1 ?_); (case s => exact Std.le (by assumption) (by lia)); (case R => assumption); (case ha => first | assumption | exact at_ix (by assumption) | exact Ext.at (by assumption) (by first | assumption | exact at_ix (by assumption))); (case q1 => first | assumption | exact rfl);  intro tk9)
  k_with "st" => ((with_reducible refine usub_v ?_); intro t9 tk9)
  k_with "st" => ((with_reducible refine' concat_use_v ?s ?R ?ha ?hw ?hr ?ha2 ?hw2 ?hb ?_); (case s => exact Std.le (by assumption) (by lia)); (case R => assumption); (case ha => first | assumption | exact at_ix (by assumption) | exact Ext.at (by assumption) (by first | assumption | exact at_ix (by assumption))); (case hw => first | assumption | lia); (case hr => first | assumption | lia); (case ha2 => first | assumption | exact at_ix (by assumption) | exact Ext.at (by assumption) (by first | assumption | exact at_ix (by assumption))); (case hw2 => first | assumption | lia); (case hb => first | assumption | lia);  intro n9 t9 c9 st9 σ9 tk9 hs9 R9 X9 A9; have l9 := Ext.len X9)
  k_with "st" => ((with_reducible refine' wider_v ?s ?R ?ha ?ho ?hb ?hr ?_); (case s => exact Std.le (by assumption) (by lia)); (case R => assumption); (case ha => first | assumption | exact at_ix (by assumption) | exact Ext.at (by assumption) (by first | assumption | exact at_ix (by assumption))); (case ho => assumption); (case hb => first | assumption | lia); (case hr => first | assumption | lia);  intro n9 t9 c9 st9 σ9 tk9 hs9 R9 X9 A9; have l9 := Ext.len X9)
  k_with "st" => ((with_reducible refine' put_nn_v ?s ?R ?ha ?ha2 ?ho ?ho2 ?hb ?hr ?_); (case s => exact Std.le (by assumption) (by lia)); (case R => assumption); (case ha => first | assumption | exact at_ix (by assumption) | exact Ext.at (by assumption) (by first | assumption | exact at_ix (by assumption))); (case ha2 => first | assumption | exact at_ix (by assumption) | exact Ext.at (by assumption) (by first | assumption | exact at_ix (by assumption))); (case ho => assumption); (case ho2 => assumption); (case hb => first | assumption | lia); (case hr => first | assumption | lia);  intro n9 t9 c9 st9 σ9 tk9 hs9 R9 X9 A9; have l9 := Ext.len X9)
  trivial
section
variable {S : Sc} {Y : Cx} {w : World} {A : Ba} {c : Bc} {k : Mk} {ko : Option Mk} {X st : Led} {σ : St} {n n1 n2 n3 n4 n5 v m1 i1 tk0 : Nat} {i j : Int} {τ τ1 τ2 x y : T} {tk tk1 tk2 tk3 : Tok} {κ : KO Value}
theorem put_v (s : Std ⟨S, Y, w, A, some k, true⟩ (18 + τ1.dep)) (R : Rep w A c (mkL w A k X) st σ) (ha : At σ n τ1) (ha2 : At σ n1 τ2) (ho : τ1.ok) (ho2 : τ2.ok) (hb : τ1.wd + τ2.wd ≤ 30) (hr : σ.ts.length + (τ1.dep + 2) ≤ 2 ^ 20)
    (ret : ∀ n' t c' st' σ' tk', Gr st st' → Rep w A c' (mkL w A k X) st' σ' → Ext σ σ' (τ1.dep + 2) → At σ' n' (τ1.putT τ2) → κ (.int (n' : Nat) t) ⟨c', (mkL w A k X)⟩ st' tk') :
    Stp ⟨S, Y, w, A, some k, true⟩ ⟨c, (mkL w A k X)⟩ st tk0 (call (.ref 996) [.ref k.m, .int n tk, .int n1 tk1]) κ := by
  by_cases hnn : τ1.isNum = true ∧ τ2.isNum = true
  · obtain ⟨q1, q2⟩ := hnn
    obtain ⟨v, n4, rfl⟩ := isNum_ex q1
    obtain ⟨i1, n5, rfl⟩ := isNum_ex q2
    exact put_nn_v (s.le (by lia)) R ha ha2 ho ho2 hb (by lia) fun n' t c' st' σ' tk' a b e f => ret n' t c' st' σ' tk' a b (e.le (by lia)) f
  have hw1 := T.ok_wd ho
  have hw2 := T.ok_wd ho2
  refine def_put_together.enter s (D' := 17 + τ1.dep) (by lia) rfl ⟨rfl, trivial⟩ rfl (by decide) fun Y2 s2 fin => ?_
  k_extra "vm"
  cases τ1 with
  | num v n4 =>
    have q2 : τ2.isNum = false := Bool.eq_false_iff.mpr fun q => hnn ⟨rfl, q⟩
    have e0 := T.putT_num (v := v) (n := n4) q2
    k_extra "vm"
    by_cases hv : v = 0
    · subst hv
      k_extra "vm"
      exact fin _ _ _ _ (ret _ _ _ _ _ _ (by k_extra "up") (by assumption) (Ext.le (by assumption) (by lia)) (At.cast (e0.trans (if_pos rfl)) (by assumption)))
    · k_extra "vm"
      exact fin _ _ _ _ (ret _ _ _ _ _ _ (by k_extra "up") (by assumption) (Ext.le (by assumption) (by lia)) (At.cast (e0.trans (if_neg hv)) (by assumption)))
  | cat x y =>
    have hx : x ∈ σ.ts := R.ok.cl _ ha.mem x (.head _)
    have hy : y ∈ σ.ts := R.ok.cl _ ha.mem y (.tail _ (.head _))
    k_extra "vm"
    by_cases q2 : τ2.isNum = true
    · by_cases q1 : y.isNum = true
      · obtain ⟨i1, n5, rfl⟩ := isNum_ex q2
        obtain ⟨v, n4, rfl⟩ := isNum_ex q1
        obtain ⟨o1, o2, o3⟩ := ho
        have hxw := T.ok_wd o1
        have hyw := T.ok_wd o2
        have hzw := T.ok_wd ho2
        have hwa : (T.cat x (.num v n4)).wd = x.wd + n4 := rfl
        have hwb : (T.num i1 n5).wd = n5 := rfl
        have hwc : (T.num v n4).wd = n4 := rfl
        have hwd : (T.num (v * 2 ^ n5 + i1) (n4 + n5)).wd = n4 + n5 := rfl
        rw [hwa, hwb] at hb
        rw [hwb] at hzw
        rw [hwc] at hyw o3
        k_extra "vm"
        exact fin _ _ _ _ (ret _ _ _ _ _ _ (by k_extra "up") (by assumption) ((Ext.trans (by assumption) (by assumption)).le (by lia)) (by assumption))
      · have q1 := Bool.eq_false_iff.mpr q1
        k_extra "vm"
        exact fin _ _ _ _ (ret _ _ _ _ _ _ (by k_extra "up") (by assumption) (Ext.le (by assumption) (by lia)) (At.cast (T.putT_cat (Bool.and_eq_false_iff.mpr (.inr q1))) (by assumption)))
    · have q2 := Bool.eq_false_iff.mpr q2
      k_extra "vm"
      exact fin _ _ _ _ (ret _ _ _ _ _ _ (by k_extra "up") (by assumption) (Ext.le (by assumption) (by lia)) (At.cast (T.putT_cat (Bool.and_eq_false_iff.mpr (.inl q2))) (by assumption)))
  | ext v i1 x =>
    have hx : x ∈ σ.ts := R.ok.cl _ ha.mem x (.head _)
    k_extra "vm"
    by_cases q2 : (τ2.op == Str.ofString "extract") = true
    · obtain ⟨m1, n5, y, rfl⟩ := isExt_ex ((op_ext τ2).symm.trans q2)
      have hy : y ∈ σ.ts := R.ok.cl _ ha2.mem y (.head _)
      k_extra "vm"
      by_cases q4 : x = y
      · subst q4
        by_cases q5 : i1 = m1 + 1
        · have q6 : ((i1 : Nat) : Int) = (m1 : Int) + 1 := by omega
          obtain ⟨o1, o2, o3⟩ := ho
          obtain ⟨o4, o5, o6⟩ := ho2
          simp only [T.dep] at hr
          k_extra "vm"
          refine cut_all w x v n5 (s2.le (by simp only [T.dep]; lia)) (by assumption) (at_ix hx) o3 rfl rfl (by lia) o2 (by lia) ?_
          intro n8 t8 c8 st8 σ8 tk8 hs8 R8 X8 A8
          exact fin _ _ _ _ (ret _ _ _ _ _ _ (by k_extra "up") (by assumption) (X8.le (by simp only [T.dep]; lia)) (At.cast (if_pos ⟨rfl, q5⟩) A8))
        · k_extra "vm"
          exact fin _ _ _ _ (ret _ _ _ _ _ _ (by k_extra "up") (by assumption) (Ext.le (by assumption) (by lia)) (At.cast (if_neg fun q => q5 q.2) (by assumption)))
      · have hxy := (ix_eq hx hy).trans (beq_eq_false_iff_ne.mpr q4)
        k_extra "vm"
        exact fin _ _ _ _ (ret _ _ _ _ _ _ (by k_extra "up") (by assumption) (Ext.le (by assumption) (by lia)) (At.cast (if_neg fun q => q4 q.1) (by assumption)))
    · have q2 := Bool.eq_false_iff.mpr q2
      k_extra "vm"
      exact fin _ _ _ _ (ret _ _ _ _ _ _ (by k_extra "up") (by assumption) (Ext.le (by assumption) (by lia)) (At.cast (T.putT_ext q2) (by assumption)))
  | _ =>
    first
    | exact ho.elim
    | (k_extra "vm"
       exact fin _ _ _ _ (ret _ _ _ _ _ _ (by k_extra "up") (by assumption) (Ext.le (by assumption) (by lia)) (by assumption)))
end
end
section
theorem kr_Lb : True := by
  k_with_none
  trivial
open PyProof.V PySem.Spec
structure Src where
  d : Addr
  cl : Addr
  vs : List Value
  nn : Nat
  ns : List Int
noncomputable def srcKvs (cl : Addr) (sp : Int) (t t' : Tok) : List (Str × Value) := [(Str.ofString "cells", .ref cl), (Str.ofString "spot", .int sp t), (Str.ofString "left", .int 0 t')]
noncomputable def SrcIs (w : World) (S : Src) (o : Obj) (st : List (Addr × Obj)) (b : Nat) : Prop :=
  IntsAre S.vs S.ns ∧ S.ns.length ≤ 40 ∧ (S.cl, listOf S.vs.toArray S.nn) ∈ st ∧ ∃ (sp : Int) (t t' : Tok), 0 ≤ sp ∧ sp ≤ b ∧ o.IsDictOf (strKind pw w) (srcKvs S.cl sp t t')
theorem SrcIs.up {w S o st st' b} (h : SrcIs w S o st b) (hs : ∀ p ∈ st, p ∈ st') : SrcIs w S o st' b := ⟨h.1, h.2.1, hs _ h.2.2.1, h.2.2.2⟩
theorem upd_split {d : Addr} {o : Obj} : ∀ {pre post : List (Addr × Obj)}, (∀ p ∈ pre, p.1 ≠ d) → (∀ p ∈ post, p.1 ≠ d) → UpdF d o (pre ++ (d, o) :: post) (fun o' => pre ++ (d, o') :: post)
  | [], _, _, b => .head b
  | p :: pre, _, a, b => .tail (a p (.head _)) (upd_split (fun q hq => a q (.tail _ hq)) b)
noncomputable def NdX (k : Mk) (X : List (Addr × Obj)) : Prop := (k.m :: k.d :: X.map (·.1)).Nodup
theorem upd_X {w : World} {A : Ba} {c c₀ : Bc} {k : Mk} {X1 X2 st : List (Addr × Obj)} {d : Addr} {o : Obj} {σ : St} (R : Rep w A c₀ (mkL w A k (X1 ++ (d, o) :: X2)) st σ) (nd : NdX k (X1 ++ (d, o) :: X2)) :
    UpdF d o (M w A c ++ (mkL w A k (X1 ++ (d, o) :: X2) ++ st)) (fun o' => M w A c ++ (mkL w A k (X1 ++ (d, o') :: X2) ++ st)) := by
  have e : ∀ o' : Obj, M w A c ++ (mkL w A k (X1 ++ (d, o') :: X2) ++ st) = (M w A c ++ (mkL w A k X1)) ++ (d, o') :: (X2 ++ st) := fun o' => by
    simp only [mkL, List.append_assoc, List.cons_append]
  have e' : (fun o' => M w A c ++ (mkL w A k (X1 ++ (d, o') :: X2) ++ st)) = fun o' => (M w A c ++ (mkL w A k X1)) ++ (d, o') :: (X2 ++ st) := funext e
  rw [e o, e']
  have nd' : ((mkL w A k X1).map (·.1) ++ d :: X2.map (·.1)).Nodup := by
    have : (mkL w A k X1).map (·.1) ++ d :: X2.map (·.1) = k.m :: k.d :: (X1 ++ (d, o) :: X2).map (·.1) := by
      simp only [mkL, List.map_cons, List.map_append, List.cons_append]
    rw [this]; exact nd
  rw [List.nodup_append, List.nodup_cons] at nd'
  have hd : (d, o) ∈ mkL w A k (X1 ++ (d, o) :: X2) := .tail _ (.tail _ (List.mem_append_right _ (.head _)))
  refine upd_split (fun p hp q => ?_) fun p hp q => ?_
  · rcases List.mem_append.mp hp with hp | hp
    · exact R.off _ (List.mem_append_left _ hd) (by rw [← M_addrs w A c, ← q]; exact (show p.1 ∈ (M w A c).map (·.1) from List.mem_map_of_mem hp))
    · exact nd'.2.2 _ (List.mem_map_of_mem hp) _ (.head _) q
  · rcases List.mem_append.mp hp with hp | hp
    · exact nd'.2.1.1 (by rw [← q]; exact (show p.1 ∈ X2.map (·.1) from List.mem_map_of_mem hp))
    · exact R.sep p hp (by rw [q]; exact (show (d, o).1 ∈ _ from List.mem_map_of_mem hd))
theorem map_upd {X1 X2 : List (Addr × Obj)} {d : Addr} {o o' : Obj} {w : World} {A : Ba} {k : Mk} : (mkL w A k (X1 ++ (d, o') :: X2)).map (·.1) = (mkL w A k (X1 ++ (d, o) :: X2)).map (·.1) := by
  simp only [mkL, List.map_cons, List.map_append]
section
variable {Ar : Around} {E : Value → Shared → Prop} {s : Shared} {h₀ : Heap} {L : Addr} {m : Str → Option Value} {w : World} {A : Ba} {c c₀ : Bc} {k : Mk} {X st : List (Addr × Obj)} {σ : St} {S : Src} {o : Obj} {cl : Addr} {sp sp' : Int} {t t' u u' : Tok} {b : Nat}
theorem src_item {value slice : PySem.Expr} {key : Str} {v : Value} {Q : Value → Shared → Prop} (N : News h₀ L s.heap (M w A c ++ (mkL w A k ((S.d, o) :: X) ++ st))) (hd : o.IsDictOf (strKind pw w) (srcKvs cl sp t t')) (hl : valueAt (srcKvs cl sp t t') key = some v) (h : Q v { s with toks := s.toks + 1 })
    (hs : subscripted slice false (.ref S.d) (.str key u) = operate [.ref S.d, .str key u] (getItem (.ref S.d) (.str key u)) := by with_unfolding_all rfl) (hg : ∀ r, letTemporaryGo value (.ref S.d) r = pure () := by intro _; with_unfolding_all rfl) :
    wpAny (model pw w) Ar (subscriptTail value slice (.ref S.d) (.str key u)) Q E s :=
  kda_item (knd := strKind pw w) N (List.mem_append_right _ (.tail _ (.tail _ (.head _)))) hd (strKind_is _ _ _ _) hl h hs hg
theorem src_set {Q : Unit → Shared → Prop} (F : Fr h₀ L s.heap m) (N : News h₀ L s.heap (M w A c ++ (mkL w A k ((S.d, o) :: X) ++ st))) (R : Rep w A c₀ (mkL w A k ((S.d, o) :: X)) st σ) (nd : NdX k ((S.d, o) :: X)) (hd : o.IsDictOf (strKind pw w) (srcKvs cl sp t t'))
    (h : ∀ h' o', Fr h₀ L h' m → News h₀ L h' (M w A c ++ (mkL w A k ((S.d, o') :: X) ++ st)) → Rep w A c₀ (mkL w A k ((S.d, o') :: X)) st σ → o'.IsDictOf (strKind pw w) (srcKvs cl sp' u' t') → Q () { s with heap := h', toks := s.toks + 1 }) :
    wpAny (model pw w) Ar (setItem (.ref S.d) (.str (Str.ofString "spot") u) (.int sp' u')) Q E s :=
  kda_set (knd := strKind pw w) F N (upd_X (X1 := []) R nd) hd (strKind_is _ _ _ _) (by rw [sizeLine_eq]; exact Nat.le_of_ble_eq_true (by with_unfolding_all rfl)) fun h' o' F' N' hd' =>
    h h' o' F' N' (R.setX (map_upd (X1 := []))) (by
      have : PySem.stored (srcKvs cl sp t t') (Str.ofString "spot") (.int sp' u') = srcKvs cl sp' u' t' := by with_unfolding_all rfl
      rw [← this]; exact hd')
theorem mem_led {w : World} {A : Ba} {c : Bc} {X st : List (Addr × Obj)} {p : Addr × Obj} (h : p ∈ st) : p ∈ M w A c ++ (X ++ st) := List.mem_append_right _ (List.mem_append_right _ h)
abbrev lstOf (vs : List Value) : Obj := { cls := .type "list", data := .seq vs.toArray }
variable {M' : Model}
theorem newList_M {X : List (Addr × Obj)} {vs : List Value} {Q : Value → Shared → Prop} (F : Fr h₀ L s.heap m) (N : News h₀ L s.heap (M w A c ++ (X ++ st))) (R : Rep w A c₀ X st σ) (hsz : vs.length ≤ 100)
    (h : ∀ a h', Fr h₀ L h' m → News h₀ L h' (M w A c ++ (X ++ ((a, lstOf vs) :: st))) → Rep w A c₀ X ((a, lstOf vs) :: st) σ → Q (.ref a) { s with heap := h' }) : wpAny M' Ar (newList vs) Q E s :=
  newList_N F N (fun h' F' N' => h _ h' F' (news_sub N' fun p hp => by
      rcases List.mem_append.mp hp with hp | hp
      · exact .tail _ (List.mem_append_left _ hp)
      · rcases List.mem_append.mp hp with hp | hp
        · exact .tail _ (List.mem_append_right _ (List.mem_append_left _ hp))
        · rcases List.mem_cons.mp hp with rfl | hp
          · exact .head _
          · exact .tail _ (List.mem_append_right _ (List.mem_append_right _ hp)))
    (R.cons (not_addr (w := w) (c := c) fun p hp => Heap.lt_size (N p hp).1) (not_X (w := w) (A := A) (c := c) fun p hp => Heap.lt_size (N p hp).1))) (Nat.le_trans hsz (by decide))
theorem cells_len {X : List (Addr × Obj)} {st' : List (Addr × Obj)} {Q : Value → Shared → Prop} (N : News h₀ L s.heap (M w A c ++ (X ++ st))) (hS : SrcIs w S o st' b) (hs : ∀ p ∈ st', p ∈ st) (h : ∀ t tk, Q (.int (S.ns.length : Nat) t) { s with toks := tk }) :
    wpAny (model pw w) Ar (call (.builtin "len") [.ref S.cl]) Q E s :=
  have e : S.vs.length = S.ns.length := by have := hS.1.sizeZ; rw [List.size_toArray] at this; lia
  len_M N (mem_led (hs _ hS.2.2.1)) (by rw [e]; exact Nat.le_trans hS.2.1 (by decide)) (by rw [e]; exact h)
theorem cells_ne {X : List (Addr × Obj)} {st' : List (Addr × Obj)} {a : Addr} {Q : Value → Shared → Prop} (N : News h₀ L s.heap (M w A c ++ (X ++ st))) (hS : SrcIs w S o st' b) (hs : ∀ p ∈ st', p ∈ st) (ha : (a, lstOf []) ∈ st) (hu : Ar.units + 64 < cLine) (h : Q (.bool (!decide (S.ns = []))) s) :
    wpAny (model pw w) Ar (compareOp .NotEq (.ref S.cl) (.ref a)) Q E s :=
  ne_intsK (vs := S.vs) (us := []) (N.isList (mem_led (hs _ hS.2.2.1))) hS.1 (N.isList (mem_led ha)) .nil hu h
theorem cells_item {X : List (Addr × Obj)} {st' : List (Addr × Obj)} {value slice : PySem.Expr} {i : Int} {u : Tok} {Q : Value → Shared → Prop} (N : News h₀ L s.heap (M w A c ++ (X ++ st))) (hS : SrcIs w S o st' b) (hs : ∀ p ∈ st', p ∈ st) (h0 : 0 ≤ i) (h1 : i < S.ns.length) (h : ∀ x t, Q (.int x t) s)
    (hq : subscripted slice false (.ref S.cl) (.int i u) = operate [.ref S.cl, .int i u] (getItem (.ref S.cl) (.int i u)) := by with_unfolding_all rfl) :
    wpAny (model pw w) Ar (subscriptTail value slice (.ref S.cl) (.int i u)) Q E s := by
  have hb := hS.2.1
  obtain ⟨t, ht⟩ := hS.1.get i.toNat (S.ns[i.toNat]'(by lia)) (List.getElem?_eq_getElem _)
  exact item_litK (N.isList (mem_led (hs _ hS.2.2.1))) h0 (by lia) ht (h _ _) hq
end
end
section
theorem kr_Comp3 : True := by
  k_with_none
  trivial
open PySem.Spec PyProof.Rows.LCg
section
variable {prog : Program} {w : World} {A : Around} {E : Value → Shared → Prop} {s : Shared} {h₀ : Heap} {L : Addr} {m : Str → Option Value} {env : Env}
theorem ar_no {i n : Nat} (l : i < n) (h : i = n + 1) : False := absurd (show n + 1 < n from h ▸ l) (Nat.not_lt.mpr (Nat.le_succ n))
theorem ar_pos {i k n : Nat} (h : i + k = n + 1) (l : i < n) : 0 < k := Nat.pos_of_ne_zero fun e => by subst e; exact ar_no l h
theorem ar_step {i n : Nat} (l : i < n) : ∀ {k : Nat}, i + k = n + 1 → i + 1 + (k - 1) = n + 1
  | 0, h => (ar_no l h).elim
  | k + 1, h => (Nat.add_right_comm i 1 k).trans h
theorem news_to {h h' : Heap} {l : List (Addr × Obj)} (N : News h₀ L h l) (k : ∀ p ∈ l, ∀ o, h.get? p.1 = some o → h'.get? p.1 = some o) : News h₀ L h' l := fun p hp => ⟨k p hp _ (N p hp).1, (N p hp).2⟩
inductive Post3 (h₀ : Heap) (L : Addr) (m : Str → Option Value) (s : Shared) (I : Addr) (oI : Obj) (C : Addr) (oC : Obj) (D : Addr) (ys : List Value) (own led : List (Addr × Obj)) (J : List Value → List (Addr × Obj) → Prop) (y : Value) : Shared → Prop
  | mk (h' : Heap) (tk' : Nat) (own' : List (Addr × Obj)) : Fr h₀ L h' m → News h₀ L h' ((I, oI) :: (C, oC) :: (D, lst ys) :: (own' ++ led)) → J (ys ++ [y]) own' → (∀ p ∈ own', p ∈ own ∨ (p.1 ≠ I ∧ p.1 ≠ C ∧ p.1 ≠ D)) →
    Post3 h₀ L m s I oI C oC D ys own led J y { s with heap := h', toks := tk' }
noncomputable def Turn3 (prog : Program) (w : World) (A : Around) (h₀ : Heap) (L : Addr) (m : Str → Option Value) (env : Env) (elt : PySem.Expr) (x1 x2 x3 : Str) (scope : Scope) (cl : List (Str × Addr)) (s : Shared) (led : List (Addr × Obj)) (J : List Value → List (Addr × Obj) → Prop) (v1 v2 v3 : Value) (ys : List Value) : Prop :=
  ∀ own I oI C oC D m₂ h tk (E' : Value → Shared → Prop), J ys own → NsObj oC m₂ → m₂ x1 = some v1 → m₂ x2 = some v2 → m₂ x3 = some v3 → Fr h₀ L h m → News h₀ L h ((I, oI) :: (C, oC) :: (D, lst ys) :: (own ++ led)) →
    wpAny (model prog w) A (eval elt (compEnvC scope cl C env)) (Post3 h₀ L m s I oI C oC D ys own led J) E' { s with heap := h, toks := tk }
structure Apart (h₀ : Heap) (L I C D : Addr) (led : List (Addr × Obj)) : Prop where
  ic : I ≠ C
  id : I ≠ D
  cd : C ≠ D
  i0 : h₀.get? I = none
  c0 : h₀.get? C = none
  d0 : h₀.get? D = none
  il : I ≠ L
  cl : C ≠ L
  dl : D ≠ L
  off : ∀ p ∈ led, p.1 ≠ I ∧ p.1 ≠ C ∧ p.1 ≠ D
inductive Tri (led : List (Addr × Obj)) (P : Value → Value → Value → Prop) (v : Value) : Prop
  | mk (t : Addr) (v1 v2 v3 : Value) (nt : Nat) : v = .ref t → (t, ({ cls := .type "tuple", data := .seq #[v1, v2, v3] nt } : Obj)) ∈ led → P v1 v2 v3 → Tri led P v
inductive T3 (h₀ : Heap) (L I C D ax : Addr) (m : Str → Option Value) (s : Shared) (led : List (Addr × Obj)) (J : List Value → List (Addr × Obj) → Prop) (n k : Nat) : Shared → Prop
  | mk (h : Heap) (tk i : Nat) (ys : List Value) (own : List (Addr × Obj)) (m' : Str → Option Value) : i + k = n + 1 → i ≤ n → ys.length = i → h.IsListIter I ax i → Fr h₀ L h m → h.Ns C m' → News h₀ L h ((D, lst ys) :: (own ++ led)) → J ys own →
    (∀ p ∈ own, p.1 ≠ I ∧ p.1 ≠ C ∧ p.1 ≠ D) → T3 h₀ L I C D ax m s led J n k { s with heap := h, toks := tk }
theorem turn3 {elt iter : PySem.Expr} {x1 x2 x3 : Str} {p1 p2 p3 tp pos : Pos} {tk0} {scope : Scope} {cl : List (Str × Addr)} {I C D ax : Addr} {led : List (Addr × Obj)} {J : List Value → List (Addr × Obj) → Prop} {vs : List Value} {kn : Nat} {R : Result → Shared → Prop}
    (hh : A.handled = none) (hkind : scope.kind = .function) (hx1 : scope.names.lookup x1 = some .local) (hx2 : scope.names.lookup x2 = some .local) (hx3 : scope.names.lookup x3 = some .local) (h12 : x1 ≠ x2) (h13 : x1 ≠ x3) (h23 : x2 ≠ x3)
    (P : Apart h₀ L I C D led) (hax : (ax, listOf vs.toArray kn) ∈ led) (hn : vs.length ≤ 100)
    (T : ∀ i (hi : i < vs.length), Tri led (fun v1 v2 v3 => ∀ ys : List Value, ys.length = i → Turn3 prog w A h₀ L m env elt x1 x2 x3 scope cl s led J v1 v2 v3 ys) vs[i])
    (fin : ∀ h tk ys own m', ys.length = vs.length → Fr h₀ L h m → h.Ns C m' → News h₀ L h ((D, lst ys) :: (own ++ led)) → J ys own → (∀ p ∈ own, p.1 ≠ I ∧ p.1 ≠ C ∧ p.1 ≠ D) → R (.ok .next) { s with heap := h, toks := tk })
    (h : Heap) (tk : Nat) (m' : Str → Option Value) (hit : h.IsListIter I ax 0) (F : Fr h₀ L h m) (hc : h.Ns C m') (N : News h₀ L h ((D, lst []) :: led)) (hJ : J [] []) :
    codeAny (model prog w) A (.compLoop (.ListComp elt [⟨.Tuple [.Name x1 p1, .Name x2 p2, .Name x3 p3] tk0 tp, iter, [], 0⟩] scope pos) 0 (.ref I) (.ref D) (compEnvC scope cl C env)) R { s with heap := h, toks := tk } := by
  have W := Walks.list (prog := prog) (w := w) hh I ax (fun e => (P.off _ hax).1 e) vs.toArray
  refine LCp.codeAny_compLoop_pair (T3 h₀ L I C D ax m s led J vs.length) ?_ (vs.length + 1) (.mk h tk 0 [] [] m' (Nat.zero_add _) (Nat.zero_le _) rfl hit F hc N hJ (fun _ h => nomatch h))
  clear hit F hc N hJ h tk m'
  rintro k s' ⟨h, tk, i, ys, own, m', hk, hi, hl, hit, F, hc, N, hJ, off⟩
  have hL : h.IsList ax vs.toArray := ⟨_, (N _ (.tail _ (List.mem_append_right _ hax))).1, rfl, _, rfl⟩
  have offs : ∀ p ∈ own ++ led, p.1 ≠ I ∧ p.1 ≠ C ∧ p.1 ≠ D := fun p hp => (List.mem_append.mp hp).elim (off p) (P.off p)
  by_cases hlt : i < vs.length
  · refine W.item i _ _ _ (by simpa using hlt) ⟨hit, hL⟩ fun v h₂ tk₂ hv st₂ k₂ => ?_
    obtain ⟨t, v1, v2, v3, nt, et, ht, T'⟩ := T i hlt
    have ev : v = .ref t := by
      have hv : vs.toArray[i]? = some v := hv
      rw [List.getElem?_toArray, List.getElem?_eq_getElem hlt, et] at hv
      exact (Option.some.inj hv).symm
    subst ev
    have N₂ : News h₀ L h₂ ((D, lst ys) :: (own ++ led)) := news_to N fun p hp o e => k₂ _ _ (by
      rcases List.mem_cons.mp hp with rfl | hp
      · simpa using P.id.symm
      · simpa using (offs p hp).1) e
    have ht₂ : IsTup h₂ t #[v1, v2, v3] := ⟨_, (N₂ _ (.tail _ (List.mem_append_right _ ht))).1, rfl, _, rfl⟩
    refine wpAny_letOwnedTupleGo_listiter st₂.1 ?_
    refine assign_Tuple_tuple hh ht₂ rfl rfl fun h₃ e₃ => ?_
    have k₃ : ∀ b o, h₂.get? b = some o → h₃.get? b = some o := fun b o e => e₃ b o (Nat.ne_of_lt (Heap.lt_size e)) e
    have c₃ : h₃.Ns C m' := (hc.at' fun o e => k₂ _ o (by simpa using P.ic.symm) e).at' fun o e => k₃ _ o e
    refine assignInOrder_cons (wpAny_assign_Name (wpAny_storeName_local (lookup_relabel_local hx1) c₃ (fun h₄ n₄ s₄ => ?_) (by simp [compEnvC, relabel, hkind])))
    refine assignInOrder_cons (wpAny_assign_Name (wpAny_storeName_local (lookup_relabel_local hx2) n₄ (fun h₅ n₅ s₅ => ?_) (by simp [compEnvC, relabel, hkind])))
    refine assignInOrder_cons (wpAny_assign_Name (wpAny_storeName_local (lookup_relabel_local hx3) n₅ (fun h₆ n₆ s₆ => ?_) (by simp [compEnvC, relabel, hkind])))
    refine assignInOrder_nil ?_
    have k₆ : ∀ b o, b ≠ C → h₂.get? b = some o → h₆.get? b = some o := fun b o hb e => s₆.extBut b o hb (s₅.extBut b o hb (s₄.extBut b o hb (k₃ b o e)))
    obtain ⟨oI, eI, rI⟩ := st₂.1
    obtain ⟨oC, eC, rC⟩ := ns_obj n₆
    have F₆ : Fr h₀ L h₆ m := ((((fr_but F k₂ P.il.symm P.i0).keeps k₃).change s₄ P.cl P.c0).change s₅ P.cl P.c0).change s₆ P.cl P.c0
    have N₆ : News h₀ L h₆ ((I, oI) :: (C, oC) :: (D, lst ys) :: (own ++ led)) := fun p hp => by
      rcases List.mem_cons.mp hp with rfl | hp
      · exact ⟨k₆ _ _ P.ic eI, P.il, P.i0⟩
      rcases List.mem_cons.mp hp with rfl | hp
      · exact ⟨eC, P.cl, P.c0⟩
      refine ⟨k₆ _ _ ?_ (N₂ p hp).1, (N₂ p hp).2⟩
      rcases List.mem_cons.mp hp with rfl | hp
      · exact P.cd.symm
      · exact (offs p hp).2.1
    refine wpAny_mono (T' ys hl own I oI C oC D _ h₆ _ _ hJ rC (by simp [h12, h13]) (by simp [h23]) (by simp) F₆ N₆) (fun y s₇ h₇ => ?_) fun _ _ e => e
    obtain ⟨h₇, tk₇, own₇, F₇, N₇, J₇, off₇⟩ := h₇
    have off' : ∀ p ∈ own₇, p.1 ≠ I ∧ p.1 ≠ C ∧ p.1 ≠ D := fun p hp => (off₇ p hp).elim (off p) id
    refine append_at (hsz := by show ys.toArray.size ≤ sizeLine; rw [List.size_toArray, sizeLine_eq]; lia) (N₇ (D, lst ys) (.tail _ (.tail _ (.head _)))).1 fun h₈ s₈ e₈ => ?_
    refine ⟨k - 1, Nat.sub_lt (ar_pos hk hlt) Nat.one_pos, .mk h₈ tk₇ (i + 1) (ys ++ [y]) own₇ _ (ar_step hlt hk) hlt (List.length_append.trans (congrArg (· + 1) hl)) ⟨oI, s₈.extBut _ _ P.id (N₇ _ (.head _)).1, rI⟩ (F₇.change s₈ P.dl P.d0) ((rC.ns (N₇ _ (.tail _ (.head _))).1).sameBut s₈ P.cd) (fun p hp => ?_) J₇ off'⟩
    rcases List.mem_cons.mp hp with rfl | hp
    · exact ⟨e₈.trans (congrArg some (lst_snoc ys y)), P.dl, P.d0⟩
    · have z := N₇ p (.tail _ (.tail _ (.tail _ hp)))
      exact ⟨s₈.extBut _ _ ((List.mem_append.mp hp).elim (fun h => (off' p h).2.2) fun h => (P.off p h).2.2) z.1, z.2⟩
  · cases Nat.le_antisymm hi (Nat.not_lt.mp hlt)
    refine W.done _ _ _ ⟨by simpa using hit, hL⟩ fun h₂ tk₂ k₂ => ?_
    refine fin h₂ tk₂ ys own m' hl (fr_but F k₂ P.il.symm P.i0) (hc.at' fun o e => k₂ _ o (by simpa using P.ic.symm) e) (news_to N fun p hp o e => k₂ _ _ (by
      rcases List.mem_cons.mp hp with rfl | hp
      · simpa using P.id.symm
      · simpa using (offs p hp).1) e) hJ off
inductive Src3 (prog : Program) (w : World) (A : Around) (h₀ : Heap) (L : Addr) (m : Str → Option Value) (env : Env) (elt : PySem.Expr) (x1 x2 x3 : Str) (scope : Scope) (cl : List (Str × Addr)) (Q : Value → Shared → Prop) (s : Shared) : Value → Prop
  | mk (ax : Addr) (vs : List Value) (kn : Nat) (led : List (Addr × Obj)) (J : List Value → List (Addr × Obj) → Prop) : A.handled = none → Fr h₀ L s.heap m → News h₀ L s.heap led → (ax, listOf vs.toArray kn) ∈ led → vs.length ≤ 100 → J [] [] →
    (∀ i (hi : i < vs.length), Tri led (fun v1 v2 v3 => ∀ ys : List Value, ys.length = i → Turn3 prog w A h₀ L m env elt x1 x2 x3 scope cl s led J v1 v2 v3 ys) vs[i]) →
    (∀ D h tk ys own, ys.length = vs.length → Fr h₀ L h m → News h₀ L h ((D, lst ys) :: (own ++ led)) → (∀ p ∈ led, p.1 ≠ D) → J ys own → Q (.ref D) { s with heap := h, toks := tk }) → Src3 prog w A h₀ L m env elt x1 x2 x3 scope cl Q s (.ref ax)
theorem comp3 {elt iter : PySem.Expr} {x1 x2 x3 : Str} {p1 p2 p3 tp pos : Pos} {tk0} {scope : Scope} {cl : List (Str × Addr)} {Q : Value → Shared → Prop} (_F : Fr h₀ L s.heap m)
    (hclos : closureFor scope env = pure cl) (hcell : ∀ y ∈ scope.names, y.2 ≠ .cell) (hkind : scope.kind = .function)
    (hnames : ∀ y ∈ scope.names, y.2 = .local → scope.names.lookup y.1 = some .local) (hx1 : scope.names.lookup x1 = some .local) (hx2 : scope.names.lookup x2 = some .local) (hx3 : scope.names.lookup x3 = some .local) (h12 : x1 ≠ x2) (h13 : x1 ≠ x3) (h23 : x2 ≠ x3)
    (h : wpAny (model prog w) A (eval iter env) (fun v s => Src3 prog w A h₀ L m env elt x1 x2 x3 scope cl Q s v) E s) (hs : ∀ x, foldedSetIterable iter env x = pure x := by intro _; rfl) :
    wpAny (model prog w) A (eval (.ListComp elt [⟨.Tuple [.Name x1 p1, .Name x2 p2, .Name x3 p3] tk0 tp, iter, [], 0⟩] scope pos) env) Q E s := by
  rw [eval_ListComp]
  refine wpAny_comprehension_free (use := none) rfl hs hclos hkind hnames (wpAny_mono h (fun xv s₁ h₁ => ?_) fun _ _ e => e)
  obtain ⟨ax, vs, kn, led, J, hh, F, N, hax, hn, hJ, T, fin⟩ := h₁
  have hl : s₁.heap.IsList ax vs.toArray := ⟨_, (N _ hax).1, rfl, _, rfl⟩
  refine wpAny_pyIter_list hl ?_
  generalize eH : s₁.heap.push { cls := .type "list_iterator", data := .fields #[.ref ax, .int 0 0] } = H1
  have u1 : ∀ b o, s₁.heap.get? b = some o → H1.get? b = some o := fun b o e => by rw [← eH]; exact Heap.get?_push_of_some _ e
  have z1 : H1.objs.size = s₁.heap.objs.size + 1 := by rw [← eH, Heap.size_push]
  have it1 : H1.IsListIter s₁.heap.objs.size ax 0 := ⟨_, by rw [← eH]; exact Heap.get?_push_size _ rfl, rfl, rfl⟩
  refine wpAny_newObj_type (wpAny_newFunctionEnv hcell (by intro y hy; simp at hy) (fun h₃ n₃ s₃ => ?_) hkind)
  dsimp only at n₃ s₃ ⊢
  generalize eG : H1.push { cls := .type "list", dict := none, data := .seq ([] : List Value).toArray } = H2 at n₃ s₃ ⊢
  have u2 : ∀ b o, H1.get? b = some o → H2.get? b = some o := fun b o e => by rw [← eG]; exact Heap.get?_push_of_some _ e
  have z2 : H2.objs.size = s₁.heap.objs.size + 2 := by rw [← eG, Heap.size_push, z1]
  have d2 : H2.get? H1.objs.size = some (lst []) := by rw [← eG]; exact Heap.get?_push_size _ rfl
  have u3 : ∀ b o, H2.get? b = some o → h₃.get? b = some o := fun b o e => s₃.extBut b o (Nat.ne_of_lt (Heap.lt_size e)) (Heap.get?_push_of_some _ e)
  have u : ∀ b o, s₁.heap.get? b = some o → h₃.get? b = some o := fun b o e => u3 b o (u2 b o (u1 b o e))
  have no0 : ∀ b, s₁.heap.objs.size ≤ b → h₀.get? b = none := fun b hb => by
    cases e : h₀.get? b with
    | none => rfl
    | some o => exact absurd (Heap.lt_size (F.keep b o e)) (Nat.not_lt.mpr hb)
  have lL : L < s₁.heap.objs.size := F.ns.lt
  have P : Apart h₀ L s₁.heap.objs.size H2.objs.size H1.objs.size led :=
    { ic := Nat.ne_of_lt (by lia), id := Nat.ne_of_lt (by lia), cd := Nat.ne_of_gt (by lia), i0 := no0 _ (Nat.le_refl _), c0 := no0 _ (by lia), d0 := no0 _ (by lia), il := Nat.ne_of_gt lL, cl := Nat.ne_of_gt (Nat.lt_of_lt_of_le lL (by lia)), dl := Nat.ne_of_gt (Nat.lt_of_lt_of_le lL (by lia))
      off := fun p hp => by
        have q := Heap.lt_size (N p hp).1
        exact ⟨Nat.ne_of_lt q, Nat.ne_of_lt (Nat.lt_of_lt_of_le q (by lia)), Nat.ne_of_lt (Nat.lt_of_lt_of_le q (by lia))⟩ }
  have N₃ : News h₀ L h₃ ((H1.objs.size, lst []) :: led) := fun p hp => by
    rcases List.mem_cons.mp hp with rfl | hp
    · exact ⟨u3 _ _ d2, P.dl, P.d0⟩
    · exact ⟨u _ _ (N p hp).1, (N p hp).2⟩
  have it₃ : h₃.IsListIter s₁.heap.objs.size ax 0 := by obtain ⟨o, e, r⟩ := it1; exact ⟨o, u3 _ _ (u2 _ _ e), r⟩
  have W := Walks.list (prog := prog) (w := w) hh s₁.heap.objs.size ax (fun e => (P.off _ hax).1 e) vs.toArray
  have go := turn3 (s := s₁) (elt := elt) (iter := iter) (p1 := p1) (p2 := p2) (p3 := p3) (tp := tp) (pos := pos) (tk0 := tk0) (cl := cl) (env := env) hh hkind hx1 hx2 hx3 h12 h13 h23 P hax hn T
    (R := compPost (model prog w) A E none Q (.ref H1.objs.size) H2.objs.size) (fun h tk ys own m' hl F' c' N' J' off' => ⟨m', c', fun h'' s'' => fin _ h'' tk ys own hl (F'.change s'' P.cl P.c0) (fun p hp => by
      refine ⟨s''.extBut _ _ ?_ (N' p hp).1, (N' p hp).2⟩
      rcases List.mem_cons.mp hp with rfl | hp
      · exact P.cd.symm
      · exact (List.mem_append.mp hp).elim (fun q => (off' p q).2.1) fun q => (P.off p q).2.1) (fun p hp => (P.off p hp).2.2) J'⟩)
  exact codeAny_compStart_list (go h₃ _ _ it₃ (F.keeps u) n₃ N₃ hJ) (W.self 0 _ _ _ ⟨it₃, ⟨_, (N₃ _ (.tail _ hax)).1, rfl, _, rfl⟩⟩ (go h₃ _ _ it₃ (F.keeps u) n₃ N₃ hJ))
theorem newTuple_lt {M' : Model} {vs : List Value} {l : List (Addr × Obj)} {Q : Value → Shared → Prop} (F : Fr h₀ L s.heap m) (N : News h₀ L s.heap l) (hsz : vs.length ≤ 100)
    (h : ∀ a h', Fr h₀ L h' m → News h₀ L h' ((a, tupOf vs) :: l) → (∀ p ∈ l, p.1 < a) → Q (.ref a) { s with heap := h' }) : wpAny M' A (newTuple vs) Q E s :=
  newTuple_N F N (fun h' F' N' => h _ h' F' N' fun p hp => Heap.lt_size (N p hp).1) (Nat.le_trans hsz (by decide))
end
end
section
theorem kr_Bits : True := by
  k_with_none
  trivial
structure Bit where
  who : Nat
  place : Nat
  turned : Bool
deriving DecidableEq
noncomputable def Bit.d (b : Bit) : Dat := .tuple [.int b.who, .int b.place, .bool b.turned]
noncomputable def Bit.flip (b : Bit) : Bit := if b.who = 2 then ⟨2, 1 - b.place, false⟩ else ⟨b.who, b.place, !b.turned⟩
noncomputable def Bit.ok (b : Bit) : Prop := b.who ≤ 2 ∧ (b.who = 2 → b.place ≤ 1 ∧ b.turned = false)
theorem Bit.ok_flip {b : Bit} (h : b.ok) : b.flip.ok := by
  unfold flip; split
  · exact ⟨Nat.le_refl _, fun _ => ⟨Nat.sub_le _ _, rfl⟩⟩
  · rename_i q; exact ⟨h.1, fun e => absurd e q⟩
theorem bit_in {st : List (Addr × Obj)} {v : Value} {b : Bit} (h : DatIn st v b.d) : ∃ t n t1 t2, v = .ref t ∧ (t, ({ cls := .type "tuple", data := .seq #[.int (b.who : Nat) t1, .int (b.place : Nat) t2, .bool b.turned] n } : Obj)) ∈ st := by
  obtain ⟨a, v1, v2, v3, n, e, hm, h1, h2, h3⟩ := tup3 h
  obtain ⟨t1, e1⟩ := dinv h1
  obtain ⟨t2, e2⟩ := dinv h2
  have e3 := dinv h3
  exact ⟨a, n, t1, t2, e, e1 ▸ e2 ▸ e3 ▸ hm⟩
theorem list_in {st : List (Addr × Obj)} {ax : Addr} {ds : List Dat} (h : DatIn st (.ref ax) (.list ds)) : ∃ vs n, (ax, listOf vs.toArray n) ∈ st ∧ DatAll st vs ds := by
  cases h with
  | list hm ha => exact ⟨_, _, hm, ha⟩
theorem dat_at {st : List (Addr × Obj)} {vs : List Value} {bs : List Bit} (h : DatAll st vs (bs.map Bit.d)) {i : Nat} (hi : i < vs.length) : ∃ hb : i < bs.length, DatIn st vs[i] (bs[i]).d := by
  have hl := h.length
  rw [List.length_map] at hl
  have hb : i < bs.length := by lia
  refine ⟨hb, ?_⟩
  obtain ⟨v, e, d⟩ := h.get (k := i) (by rw [List.length_map]; exact hb)
  rw [List.getElem?_eq_getElem hi] at e
  cases e
  rw [List.getElem_map] at d
  exact d
theorem post3_one {h₀ h : Heap} {L I C D a : Addr} {m : Str → Option Value} {s : Shared} {oI oC : Obj} {ys vals : List Value} {own led : List (Addr × Obj)} {J : List Value → List (Addr × Obj) → Prop} {tk : Nat} (F : Fr h₀ L h m)
    (N : News h₀ L h ((a, tupOf vals) :: (I, oI) :: (C, oC) :: (D, LCg.lst ys) :: (own ++ led))) (l : ∀ p ∈ (I, oI) :: (C, oC) :: (D, LCg.lst ys) :: (own ++ led), p.1 < a) (hJ : J (ys ++ [.ref a]) ((a, tupOf vals) :: own)) :
    Post3 h₀ L m s I oI C oC D ys own led J (.ref a) { s with heap := h, toks := tk } :=
  .mk h tk ((a, tupOf vals) :: own) F (news_sub N fun p hp => by
    rcases List.mem_cons.mp hp with rfl | hp
    · exact .tail _ (.head _)
    rcases List.mem_cons.mp hp with rfl | hp
    · exact .tail _ (.tail _ (.head _))
    rcases List.mem_cons.mp hp with rfl | hp
    · exact .tail _ (.tail _ (.tail _ (.head _)))
    rcases List.mem_cons.mp hp with rfl | hp
    · exact .head _
    · exact .tail _ (.tail _ (.tail _ (.tail _ hp)))) hJ fun p hp => by
    rcases List.mem_cons.mp hp with rfl | hp
    · exact .inr ⟨Nat.ne_of_gt (l (I, oI) (.head _)), Nat.ne_of_gt (l (C, oC) (.tail _ (.head _))), Nat.ne_of_gt (l (D, LCg.lst ys) (.tail _ (.tail _ (.head _))))⟩
    · exact .inl hp
noncomputable def FlipJ (A : Ba) (X st : List (Addr × Obj)) (bs : List Bit) (ys : List Value) (own : List (Addr × Obj)) : Prop :=
  DatAll (own ++ st) ys ((bs.take ys.length).map fun b => b.flip.d) ∧ ∀ p ∈ own, p.1 ∉ A.addrs ∧ p.1 ∉ X.map (·.1)
theorem FlipJ.step {w : World} {A : Ba} {c : Bc} {X st : List (Addr × Obj)} {bs : List Bit} {ys : List Value} {own l : List (Addr × Obj)} {a : Addr} {o : Obj} {i : Nat} (h : FlipJ A X st bs ys own) (hy : ys.length = i) (hi : i < bs.length)
    (hd : ∀ l, DatIn ((a, o) :: l) (.ref a) (bs[i]).flip.d) (lt : ∀ p ∈ l, p.1 < a) (hl : ∀ p ∈ M w A c ++ (X ++ st), p ∈ l) : FlipJ A X st bs (ys ++ [.ref a]) ((a, o) :: own) := by
  refine ⟨?_, fun p hp => ?_⟩
  · rw [List.length_append, List.length_singleton, hy, List.take_add_one, List.getElem?_eq_getElem hi, List.map_append]
    have h1 := h.1
    rw [hy] at h1
    exact DatAll.append (DatAll.mono (fun _ h => .tail _ h) h1) (DatAll.one (hd _))
  · rcases List.mem_cons.mp hp with rfl | hp
    · exact ⟨not_addr (w := w) (c := c) fun p hp => lt p (hl p hp), not_X (w := w) (A := A) (c := c) fun p hp => lt p (hl p hp)⟩
    · exact h.2 p hp
theorem FlipJ.rep {w : World} {A : Ba} {c c₀ : Bc} {X st : List (Addr × Obj)} {σ : St} {bs : List Bit} {ys : List Value} {own : List (Addr × Obj)} {D : Addr} {o : Obj} (h : FlipJ A X st bs ys own) (R : Rep w A c₀ X st σ) (hD : ∀ p ∈ M w A c ++ (X ++ st), p.1 ≠ D) :
    Rep w A c₀ X ((D, o) :: (own ++ st)) σ := by
  have d1 : D ∉ A.addrs := fun q => by
    rw [← M_addrs w A c] at q
    obtain ⟨p, hp, e⟩ := List.mem_map.mp q
    exact hD p (List.mem_append_left _ hp) e
  have d2 : D ∉ X.map (·.1) := fun q => by
    obtain ⟨p, hp, e⟩ := List.mem_map.mp q
    exact hD p (List.mem_append_right _ (List.mem_append_left _ hp)) e
  refine R.mono (fun p hp => .tail _ (List.mem_append_right _ hp)) (fun p hp => ?_) fun p hp => ?_
  · rcases List.mem_cons.mp hp with rfl | hp
    · exact d1
    · exact (List.mem_append.mp hp).elim (fun q => (h.2 p q).1) fun q => R.off p (List.mem_append_right _ q)
  · rcases List.mem_cons.mp hp with rfl | hp
    · exact d2
    · exact (List.mem_append.mp hp).elim (fun q => (h.2 p q).2) fun q => R.sep p q
theorem FlipJ.dat {A : Ba} {X st : List (Addr × Obj)} {bs : List Bit} {ys : List Value} {own : List (Addr × Obj)} {D : Addr} (h : FlipJ A X st bs ys own) (hl : ys.length = bs.length) : DatIn ((D, LCg.lst ys) :: (own ++ st)) (.ref D) (.list (bs.map fun b => b.flip.d)) := by
  have h1 := h.1
  rw [hl, List.take_length] at h1
  exact .list (.head _) (DatAll.mono (fun _ h => .tail _ h) h1)
end
section
theorem kr_WFlip : True := by
  k_with_none
  k_with "b5" => ((case B => k_asm); (case F => k_asm); (case K => k_asm); (case N => k_asm); (case T => k_asm))
  k_with "hdu" => ((case hd => first | exact room1 hd (Nat.le_of_ble_eq_true rfl) | exact room1 hd (by lia) | ktr_room); (case hu => first | exact unit1 hu (Nat.le_of_ble_eq_true rfl) | exact unit1 hu (by lia) | ktr_units))
  k_with "iq" => ((first | (simp only [bne_self_eq_false, beq_self_eq_true, beq_iff_eq, bne_iff_ne, ne_eq, beq_eq_false_iff_ne, decide_eq_true_eq, decide_eq_false_iff_not, Bool.not_eq_true', Bool.not_eq_false', Bool.not_true, Bool.not_false, Option.isSome_some, Option.isSome_none, not_false_eq_true, Bool.false_eq_true, reduceCtorEq, eq_self]; done) | ((try simp only [bne_self_eq_false, beq_self_eq_true, beq_iff_eq, bne_iff_ne, ne_eq, beq_eq_false_iff_ne, decide_eq_true_eq, decide_eq_false_iff_not, Bool.not_eq_true', Bool.not_eq_false', Bool.not_true, Bool.not_false, Option.isSome_some, Option.isSome_none, not_false_eq_true, Bool.false_eq_true, reduceCtorEq, eq_self]); first | with_reducible assumption | (law_purse 20000 => omega))))
  k_with "ch" => ((repeat' (first | assumption | refine (show ∀ p ∈ _, p ∈ _ by assumption) _ ?_ | refine List.mem_cons_of_mem _ ?_)))
  k_with "uq" => ((intro p9 h9; repeat' (first | exact h9 | refine List.mem_cons_of_mem _ ?_ | refine (show ∀ p ∈ _, p ∈ _ by assumption) _ ?_)))
  k_with "en" => ((k_dflt (refine' enter ?B ?F ?K ?N ?T ?hk ?hd ?ho ?hc ?hb ?hl ?_ ?c2 ?c3 ?c4 ?c5; (case B => k_asm); (case F => k_asm); (case K => k_asm); (case N => k_asm); (case T => k_asm); (case hk => first | exact rfl | assumption); (case hd => exact hd); (case ho => k_is); (case hc => k_is); (case hb => exact BindsTo.of_eq rfl); (case hl => exact locs rfl); (case c2 => exact rfl); (case c3 => exact rfl); (case c4 => exact rfl); (case c5 => decide); k_whole); intro g' L' h' A' outer' E' F' N' B' X' T'; (try dsimp only); (try k_fold)))
  k_with "eval Attribute Name" => (k_here; (with_reducible show wpAny _ _ (eval (PySem.Expr.Attribute (PySem.Expr.Name _ _) _ _) _) _ _ _); k_dflt (refine' attr_b ?F ?K ?N ?v ?h1 ?h2 ?h3 ?h4 ?hv ?hh ?_ ?a ?b; (case F => k_asm); (case K => k_asm); (case N => k_asm); (case v => rfl); (case h1 => k_is); (case h2 => k_is); (case h3 => k_is); (case h4 => k_is); (case hv => k_get); (case hh => k_handed); (case a => rfl); (case b => rfl); k_whole); (try dsimp only))
  k_with "eval Call Attribute" => (k_here; k_dflt ((with_reducible show wpAny _ _ (eval (PySem.Expr.Call (PySem.Expr.Attribute (PySem.Expr.Name _ _) _ _) _ _ _) _) _ _ _); refine' call_b ?F ?K ?N ?v ?h1 ?h2 ?h3 ?hv ?_ ?a ?b; (case F => k_asm); (case K => k_asm); (case N => k_asm); (case v => rfl); (case h1 => k_is); (case h2 => k_is); (case h3 => k_is); (case hv => k_get); (case a => rfl); (case b => rfl); k_whole); (try dsimp only))
  k_with "RetK" => (k_dflt (first | (refine' retK_ ?F ?N ?_; (case F => k_asm); (case N => k_asm); k_whole) | (refine' retN_ ?F ?N ?_; (case F => k_asm); (case N => k_asm); k_whole)); intro F9q N9q; (try dsimp only); (try k_sweep))
  trivial
theorem kw1 : True := by
  k_with "ite" => (k_dflt (first | refine ite_pos (by k_extra "iq") ?_ | refine ite_neg (by k_extra "iq") ?_))
  k_with "newTuple" => (k_here; k_dflt (refine' newTuple_M ?k1 ?k2 ?k3 ?k4 ?_; (case k1 => k_asm); (case k2 => k_asm); (case k3 => assumption); (case k4 => exact Nat.le_of_ble_eq_true rfl); k_whole); intro a9q h9q F9q N9q R9q; (try k_sweep))
  k_with "eval ListComp" => (k_here; k_dflt (refine comp3 (by k_asm) (by rfl) (by decide) (by rfl) (by decide) (by rfl) (by rfl) (by rfl) (by decide) (by decide) (by decide) ?_))
  k_with "newTuple" => (k_here; k_dflt (refine' newTuple_lt ?k1 ?k2 ?k4 ?_; (case k1 => k_asm); (case k2 => k_asm); (case k4 => exact Nat.le_of_ble_eq_true rfl); k_whole); intro a9q h9q F9q N9q l9q)
  k_with "newTuple" => (k_here; (with_reducible show wpAny _ _ (newTuple [_, _]) (fun v s₁ => wpAny _ _ (unpackItems v _ none) _ _ s₁) _ _); k_dflt (refine' pair_store ?F ?N ?R ?hh ?_ ?a ?b ?c; (case F => k_asm); (case N => k_asm); (case R => assumption); (case hh => exact rfl); (case a => first | exact rfl | assumption); (case b => rfl); (case c => rfl); k_whole); intro a9q h9q tk9q F9q N9q R9q; (try dsimp only); (try k_sweep))
  trivial
section
variable {w : World} {mean : ExcName → Option Value} {mg mb : Str → Option Value} {dp un : Nat} {gd : Option (List Code)} {cn : Str} {cs : Scope} {a : Addr} {ccd : Value} {cl : List (Str × Addr)} {outer : List Env} {A₀ : Around} {base h₀ : Heap} {L : Addr} {m : Str → Option Value} {s : Shared}
    {Q E : Value → Shared → Prop} {A : Ba} {c : Bc} {k : Mk} {X st : List (Addr × Obj)} {σ : St} {n n1 n2 b : Nat} {S : Src} {o : Obj} {bs : List Bit} {ax : Addr} {x y τ : T} {i j : Int} {tk tk1 tk2 tk3 : Tok}
theorem flip_use (B : Below A₀ base outer h₀) (F : Fr h₀ L s.heap m) (K : (Mine.hd.heap_39 w.params).In h₀) (N : News h₀ L s.heap (M w A c ++ (X ++ st))) (TT : TopL mean mg mb h₀) (hk : cs.kind = .function)
    (hd : dp + 4 < recursionLimit) (hu : un + 16 * (4) < cLine)
    (R : Rep w A c X st σ) (hb : DatIn st (.ref ax) (.list (bs.map Bit.d))) (hl : bs.length ≤ 100) (ho : ∀ b ∈ bs, b.ok)
    (ret : ∀ D st' h' tk', Fr h₀ L h' m → News h₀ L h' (M w A c ++ (X ++ st')) → (∀ p ∈ st, p ∈ st') → Rep w A c X st' σ → DatIn st' (.ref D) (.list (bs.map fun b => b.flip.d)) → Q (.ref D) { s with heap := h', toks := tk' }) :
    wpAny (model pw w) (ktrTop dp un gd cn cs L a ccd cl outer) (call (.ref 1060) [.ref ax]) Q E s := by
  obtain ⟨vs, kn, hm, hall⟩ := list_in hb
  have hlen : vs.length = bs.length := by have := hall.length; rwa [List.length_map] at this
  (k_dflt (refine' enter ?B ?F ?K ?N ?T ?hk ?hd ?ho ?hc ?hb ?hl ?_ ?c2 ?c3 ?c4 ?c5; k_extra "b5"; (case hk => first | exact rfl | assumption); (case hd => exact hd); (case ho => k_is); (case hc => k_is); (case hb => exact BindsTo.of_eq rfl); (case hl => exact locs rfl); (case c2 => exact rfl); (case c3 => exact rfl); (case c4 => exact rfl); (case c5 => decide); k_whole); intro g' L' h' A' outer' E' F' N' B' X' T'; (try dsimp only); (try k_fold))
  k_steps
  refine .mk ax vs kn (M w A c ++ (X ++ st)) (FlipJ A X st bs) rfl (by k_asm) (by k_asm) (mem_led hm) (by lia) ⟨.nil, fun _ h => nomatch h⟩ (fun i hi => ?_) ?_
  · obtain ⟨hb, d⟩ := dat_at hall hi
    obtain ⟨t, n9, t1, t2, ev, hmt⟩ := bit_in d
    refine .mk t _ _ _ n9 ev (mem_led hmt) fun ys hys => ?_
    intro own I oI C oC D m₂ h9 tk9 E' hJ hoC e1 e2 e3 F9 N9
    have hl9 : ∀ p ∈ M w A c ++ (X ++ st), p ∈ (I, oI) :: (C, oC) :: (D, LCg.lst ys) :: (own ++ (M w A c ++ (X ++ st))) := fun p hp => .tail _ (.tail _ (.tail _ (List.mem_append_right _ hp)))
    by_cases hw : bs[i].who = 2
    · have hp := ((ho _ (List.getElem_mem hb)).2 hw).1
      have ef : bs[i].flip = ⟨2, 1 - bs[i].place, false⟩ := by unfold Bit.flip; rw [if_pos hw]
      have hw' : ((bs[i].who : Nat) : Int) = 2 := by lia
      have hs : (1 : Int) - (bs[i].place : Nat) = ((1 - bs[i].place : Nat) : Int) := by lia
      rw [hw'] at e1
      k_steps
      rw [hs] at *
      exact post3_one (by assumption) (by assumption) (by assumption) (FlipJ.step hJ hys hb (fun l => by rw [ef]; exact .tuple (.head _) (.cons (.int _ _) (.cons (.int _ _) (.cons (.bool _) .nil)))) (by assumption) hl9)
    · have ef : bs[i].flip = ⟨bs[i].who, bs[i].place, !bs[i].turned⟩ := by unfold Bit.flip; rw [if_neg hw]
      have hw' : ((bs[i].who : Nat) : Int) ≠ 2 := by lia
      k_steps
      exact post3_one (by assumption) (by assumption) (by assumption) (FlipJ.step hJ hys hb (fun l => by rw [ef]; exact .tuple (.head _) (.cons (.int _ _) (.cons (.int _ _) (.cons (.bool _) .nil)))) (by assumption) hl9)
  · intro D h9 tk9 ys own hys F9 N9 hD hJ
    have R9 := hJ.rep (c := c) (D := D) (o := LCg.lst ys) R hD
    have N8 := news_sub (l' := M w A c ++ (X ++ ((D, LCg.lst ys) :: (own ++ st)))) N9 (fun p hp => by
      rcases List.mem_append.mp hp with hp | hp
      · exact .tail _ (List.mem_append_right _ (List.mem_append_left _ hp))
      · rcases List.mem_append.mp hp with hp | hp
        · exact .tail _ (List.mem_append_right _ (List.mem_append_right _ (List.mem_append_left _ hp)))
        · rcases List.mem_cons.mp hp with rfl | hp
          · exact .head _
          · rcases List.mem_append.mp hp with hp | hp
            · exact .tail _ (List.mem_append_left _ hp)
            · exact .tail _ (List.mem_append_right _ (List.mem_append_right _ (List.mem_append_right _ hp))))
    clear N9
    k_steps
    exact ret _ _ _ _ (by assumption) (by assumption) (fun p hp => .tail _ (List.mem_append_right _ hp)) R9 (hJ.dat (hys.trans hlen))

end
end
section
section
variable {w : World} {mean : ExcName → Option Value} {mg mb : Str → Option Value} {dp un : Nat} {gd : Option (List Code)} {cn : Str} {cs : Scope} {a : Addr} {ccd : Value} {cl : List (Str × Addr)} {outer : List Env} {A₀ : Around} {base h₀ : Heap} {L : Addr} {m : Str → Option Value} 
     {A : Ba} {c : Bc} {k : Mk} {X st : List (Addr × Obj)} {σ : St} {n n1 n2 b : Nat} {S : Src} {o : Obj} {bs : List Bit} {ax : Addr} {x y τ : T} {i j : Int} {tk tk1 tk2 tk3 : Tok}
variable {ko : Option Mk}
variable {So : Sc} {Y : Cx} {tk0 : Nat} {κ : KO Value}
theorem flip_use_v (s : Std ⟨So, Y, w, A, ko, true⟩ 4) (R : Rep w A c X st σ) (hb : DatIn st (.ref ax) (.list (bs.map Bit.d))) (hl : bs.length ≤ 100) (ho : ∀ b ∈ bs, b.ok)
    (ret : ∀ D st' tk', Gr st st' → Rep w A c X st' σ → DatIn st' (.ref D) (.list (bs.map fun b => b.flip.d)) → κ (.ref D) ⟨c, X⟩ st' tk') :
    Stp ⟨So, Y, w, A, ko, true⟩ ⟨c, X⟩ st tk0 (call (.ref 1060) [.ref ax]) κ :=
  ⟨fun h₁ m q F N l => by obtain ⟨mean, mg, mb, T⟩ := s.T; exact flip_use s.B F s.K N.1 T s.hk s.hd s.hu R hb hl ho fun D st' h' tk' F' N' y0 y1 y2 => l _ h' ⟨c, X⟩ _ _ F' ⟨N', N.2⟩ (ret D st' tk' y0 y1 y2)⟩
end
end
section
theorem kr_Read : True := by
  k_with_none
  trivial
noncomputable def T.readT : T → Nat → Bit
  | .leaf k _, i => ⟨k, i, false⟩
  | .num v _, i => ⟨2, v / 2 ^ i % 2, false⟩
  | .bnot x, i => (readT x i).flip
  | .ext _ l x, i => readT x (i + l)
  | .cat x y, i => if i < y.wd then readT y i else readT x (i - y.wd)
  | .zx _ x, i => if i < x.wd then readT x i else ⟨2, 0, false⟩
  | .sx _ x, i => readT x (min i (x.wd - 1))
  | .nil, _ => ⟨2, 0, false⟩
  | .tt, _ => ⟨2, 0, false⟩
  | .ff, _ => ⟨2, 0, false⟩
  | .bit _ _, _ => ⟨2, 0, false⟩
  | .neg _, _ => ⟨2, 0, false⟩
noncomputable def T.lv (w0 w1 : Nat) : T → Prop
  | .leaf k w => (k = 0 ∧ w = w0) ∨ (k = 1 ∧ w = w1)
  | .num .. => True
  | .bnot x | .ext _ _ x | .zx _ x | .sx _ x => x.lv w0 w1
  | .cat x y => x.lv w0 w1 ∧ y.lv w0 w1
  | _ => False
theorem T.ok_readT {w0 w1 : Nat} : ∀ {x : T} {i : Nat}, x.lv w0 w1 → (x.readT i).ok
  | .leaf k _, _, h => by rcases h with h | h <;> (simp only [readT, Bit.ok]; lia)
  | .num v _, i, _ => ⟨Nat.le_refl _, fun _ => ⟨by have := Nat.mod_lt (v / 2 ^ i) (show 0 < 2 by decide); simp only [readT]; lia, rfl⟩⟩
  | .bnot x, _, h => Bit.ok_flip (ok_readT (x := x) h)
  | .ext _ _ x, _, h => ok_readT (x := x) h
  | .cat x y, _, h => by simp only [readT]; split; exact ok_readT h.2; exact ok_readT h.1
  | .zx _ x, _, h => by simp only [readT]; split; exact ok_readT (x := x) h; exact ⟨Nat.le_refl _, fun _ => ⟨Nat.zero_le _, rfl⟩⟩
  | .sx _ x, _, h => ok_readT (x := x) h
structure Lv where
  a : Addr
  n0 : Nat
  n1 : Nat
  w0 : Nat
  w1 : Nat
noncomputable def LvIs (V : Lv) (σ : St) (st : List (Addr × Obj)) : Prop :=
  At σ V.n0 (.leaf 0 V.w0) ∧ At σ V.n1 (.leaf 1 V.w1) ∧ ∃ t0 t1 kn, (V.a, listOf [Value.int (V.n0 : Nat) t0, .int (V.n1 : Nat) t1].toArray kn) ∈ st
theorem LvIs.up {V σ st st'} (h : LvIs V σ st) (hs : ∀ p ∈ st, p ∈ st') : LvIs V σ st' := ⟨h.1, h.2.1, let ⟨a, b, c, d⟩ := h.2.2; ⟨a, b, c, hs _ d⟩⟩
section
variable {Ar : Around} {E : Value → Shared → Prop} {s : Shared} {h₀ : Heap} {L : Addr} {m : Str → Option Value} {w : World} {A : Ba} {c : Bc} {X st st' : List (Addr × Obj)} {σ : St} {V : Lv} {n : Nat} {tk : Tok}
theorem lv_in {Q : Value → Shared → Prop} (N : News h₀ L s.heap (M w A c ++ (X ++ st))) (hV : LvIs V σ st') (hs : ∀ p ∈ st', p ∈ st) (h : Q (.bool (decide (n = V.n0 ∨ n = V.n1))) s) : wpAny (model pw w) Ar (compareOp .In (.int n tk) (.ref V.a)) Q E s := by
  obtain ⟨t0, t1, kn, hm⟩ := hV.2.2
  refine in_list_ints (ns := [(V.n0 : Int), V.n1]) (N.isList (List.mem_append_right _ (List.mem_append_right _ (hs _ hm)))) (.cons _ _ (.cons _ _ .nil)) ?_
  have e : ([(V.n0 : Int), (V.n1 : Int)].any (· == (n : Int))) = decide (n = V.n0 ∨ n = V.n1) := by
    simp only [List.any_cons, List.any_nil, Bool.or_false]
    by_cases h0 : n = V.n0
    · subst h0; simp
    · by_cases h1 : n = V.n1
      · subst h1; simp
      · rw [decide_eq_false (fun q => q.elim h0 h1), beq_eq_false_iff_ne.mpr (by lia), beq_eq_false_iff_ne.mpr (by lia)]; rfl
  rw [e]; exact h
theorem at_inj {σ : St} (o : σ.Ok) {n n' : Nat} {τ : T} (h : At σ n τ) (h' : At σ n' τ) : n = n' := by
  obtain ⟨l1, e1⟩ := List.getElem?_eq_some_iff.mp h
  obtain ⟨l2, e2⟩ := List.getElem?_eq_some_iff.mp h'
  exact (List.getElem_inj o.nd).mp (e1.trans e2.symm)
theorem at_ne {σ : St} {n n' : Nat} {τ τ' : T} (h : At σ n τ) (h' : At σ n' τ') (e : τ ≠ τ') : n ≠ n' := fun q => e (by subst q; unfold At at h h'; rw [h] at h'; exact Option.some.inj h')
theorem lv_index {k : Nat} {w' : Nat} {Q : Value → Shared → Prop} (N : News h₀ L s.heap (M w A c ++ (X ++ st))) (o : σ.Ok) (hV : LvIs V σ st') (hs : ∀ p ∈ st', p ∈ st) (ha : At σ n (.leaf k w')) (hk : T.lv V.w0 V.w1 (.leaf k w')) (hn : n < 2 ^ 20) (h0 : V.n0 < 2 ^ 20) (h1 : V.n1 < 2 ^ 20) (h : ∀ t tk', Q (.int (k : Nat) t) { s with toks := tk' }) :
    wpAny (model pw w) Ar (call (.builtin "list.index") [.ref V.a, .int n tk]) Q E s := by
  obtain ⟨t0, t1, kn, hm⟩ := hV.2.2
  have hne : V.n0 ≠ V.n1 := at_ne hV.1 hV.2.1 (by intro q; cases q)
  have hc : (n = V.n0 ∧ k = 0) ∨ (n = V.n1 ∧ k = 1) := by
    rcases hk with ⟨rfl, rfl⟩ | ⟨rfl, rfl⟩
    · exact .inl ⟨at_inj o ha hV.1, rfl⟩
    · exact .inr ⟨at_inj o ha hV.2.1, rfl⟩
  refine index_list_ints (ns := [(V.n0 : Int), V.n1]) (N.isList (List.mem_append_right _ (List.mem_append_right _ (hs _ hm)))) (.cons _ _ (.cons _ _ .nil)) ?_ ?_ ?_
  · have wt : ∀ x : Nat, x < 2 ^ 20 → PyData.weight (.int (x : Int)) ≤ 21 := fun x hx => by
      simp only [PyData.weight]
      split
      · lia
      · rename_i q
        have q0 : x ≠ 0 := fun e => q (by subst e; rfl)
        have : x.log2 < 20 := (Nat.log2_lt q0).mpr hx
        rw [Int.natAbs_natCast]; lia
    show (PyData.canLay0 _ && decide (_ ≤ 64) && decide (_ ≤ 2 ^ 20)) = true
    rw [Bool.and_eq_true, Bool.and_eq_true]
    refine ⟨⟨rfl, rfl⟩, decide_eq_true ?_⟩
    show PyData.weight (.int (V.n0 : Int)) + 1 + (PyData.weight (.int (V.n1 : Int)) + 1 + 0) ≤ 2 ^ 20
    have := wt _ h0; have := wt _ h1; lia
  · rcases hc with ⟨rfl, _⟩ | ⟨rfl, _⟩ <;> simp
  · have e : [(V.n0 : Int), (V.n1 : Int)].idxOf (n : Int) = k := by
      rcases hc with ⟨rfl, rfl⟩ | ⟨rfl, rfl⟩
      · simp [List.idxOf_cons]
      · have : ((V.n0 : Int) == (V.n1 : Int)) = false := beq_eq_false_iff_ne.mpr (by lia)
        simp [List.idxOf_cons, this]
    rw [e]; exact h _ _
theorem lv_item {value slice : PySem.Expr} {k : Nat} {u : Tok} {Q : Value → Shared → Prop} (N : News h₀ L s.heap (M w A c ++ (X ++ st))) (hV : LvIs V σ st') (hs : ∀ p ∈ st', p ∈ st) (hk : k < 2) (h : ∀ t, Q (.int ((if k = 0 then V.n0 else V.n1 : Nat) : Int) t) s)
    (hq : subscripted slice false (.ref V.a) (.int (k : Nat) u) = operate [.ref V.a, .int (k : Nat) u] (getItem (.ref V.a) (.int (k : Nat) u)) := by with_unfolding_all rfl) :
    wpAny (model pw w) Ar (subscriptTail value slice (.ref V.a) (.int (k : Nat) u)) Q E s := by
  obtain ⟨t0, t1, kn, hm⟩ := hV.2.2
  have hl := N.isList (List.mem_append_right (M w A c) (List.mem_append_right X (hs _ hm)))
  by_cases h0 : k = 0
  · subst h0
    exact item_litK hl (by decide) (by decide) rfl (h _) hq
  · obtain rfl : k = 1 := by lia
    exact item_litK hl (by decide) (by decide) rfl (h _) hq
end
end
section
theorem read_val (v i : Nat) : (((v : Int).fdiv ((2 : Int) ^ ((i : Int)).toNat)).fmod 2) = ((v / 2 ^ i % 2 : Nat) : Int) := by
  rw [Int.toNat_natCast, Int.fdiv_eq_ediv_of_nonneg _ (Int.pow_nonneg (by decide)), Int.fmod_eq_emod_of_nonneg _ (by decide)]
  norm_cast
section
variable {S : Sc} {Y : Cx} {w : World} {A : Ba} {c : Bc} {X st st' : Led} {σ : St} {V : Lv} {tk0 n k9 w' : Nat} {k : Option Mk} {tk u : Tok} {p : Prop} {v : Value} {d : Dat} {ds : List Dat} {κ : KO Value}
theorem lv_in_v (hV : LvIs V σ st') (hs : Gr st' st) (ret : κ (.bool (decide (n = V.n0 ∨ n = V.n1))) ⟨c, X⟩ st tk0) : Stp ⟨S, Y, w, A, k, true⟩ ⟨c, X⟩ st tk0 (compareOp .In (.int n tk) (.ref V.a)) κ := ⟨fun h₁ m q F N l => lv_in N.1 hV hs (l _ h₁ _ _ _ F N ret)⟩
theorem lm_v (hV : LvIs V σ st') (hs : Gr st' st) (h : p) : LM ⟨S, Y, w, A, k, true⟩ (.ref V.a) ⟨c, X⟩ st p := by
  obtain ⟨t0, t1, kn, hm⟩ := hV.2.2
  exact ⟨⟨_, _, _, rfl, List.mem_append_right _ (List.mem_append_right _ (hs _ hm))⟩, h⟩
theorem lv_index_v (o : σ.Ok) (hV : LvIs V σ st') (hs : Gr st' st) (ha : At σ n (.leaf k9 w')) (hk : T.lv V.w0 V.w1 (.leaf k9 w')) (hn : n < 2 ^ 20) (h0 : V.n0 < 2 ^ 20) (h1 : V.n1 < 2 ^ 20) (ret : ∀ t tk', κ (.int (k9 : Nat) t) ⟨c, X⟩ st tk') :
    Stp ⟨S, Y, w, A, k, true⟩ ⟨c, X⟩ st tk0 (call (.builtin "list.index") [.ref V.a, .int n tk]) κ := ⟨fun h₁ m q F N l => lv_index N.1 o hV hs ha hk hn h0 h1 fun t tk' => l _ h₁ _ _ _ F N (ret t tk')⟩
theorem sub_lst0_v (hd : DatIn st v (.list (d :: ds))) (h : ∀ v', DatIn st v' d → κ v' ⟨c, X⟩ st tk0) : Sub ⟨S, Y, w, A, k, true⟩ v (.int 0 u) ⟨c, X⟩ st tk0 κ :=
  ⟨fun ve ie ho => ⟨fun h₁ m q F N l => by
    cases hd with
    | list hm ha =>
      cases ha with
      | cons h1 ha => exact item_litK (N.1.isList (List.mem_append_right _ (List.mem_append_right _ hm))) (by decide) (by decide) rfl (l _ h₁ _ _ _ F N (h _ h1)) (ho _ _ _)⟩⟩
end
theorem pow_ne (i : Nat) : (2 : Int) ^ ((i : Int)).toNat ≠ 0 := Int.pow_ne_zero (by decide)
theorem pow_lt30 (i : Nat) (h : i < 30) : ((2 : Int) ^ ((i : Int)).toNat).natAbs < 1073741824 := by
  rw [Int.toNat_natCast, Int.natAbs_pow]
  exact Nat.pow_lt_pow_right (by decide) h
theorem kr_vlrd : True := by
  k_with_none
  k_with "cn" => first
    | (with_reducible refine Cnd.neg (by first | assumption | exact rfl) ?_) | (with_reducible refine Cnd.pos (by first | assumption | exact rfl) ?_)
    | (refine Cnd.neg (by kernel_rfl!) ?_) | (refine Cnd.pos (by kernel_rfl!) ?_)
    | (refine Cnd.pos (by (first | (simp only [bne_self_eq_false, beq_self_eq_true, beq_iff_eq, bne_iff_ne, ne_eq, beq_eq_false_iff_ne, decide_eq_true_eq, decide_eq_false_iff_not, Bool.not_eq_true', Bool.not_eq_false', Bool.not_true, Bool.not_false, Option.isSome_some, Option.isSome_none, not_false_eq_true, Bool.false_eq_true, reduceCtorEq, eq_self]; done) | ((try simp only [bne_self_eq_false, beq_self_eq_true, beq_iff_eq, bne_iff_ne, ne_eq, beq_eq_false_iff_ne, decide_eq_true_eq, decide_eq_false_iff_not, Bool.not_eq_true', Bool.not_eq_false', Bool.not_true, Bool.not_false, Option.isSome_some, Option.isSome_none, not_false_eq_true, Bool.false_eq_true, reduceCtorEq, eq_self]); first | with_reducible assumption | (law_purse 20000 => omega)))) ?_) | (refine Cnd.neg (by (first | (simp only [bne_self_eq_false, beq_self_eq_true, beq_iff_eq, bne_iff_ne, ne_eq, beq_eq_false_iff_ne, decide_eq_true_eq, decide_eq_false_iff_not, Bool.not_eq_true', Bool.not_eq_false', Bool.not_true, Bool.not_false, Option.isSome_some, Option.isSome_none, not_false_eq_true, Bool.false_eq_true, reduceCtorEq, eq_self]; done) | ((try simp only [bne_self_eq_false, beq_self_eq_true, beq_iff_eq, bne_iff_ne, ne_eq, beq_eq_false_iff_ne, decide_eq_true_eq, decide_eq_false_iff_not, Bool.not_eq_true', Bool.not_eq_false', Bool.not_true, Bool.not_false, Option.isSome_some, Option.isSome_none, not_false_eq_true, Bool.false_eq_true, reduceCtorEq, eq_self]); first | with_reducible assumption | (law_purse 20000 => omega)))) ?_)
  k_with "cj" => first
    | (with_reducible refine Conj.no (by first | assumption | exact rfl) ?_) | (with_reducible refine Conj.yes (by first | assumption | exact rfl) ?_)
    | (refine Conj.no (by kernel_rfl!) ?_) | (refine Conj.yes (by kernel_rfl!) ?_)
    | (refine Conj.yes (by (first | (simp only [bne_self_eq_false, beq_self_eq_true, beq_iff_eq, bne_iff_ne, ne_eq, beq_eq_false_iff_ne, decide_eq_true_eq, decide_eq_false_iff_not, Bool.not_eq_true', Bool.not_eq_false', Bool.not_true, Bool.not_false, Option.isSome_some, Option.isSome_none, not_false_eq_true, Bool.false_eq_true, reduceCtorEq, eq_self]; done) | ((try simp only [bne_self_eq_false, beq_self_eq_true, beq_iff_eq, bne_iff_ne, ne_eq, beq_eq_false_iff_ne, decide_eq_true_eq, decide_eq_false_iff_not, Bool.not_eq_true', Bool.not_eq_false', Bool.not_true, Bool.not_false, Option.isSome_some, Option.isSome_none, not_false_eq_true, Bool.false_eq_true, reduceCtorEq, eq_self]); first | with_reducible assumption | (law_purse 20000 => omega)))) ?_) | (refine Conj.no (by (first | (simp only [bne_self_eq_false, beq_self_eq_true, beq_iff_eq, bne_iff_ne, ne_eq, beq_eq_false_iff_ne, decide_eq_true_eq, decide_eq_false_iff_not, Bool.not_eq_true', Bool.not_eq_false', Bool.not_true, Bool.not_false, Option.isSome_some, Option.isSome_none, not_false_eq_true, Bool.false_eq_true, reduceCtorEq, eq_self]; done) | ((try simp only [bne_self_eq_false, beq_self_eq_true, beq_iff_eq, bne_iff_ne, ne_eq, beq_eq_false_iff_ne, decide_eq_true_eq, decide_eq_false_iff_not, Bool.not_eq_true', Bool.not_eq_false', Bool.not_true, Bool.not_false, Option.isSome_some, Option.isSome_none, not_false_eq_true, Bool.false_eq_true, reduceCtorEq, eq_self]); first | with_reducible assumption | (law_purse 20000 => omega)))) ?_)
  k_with "up" => (intro p9 h9; repeat' (first | exact h9 | refine List.mem_cons_of_mem _ ?_ | refine (show ∀ p ∈ _, p ∈ _ by assumption) _ ?_))
  k_with "vm1" => first
    | (refine (?_ : Stp _ _ _ _ _ _); k_extra "st")
    | (refine (?_ : Cnd _ _ _); k_extra "cn")
    | (refine (?_ : Conj _ _ _ _ _ _ _ _); k_extra "cj")
    | (refine (?_ : Sub _ _ _ _ _ _ _); k_extra "sb")
    | (refine (?_ : Tp _ _ _ _ _ _); refine' tp_v ?R ?_; (case R => assumption); intro b9 R9)
    | k_extra "vm9" 
  k_with "sb" => (refine' sub_v ?hd ?hx ?_; (case hd => first | assumption | exact datUp (by assumption) (by k_extra "up")); (case hx => exact rfl); intro t9)
  k_with "vm" => (repeat' (k_extra "vm1"))
  k_with "st" => ((with_reducible refine' op_use_v ?s ?R ?ha ?_); (case s => exact Std.le (by assumption) (by lia)); (case R => assumption); (case ha => first | assumption | exact at_ix (by assumption) | exact Ext.at (by assumption) (by first | assumption | exact at_ix (by assumption)));  intro t9 tk9)
  k_with "st" => ((with_reducible refine' args_use_v ?s ?R ?ha ?_); (case s => exact Std.le (by assumption) (by lia)); (case R => assumption); (case ha => first | assumption | exact at_ix (by assumption) | exact Ext.at (by assumption) (by first | assumption | exact at_ix (by assumption)));  intro v9 D9 tk9)
  k_with "st" => ((with_reducible refine' width_use_v ?s ?R ?ha ?_); (case s => exact Std.le (by assumption) (by lia)); (case R => assumption); (case ha => first | assumption | exact at_ix (by assumption) | exact Ext.at (by assumption) (by first | assumption | exact at_ix (by assumption)));  intro t9 tk9)
  k_with "st" => ((with_reducible refine' sort_use_v ?s ?R ?ha ?_); (case s => exact Std.le (by assumption) (by lia)); (case R => assumption); (case ha => first | assumption | exact at_ix (by assumption) | exact Ext.at (by assumption) (by first | assumption | exact at_ix (by assumption)));  intro t9 tk9)
  k_with "st" => ((with_reducible refine' data_pair_v ?s ?R ?ha ?hi ?_); (case s => exact Std.le (by assumption) (by lia)); (case R => assumption); (case ha => first | assumption | exact at_ix (by assumption) | exact Ext.at (by assumption) (by first | assumption | exact at_ix (by assumption))); (case hi => exact rfl);  intro v9 D9 tk9)
  k_with "st" => ((with_reducible refine' data_int_v ?s ?R ?ha ?hi ?_); (case s => exact Std.le (by assumption) (by lia)); (case R => assumption); (case ha => first | assumption | exact at_ix (by assumption) | exact Ext.at (by assumption) (by first | assumption | exact at_ix (by assumption))); (case hi => exact rfl);  intro t9 tk9)
  k_with "st" => ((with_reducible refine' bool_term_use_v ?s  ?_); (case s => exact Std.le (by assumption) (by lia));  intro t9 tk9)
  k_with "st" => ((with_reducible refine' lv_in_v ?za ?zb ?_); (case za => assumption); (case zb => first | assumption | exact fun p h => h | k_extra "up"))
  k_with "st" => ((with_reducible refine' lv_index_v ?o ?za ?zb ?ha ?hk ?hn ?h0 ?h1 ?_); (case o => assumption); (case za => assumption); (case zb => first | assumption | exact fun p h => h | k_extra "up"); (case ha => assumption); (case hk => assumption); (case hn => assumption); (case h0 => assumption); (case h1 => assumption); intro t9 tk9)
  k_with "vm9" => (refine (?_ : LM _ _ _ _ _); refine' lm_v ?za ?zb ?_; (case za => assumption); (case zb => first | assumption | exact fun p h => h | k_extra "up"))
  k_with "st" => ((with_reducible refine' pow_v ?za ?zb ?zc ?_); (case za => first | decide | lia); (case zb => first | decide | lia); (case zc => first | decide | lia); intro t9 tk9)
  k_with "st" => ((with_reducible refine' mod_v ?za ?_); (case za => first | decide | lia); intro t9 tk9)
  k_with "st" => ((with_reducible refine' fdiv_v ?za ?zb ?_); (case za => exact pow_ne _); (case zb => exact PyProof.noPylong_small (pow_lt30 _ (by lia))); intro t9 tk9)
  k_with "sb" => (refine' sub_lst0_v ?hd ?_; (case hd => first | assumption | exact datUp (by assumption) (by k_extra "up")); intro v9 D9)
  k_with "st" => ((with_reducible refine min_v ?_); intro t9 tk9)
  k_with "vm9" => (refine (?_ : Tl _ _ _ _ _ _); refine' tl_v ?R ?_; (case R => assumption); intro b9 R9)
  trivial
theorem rd_D {a d : Nat} (h : a ≤ d) : 12 + 2 * a ≤ 11 + 2 * (d + 1) := by omega
theorem rdc {st : Led} {v : Value} {b b' : Bit} (e : b = b') (h : DatIn st v b'.d) : DatIn st v b.d := e ▸ h
theorem rd_no {V : Lv} {σ : St} {st : Led} {n : Nat} {x : T} (ha : At σ n x) (hV : LvIs V σ st) (h : x.tag ≠ 3) : decide (n = V.n0 ∨ n = V.n1) = false := decide_eq_false fun q => q.elim (at_ne ha hV.1 fun e => h (e ▸ rfl)) (at_ne ha hV.2.1 fun e => h (e ▸ rfl))
noncomputable def ReadV (w : World) (V : Lv) (x : T) : Prop := ∀ {S : Sc} {Y : Cx} {A : Ba} {c : Bc} {k : Option Mk} {X st : Led} {tk0 n : Nat} {σ : St} {tk tk1 : Tok} {j : Int} {κ : KO Value} (i : Nat) (s : Std ⟨S, Y, w, A, k, true⟩ (12 + 2 * x.dep)) (R : Rep w A c X st σ) (ha : At σ n x) (hV : LvIs V σ st) (ho : x.ok) (hv : x.lv V.w0 V.w1) (hj : j = (i : Nat)) (hi : i < x.wd)
    (ret : ∀ v st' tk', Gr st st' → Rep w A c X st' σ → DatIn st' v (x.readT i).d → κ v ⟨c, X⟩ st' tk'),
    Stop (Stp ⟨S, Y, w, A, k, true⟩ ⟨c, X⟩ st tk0 (call (.ref 1067) [.ref A.b, .ref V.a, .int n tk, .int j tk1]) κ)
theorem read_v {w : World} {V : Lv} {x : T} (IH : ∀ y ∈ x.kids, ReadV w V y) : ReadV w V x := by
  intro S Y A c k X st tk0 n σ tk tk1 j κ i s R ha hV ho hv hj hi ret
  subst hj
  unfold Stop
  have hok := R.ok
  have hn := R.lt ha
  have hn0 := R.lt hV.1
  have hn1 := R.lt hV.2.1
  have hxw := T.ok_wd ho
  refine def_law_read.enter s (D' := 11 + 2 * x.dep) (by lia) rfl ⟨rfl, trivial⟩ rfl (by decide) fun Y2 s2 fin => ?_
  k_extra "vm"
  cases x with
  | leaf v n4 =>
    have hx0 : decide (n = V.n0 ∨ n = V.n1) = true := decide_eq_true (by rcases hv with ⟨rfl, rfl⟩ | ⟨rfl, rfl⟩; exact .inl (at_inj hok ha hV.1); exact .inr (at_inj hok ha hV.2.1))
    k_extra "vm"
    exact fin _ _ _ _ (ret _ _ _ (by k_extra "up") (by assumption) (.tuple (.head _) (.cons (.int _ _) (.cons (.int _ _) (.cons (.bool _) .nil)))))
  | num v n4 =>
    have hx0 : decide (n = V.n0 ∨ n = V.n1) = false := rd_no ha hV (Nat.ne_of_beq_eq_false rfl)
    obtain ⟨o1, o2, o3⟩ := ho
    have hwx : (T.num v n4).wd = n4 := rfl
    k_extra "vm"
    exact fin _ _ _ _ (ret _ _ _ (by k_extra "up") (by assumption) (.tuple (.head _) (.cons (.int _ _) (.cons (by rw [read_val]; exact .int _ _) (.cons (.bool _) .nil)))))
  | bnot x =>
    have hx : x ∈ σ.ts := R.ok.cl _ ha.mem x (.head _)
    have hx0 : decide (n = V.n0 ∨ n = V.n1) = false := rd_no ha hV (Nat.ne_of_beq_eq_false rfl)
    k_extra "vm"
    refine IH x (.head _) i (s2.le (rd_D (Nat.le_refl _))) (by assumption) (at_ix hx) (hV.up (by k_extra "up")) ho.1 hv rfl hi ?_
    intro v8 st8 tk8 hs8 R8 D8
    k_extra "vm"
    refine flip_use_v (bs := [x.readT i]) (s2.le (by lia)) (by assumption) (.list (.head _) (.cons (datUp D8 fun p hp => .tail _ hp) .nil)) (Nat.le_of_ble_eq_true rfl) (fun b hb => by rw [List.mem_singleton.mp hb]; exact T.ok_readT hv) ?_
    intro D9 st9 tk9 hs9 R9 D9
    k_extra "vm"
    exact fin _ _ _ _ (ret _ _ _ (fun p hp => hs9 p (.tail _ (hs8 p (.tail _ hp)))) R9 (by assumption))
  | ext h' l' x =>
    have hx : x ∈ σ.ts := R.ok.cl _ ha.mem x (.head _)
    have hx0 : decide (n = V.n0 ∨ n = V.n1) = false := rd_no ha hV (Nat.ne_of_beq_eq_false rfl)
    obtain ⟨o1, o2, o3⟩ := ho
    k_extra "vm"
    refine IH x (.head _) (i + l') (s2.le (rd_D (Nat.le_refl _))) (by assumption) (at_ix hx) (hV.up (by k_extra "up")) o3 hv rfl (ext_lt o1 hi o2) ?_
    intro v8 st8 tk8 hs8 R8 D8
    exact fin _ _ _ _ (ret _ _ _ (by k_extra "up") R8 D8)
  | cat x y =>
    have hx : x ∈ σ.ts := R.ok.cl _ ha.mem x (.head _)
    have hy : y ∈ σ.ts := R.ok.cl _ ha.mem y (.tail _ (.head _))
    have hx0 : decide (n = V.n0 ∨ n = V.n1) = false := rd_no ha hV (Nat.ne_of_beq_eq_false rfl)
    obtain ⟨o1, o2, o3⟩ := ho
    by_cases hc : i < y.wd
    · k_extra "vm"
      refine IH y (.tail _ (.head _)) i (s2.le (rd_D (Nat.le_max_right _ _))) (by assumption) (at_ix hy) (hV.up (by k_extra "up")) o2 hv.2 rfl hc ?_
      intro v8 st8 tk8 hs8 R8 D8
      exact fin _ _ _ _ (ret _ _ _ (by k_extra "up") R8 (rdc (if_pos hc) D8))
    · k_extra "vm"
      refine IH x (.head _) (i - y.wd) (s2.le (rd_D (Nat.le_max_left _ _))) (by assumption) (at_ix hx) (hV.up (by k_extra "up")) o1 hv.1 (Int.ofNat_sub (Nat.le_of_not_lt hc)).symm (sub_lt' hc hi) ?_
      intro v8 st8 tk8 hs8 R8 D8
      exact fin _ _ _ _ (ret _ _ _ (by k_extra "up") R8 (rdc (if_neg hc) D8))
  | zx m x =>
    have hx : x ∈ σ.ts := R.ok.cl _ ha.mem x (.head _)
    have hx0 : decide (n = V.n0 ∨ n = V.n1) = false := rd_no ha hV (Nat.ne_of_beq_eq_false rfl)
    obtain ⟨o1, o2, o3⟩ := ho
    by_cases hc : i < x.wd
    · k_extra "vm"
      refine IH x (.head _) i (s2.le (rd_D (Nat.le_refl _))) (by assumption) (at_ix hx) (hV.up (by k_extra "up")) o2 hv rfl hc ?_
      intro v8 st8 tk8 hs8 R8 D8
      exact fin _ _ _ _ (ret _ _ _ (by k_extra "up") R8 (rdc (if_pos hc) D8))
    · k_extra "vm"
      exact fin _ _ _ _ (ret _ _ _ (by k_extra "up") (by assumption) (rdc (if_neg hc) (.tuple (.head _) (.cons (.int _ _) (.cons (.int _ _) (.cons (.bool _) .nil))))))
  | sx m x =>
    have hx : x ∈ σ.ts := R.ok.cl _ ha.mem x (.head _)
    have hx0 : decide (n = V.n0 ∨ n = V.n1) = false := rd_no ha hV (Nat.ne_of_beq_eq_false rfl)
    obtain ⟨o1, o2, o3⟩ := ho
    have hxw := T.ok_wd o2
    k_extra "vm"
    refine IH x (.head _) (min i (x.wd - 1)) (s2.le (rd_D (Nat.le_refl _))) (by assumption) (at_ix hx) (hV.up (by k_extra "up")) o2 hv (min_cast hxw.1) (minlt hxw.1) ?_
    intro v8 st8 tk8 hs8 R8 D8
    exact fin _ _ _ _ (ret _ _ _ (by k_extra "up") R8 D8)
  | _ => exact ho.elim
theorem read_bad {w : World} {V : Lv} {x : T} (hb : ¬ x.ok) : ReadV w V x := fun i s R ha hV ho => absurd ho hb
theorem read_all (w : World) (V : Lv) (x : T) : ReadV w V x := by
  induction x with
  | cat x y ihx ihy =>
    refine read_v fun z hz => ?_
    rcases List.mem_cons.mp hz with e | hz
    · rw [e]; exact ihx
    · rw [List.mem_singleton.mp hz]; exact ihy
  | bnot x ih => exact read_v fun z hz => by rw [List.mem_singleton.mp hz]; exact ih
  | ext h l x ih => exact read_v fun z hz => by rw [List.mem_singleton.mp hz]; exact ih
  | zx m x ih => exact read_v fun z hz => by rw [List.mem_singleton.mp hz]; exact ih
  | sx m x ih => exact read_v fun z hz => by rw [List.mem_singleton.mp hz]; exact ih
  | bit m x ih => exact read_bad id
  | neg x ih => exact read_bad id
  | nil => exact read_bad id
  | tt => exact read_bad id
  | ff => exact read_bad id
  | leaf => exact read_v fun z hz => by cases hz
  | num => exact read_v fun z hz => by cases hz
end
section
theorem fg_law_are_bits (w : World) : FnG w (Str.ofString "_law_are_bits") 1072 := ⟨by k_is, by k_is⟩
theorem fg_law_draw (w : World) : FnG w (Str.ofString "_law_draw") 1055 := ⟨by k_is, by k_is⟩
theorem mm_wider_signed (w : World) : MethM w (Str.ofString "wider_signed") 1017 := ⟨by k_is, by k_is, by k_is, fun A k => by k_get, by k_is⟩
noncomputable def sc_law_truth : Sc := ⟨[Str.ofString "bank", Str.ofString "leaves", Str.ofString "bit", Str.ofString "who", Str.ofString "place", Str.ofString "is_turned"], [some .bank, none, none, none, none, none], []⟩
noncomputable def code_law_truth : CS := sseq (sunp3 3 4 5 (cvar 2)) (sseq (sif (tcmp .Eq (cvar 3) (cint 2)) (sret (cmb 418 (acons (ccmp .Eq (cvar 4) (cint 1)) (anil)))) (snil)) (sret (cif (tval (cvar 5)) (cmb 453 (acons (cmb 731 (acons (cvar 4) (acons (csub (cvar 1) (cvar 3)) (anil)))) (anil))) (cmb 731 (acons (cvar 4) (acons (csub (cvar 1) (cvar 3)) (anil)))))))
theorem def_law_truth : Def sc_law_truth 1079 3 code_law_truth := by
  refine ⟨fun w => ?_⟩
  refine' Def.mk1 ?a ?b ?c ?d ?e ?f ?g ?h
  case a => k_is
  case b => k_is
  case c => exact fun s => lenS fun v0 => lenS fun v1 => lenS fun v2 => len0 (BindsTo.of_eq rfl)
  case d => exact snd_seq (snd_unp3 rfl rfl rfl rfl rfl rfl (snd_var rfl) (fun _ => rfl) (fun _ => rfl)) (snd_seq (snd_sif (snd_tcmp (snd_var rfl) (snd_int) rfl) (snd_one (snd_ret (snd_cmb (i := 0) rfl rfl mb_bool_term (snd_acons (snd_ccmp (snd_var rfl) (snd_int) rfl) (snd_anil) (fun _ => rfl)) (fun _ => rfl) (fun _ => rfl)))) (snd_nil)) (snd_one (snd_ret (snd_if (snd_tval (snd_var rfl) (fun _ => rfl)) (snd_cmb (i := 0) rfl rfl mb_not_of (snd_acons (snd_cmb (i := 0) rfl rfl mb_bit (snd_acons (snd_var rfl) (snd_acons (snd_sub (snd_var rfl) (snd_var rfl) (fun _ _ _ => by with_unfolding_all rfl)) (snd_anil) (fun _ => rfl)) (fun _ => rfl)) (fun _ => rfl) (fun _ => rfl)) (snd_anil) (fun _ => rfl)) (fun _ => rfl) (fun _ => rfl)) (snd_cmb (i := 0) rfl rfl mb_bit (snd_acons (snd_var rfl) (snd_acons (snd_sub (snd_var rfl) (snd_var rfl) (fun _ _ _ => by with_unfolding_all rfl)) (snd_anil) (fun _ => rfl)) (fun _ => rfl)) (fun _ => rfl) (fun _ => rfl))))))
  case e => kernel_rfl!
  case f => kernel_rfl!
  case g => kernel_rfl!
  case h => decide
noncomputable def sc_law_more : Sc := ⟨[Str.ofString "src", Str.ofString "maker", Str.ofString "pool", Str.ofString "way", Str.ofString "spot", Str.ofString "t", Str.ofString "bits", Str.ofString "low", Str.ofString "high", Str.ofString "other", Str.ofString "late", Str.ofString "many"], [none, some .maker, none, none, none, none, none, none, none, none, none, none], [Str.ofString "_law_draw", Str.ofString "len", Str.ofString "min", Str.ofString "_law_flipped"]⟩
noncomputable def code_law_more : CS := sseq (spair 3 4 (cfn 1055 (acons (cvar 0) (acons (cint 6) (anil)))) (cfn 1055 (acons (cvar 0) (acons (cbi "len" (acons (cvar 2) (anil))) (anil))))) (sseq (sunp 5 6 (csub (cvar 2) (cvar 4))) (sseq (sif (tcmp .Eq (cvar 3) (cint 2)) (sseq (sunp 9 10 (csub (cvar 2) (cfn 1055 (acons (cvar 0) (acons (cbi "len" (acons (cvar 2) (anil))) (anil)))))) (sif (tcmp .LtE (cbin .Add (cbi "len" (acons (cvar 6) (anil))) (cbi "len" (acons (cvar 10) (anil)))) (cint 10)) (sret (ctup (acons (cmm 1 996 (acons (cvar 5) (acons (cvar 9) (anil)))) (acons (cbin .Add (cvar 10) (cvar 6)) (anil))))) (snil))) (sif (tin2i (cvar 3) 3 4) (sseq (sasg 11 (cbi "min" (acons (cfn 1055 (acons (cvar 0) (acons (cint 3) (anil)))) (acons (cbin .Sub (cint 10) (cbi "len" (acons (cvar 6) (anil)))) (anil))))) (sseq (sif (tcmp .Eq (cvar 3) (cint 3)) (sret (ctup (acons (cmm 1 1010 (acons (cvar 11) (acons (cvar 5) (anil)))) (acons (cbin .Add (cvar 6) (cbin .Mult (clst (acons (ctup (acons (cint 2) (acons (cint 0) (acons (cbool false) (anil))))) (anil))) (cvar 11))) (anil))))) (snil)) (sret (ctup (acons (cmm 1 1017 (acons (cvar 11) (acons (cvar 5) (anil)))) (acons (cbin .Add (cvar 6) (cbin .Mult (csl (cvar 6) (cneg (cint 1)) (cnone)) (cvar 11))) (anil))))))) (sif (tcmp .Eq (cvar 3) (cint 5)) (sret (ctup (acons (cmm 1 933 (acons (cstr (Str.ofString "bvnot")) (acons (cvar 5) (anil)))) (acons (cfn 1060 (acons (cvar 6) (anil))) (anil))))) (snil)))) (sseq (sasg 7 (cfn 1055 (acons (cvar 0) (acons (cbi "len" (acons (cvar 6) (anil))) (anil))))) (sseq (sasg 8 (cbin .Add (cvar 7) (cfn 1055 (acons (cvar 0) (acons (cbin .Sub (cbi "len" (acons (cvar 6) (anil))) (cvar 7)) (anil)))))) (sret (ctup (acons (cmm 1 1003 (acons (cvar 8) (acons (cvar 7) (acons (cvar 5) (anil))))) (acons (csl (cvar 6) (cvar 7) (cbin .Add (cvar 8) (cint 1))) (anil)))))))))
theorem def_law_more : Def sc_law_more 1086 3 code_law_more := by
  refine ⟨fun w => ?_⟩
  refine' Def.mk1 ?a ?b ?c ?d ?e ?f ?g ?h
  case a => k_is
  case b => k_is
  case c => exact fun s => lenS fun v0 => lenS fun v1 => lenS fun v2 => len0 (BindsTo.of_eq rfl)
  case d => exact snd_seq (snd_pair rfl rfl rfl rfl (snd_cfn (.head _) fg_law_draw (snd_acons (snd_var rfl) (snd_acons (snd_int) (snd_anil) (fun _ => rfl)) (fun _ => rfl)) (fun _ => rfl)) (snd_cfn (.head _) fg_law_draw (snd_acons (snd_var rfl) (snd_acons (snd_cbi (.tail _ (.head _)) bi_len (snd_acons (snd_var rfl) (snd_anil) (fun _ => rfl)) (fun _ => rfl)) (snd_anil) (fun _ => rfl)) (fun _ => rfl)) (fun _ => rfl)) (fun _ => rfl) rfl rfl rfl rfl (by kernel_rfl!)) (snd_seq (snd_unp rfl rfl rfl rfl (snd_sub (snd_var rfl) (snd_var rfl) (fun _ _ _ => by with_unfolding_all rfl)) (fun _ => rfl) (fun _ => rfl)) (snd_seq (snd_sif (snd_tcmp (snd_var rfl) (snd_int) rfl) (snd_seq (snd_unp rfl rfl rfl rfl (snd_sub (snd_var rfl) (snd_cfn (.head _) fg_law_draw (snd_acons (snd_var rfl) (snd_acons (snd_cbi (.tail _ (.head _)) bi_len (snd_acons (snd_var rfl) (snd_anil) (fun _ => rfl)) (fun _ => rfl)) (snd_anil) (fun _ => rfl)) (fun _ => rfl)) (fun _ => rfl)) (fun _ _ _ => by with_unfolding_all rfl)) (fun _ => rfl) (fun _ => rfl)) (snd_one (snd_sif (snd_tcmp (snd_bin (snd_cbi (.tail _ (.head _)) bi_len (snd_acons (snd_var rfl) (snd_anil) (fun _ => rfl)) (fun _ => rfl)) (snd_cbi (.tail _ (.head _)) bi_len (snd_acons (snd_var rfl) (snd_anil) (fun _ => rfl)) (fun _ => rfl))) (snd_int) rfl) (snd_one (snd_ret (snd_ctup (snd_acons (snd_cmm (i := 1) rfl rfl mm_put_together (snd_acons (snd_var rfl) (snd_acons (snd_var rfl) (snd_anil) (fun _ => rfl)) (fun _ => rfl)) (fun _ => rfl) (fun _ => rfl)) (snd_acons (snd_bin (snd_var rfl) (snd_var rfl)) (snd_anil) (fun _ => rfl)) (fun _ => rfl))))) (snd_nil)))) (snd_one (snd_sif (snd_tin2i (snd_var rfl)) (snd_seq (snd_asg rfl rfl (snd_cbi (.tail _ (.tail _ (.head _))) bi_min (snd_acons (snd_cfn (.head _) fg_law_draw (snd_acons (snd_var rfl) (snd_acons (snd_int) (snd_anil) (fun _ => rfl)) (fun _ => rfl)) (fun _ => rfl)) (snd_acons (snd_bin (snd_int) (snd_cbi (.tail _ (.head _)) bi_len (snd_acons (snd_var rfl) (snd_anil) (fun _ => rfl)) (fun _ => rfl))) (snd_anil) (fun _ => rfl)) (fun _ => rfl)) (fun _ => rfl)) (fun _ => rfl)) (snd_seq (snd_sif (snd_tcmp (snd_var rfl) (snd_int) rfl) (snd_one (snd_ret (snd_ctup (snd_acons (snd_cmm (i := 1) rfl rfl mm_wider (snd_acons (snd_var rfl) (snd_acons (snd_var rfl) (snd_anil) (fun _ => rfl)) (fun _ => rfl)) (fun _ => rfl) (fun _ => rfl)) (snd_acons (snd_bin (snd_var rfl) (snd_bin (snd_clst (snd_acons (snd_ctup (snd_acons (snd_int) (snd_acons (snd_int) (snd_acons (snd_bool) (snd_anil) (fun _ => rfl)) (fun _ => rfl)) (fun _ => rfl))) (snd_anil) (fun _ => rfl))) (snd_var rfl))) (snd_anil) (fun _ => rfl)) (fun _ => rfl))))) (snd_nil)) (snd_one (snd_ret (snd_ctup (snd_acons (snd_cmm (i := 1) rfl rfl mm_wider_signed (snd_acons (snd_var rfl) (snd_acons (snd_var rfl) (snd_anil) (fun _ => rfl)) (fun _ => rfl)) (fun _ => rfl) (fun _ => rfl)) (snd_acons (snd_bin (snd_var rfl) (snd_bin (snd_csl (snd_var rfl) (snd_ps (snd_neg (snd_int))) (snd_pn) ⟨fun _ _ => by with_unfolding_all rfl, fun _ _ => by with_unfolding_all rfl⟩) (snd_var rfl))) (snd_anil) (fun _ => rfl)) (fun _ => rfl))))))) (snd_one (snd_sif (snd_tcmp (snd_var rfl) (snd_int) rfl) (snd_one (snd_ret (snd_ctup (snd_acons (snd_cmm (i := 1) rfl rfl mm_one_bits (snd_acons (snd_str) (snd_acons (snd_var rfl) (snd_anil) (fun _ => rfl)) (fun _ => rfl)) (fun _ => rfl) (fun _ => rfl)) (snd_acons (snd_cfn (.tail _ (.tail _ (.tail _ (.head _)))) fg_law_flipped (snd_acons (snd_var rfl) (snd_anil) (fun _ => rfl)) (fun _ => rfl)) (snd_anil) (fun _ => rfl)) (fun _ => rfl))))) (snd_nil)))))) (snd_seq (snd_asg rfl rfl (snd_cfn (.head _) fg_law_draw (snd_acons (snd_var rfl) (snd_acons (snd_cbi (.tail _ (.head _)) bi_len (snd_acons (snd_var rfl) (snd_anil) (fun _ => rfl)) (fun _ => rfl)) (snd_anil) (fun _ => rfl)) (fun _ => rfl)) (fun _ => rfl)) (fun _ => rfl)) (snd_seq (snd_asg rfl rfl (snd_bin (snd_var rfl) (snd_cfn (.head _) fg_law_draw (snd_acons (snd_var rfl) (snd_acons (snd_bin (snd_cbi (.tail _ (.head _)) bi_len (snd_acons (snd_var rfl) (snd_anil) (fun _ => rfl)) (fun _ => rfl)) (snd_var rfl)) (snd_anil) (fun _ => rfl)) (fun _ => rfl)) (fun _ => rfl))) (fun _ => rfl)) (snd_one (snd_ret (snd_ctup (snd_acons (snd_cmm (i := 1) rfl rfl mm_cut_out (snd_acons (snd_var rfl) (snd_acons (snd_var rfl) (snd_acons (snd_var rfl) (snd_anil) (fun _ => rfl)) (fun _ => rfl)) (fun _ => rfl)) (fun _ => rfl) (fun _ => rfl)) (snd_acons (snd_csl (snd_var rfl) (snd_ps (snd_var rfl)) (snd_ps (snd_bin (snd_var rfl) (snd_int))) ⟨fun _ _ => by with_unfolding_all rfl, fun _ _ => by with_unfolding_all rfl⟩) (snd_anil) (fun _ => rfl)) (fun _ => rfl)))))))))
  case e => kernel_rfl!
  case f => kernel_rfl!
  case g => kernel_rfl!
  case h => decide
noncomputable def sc_law_is_one_form : Sc := ⟨[Str.ofString "src", Str.ofString "bank", Str.ofString "leaves", Str.ofString "maker", Str.ofString "t", Str.ofString "bits", Str.ofString "low", Str.ofString "high", Str.ofString "begin", Str.ofString "end", Str.ofString "cut", Str.ofString "many", Str.ofString "more"], [none, some .bank, none, some .maker, none, none, none, none, none, none, none, none, none], [Str.ofString "len", Str.ofString "_law_draw", Str.ofString "_law_are_bits"]⟩
noncomputable def code_law_is_one_form : CS := sseq (sasg 6 (cfn 1055 (acons (cvar 0) (acons (cbi "len" (acons (cvar 5) (anil))) (anil))))) (sseq (sasg 7 (cbin .Add (cvar 6) (cfn 1055 (acons (cvar 0) (acons (cbin .Sub (cbi "len" (acons (cvar 5) (anil))) (cvar 6)) (anil)))))) (sseq (sasg 8 (cfn 1055 (acons (cvar 0) (acons (cbin .Add (cbin .Sub (cvar 7) (cvar 6)) (cint 1)) (anil))))) (sseq (sasg 9 (cbin .Add (cvar 8) (cfn 1055 (acons (cvar 0) (acons (cbin .Sub (cbin .Add (cbin .Sub (cvar 7) (cvar 6)) (cint 1)) (cvar 8)) (anil)))))) (sseq (sasg 10 (cmm 3 1003 (acons (cvar 7) (acons (cvar 6) (acons (cvar 4) (anil)))))) (sseq (sif (tnot (tval (cfn 1072 (acons (cvar 1) (acons (cvar 2) (acons (cvar 10) (acons (csl (cvar 5) (cvar 6) (cbin .Add (cvar 7) (cint 1))) (anil)))))))) (sret (cbool false)) (snil)) (sseq (sif (tcmp .NotEq (cmm 3 1003 (acons (cvar 9) (acons (cvar 8) (acons (cvar 10) (anil))))) (cmm 3 1003 (acons (cbin .Add (cvar 6) (cvar 9)) (acons (cbin .Add (cvar 6) (cvar 8)) (acons (cvar 4) (anil)))))) (sret (cbool false)) (snil)) (sseq (spair 11 12 (cfn 1055 (acons (cvar 0) (acons (cint 3) (anil)))) (cfn 1055 (acons (cvar 0) (acons (cint 3) (anil))))) (sseq (sif (tcmp .NotEq (cmm 3 1010 (acons (cvar 12) (acons (cmm 3 1010 (acons (cvar 11) (acons (cvar 4) (anil)))) (anil)))) (cmm 3 1010 (acons (cbin .Add (cvar 11) (cvar 12)) (acons (cvar 4) (anil))))) (sret (cbool false)) (snil)) (sret (ccmp .Eq (cmm 3 1017 (acons (cvar 12) (acons (cmm 3 1017 (acons (cvar 11) (acons (cvar 4) (anil)))) (anil)))) (cmm 3 1017 (acons (cbin .Add (cvar 11) (cvar 12)) (acons (cvar 4) (anil))))))))))))))
theorem def_law_is_one_form : Def sc_law_is_one_form 1093 6 code_law_is_one_form := by
  refine ⟨fun w => ?_⟩
  refine' Def.mk1 ?a ?b ?c ?d ?e ?f ?g ?h
  case a => k_is
  case b => k_is
  case c => exact fun s => lenS fun v0 => lenS fun v1 => lenS fun v2 => lenS fun v3 => lenS fun v4 => lenS fun v5 => len0 (BindsTo.of_eq rfl)
  case d => exact snd_seq (snd_asg rfl rfl (snd_cfn (.tail _ (.head _)) fg_law_draw (snd_acons (snd_var rfl) (snd_acons (snd_cbi (.head _) bi_len (snd_acons (snd_var rfl) (snd_anil) (fun _ => rfl)) (fun _ => rfl)) (snd_anil) (fun _ => rfl)) (fun _ => rfl)) (fun _ => rfl)) (fun _ => rfl)) (snd_seq (snd_asg rfl rfl (snd_bin (snd_var rfl) (snd_cfn (.tail _ (.head _)) fg_law_draw (snd_acons (snd_var rfl) (snd_acons (snd_bin (snd_cbi (.head _) bi_len (snd_acons (snd_var rfl) (snd_anil) (fun _ => rfl)) (fun _ => rfl)) (snd_var rfl)) (snd_anil) (fun _ => rfl)) (fun _ => rfl)) (fun _ => rfl))) (fun _ => rfl)) (snd_seq (snd_asg rfl rfl (snd_cfn (.tail _ (.head _)) fg_law_draw (snd_acons (snd_var rfl) (snd_acons (snd_bin (snd_bin (snd_var rfl) (snd_var rfl)) (snd_int)) (snd_anil) (fun _ => rfl)) (fun _ => rfl)) (fun _ => rfl)) (fun _ => rfl)) (snd_seq (snd_asg rfl rfl (snd_bin (snd_var rfl) (snd_cfn (.tail _ (.head _)) fg_law_draw (snd_acons (snd_var rfl) (snd_acons (snd_bin (snd_bin (snd_bin (snd_var rfl) (snd_var rfl)) (snd_int)) (snd_var rfl)) (snd_anil) (fun _ => rfl)) (fun _ => rfl)) (fun _ => rfl))) (fun _ => rfl)) (snd_seq (snd_asg rfl rfl (snd_cmm (i := 3) rfl rfl mm_cut_out (snd_acons (snd_var rfl) (snd_acons (snd_var rfl) (snd_acons (snd_var rfl) (snd_anil) (fun _ => rfl)) (fun _ => rfl)) (fun _ => rfl)) (fun _ => rfl) (fun _ => rfl)) (fun _ => rfl)) (snd_seq (snd_sif (snd_tnot (snd_tval (snd_cfn (.tail _ (.tail _ (.head _))) fg_law_are_bits (snd_acons (snd_var rfl) (snd_acons (snd_var rfl) (snd_acons (snd_var rfl) (snd_acons (snd_csl (snd_var rfl) (snd_ps (snd_var rfl)) (snd_ps (snd_bin (snd_var rfl) (snd_int))) ⟨fun _ _ => by with_unfolding_all rfl, fun _ _ => by with_unfolding_all rfl⟩) (snd_anil) (fun _ => rfl)) (fun _ => rfl)) (fun _ => rfl)) (fun _ => rfl)) (fun _ => rfl)) (fun _ => rfl))) (snd_one (snd_ret (snd_bool))) (snd_nil)) (snd_seq (snd_sif (snd_tcmp (snd_cmm (i := 3) rfl rfl mm_cut_out (snd_acons (snd_var rfl) (snd_acons (snd_var rfl) (snd_acons (snd_var rfl) (snd_anil) (fun _ => rfl)) (fun _ => rfl)) (fun _ => rfl)) (fun _ => rfl) (fun _ => rfl)) (snd_cmm (i := 3) rfl rfl mm_cut_out (snd_acons (snd_bin (snd_var rfl) (snd_var rfl)) (snd_acons (snd_bin (snd_var rfl) (snd_var rfl)) (snd_acons (snd_var rfl) (snd_anil) (fun _ => rfl)) (fun _ => rfl)) (fun _ => rfl)) (fun _ => rfl) (fun _ => rfl)) rfl) (snd_one (snd_ret (snd_bool))) (snd_nil)) (snd_seq (snd_pair rfl rfl rfl rfl (snd_cfn (.tail _ (.head _)) fg_law_draw (snd_acons (snd_var rfl) (snd_acons (snd_int) (snd_anil) (fun _ => rfl)) (fun _ => rfl)) (fun _ => rfl)) (snd_cfn (.tail _ (.head _)) fg_law_draw (snd_acons (snd_var rfl) (snd_acons (snd_int) (snd_anil) (fun _ => rfl)) (fun _ => rfl)) (fun _ => rfl)) (fun _ => rfl) rfl rfl rfl rfl (by kernel_rfl!)) (snd_seq (snd_sif (snd_tcmp (snd_cmm (i := 3) rfl rfl mm_wider (snd_acons (snd_var rfl) (snd_acons (snd_cmm (i := 3) rfl rfl mm_wider (snd_acons (snd_var rfl) (snd_acons (snd_var rfl) (snd_anil) (fun _ => rfl)) (fun _ => rfl)) (fun _ => rfl) (fun _ => rfl)) (snd_anil) (fun _ => rfl)) (fun _ => rfl)) (fun _ => rfl) (fun _ => rfl)) (snd_cmm (i := 3) rfl rfl mm_wider (snd_acons (snd_bin (snd_var rfl) (snd_var rfl)) (snd_acons (snd_var rfl) (snd_anil) (fun _ => rfl)) (fun _ => rfl)) (fun _ => rfl) (fun _ => rfl)) rfl) (snd_one (snd_ret (snd_bool))) (snd_nil)) (snd_one (snd_ret (snd_ccmp (snd_cmm (i := 3) rfl rfl mm_wider_signed (snd_acons (snd_var rfl) (snd_acons (snd_cmm (i := 3) rfl rfl mm_wider_signed (snd_acons (snd_var rfl) (snd_acons (snd_var rfl) (snd_anil) (fun _ => rfl)) (fun _ => rfl)) (fun _ => rfl) (fun _ => rfl)) (snd_anil) (fun _ => rfl)) (fun _ => rfl)) (fun _ => rfl) (fun _ => rfl)) (snd_cmm (i := 3) rfl rfl mm_wider_signed (snd_acons (snd_bin (snd_var rfl) (snd_var rfl)) (snd_acons (snd_var rfl) (snd_anil) (fun _ => rfl)) (fun _ => rfl)) (fun _ => rfl) (fun _ => rfl)) rfl)))))))))))
  case e => kernel_rfl!
  case f => kernel_rfl!
  case g => kernel_rfl!
  case h => decide
end
section
theorem kr_Plain : True := by
  k_with_none
  trivial
namespace T
theorem ok_widerT {m : Nat} {x : T} (o : x.ok) (b : x.wd + m ≤ 30) : (widerT m x).ok ∧ (widerT m x).wd = x.wd + m := by
  unfold widerT; split
  next q => subst q; exact ⟨o, rfl⟩
  next q =>
    have hw := ok_wd o
    cases x with
    | num v w => obtain ⟨o1, o2, o3⟩ := o; simp only [wd] at b; exact ⟨⟨by lia, by lia, Nat.lt_of_lt_of_le o3 (Nat.pow_le_pow_right (by decide) (by lia))⟩, rfl⟩
    | zx k x => obtain ⟨o1, o2, o3⟩ := o; simp only [wd] at b hw; exact ⟨⟨by lia, o2, by lia⟩, by simp only [wd]; lia⟩
    | leaf k w => exact ⟨⟨by lia, o, b⟩, rfl⟩
    | bnot x => exact ⟨⟨by lia, o, b⟩, rfl⟩
    | cat x y => exact ⟨⟨by lia, o, b⟩, rfl⟩
    | ext h l x => exact ⟨⟨by lia, o, b⟩, rfl⟩
    | sx k x => exact ⟨⟨by lia, o, b⟩, rfl⟩
    | _ => exact o.elim
theorem sext_lt {v w m : Nat} (hw : 1 ≤ w) (hv : v < 2 ^ w) : sext v w m < 2 ^ (w + m) := by
  have h1 : 2 ^ w ≤ 2 ^ (w + m) := Nat.pow_le_pow_right (by decide) (by lia)
  unfold sext; split <;> lia
theorem ok_sxT {m : Nat} {x : T} (o : x.ok) (b : x.wd + m ≤ 30) : (sxT m x).ok ∧ (sxT m x).wd = x.wd + m := by
  unfold sxT; split
  next q => subst q; exact ⟨o, rfl⟩
  next q =>
    have hw := ok_wd o
    cases x with
    | num v w => obtain ⟨o1, o2, o3⟩ := o; simp only [wd] at b; exact ⟨⟨by lia, by lia, sext_lt o1 o3⟩, rfl⟩
    | zx k x => obtain ⟨o1, o2, o3⟩ := o; simp only [wd] at b hw; exact ⟨⟨by lia, o2, by lia⟩, by simp only [wd]; lia⟩
    | sx k x => obtain ⟨o1, o2, o3⟩ := o; simp only [wd] at b hw; exact ⟨⟨by lia, o2, by lia⟩, by simp only [wd]; lia⟩
    | leaf k w => exact ⟨⟨by lia, o, b⟩, rfl⟩
    | bnot x => exact ⟨⟨by lia, o, b⟩, rfl⟩
    | cat x y => exact ⟨⟨by lia, o, b⟩, rfl⟩
    | ext h l x => exact ⟨⟨by lia, o, b⟩, rfl⟩
    | _ => exact o.elim
theorem num_put {v w v' w' : Nat} (h : v < 2 ^ w) (h' : v' < 2 ^ w') : v * 2 ^ w' + v' < 2 ^ (w + w') := by
  rw [Nat.pow_add]
  have : (v + 1) * 2 ^ w' ≤ 2 ^ w * 2 ^ w' := Nat.mul_le_mul_right _ h
  rw [Nat.add_mul] at this; lia
theorem putT_cases {a b : T} {P : T → Prop} (h0 : P (.cat a b))
    (h1 : ∀ v w v' w', a = .num v w → b = .num v' w' → P (.num (v * 2 ^ w' + v') (w + w')))
    (h2 : ∀ w, a = .num 0 w → P (widerT w b))
    (h3 : ∀ x v w v' w', a = .cat x (.num v w) → b = .num v' w' → P (.cat x (.num (v * 2 ^ w' + v') (w + w'))))
    (h4 : ∀ h l x h' l', a = .ext h l x → b = .ext h' l' x → l = h' + 1 → P (cutT x h l')) : P (putT a b) := by
  cases a with
  | num v w =>
    show P (if _ then _ else _)
    by_cases q : b.isNum = true
    · exact if_pos q ▸ h1 _ _ _ _ rfl (isNum_is q)
    rw [if_neg q]
    by_cases z : v = 0
    · exact if_pos z ▸ h2 _ (z ▸ rfl)
    · exact if_neg z ▸ h0
  | cat x y =>
    show P (if _ then _ else _)
    by_cases q : (b.isNum && y.isNum) = true
    · have z := Bool.and_eq_true_iff.mp q
      exact if_pos q ▸ h3 _ _ _ _ _ (congrArg (T.cat x) (isNum_is z.2)) (isNum_is z.1)
    · exact if_neg q ▸ h0
  | ext h l x =>
    cases b with
    | ext h' l' y =>
      show P (if _ then _ else _)
      by_cases q : x = y ∧ l = h' + 1
      · exact if_pos q ▸ h4 _ _ _ _ _ rfl (q.1 ▸ rfl) q.2
      · exact if_neg q ▸ h0
    | _ => exact h0
  | _ => exact h0
theorem ok_putT {x y : T} (ox : x.ok) (oy : y.ok) (b : x.wd + y.wd ≤ 30) : (putT x y).ok ∧ (putT x y).wd = x.wd + y.wd := by
  refine putT_cases (P := fun z => z.ok ∧ z.wd = x.wd + y.wd) ⟨⟨ox, oy, b⟩, rfl⟩ ?_ ?_ ?_ ?_
  · rintro v w v' w' rfl rfl
    obtain ⟨o1, o2, o3⟩ := ox; obtain ⟨p1, p2, p3⟩ := oy; simp only [wd] at b
    exact ⟨⟨by lia, by lia, num_put o3 p3⟩, rfl⟩
  · rintro w rfl
    have := ok_widerT (m := w) oy (by simp only [wd] at b; lia)
    exact ⟨this.1, by rw [this.2]; simp only [wd]; lia⟩
  · rintro x v w v' w' rfl rfl
    obtain ⟨o, ⟨o1, o2, o3⟩, o4⟩ := ox; obtain ⟨p1, p2, p3⟩ := oy; simp only [wd] at b o4
    exact ⟨⟨o, ⟨by lia, by lia, num_put o3 p3⟩, by simp only [wd]; lia⟩, by simp only [wd]; lia⟩
  · rintro h l x h' l' rfl rfl rfl
    obtain ⟨o1, o2, o3⟩ := ox; obtain ⟨p1, p2, p3⟩ := oy; simp only [wd] at b
    have := ok_cutT (h := h) (l := l') o3 (Nat.le_trans p1 (Nat.le_of_lt o1)) o2
    exact ⟨this.1, this.2.trans (ar_seam o1 p1).symm⟩
/- the unknowns of what is made -/
theorem lv_notT {w0 w1 : Nat} {x : T} (h : x.lv w0 w1) : (notT x).lv w0 w1 := by
  cases x <;> exact h
theorem lv_cutT {w0 w1 : Nat} : ∀ {x : T} {h l : Nat}, x.lv w0 w1 → (cutT x h l).lv w0 w1
  | .leaf _ _, _, _, o => by simp only [cutT]; split <;> exact o
  | .num _ _, _, _, o => by simp only [cutT]; split <;> exact o
  | .bnot x, _, _, o => by simp only [cutT]; split; exact o; exact lv_notT (lv_cutT (x := x) o)
  | .ext _ _ x, _, _, o => by simp only [cutT]; split; exact o; exact lv_cutT (x := x) o
  | .cat x y, _, _, o => by simp only [cutT]; split; exact o; split; exact lv_cutT o.2; split; exact lv_cutT o.1; exact o
  | .zx _ x, _, _, o => by simp only [cutT]; split; exact o; split; exact lv_cutT (x := x) o; split; trivial; exact o
  | .sx _ x, _, _, o => by simp only [cutT]; split; exact o; split; exact lv_cutT (x := x) o; exact o
theorem lv_widerT {w0 w1 m : Nat} {x : T} (o : x.lv w0 w1) : (widerT m x).lv w0 w1 := by
  unfold widerT; split
  · exact o
  · cases x <;> exact o
theorem lv_sxT {w0 w1 m : Nat} {x : T} (o : x.lv w0 w1) : (sxT m x).lv w0 w1 := by
  unfold sxT; split
  · exact o
  · cases x <;> exact o
theorem lv_putT {w0 w1 : Nat} {x y : T} (ox : x.lv w0 w1) (oy : y.lv w0 w1) : (putT x y).lv w0 w1 := by
  refine putT_cases (P := fun z => z.lv w0 w1) ⟨ox, oy⟩ ?_ ?_ ?_ ?_
  · rintro v w v' w' rfl rfl; trivial
  · rintro w rfl; exact lv_widerT oy
  · rintro x v w v' w' rfl rfl; exact ⟨ox.1, trivial⟩
  · rintro h l x h' l' rfl rfl rfl; exact lv_cutT (x := x) ox
/- depth -/
theorem dep_notT (x : T) : (notT x).dep ≤ x.dep + 1 := by cases x <;> simp only [notT, dep] <;> lia
theorem dep_cutT : ∀ (x : T) (h l : Nat), (cutT x h l).dep ≤ x.dep + 1
  | .leaf _ _, _, _ | .nil, _, _ | .tt, _, _ | .ff, _, _ | .bit .., _, _ | .neg .., _, _ => by simp only [cutT]; split <;> simp only [dep] <;> lia
  | .num _ _, _, _ => by simp only [cutT]; split <;> simp only [dep] <;> lia
  | .bnot x, h, l => by
    have ih := dep_cutT x h l
    have := dep_notT (cutT x h l)
    simp only [cutT]; split <;> simp only [dep] <;> lia
  | .ext a b x, h, l => by
    have ih := dep_cutT x (h + b) (l + b)
    simp only [cutT]; split <;> simp only [dep] <;> lia
  | .cat x y, h, l => by
    have ih := dep_cutT y h l
    have ih' := dep_cutT x (h - y.wd) (l - y.wd)
    simp only [cutT]; split
    · simp only [dep]; lia
    · split
      · simp only [dep]; lia
      · split <;> simp only [dep] <;> lia
  | .zx m x, h, l => by
    have ih := dep_cutT x h l
    simp only [cutT]; split
    · simp only [dep]; lia
    · split
      · simp only [dep]; lia
      · split <;> simp only [dep] <;> lia
  | .sx m x, h, l => by
    have ih := dep_cutT x h l
    simp only [cutT]; split
    · simp only [dep]; lia
    · split <;> simp only [dep] <;> lia
theorem dep_widerT (m : Nat) (x : T) : (widerT m x).dep ≤ x.dep + 1 := by
  unfold widerT; split
  · lia
  · cases x <;> simp only [dep] <;> lia
theorem dep_sxT (m : Nat) (x : T) : (sxT m x).dep ≤ x.dep + 1 := by
  unfold sxT; split
  · lia
  · cases x <;> simp only [dep] <;> lia
theorem dep_putT (x y : T) : (putT x y).dep ≤ max x.dep y.dep + 1 := by
  refine putT_cases (P := fun z => z.dep ≤ max x.dep y.dep + 1) (by simp only [dep]; lia) ?_ ?_ ?_ ?_
  · rintro v w v' w' rfl rfl; simp only [dep]; lia
  · rintro w rfl; have := dep_widerT w y; simp only [dep]; lia
  · rintro x v w v' w' rfl rfl; simp only [dep]; lia
  · rintro h l x h' l' rfl rfl rfl; have := dep_cutT x h l'; simp only [dep]; lia
/- reading -/
theorem bit_mod {v w k : Nat} (h : k < w) : v % 2 ^ w / 2 ^ k % 2 = v / 2 ^ k % 2 := by
  have e : 2 ^ w = 2 ^ k * 2 ^ (w - k) := by rw [← Nat.pow_add, Nat.add_sub_cancel' (Nat.le_of_lt h)]
  rw [e, Nat.mod_mul_right_div_self]
  have e2 : 2 ^ (w - k) = 2 * 2 ^ (w - k - 1) := by rw [← Nat.pow_succ', Nat.succ_eq_add_one, Nat.sub_add_cancel (Nat.sub_pos_of_lt h)]
  rw [e2, Nat.mod_mul_right_mod]
theorem bit_high {v w k : Nat} (hv : v < 2 ^ w) (h : w ≤ k) : v / 2 ^ k % 2 = 0 := by
  rw [Nat.div_eq_of_lt (Nat.lt_of_lt_of_le hv (Nat.pow_le_pow_right (by decide) h))]
theorem bit_lt (v k : Nat) : v / 2 ^ k % 2 < 2 := Nat.mod_lt _ (by decide)
theorem bit_tb (v k : Nat) : v.testBit k = decide (v / 2 ^ k % 2 = 1) := by
  rw [Nat.testBit_eq_decide_div_mod_eq]
theorem bit_not {v w k : Nat} (hv : v < 2 ^ w) (h : k < w) : (2 ^ w - 1 - v) / 2 ^ k % 2 = 1 - v / 2 ^ k % 2 := by
  have h1 : (2 ^ w - (v + 1)).testBit k = (decide (k < w) && !v.testBit k) := Nat.testBit_two_pow_sub_succ hv k
  rw [bit_tb, bit_tb, decide_eq_true h, Bool.true_and, show 2 ^ w - (v + 1) = 2 ^ w - 1 - v by lia] at h1
  have a := bit_lt v k
  have b := bit_lt (2 ^ w - 1 - v) k
  by_cases q : v / 2 ^ k % 2 = 1
  · rw [decide_eq_true q] at h1; have := of_decide_eq_false h1; lia
  · rw [decide_eq_false q] at h1; have := of_decide_eq_true h1; lia
theorem bit_put {v v' w' k : Nat} (h' : v' < 2 ^ w') : (v * 2 ^ w' + v') / 2 ^ k % 2 = if k < w' then v' / 2 ^ k % 2 else v / 2 ^ (k - w') % 2 := by
  split
  next q =>
    rw [← bit_mod (v := v * 2 ^ w' + v') q, Nat.add_comm, Nat.add_mul_mod_self_right, Nat.mod_eq_of_lt h']
  next q =>
    have e : 2 ^ k = 2 ^ w' * 2 ^ (k - w') := by rw [← Nat.pow_add, Nat.add_sub_cancel' (Nat.le_of_not_lt q)]
    rw [e, ← Nat.div_div_eq_div_mul, Nat.mul_comm, Nat.mul_add_div (Nat.two_pow_pos _), Nat.div_eq_of_lt h', Nat.add_zero]
theorem bit_ext {v w m k : Nat} (hw : 1 ≤ w) (hv : v < 2 ^ w) (hk : k < w + m) : sext v w m / 2 ^ k % 2 = v / 2 ^ (min k (w - 1)) % 2 := by
  have e : 2 ^ w = 2 ^ (w - 1) + 2 ^ (w - 1) := by rw [← Nat.two_mul, ← Nat.pow_succ', Nat.succ_eq_add_one, Nat.sub_add_cancel hw]
  unfold sext; split
  next q =>
    have hl : 2 ^ w ≤ 2 ^ (w + m) := Nat.pow_le_pow_right (by decide) (by lia)
    have e1 : v + (2 ^ (w + m) - 2 ^ w) = (2 ^ m - 1) * 2 ^ w + v := by
      rw [Nat.sub_mul, Nat.one_mul, ← Nat.pow_add, Nat.add_comm m w]; lia
    rw [e1, bit_put hv]
    split
    next r => rw [Nat.min_eq_left (Nat.le_sub_one_of_lt r)]
    next r =>
      rw [Nat.min_eq_right (ar_pred hw r)]
      have : v / 2 ^ (w - 1) = 1 := by
        rw [Nat.div_eq_iff (Nat.two_pow_pos _)]; lia
      rw [this]
      have h2 : (2 ^ m - 1 - 0) / 2 ^ (k - w) % 2 = 1 - 0 / 2 ^ (k - w) % 2 := bit_not (Nat.two_pow_pos m) (ar_mo r hk)
      rw [Nat.zero_div, Nat.zero_mod, Nat.sub_zero] at h2
      exact h2
  next q =>
    by_cases r : k < w
    · rw [Nat.min_eq_left (Nat.le_sub_one_of_lt r)]
    · rw [Nat.min_eq_right (ar_pred hw r), bit_high hv (Nat.le_of_not_lt r), bit_high (w := w - 1) (Nat.lt_of_not_le q) (Nat.le_refl _)]
end T
theorem Bit.flip_flip {b : Bit} (h : b.ok) : b.flip.flip = b := by
  obtain ⟨who, pl, tu⟩ := b
  unfold flip; by_cases q : who = 2
  · have := h.2 q; simp only at this
    simp only [q, if_true]; obtain ⟨a, rfl⟩ := this; rw [ar_flip a]
  · simp only [q, if_false, Bool.not_not]
namespace T
theorem readT_notT {w0 w1 : Nat} {x : T} {i : Nat} (o : x.ok) (hl : x.lv w0 w1) (hi : i < x.wd) : readT (notT x) i = (readT x i).flip := by
  cases x with
  | num v w =>
    simp only [notT, readT, Bit.flip, if_true]; rw [bit_not o.2.2 hi]
  | bnot x => simp only [notT, readT]; rw [Bit.flip_flip (ok_readT (x := x) hl)]
  | _ => rfl
theorem readT_cutT {w0 w1 : Nat} : ∀ {x : T} {h l i : Nat}, x.ok → x.lv w0 w1 → l ≤ h → h < x.wd → i < h + 1 - l → readT (cutT x h l) i = readT x (i + l)
  | .leaf _ _, h, l, i, o, lv, a, b, c => by
    simp only [cutT]; split
    next q => obtain ⟨rfl, _⟩ := q; rfl
    next q => rfl
  | .num v w, h, l, i, o, lv, a, b, c => by
    simp only [cutT]; split
    next q => obtain ⟨rfl, _⟩ := q; rfl
    next q => simp only [readT]; rw [bit_mod (ar_s1 a ▸ c), Nat.div_div_eq_div_mul, ← Nat.pow_add, Nat.add_comm l i]
  | .bnot x, h, l, i, o, lv, a, b, c => by
    simp only [wd] at b
    simp only [cutT]; split
    next q => obtain ⟨rfl, _⟩ := q; rfl
    next q =>
      have ok := ok_cutT (h := h) (l := l) o.1 a b
      rw [readT_notT ok.1 (lv_cutT (x := x) lv) (by rw [ok.2]; exact c), readT_cutT (x := x) o.1 lv a b c]; rfl
  | .cat x y, h, l, i, o, lv, a, b, c => by
    simp only [wd] at b
    simp only [cutT]; split
    next q => obtain ⟨rfl, _⟩ := q; rfl
    next q =>
      split
      next r => rw [readT_cutT o.2.1 lv.2 a r c, readT, if_pos (ar_il r c)]
      next r =>
        split
        next r' => rw [readT_cutT (x := x) o.1 lv.1 (ar_le a) (ar_subl (Nat.le_of_not_lt r) b) ((ar_sh r' a).symm ▸ c), readT, if_neg (ar_nlt r'), Nat.add_sub_assoc r' i]
        next r' => rfl
  | .ext h' l' x, h, l, i, o, lv, a, b, c => by
    have o1 := o.1; have o2 := o.2.1; simp only [wd] at b
    simp only [cutT]; split
    next q => obtain ⟨rfl, _⟩ := q; rfl
    next q => rw [readT_cutT (x := x) o.2.2 lv (Nat.add_le_add_right a l') (ar_hl o1 b o2) (ar_rr.symm ▸ c), readT, Nat.add_assoc]
  | .zx m x, h, l, i, o, lv, a, b, c => by
    simp only [wd] at b
    simp only [cutT]; split
    next q => obtain ⟨rfl, _⟩ := q; rfl
    next q =>
      split
      next r => rw [readT_cutT (x := x) o.2.1 lv a r c, readT, if_pos (ar_il r c)]
      next r =>
        split
        next r' => simp only [readT]; rw [if_neg (ar_nlt r'), Nat.zero_div]
        next r' => rfl
  | .sx m x, h, l, i, o, lv, a, b, c => by
    simp only [wd] at b
    simp only [cutT]; split
    next q => obtain ⟨rfl, _⟩ := q; rfl
    next q =>
      split
      next r => rw [readT_cutT (x := x) o.2.1 lv a r c, readT, Nat.min_eq_left (Nat.le_sub_one_of_lt (ar_il r c))]
      next r' => rfl
theorem readT_widerT {m : Nat} {x : T} {i : Nat} (o : x.ok) (hi : i < x.wd + m) : readT (widerT m x) i = if i < x.wd then readT x i else ⟨2, 0, false⟩ := by
  unfold widerT; split
  next q => subst q; rw [if_pos (show i < x.wd from hi)]
  next q =>
    cases x with
    | num v w =>
      show (⟨2, v / 2 ^ i % 2, false⟩ : Bit) = if i < w then ⟨2, v / 2 ^ i % 2, false⟩ else ⟨2, 0, false⟩
      split
      next => rfl
      next r => rw [bit_high o.2.2 (Nat.le_of_not_lt r)]
    | zx k x =>
      show (if i < x.wd then readT x i else ⟨2, 0, false⟩) = if i < x.wd + k then (if i < x.wd then readT x i else ⟨2, 0, false⟩) else ⟨2, 0, false⟩
      by_cases r : i < x.wd
      · rw [if_pos r, if_pos (Nat.lt_add_right k r)]
      · rw [if_neg r]; split <;> rfl
    | _ => first | exact o.elim | rfl
theorem readT_sxT {m : Nat} {x : T} {i : Nat} (o : x.ok) (hi : i < x.wd + m) : readT (sxT m x) i = readT x (min i (x.wd - 1)) := by
  have hw := ok_wd o
  unfold sxT; split
  next q => subst q; rw [Nat.min_eq_left (Nat.le_sub_one_of_lt (show i < x.wd from hi))]
  next q =>
    cases x with
    | num v w => simp only [readT, wd] at *; rw [bit_ext o.1 o.2.2 hi]
    | zx k x =>
      have := o.1
      simp only [wd] at hi hw
      show (if i < x.wd then readT x i else ⟨2, 0, false⟩) = if min i (x.wd + k - 1) < x.wd then readT x (min i (x.wd + k - 1)) else ⟨2, 0, false⟩
      by_cases r : i < x.wd
      · have r2 := Nat.min_eq_left (Nat.le_sub_one_of_lt (Nat.lt_add_right k r))
        rw [if_pos r, r2, if_pos r]
      · rw [if_neg r, if_neg fun t => Nat.not_le_of_lt t (Nat.le_min.mpr ⟨Nat.le_of_not_lt r, Nat.le_sub_one_of_lt (Nat.lt_add_of_pos_right o.1)⟩)]
    | sx k x => simp only [readT, wd]; rw [ar_min1]
    | _ => first | exact o.elim | rfl
theorem readT_putT {w0 w1 : Nat} {x y : T} {i : Nat} (ox : x.ok) (oy : y.ok) (lx : x.lv w0 w1) (ly : y.lv w0 w1) (hi : i < x.wd + y.wd) : readT (putT x y) i = if i < y.wd then readT y i else readT x (i - y.wd) := by
  refine putT_cases (P := fun z => readT z i = if i < y.wd then readT y i else readT x (i - y.wd)) rfl ?_ ?_ ?_ ?_
  · rintro v w v' w' rfl rfl
    show (⟨2, (v * 2 ^ w' + v') / 2 ^ i % 2, false⟩ : Bit) = if i < w' then ⟨2, v' / 2 ^ i % 2, false⟩ else ⟨2, v / 2 ^ (i - w') % 2, false⟩
    rw [bit_put oy.2.2]; split <;> rfl
  · rintro w rfl
    rw [readT_widerT oy (Nat.add_comm _ _ ▸ hi)]; simp only [readT, Nat.zero_div]
  · rintro x v w v' w' rfl rfl
    show (if i < w + w' then (⟨2, (v * 2 ^ w' + v') / 2 ^ i % 2, false⟩ : Bit) else readT x (i - (w + w'))) = if i < w' then ⟨2, v' / 2 ^ i % 2, false⟩ else (if i - w' < w then ⟨2, v / 2 ^ (i - w') % 2, false⟩ else readT x (i - w' - w))
    rw [bit_put oy.2.2]
    by_cases r : i < w'
    · rw [if_pos r, if_pos r, if_pos (by lia)]
    · rw [if_neg r, if_neg r]
      by_cases q : i < w + w'
      · rw [if_pos q, if_pos (by lia)]
      · rw [if_neg q, if_neg (by lia)]; congr 1; lia
  · rintro h l x h' l' rfl rfl rfl
    obtain ⟨o1, o2, o3⟩ := ox; obtain ⟨p1, p2, p3⟩ := oy; simp only [wd] at hi
    rw [readT_cutT (x := x) o3 lx (Nat.le_trans p1 (Nat.le_of_lt o1)) o2 (ar_seam o1 p1 ▸ hi)]
    show readT x (i + l') = if i < h' - l' + 1 then readT x (i + l') else readT x (i - (h' - l' + 1) + (h' + 1))
    split
    next => rfl
    next r => rw [ar_back p1 r]
end T
noncomputable def Bit.truth (V : Lv) (b : Bit) : T :=
  if b.who = 2 then (if b.place = 1 then .tt else .ff) else
    let l : T := if b.who = 0 then .leaf 0 V.w0 else .leaf 1 V.w1
    if b.turned then .neg (.bit b.place l) else .bit b.place l
theorem Bit.truth_flip {V : Lv} {b : Bit} (h : b.ok) : b.flip.truth V = (b.truth V).notB := by
  obtain ⟨who, pl, tu⟩ := b
  unfold flip; by_cases q : who = 2
  · have := h.2 q; simp only at this
    simp only [q, if_true, truth]
    obtain ⟨a, _⟩ := this
    by_cases r : pl = 1
    · subst r; rfl
    · have : pl = 0 := by lia
      subst this; rfl
  · simp only [q, if_false, truth]
    cases tu <;> rfl
namespace T
theorem bitT_readT {V : Lv} : ∀ {x : T} {i : Nat}, x.ok → x.lv V.w0 V.w1 → i < x.wd → bitT x i = (readT x i).truth V
  | .leaf k w, i, o, lv, hi => by
    rcases lv with ⟨rfl, rfl⟩ | ⟨rfl, rfl⟩ <;> rfl
  | .num v w, i, o, lv, hi => by
    simp only [bitT, readT, Bit.truth, if_true]; rw [bit_tb]; by_cases q : v / 2 ^ i % 2 = 1
    · rw [decide_eq_true q]; exact (if_pos q).symm
    · rw [decide_eq_false q]; exact (if_neg q).symm
  | .bnot x, i, o, lv, hi => by
    simp only [bitT, readT]; rw [Bit.truth_flip (ok_readT (x := x) lv), bitT_readT (x := x) o.1 lv hi]
  | .ext h l x, i, o, lv, hi => by
    obtain ⟨o1, o2, o3⟩ := o; simp only [wd] at hi
    simp only [bitT, readT]; exact bitT_readT (x := x) o3 lv (ar_il (h := h) o2 ((ar_s1 o1).symm ▸ hi))
  | .cat x y, i, o, lv, hi => by
    simp only [wd] at hi
    simp only [bitT, readT]; split
    next q => exact bitT_readT o.2.1 lv.2 q
    next q => exact bitT_readT o.1 lv.1 (ar_subl (Nat.le_of_not_lt q) hi)
  | .zx m x, i, o, lv, hi => by
    simp only [bitT, readT]; split
    next q => exact bitT_readT (x := x) o.2.1 lv q
    next q => rfl
  | .sx m x, i, o, lv, hi => by
    have := ok_wd o.2.1
    simp only [bitT, readT]; exact bitT_readT (x := x) o.2.1 lv (ar_minlt this.1)
/- forms -/
theorem notT_notT {x : T} (o : x.ok) : notT (notT x) = x := by
  cases x with
  | num v w => obtain ⟨_, _, o⟩ := o; simp only [notT]; rw [ar_notnot o]
  | bnot x => obtain ⟨_, a, b⟩ := o; cases x <;> first | rfl | (cases a; done) | (cases b; done)
  | _ => first | exact o.elim | rfl
theorem cutT_notT {y : T} {e b : Nat} (o : y.ok) (hb : b ≤ e) (he : e < y.wd) : cutT (notT y) e b = notT (cutT y e b) := by
  by_cases q : b = 0 ∧ e + 1 = y.wd
  · have n := ok_notT o
    rw [cutT_all n.1 (by rw [n.2]; exact q), cutT_all o q]
  · cases y with
    | num v w =>
      have oo := o
      obtain ⟨_, _, o⟩ := o; simp only [wd] at he q
      simp only [notT, cutT, if_neg q]
      have hp := Nat.two_pow_pos (e - b + 1)
      congr 1
      have A : (2 ^ w - 1 - v) / 2 ^ b % 2 ^ (e - b + 1) < 2 ^ (e - b + 1) := Nat.mod_lt _ hp
      have B : 2 ^ (e - b + 1) - 1 - v / 2 ^ b % 2 ^ (e - b + 1) < 2 ^ (e - b + 1) := Nat.lt_of_le_of_lt (Nat.sub_le _ _) (Nat.sub_lt hp Nat.one_pos)
      refine Nat.eq_of_testBit_eq fun k => ?_
      rw [bit_tb, bit_tb]
      by_cases r : k < e - b + 1
      · rw [bit_mod r, Nat.div_div_eq_div_mul, ← Nat.pow_add, bit_not o (Nat.lt_of_le_of_lt (ar_le2 hb (Nat.le_of_lt_succ r)) he), bit_not (Nat.mod_lt _ hp) r, bit_mod r, Nat.div_div_eq_div_mul, ← Nat.pow_add]
      · rw [bit_high A (Nat.le_of_not_lt r), bit_high B (Nat.le_of_not_lt r)]
    | bnot x =>
      simp only [wd] at he q
      rw [notT, cutT, if_neg q, notT_notT (ok_cutT (h := e) (l := b) o.1 hb he).1]
    | leaf k w | cat x y | ext k l x | zx k x | sx k x =>
      exact if_neg q
    | _ => exact o.elim
theorem cutT_ext {h l e b : Nat} {x : T} (q : ¬(b = 0 ∧ e + 1 = h - l + 1)) : cutT (.ext h l x) e b = cutT x (l + e) (l + b) := by
  rw [cutT, if_neg q, Nat.add_comm e, Nat.add_comm b]
theorem cutT_cutT : ∀ {x : T} {h l e b : Nat}, x.ok → l ≤ h → h < x.wd → b ≤ e → e ≤ h - l → cutT (cutT x h l) e b = cutT x (l + e) (l + b) := by
  intro x
  induction x with
  | nil | tt | ff | bit | neg => intro h l e b o; exact o.elim
  | leaf k w =>
    intro h l e b o h1 h2 h3 h4
    by_cases q1 : l = 0 ∧ h + 1 = (T.leaf k w).wd
    · rw [cutT_all o q1, q1.1, Nat.zero_add, Nat.zero_add]
    · by_cases q2 : b = 0 ∧ e + 1 = h + 1 - l
      · rw [cutT_all (ok_cutT o h1 h2).1 (by rw [(ok_cutT o h1 h2).2]; exact q2), ← (ar_e1 q2 h1).1, ← (ar_e1 q2 h1).2]
      · rw [show cutT (.leaf k w) h l = .ext h l (.leaf k w) from if_neg q1]
        exact cutT_ext (ar_nq h1 q2)
  | num v w =>
    intro h l e b o h1 h2 h3 h4
    by_cases q1 : l = 0 ∧ h + 1 = (T.num v w).wd
    · rw [cutT_all o q1, q1.1, Nat.zero_add, Nat.zero_add]
    · by_cases q2 : b = 0 ∧ e + 1 = h + 1 - l
      · rw [cutT_all (ok_cutT o h1 h2).1 (by rw [(ok_cutT o h1 h2).2]; exact q2), ← (ar_e1 q2 h1).1, ← (ar_e1 q2 h1).2]
      · simp only [wd] at *
        rw [show cutT (.num v w) h l = .num (v / 2 ^ l % 2 ^ (h - l + 1)) (h - l + 1) from if_neg q1, show cutT (.num v w) (l + e) (l + b) = .num (v / 2 ^ (l + b) % 2 ^ (l + e - (l + b) + 1)) (l + e - (l + b) + 1) from if_neg (ar_nf h1 h2 h4 q1)]
        rw [cutT, if_neg (ar_nq h1 q2), ar_ll]
        congr 1
        refine Nat.eq_of_testBit_eq fun k => ?_
        rw [bit_tb, bit_tb]
        by_cases r : k < e - b + 1
        · rw [bit_mod r, bit_mod r, Nat.div_div_eq_div_mul, ← Nat.pow_add, bit_mod (ar_bk r h3 h4), Nat.div_div_eq_div_mul, ← Nat.pow_add, Nat.div_div_eq_div_mul, ← Nat.pow_add]
          rw [Nat.add_assoc]
        · rw [bit_high (Nat.mod_lt _ (Nat.two_pow_pos _)) (Nat.le_of_not_lt r), bit_high (Nat.mod_lt _ (Nat.two_pow_pos _)) (Nat.le_of_not_lt r)]
  | bnot x ih =>
    intro h l e b o h1 h2 h3 h4
    by_cases q1 : l = 0 ∧ h + 1 = (T.bnot x).wd
    · rw [cutT_all o q1, q1.1, Nat.zero_add, Nat.zero_add]
    · simp only [wd] at *
      have ok := ok_cutT o.1 h1 h2
      rw [show cutT (.bnot x) h l = notT (cutT x h l) from if_neg q1, show cutT (.bnot x) (l + e) (l + b) = notT (cutT x (l + e) (l + b)) from if_neg (ar_nf h1 h2 h4 q1)]
      rw [cutT_notT ok.1 h3 (ok.2 ▸ ar_lt2 h1 h4), ih o.1 h1 h2 h3 h4]
  | ext h' l' x ih =>
    intro h l e b o h1 h2 h3 h4
    by_cases q1 : l = 0 ∧ h + 1 = (T.ext h' l' x).wd
    · rw [cutT_all o q1, q1.1, Nat.zero_add, Nat.zero_add]
    · simp only [wd] at *
      obtain ⟨o1, o2, o3⟩ := o
      rw [show cutT (.ext h' l' x) h l = cutT x (h + l') (l + l') from if_neg q1, show cutT (.ext h' l' x) (l + e) (l + b) = cutT x (l + e + l') (l + b + l') from if_neg (ar_nf h1 h2 h4 q1)]
      rw [ih o3 (Nat.add_le_add_right h1 l') (ar_hl o1 h2 o2) h3 (Nat.add_sub_add_right h l' l ▸ h4), Nat.add_right_comm l e, Nat.add_right_comm l b]
  | cat x y ihx ihy =>
    intro h l e b o h1 h2 h3 h4
    by_cases q1 : l = 0 ∧ h + 1 = (T.cat x y).wd
    · rw [cutT_all o q1, q1.1, Nat.zero_add, Nat.zero_add]
    · by_cases q2 : b = 0 ∧ e + 1 = h + 1 - l
      · rw [cutT_all (ok_cutT o h1 h2).1 (by rw [(ok_cutT o h1 h2).2]; exact q2), ← (ar_e1 q2 h1).1, ← (ar_e1 q2 h1).2]
      · simp only [wd] at *
        obtain ⟨o1, o2, o3⟩ := o
        have E : ∀ h l, ¬(l = 0 ∧ h + 1 = x.wd + y.wd) → cutT (.cat x y) h l = if h < y.wd then cutT y h l else if y.wd ≤ l then cutT x (h - y.wd) (l - y.wd) else .ext h l (.cat x y) := fun h l q => if_neg q
        rw [E h l q1]
        by_cases r : h < y.wd
        · rw [if_pos r, ihy o2 h1 r h3 h4, E _ _ (ar_nf h1 h2 h4 q1), if_pos (Nat.lt_of_le_of_lt (ar_le2 h1 h4) r)]
        · rw [if_neg r]
          by_cases r' : y.wd ≤ l
          · rw [if_pos r', ihx o1 (ar_le h1) (ar_subl (Nat.le_of_not_lt r) h2) h3 (Nat.sub_sub_sub_cancel_right r' ▸ h4), E _ _ (ar_nf h1 h2 h4 q1), if_neg (ar_nlt' r'), if_pos (Nat.le_trans r' (Nat.le_add_right l b)), Nat.sub_add_comm r', Nat.sub_add_comm r']
          · rw [if_neg r']; exact cutT_ext (ar_nq h1 q2)
  | zx m x ih =>
    intro h l e b o h1 h2 h3 h4
    by_cases q1 : l = 0 ∧ h + 1 = (T.zx m x).wd
    · rw [cutT_all o q1, q1.1, Nat.zero_add, Nat.zero_add]
    · by_cases q2 : b = 0 ∧ e + 1 = h + 1 - l
      · rw [cutT_all (ok_cutT o h1 h2).1 (by rw [(ok_cutT o h1 h2).2]; exact q2), ← (ar_e1 q2 h1).1, ← (ar_e1 q2 h1).2]
      · simp only [wd] at *
        obtain ⟨o1, o2, o3⟩ := o
        have E : ∀ h l, ¬(l = 0 ∧ h + 1 = x.wd + m) → cutT (.zx m x) h l = if h < x.wd then cutT x h l else if x.wd ≤ l then .num 0 (h - l + 1) else .ext h l (.zx m x) := fun h l q => if_neg q
        rw [E h l q1]
        by_cases r : h < x.wd
        · rw [if_pos r, ih o2 h1 r h3 h4, E _ _ (ar_nf h1 h2 h4 q1), if_pos (Nat.lt_of_le_of_lt (ar_le2 h1 h4) r)]
        · rw [if_neg r]
          by_cases r' : x.wd ≤ l
          · rw [if_pos r', E _ _ (ar_nf h1 h2 h4 q1), if_neg (ar_nlt' r'), if_pos (Nat.le_trans r' (Nat.le_add_right l b)), cutT, if_neg (ar_nq h1 q2), Nat.zero_div, Nat.zero_mod, ar_ll]
          · rw [if_neg r']; exact cutT_ext (ar_nq h1 q2)
  | sx m x ih =>
    intro h l e b o h1 h2 h3 h4
    by_cases q1 : l = 0 ∧ h + 1 = (T.sx m x).wd
    · rw [cutT_all o q1, q1.1, Nat.zero_add, Nat.zero_add]
    · by_cases q2 : b = 0 ∧ e + 1 = h + 1 - l
      · rw [cutT_all (ok_cutT o h1 h2).1 (by rw [(ok_cutT o h1 h2).2]; exact q2), ← (ar_e1 q2 h1).1, ← (ar_e1 q2 h1).2]
      · simp only [wd] at *
        obtain ⟨o1, o2, o3⟩ := o
        have E : ∀ h l, ¬(l = 0 ∧ h + 1 = x.wd + m) → cutT (.sx m x) h l = if h < x.wd then cutT x h l else .ext h l (.sx m x) := fun h l q => if_neg q
        rw [E h l q1]
        by_cases r : h < x.wd
        · rw [if_pos r, ih o2 h1 r h3 h4, E _ _ (ar_nf h1 h2 h4 q1), if_pos (Nat.lt_of_le_of_lt (ar_le2 h1 h4) r)]
        · rw [if_neg r]; exact cutT_ext (ar_nq h1 q2)
theorem widerT_widerT {a b : Nat} {x : T} : widerT b (widerT a x) = widerT (a + b) x := by
  by_cases ha : a = 0
  · subst ha; rw [Nat.zero_add]; congr 1
  · by_cases hb : b = 0
    · subst hb; rfl
    · cases x <;> simp only [widerT, if_neg ha, if_neg hb, if_neg (show ¬a + b = 0 by lia), Nat.add_assoc, Nat.add_comm, Nat.add_left_comm]
theorem sext_sext {v w a b : Nat} (hw : 1 ≤ w) (hv : v < 2 ^ w) : sext (sext v w a) (w + a) b = sext v w (a + b) := by
  have h1 : sext v w a < 2 ^ (w + a) := sext_lt hw hv
  have h2 := sext_lt (m := b) (Nat.le_trans hw (Nat.le_add_right w a)) h1
  have h3 : sext v w (a + b) < 2 ^ (w + (a + b)) := sext_lt hw hv
  refine Nat.eq_of_testBit_eq fun k => ?_
  rw [bit_tb, bit_tb]
  by_cases r : k < w + (a + b)
  · have wa : 1 ≤ w + a := Nat.le_trans hw (Nat.le_add_right w a)
    rw [bit_ext wa h1 (Nat.add_assoc w a b ▸ r), bit_ext hw hv r, bit_ext hw hv (ar_minlt wa), ar_min1]
  · rw [bit_high h2 (Nat.add_assoc w a b ▸ Nat.le_of_not_lt r), bit_high h3 (Nat.le_of_not_lt r)]
theorem sxT_sxT {a b : Nat} {x : T} (o : x.ok) : sxT b (sxT a x) = sxT (a + b) x := by
  by_cases ha : a = 0
  · subst ha; rw [Nat.zero_add]; congr 1
  · by_cases hb : b = 0
    · subst hb; rfl
    · cases x <;> simp only [sxT, if_neg ha, if_neg hb, if_neg (show ¬a + b = 0 by lia)]
      case num v w => rw [sext_sext o.1 o.2.2, Nat.add_assoc]
      all_goals first | done | (congr 1; lia)
/- what the law says of a term -/
noncomputable def bitsOf (x : T) : List Bit := (List.range x.wd).map x.readT
theorem bitsOf_length (x : T) : (bitsOf x).length = x.wd := by simp [bitsOf]
theorem bitsOf_get {x : T} {i : Nat} (h : i < (bitsOf x).length) : (bitsOf x)[i] = readT x i := by simp [bitsOf]
theorem bits_ext {x : T} {l : List Bit} (h : l.length = x.wd) (g : ∀ i (hi : i < l.length), l[i] = readT x i) : bitsOf x = l := by
  refine List.ext_getElem (by rw [bitsOf_length, h]) fun i h1 h2 => ?_
  rw [bitsOf_get, g]
theorem bits_cut {w0 w1 : Nat} {x : T} {h l : Nat} (o : x.ok) (lv : x.lv w0 w1) (a : l ≤ h) (b : h < x.wd) : bitsOf (cutT x h l) = ((bitsOf x).drop l).take (h + 1 - l) := by
  have ok := ok_cutT o a b
  refine bits_ext (by rw [List.length_take, List.length_drop, bitsOf_length, ok.2, ar_min2 a b]) fun i hi => ?_
  rw [List.length_take, List.length_drop, bitsOf_length, ar_min2 a b] at hi
  rw [List.getElem_take, List.getElem_drop, bitsOf_get, readT_cutT o lv a b hi, Nat.add_comm]
theorem bits_not {w0 w1 : Nat} {x : T} (o : x.ok) (lv : x.lv w0 w1) : bitsOf (notT x) = (bitsOf x).map Bit.flip := by
  refine bits_ext (by rw [List.length_map, bitsOf_length, (ok_notT o).2]) fun i hi => ?_
  rw [List.length_map, bitsOf_length] at hi
  rw [List.getElem_map, bitsOf_get, readT_notT o lv hi]
theorem bits_put {w0 w1 : Nat} {x y : T} (ox : x.ok) (oy : y.ok) (lx : x.lv w0 w1) (ly : y.lv w0 w1) (b : x.wd + y.wd ≤ 30) : bitsOf (putT x y) = bitsOf y ++ bitsOf x := by
  have ok := ok_putT ox oy b
  refine bits_ext (by rw [List.length_append, bitsOf_length, bitsOf_length, ok.2, Nat.add_comm]) fun i hi => ?_
  rw [List.length_append, bitsOf_length, bitsOf_length] at hi
  rw [readT_putT ox oy lx ly (Nat.add_comm _ _ ▸ hi), List.getElem_append]
  simp only [bitsOf_length, bitsOf_get]; rfl
theorem bits_wider {m : Nat} {x : T} (o : x.ok) (b : x.wd + m ≤ 30) : bitsOf (widerT m x) = bitsOf x ++ List.replicate m ⟨2, 0, false⟩ := by
  have ok := ok_widerT o b
  refine bits_ext (by rw [List.length_append, bitsOf_length, List.length_replicate, ok.2]) fun i hi => ?_
  rw [List.length_append, bitsOf_length, List.length_replicate] at hi
  rw [readT_widerT o hi, List.getElem_append]
  simp only [bitsOf_length, bitsOf_get, List.getElem_replicate]; rfl
theorem bits_sx {m : Nat} {x : T} (o : x.ok) (b : x.wd + m ≤ 30) : bitsOf (sxT m x) = bitsOf x ++ List.replicate m (readT x (x.wd - 1)) := by
  have ok := ok_sxT o b
  have hw := ok_wd o
  refine bits_ext (by rw [List.length_append, bitsOf_length, List.length_replicate, ok.2]) fun i hi => ?_
  rw [List.length_append, bitsOf_length, List.length_replicate] at hi
  rw [readT_sxT o hi, List.getElem_append]
  split
  next q => rw [bitsOf_length] at q; rw [bitsOf_get, Nat.min_eq_left (Nat.le_sub_one_of_lt q)]
  next q => rw [bitsOf_length] at q; rw [List.getElem_replicate, Nat.min_eq_right (ar_pred hw.1 q)]
end T
end
section
section
variable {So : Sc} {Y : Cx} {w : World} {A : Ba} {c : Bc} {ko : Option Mk} {X st st' : Led} {σ : St} {V : Lv} {bt : Bit} {v : Value} {n k9 tk0 : Nat} {τ : T} {u tk : Tok} {κ : KO Value}
theorem sub_lv_v (hV : LvIs V σ st') (hs : Gr st' st) (hk : k9 < 2) (ret : ∀ t, κ (.int ((if k9 = 0 then V.n0 else V.n1 : Nat) : Int) t) ⟨c, X⟩ st tk0) : Sub ⟨So, Y, w, A, ko, true⟩ (.ref V.a) (.int (k9 : Nat) u) ⟨c, X⟩ st tk0 κ :=
  ⟨fun ve ie ho => ⟨fun h₁ m q F N l => lv_item N.1 hV hs hk (fun t => l _ h₁ _ _ _ F N (ret t)) (ho _ _ _)⟩⟩
theorem read_old {mean : ExcName → Option Value} {mg mb : Str → Option Value} {dp un : Nat} {gd : Option (List Code)} {cn : Str} {cs : Scope} {a L : Addr} {ccd : Value} {cl : List (Str × Addr)} {outer : List Env} {A₀ : Around} {base h₀ : Heap} {m : Str → Option Value} {s : Shared} {Q E : Value → Shared → Prop} {x : T} {i : Nat} {j : Int} {tk1 : Tok}
    (B : Below A₀ base outer h₀) (F : Fr h₀ L s.heap m) (K : (Mine.hd.heap_39 w.params).In h₀) (N : News h₀ L s.heap (M w A c ++ (X ++ st))) (TT : TopL mean mg mb h₀) (hk : cs.kind = .function) (hd : dp + (12 + 2 * x.dep) < recursionLimit) (hu : un + 16 * (12 + 2 * x.dep) < cLine)
    (R : Rep w A c X st σ) (ha : At σ n x) (hV : LvIs V σ st) (ho : x.ok) (hv : x.lv V.w0 V.w1) (hj : j = (i : Nat)) (hi : i < x.wd)
    (ret : ∀ v st' h' tk', Fr h₀ L h' m → News h₀ L h' (M w A c ++ (X ++ st')) → (∀ p ∈ st, p ∈ st') → Rep w A c X st' σ → DatIn st' v (x.readT i).d → Q v { s with heap := h', toks := tk' }) :
    wpAny (model pw w) (ktrTop dp un gd cn cs L a ccd cl outer) (call (.ref 1067) [.ref A.b, .ref V.a, .int n tk, .int j tk1]) Q E s :=
  of_stp (ko := none) B F K N TT hk hd hu trivial (κ := fun v e st' _ => e = ⟨c, X⟩ ∧ Gr st st' ∧ Rep w A c X st' σ ∧ DatIn st' v (x.readT i).d) (fun Y s => read_all w V x i s R ha hV ho hv hj hi fun v st' tk' g R' D' => ⟨rfl, g, R', D'⟩)
    fun v c' X' st' h' tk' hq F' N' => by
      obtain ⟨e, g, R', D'⟩ := hq
      cases e
      exact ret v st' h' tk' F' N' g R' D'
end
theorem kr_vtruth : True := by
  k_with_none
  k_with "cn" => first
    | (with_reducible refine Cnd.neg (by first | assumption | exact rfl) ?_) | (with_reducible refine Cnd.pos (by first | assumption | exact rfl) ?_)
    | (refine Cnd.neg (by kernel_rfl!) ?_) | (refine Cnd.pos (by kernel_rfl!) ?_)
    | (refine Cnd.pos (by (first | (simp only [bne_self_eq_false, beq_self_eq_true, beq_iff_eq, bne_iff_ne, ne_eq, beq_eq_false_iff_ne, decide_eq_true_eq, decide_eq_false_iff_not, Bool.not_eq_true', Bool.not_eq_false', Bool.not_true, Bool.not_false, Option.isSome_some, Option.isSome_none, not_false_eq_true, Bool.false_eq_true, reduceCtorEq, eq_self]; done) | ((try simp only [bne_self_eq_false, beq_self_eq_true, beq_iff_eq, bne_iff_ne, ne_eq, beq_eq_false_iff_ne, decide_eq_true_eq, decide_eq_false_iff_not, Bool.not_eq_true', Bool.not_eq_false', Bool.not_true, Bool.not_false, Option.isSome_some, Option.isSome_none, not_false_eq_true, Bool.false_eq_true, reduceCtorEq, eq_self]); first | with_reducible assumption | (law_purse 20000 => omega)))) ?_) | (refine Cnd.neg (by (first | (simp only [bne_self_eq_false, beq_self_eq_true, beq_iff_eq, bne_iff_ne, ne_eq, beq_eq_false_iff_ne, decide_eq_true_eq, decide_eq_false_iff_not, Bool.not_eq_true', Bool.not_eq_false', Bool.not_true, Bool.not_false, Option.isSome_some, Option.isSome_none, not_false_eq_true, Bool.false_eq_true, reduceCtorEq, eq_self]; done) | ((try simp only [bne_self_eq_false, beq_self_eq_true, beq_iff_eq, bne_iff_ne, ne_eq, beq_eq_false_iff_ne, decide_eq_true_eq, decide_eq_false_iff_not, Bool.not_eq_true', Bool.not_eq_false', Bool.not_true, Bool.not_false, Option.isSome_some, Option.isSome_none, not_false_eq_true, Bool.false_eq_true, reduceCtorEq, eq_self]); first | with_reducible assumption | (law_purse 20000 => omega)))) ?_)
  k_with "cj" => first
    | (with_reducible refine Conj.no (by first | assumption | exact rfl) ?_) | (with_reducible refine Conj.yes (by first | assumption | exact rfl) ?_)
    | (refine Conj.no (by kernel_rfl!) ?_) | (refine Conj.yes (by kernel_rfl!) ?_)
    | (refine Conj.yes (by (first | (simp only [bne_self_eq_false, beq_self_eq_true, beq_iff_eq, bne_iff_ne, ne_eq, beq_eq_false_iff_ne, decide_eq_true_eq, decide_eq_false_iff_not, Bool.not_eq_true', Bool.not_eq_false', Bool.not_true, Bool.not_false, Option.isSome_some, Option.isSome_none, not_false_eq_true, Bool.false_eq_true, reduceCtorEq, eq_self]; done) | ((try simp only [bne_self_eq_false, beq_self_eq_true, beq_iff_eq, bne_iff_ne, ne_eq, beq_eq_false_iff_ne, decide_eq_true_eq, decide_eq_false_iff_not, Bool.not_eq_true', Bool.not_eq_false', Bool.not_true, Bool.not_false, Option.isSome_some, Option.isSome_none, not_false_eq_true, Bool.false_eq_true, reduceCtorEq, eq_self]); first | with_reducible assumption | (law_purse 20000 => omega)))) ?_) | (refine Conj.no (by (first | (simp only [bne_self_eq_false, beq_self_eq_true, beq_iff_eq, bne_iff_ne, ne_eq, beq_eq_false_iff_ne, decide_eq_true_eq, decide_eq_false_iff_not, Bool.not_eq_true', Bool.not_eq_false', Bool.not_true, Bool.not_false, Option.isSome_some, Option.isSome_none, not_false_eq_true, Bool.false_eq_true, reduceCtorEq, eq_self]; done) | ((try simp only [bne_self_eq_false, beq_self_eq_true, beq_iff_eq, bne_iff_ne, ne_eq, beq_eq_false_iff_ne, decide_eq_true_eq, decide_eq_false_iff_not, Bool.not_eq_true', Bool.not_eq_false', Bool.not_true, Bool.not_false, Option.isSome_some, Option.isSome_none, not_false_eq_true, Bool.false_eq_true, reduceCtorEq, eq_self]); first | with_reducible assumption | (law_purse 20000 => omega)))) ?_)
  k_with "up" => (intro p9 h9; repeat' (first | exact h9 | refine List.mem_cons_of_mem _ ?_ | refine (show ∀ p ∈ _, p ∈ _ by assumption) _ ?_))
  k_with "vm1" => first
    | (refine (?_ : Stp _ _ _ _ _ _); k_extra "st")
    | (refine (?_ : Cnd _ _ _); k_extra "cn")
    | (refine (?_ : Conj _ _ _ _ _ _ _ _); k_extra "cj")
    | (refine (?_ : Sub _ _ _ _ _ _ _); k_extra "sb")
    | (refine (?_ : Tp _ _ _ _ _ _); refine' tp_v ?R ?_; (case R => assumption); intro b9 R9)
    | k_extra "vm9" 
  k_with "sb" => (refine' sub_v ?hd ?hx ?_; (case hd => first | assumption | exact datUp (by assumption) (by k_extra "up")); (case hx => exact rfl); intro t9)
  k_with "vm" => (repeat' (k_extra "vm1"))
  k_with "st" => ((with_reducible refine' op_use_v ?s ?R ?ha ?_); (case s => exact Std.le (by assumption) (by lia)); (case R => assumption); (case ha => first | assumption | exact at_ix (by assumption) | exact Ext.at (by assumption) (by first | assumption | exact at_ix (by assumption)));  intro t9 tk9)
  k_with "st" => ((with_reducible refine' args_use_v ?s ?R ?ha ?_); (case s => exact Std.le (by assumption) (by lia)); (case R => assumption); (case ha => first | assumption | exact at_ix (by assumption) | exact Ext.at (by assumption) (by first | assumption | exact at_ix (by assumption)));  intro v9 D9 tk9)
  k_with "st" => ((with_reducible refine' width_use_v ?s ?R ?ha ?_); (case s => exact Std.le (by assumption) (by lia)); (case R => assumption); (case ha => first | assumption | exact at_ix (by assumption) | exact Ext.at (by assumption) (by first | assumption | exact at_ix (by assumption)));  intro t9 tk9)
  k_with "st" => ((with_reducible refine' sort_use_v ?s ?R ?ha ?_); (case s => exact Std.le (by assumption) (by lia)); (case R => assumption); (case ha => first | assumption | exact at_ix (by assumption) | exact Ext.at (by assumption) (by first | assumption | exact at_ix (by assumption)));  intro t9 tk9)
  k_with "st" => ((with_reducible refine' data_pair_v ?s ?R ?ha ?hi ?_); (case s => exact Std.le (by assumption) (by lia)); (case R => assumption); (case ha => first | assumption | exact at_ix (by assumption) | exact Ext.at (by assumption) (by first | assumption | exact at_ix (by assumption))); (case hi => exact rfl);  intro v9 D9 tk9)
  k_with "st" => ((with_reducible refine' data_int_v ?s ?R ?ha ?hi ?_); (case s => exact Std.le (by assumption) (by lia)); (case R => assumption); (case ha => first | assumption | exact at_ix (by assumption) | exact Ext.at (by assumption) (by first | assumption | exact at_ix (by assumption))); (case hi => exact rfl);  intro t9 tk9)
  k_with "st" => ((with_reducible refine' bool_term_use_v ?s  ?_); (case s => exact Std.le (by assumption) (by lia));  intro t9 tk9)
  k_with "sb" => ((with_reducible refine' sub_lv_v ?qa ?qb ?qc ?_); (case qa => assumption); (case qb => first | assumption | exact fun p h => h | k_extra "up"); (case qc => assumption); intro t9)
  k_with "st" => ((with_reducible refine' bit_use_v ?s ?R ?ha ?hw ?hr ?hm ?_); (case s => exact Std.le (by assumption) (by lia)); (case R => assumption); (case ha => first | assumption | exact at_ix (by assumption) | exact Ext.at (by assumption) (by first | assumption | exact at_ix (by assumption))); (case hw => first | assumption | lia); (case hr => first | assumption | lia); (case hm => first | assumption | lia);  intro n9 t9 c9 st9 σ9 tk9 hs9 R9 X9 A9; have l9 := Ext.len X9)
  k_with "st" => ((with_reducible refine' not_use_v ?s ?R ?ha ?hB ?hr ?_); (case s => exact Std.le (by assumption) (by lia)); (case R => assumption); (case ha => first | assumption | exact at_ix (by assumption) | exact Ext.at (by assumption) (by first | assumption | exact at_ix (by assumption))); (case hB => assumption); (case hr => first | assumption | lia);  intro n9 t9 c9 st9 σ9 tk9 hs9 R9 X9 A9; have l9 := Ext.len X9)
  trivial
section
variable {So : Sc} {Y : Cx} {w : World} {A : Ba} {c : Bc} {ko : Option Mk} {X st st' : Led} {σ : St} {V : Lv} {bt : Bit} {v : Value} {n k9 tk0 : Nat} {τ : T} {u tk : Tok} {κ : KO Value}
theorem truth_v (s : Std ⟨So, Y, w, A, ko, true⟩ 8) (R : Rep w A c X st σ) (hV : LvIs V σ st) (hb : DatIn st v bt.d) (ho : bt.ok) (hp : bt.who ≠ 2 → bt.place < if bt.who = 0 then V.w0 else V.w1) (hr : σ.ts.length + 2 ≤ 2 ^ 20)
    (ret : ∀ n' t c' st' σ' tk', Gr st st' → Rep w A c' X st' σ' → Ext σ σ' 2 → At σ' n' (bt.truth V) → κ (.int (n' : Nat) t) ⟨c', X⟩ st' tk') :
    Stp ⟨So, Y, w, A, ko, true⟩ ⟨c, X⟩ st tk0 (call (.ref 1079) [.ref A.b, .ref V.a, v]) κ := by
  obtain ⟨t0, n9, t1, t2, rfl, hm⟩ := bit_in hb
  have hn0 := R.lt hV.1
  have hn1 := R.lt hV.2.1
  refine def_law_truth.enter s (D' := 7) (by lia) rfl ⟨rfl, trivial⟩ rfl (by decide) fun Y2 s2 fin => ?_
  refine (?_ : Unp3 _ _ _ _ _)
  refine ⟨⟨_, _, _, _, _, rfl, List.mem_append_right _ (List.mem_append_right _ hm), fun h e => ⟨_, e, rfl, _, rfl⟩, ?_⟩⟩
  by_cases hw : bt.who = 2
  · have hw' : ((bt.who : Nat) : Int) = 2 := by omega
    k_extra "vm"
    by_cases hp : bt.place = 1
    · have et : bt.truth V = .tt := by unfold Bit.truth; rw [if_pos hw, if_pos hp]
      rw [et] at ret
      have hp' : (((bt.place : Nat) : Int) == 1) = true := by rw [beq_iff_eq]; omega
      refine (?_ : Fin _ _ _ _ _)
      rw [hp', if_pos rfl]
      exact fin _ _ _ _ (ret 1 _ _ _ σ _ (fun _ h => h) (by assumption) (Ext.refl _ _) R.ok.n1)
    · have et : bt.truth V = .ff := by unfold Bit.truth; rw [if_pos hw, if_neg hp]
      rw [et] at ret
      have hp' : (((bt.place : Nat) : Int) == 1) = false := by rw [beq_eq_false_iff_ne]; omega
      refine (?_ : Fin _ _ _ _ _)
      rw [hp', if_neg Bool.false_ne_true]
      exact fin _ _ _ _ (ret 2 _ _ _ σ _ (fun _ h => h) (by assumption) (Ext.refl _ _) R.ok.n2)
  · have hw2 : bt.who < 2 := by have := ho.1; omega
    have hp := hp hw
    obtain ⟨lf, hl, hlw, et⟩ : ∃ lf : T, At σ (if bt.who = 0 then V.n0 else V.n1) lf ∧ bt.place < lf.wd ∧ bt.truth V = if bt.turned then .neg (.bit bt.place lf) else .bit bt.place lf := by
      refine ⟨if bt.who = 0 then .leaf 0 V.w0 else .leaf 1 V.w1, ?_, ?_, ?_⟩
      · split; exact hV.1; exact hV.2.1
      · split <;> rename_i q <;> (simp only [q, if_true, if_false] at hp; exact hp)
      · unfold Bit.truth; rw [if_neg hw]
    have hlw0 : 0 < lf.wd := by omega
    rw [et] at ret
    cases hu2 : bt.turned
    · simp only [hu2, Bool.false_eq_true, if_false] at ret
      k_extra "vm"
      exact fin _ _ _ _ (ret _ _ _ _ _ _ (by k_extra "up") (by assumption) (Ext.le (by assumption) (by lia)) (by assumption))
    · simp only [hu2, if_true] at ret
      have hB : (T.bit bt.place lf).isB = true := rfl
      k_extra "vm"
      exact fin _ _ _ _ (ret _ _ _ _ _ _ (by k_extra "up") (by assumption) (Ext.trans (show Ext σ _ 1 by assumption) (by assumption)) (by assumption))
end
end
section
theorem kr_Comp1 : True := by
  k_with_none
  trivial
open PySem.Spec PyProof.Rows.LCg PyProof.Rows.LCt
section
variable {w : World} {Ar : Around} {E : Value → Shared → Prop} {s : Shared} {h₀ : Heap} {L : Addr} {m : Str → Option Value} {env : Env} {A : Ba} {c c' : Bc} {X st : List (Addr × Obj)} {σ : St} {V : Lv}
abbrev X3 (I : Addr) (oI : Obj) (C : Addr) (oC : Obj) (D : Addr) (ys : List Value) (X : List (Addr × Obj)) : List (Addr × Obj) := (I, oI) :: (C, oC) :: (D, lst ys) :: X
theorem into3 {h : Heap} {I C D : Addr} {oI oC : Obj} {ys : List Value} (N : News h₀ L h ((I, oI) :: (C, oC) :: (D, lst ys) :: (M w A c ++ (X ++ st)))) : News h₀ L h (M w A c ++ (X3 I oI C oC D ys X ++ st)) :=
  news_sub N fun p hp => by
    simp only [List.mem_append, List.mem_cons] at hp ⊢
    rcases hp with hp | (hp | hp | hp | hp) | hp
    · exact .inr (.inr (.inr (.inl hp)))
    · exact .inl hp
    · exact .inr (.inl hp)
    · exact .inr (.inr (.inl hp))
    · exact .inr (.inr (.inr (.inr (.inl hp))))
    · exact .inr (.inr (.inr (.inr (.inr hp))))
theorem outof3 {h : Heap} {I C D : Addr} {oI oC : Obj} {ys : List Value} (N : News h₀ L h (M w A c ++ (X3 I oI C oC D ys X ++ st))) : News h₀ L h ((I, oI) :: (C, oC) :: (D, lst ys) :: (M w A c ++ (X ++ st))) :=
  news_sub N fun p hp => by
    simp only [List.mem_append, List.mem_cons] at hp ⊢
    rcases hp with hp | hp | hp | hp | hp | hp
    · exact .inr (.inl (.inl hp))
    · exact .inr (.inl (.inr (.inl hp)))
    · exact .inr (.inl (.inr (.inr (.inl hp))))
    · exact .inl hp
    · exact .inr (.inl (.inr (.inr (.inr hp))))
    · exact .inr (.inr hp)
theorem Rep.in3 {I C D : Addr} {oI oC : Obj} {ys : List Value} (R : Rep w A c' X st σ) (o : Off3 I C D (M w A c ++ (X ++ st))) : Rep w A c' (X3 I oI C oC D ys X) st σ := by
  have o := o.mem
  refine R.offX (fun p hp q => ?_) fun p hp q => ?_
  · rcases List.mem_cons.mp hp with rfl | hp
    · rw [← M_addrs w A c] at q; obtain ⟨r, hr, e⟩ := List.mem_map.mp q; exact (o r (List.mem_append_left _ hr)).1 e
    rcases List.mem_cons.mp hp with rfl | hp
    · rw [← M_addrs w A c] at q; obtain ⟨r, hr, e⟩ := List.mem_map.mp q; exact (o r (List.mem_append_left _ hr)).2.1 e
    rcases List.mem_cons.mp hp with rfl | hp
    · rw [← M_addrs w A c] at q; obtain ⟨r, hr, e⟩ := List.mem_map.mp q; exact (o r (List.mem_append_left _ hr)).2.2 e
    · exact R.off p (List.mem_append_left _ hp) q
  · have z := o p (List.mem_append_right _ (List.mem_append_right _ hp))
    simp only [List.map_cons, List.mem_cons] at q
    rcases q with q | q | q | q
    · exact z.1 q
    · exact z.2.1 q
    · exact z.2.2 q
    · exact R.sep p hp q
theorem Rep.out3 {I C D : Addr} {oI oC : Obj} {ys : List Value} (R : Rep w A c' (X3 I oI C oC D ys X) st σ) : Rep w A c' X st σ :=
  R.offX (fun p hp => R.off p (List.mem_append_left _ (.tail _ (.tail _ (.tail _ hp))))) fun p hp q => R.sep p hp (.tail _ (.tail _ (.tail _ q)))
theorem Rep.off3 {I C D : Addr} {oI oC : Obj} {ys : List Value} {st' : List (Addr × Obj)} (R : Rep w A c' (X3 I oI C oC D ys X) st' σ) (o : Off3 I C D (M w A c ++ (X ++ st))) : Off3 I C D (M w A c' ++ (X ++ st')) := by
  have o := o.mem
  refine Off3.of fun p hp => ?_
  rcases List.mem_append.mp hp with hp | hp
  · have : p.1 ∈ (M w A c).map (·.1) := by rw [M_addrs, ← M_addrs w A c']; exact List.mem_map_of_mem hp
    obtain ⟨r, hr, e⟩ := List.mem_map.mp this
    have z := o r (List.mem_append_left _ hr)
    rw [e] at z; exact z
  · rcases List.mem_append.mp hp with hp | hp
    · exact o p (List.mem_append_right _ (List.mem_append_left _ hp))
    · have z := R.sep p hp
      exact ⟨fun q => z (q ▸ .head _), fun q => z (q ▸ .tail _ (.head _)), fun q => z (q ▸ .tail _ (.tail _ (.head _)))⟩
theorem fin3 {h : Heap} {D : Addr} {ys : List Value} (N : News h₀ L h ((D, lst ys) :: (M w A c ++ (X ++ st)))) (o : Off1 D (M w A c ++ (X ++ st))) (R : Rep w A c' X st σ) : News h₀ L h (M w A c ++ (X ++ ((D, lst ys) :: st))) ∧ Rep w A c' X ((D, lst ys) :: st) σ := by
  have o' : ∀ p ∈ M w A c ++ (X ++ st), p.1 ≠ D := by
    clear N R
    generalize M w A c ++ (X ++ st) = l at o
    induction l with
    | nil => intro p hp; cases hp
    | cons q l ih =>
      intro p hp
      rcases List.mem_cons.mp hp with rfl | hp
      · exact o.1
      · exact ih o.2 p hp
  refine ⟨news_sub N fun p hp => ?_, R.cons (fun q => ?_) fun q => ?_⟩
  · simp only [List.mem_append, List.mem_cons] at hp ⊢
    rcases hp with hp | hp | hp | hp
    · exact .inr (.inl hp)
    · exact .inr (.inr (.inl hp))
    · exact .inl hp
    · exact .inr (.inr (.inr hp))
  · rw [← M_addrs w A c] at q; obtain ⟨r, hr, e⟩ := List.mem_map.mp q; exact o' r (List.mem_append_left _ hr) e
  · obtain ⟨r, hr, e⟩ := List.mem_map.mp q; exact o' r (List.mem_append_right _ (List.mem_append_left _ hr)) e
noncomputable def Post1 (w : World) (h₀ : Heap) (L : Addr) (m : Str → Option Value) (A : Ba) (c : Bc) (X st : List (Addr × Obj)) (σ : St) (d : Dat) (s : Shared) (y : Value) (s' : Shared) : Prop :=
  ∃ st' h' tk', s' = { s with heap := h', toks := tk' } ∧ Fr h₀ L h' m ∧ News h₀ L h' (M w A c ++ (X ++ st')) ∧ (∀ p ∈ st, p ∈ st') ∧ Rep w A c X st' σ ∧ DatIn st' y d
theorem Post1.mk {d : Dat} {y : Value} {st' : List (Addr × Obj)} {h' : Heap} {tk' : Nat} (F : Fr h₀ L h' m) (N : News h₀ L h' (M w A c ++ (X ++ st'))) (hs : ∀ p ∈ st, p ∈ st') (R : Rep w A c X st' σ) (D : DatIn st' y d) : Post1 w h₀ L m A c X st σ d s y { s with heap := h', toks := tk' } := ⟨st', h', tk', rfl, F, N, hs, R, D⟩
theorem rest_read {elt : PySem.Expr} {xn : Str} {scope : Scope} {cl : List (Str × Addr)} {P : Nat → Value → Prop} {Fin : List Value → List (Addr × Obj) → Prop} {n : Nat} {d : Nat → Dat}
    (turn : ∀ i (hi : i < n) v I oI C oC D m₂ h tk (E' : Value → Shared → Prop) ys st', P i v → NsObj oC m₂ → m₂ xn = some v → (∀ p ∈ st, p ∈ st') → Fr h₀ L h m → News h₀ L h (M w A c ++ (X3 I oI C oC D ys X ++ st')) → Rep w A c (X3 I oI C oC D ys X) st' σ →
      wpAny (model pw w) Ar (eval elt (compEnvC scope cl C env)) (Post1 w h₀ L m A c (X3 I oI C oC D ys X) st' σ (d i) s) E' { s with heap := h, toks := tk })
    (fin : ∀ ys st', ys.length = n → (∀ p ∈ st, p ∈ st') → Rep w A c X st' σ → DatAll st' ys ((List.range n).map d) → Fin ys (M w A c ++ (X ++ st'))) :
    ∀ k i ys st', i + k = n → ys.length = i → (∀ p ∈ st, p ∈ st') → Rep w A c X st' σ → DatAll st' ys ((List.range i).map d) →
      CompRest pw w Ar h₀ L m env elt xn scope cl s (fun _ => True) P Fin k i ys (M w A c ++ (X ++ st'))
  | 0, i, ys, st', hk, hl, hs, R, D => CompRest.zero (by have : i = n := by lia
                                                         subst this; exact fin ys st' hl hs R D)
  | k + 1, i, ys, st', hk, hl, hs, R, D => CompRest.succ fun v I oI C oC Da m₂ h tk E' hP hns hm F N o ap =>
    wpAny_mono (turn i (by lia) v I oI C oC Da m₂ h tk E' ys st' hP hns hm hs F (into3 N) (R.in3 o)) (fun y s₄ h₄ => by
      obtain ⟨st4, h4, tk4, rfl, F4, N4, hs4, R4, D4⟩ := h₄
      refine ⟨h4, tk4, M w A c ++ (X ++ st4), rfl, F4, outof3 N4, R4.off3 o, trivial, rest_read turn fin k (i + 1) (ys ++ [y]) st4 (by lia) (by rw [List.length_append, hl]; rfl) (fun p hp => hs4 p (hs p hp)) R4.out3 ?_⟩
      rw [List.range_succ, List.map_append]
      exact DatAll.append (DatAll.mono hs4 D) (DatAll.one D4)) fun _ _ e => e
noncomputable def PostT (w : World) (h₀ : Heap) (L : Addr) (m : Str → Option Value) (A : Ba) (X st : List (Addr × Obj)) (σ : St) (j : Nat) (s : Shared) (ok : Bool) (s' : Shared) : Prop :=
  ∃ c' st' σ' h' tk', ok = false ∧ s' = { s with heap := h', toks := tk' } ∧ Fr h₀ L h' m ∧ News h₀ L h' (M w A c' ++ (X ++ st')) ∧ (∀ p ∈ st, p ∈ st') ∧ Rep w A c' X st' σ' ∧ Ext σ σ' j
theorem PostT.mk {j : Nat} {c' : Bc} {st' : List (Addr × Obj)} {σ' : St} {h' : Heap} {tk' : Nat} (F : Fr h₀ L h' m) (N : News h₀ L h' (M w A c' ++ (X ++ st'))) (hs : ∀ p ∈ st, p ∈ st') (R : Rep w A c' X st' σ') (x : Ext σ σ' j) : PostT w h₀ L m A X st σ j s false { s with heap := h', toks := tk' } := ⟨c', st', σ', h', tk', rfl, rfl, F, N, hs, R, x⟩
theorem rest_test {ct elt : PySem.Expr} {xn : Str} {scope : Scope} {cl : List (Str × Addr)} {P : Nat → Value → Prop} {Fin : List Value → List (Addr × Obj) → Prop} {n j : Nat}
    (turn : ∀ i (hi : i < n) v I oI C oC D m₂ h tk (E' : Value → Shared → Prop) ys st' c' σ', P i v → NsObj oC m₂ → m₂ xn = some v → (∀ p ∈ st, p ∈ st') → Fr h₀ L h m → News h₀ L h (M w A c' ++ (X3 I oI C oC D ys X ++ st')) → Rep w A c' (X3 I oI C oC D ys X) st' σ' → Ext σ σ' (i * j) →
      wpAny (model pw w) Ar (isTrue ct (compEnvC scope cl C env) (eval ct (compEnvC scope cl C env))) (PostT w h₀ L m A (X3 I oI C oC D ys X) st' σ' j s) E' { s with heap := h, toks := tk })
    (fin : ∀ c' st' σ', (∀ p ∈ st, p ∈ st') → Rep w A c' X st' σ' → Ext σ σ' (n * j) → Fin [] (M w A c' ++ (X ++ st'))) :
    ∀ k i c' st' σ', i + k = n → (∀ p ∈ st, p ∈ st') → Rep w A c' X st' σ' → Ext σ σ' (i * j) →
      CompRestT pw w Ar h₀ L m env ct elt xn scope cl s (fun _ => True) P Fin k i [] (M w A c' ++ (X ++ st'))
  | 0, i, c', st', σ', hk, hs, R, x => CompRestT.zero (by have : i = n := by lia
                                                          subst this; exact fin c' st' σ' hs R x)
  | k + 1, i, c', st', σ', hk, hs, R, x => CompRestT.succ fun v I oI C oC Da m₂ h tk E' hP hns hm F N o ap =>
    wpAny_mono (turn i (by lia) v I oI C oC Da m₂ h tk E' [] st' c' σ' hP hns hm hs F (into3 N) (R.in3 o) x) (fun ok s₄ h₄ => by
      obtain ⟨c4, st4, σ4, h4, tk4, rfl, rfl, F4, N4, hs4, R4, x4⟩ := h₄
      simp only [Bool.false_eq_true, if_false]
      exact ⟨h4, tk4, M w A c4 ++ (X ++ st4), rfl, F4, outof3 N4, R4.off3 o, trivial, rest_test turn fin k (i + 1) c4 st4 σ4 (by lia) (fun p hp => hs4 p (hs p hp)) R4.out3 (by rw [Nat.succ_mul]; exact x.trans x4)⟩) fun _ _ e => e
noncomputable def SrcU (w : World) (Ar : Around) (h₀ : Heap) (L : Addr) (m : Str → Option Value) (env : Env) (elt : PySem.Expr) (x : Str) (scope : Scope) (cl : List (Str × Addr)) (Fin : Shared → List Value → List (Addr × Obj) → Prop) (xv : Value) (s₁ : Shared) : Prop := CompSrc pw w Ar h₀ L m env elt x scope cl Fin xv s₁
noncomputable def SrcT (w : World) (Ar : Around) (h₀ : Heap) (L : Addr) (m : Str → Option Value) (env : Env) (ct elt : PySem.Expr) (x : Str) (scope : Scope) (cl : List (Str × Addr)) (Fin : Shared → List Value → List (Addr × Obj) → Prop) (xv : Value) (s₁ : Shared) : Prop := CompSrcT pw w Ar h₀ L m env ct elt x scope cl Fin xv s₁
theorem comp1 {elt iter : PySem.Expr} {x : Str} {px : Pos} {scope : Scope} {cl : List (Str × Addr)} {pos : Pos} {Q : Value → Shared → Prop} (F₀ : Fr h₀ L s.heap m)
    (hclos : closureFor scope env = pure cl) (hcell : ∀ y ∈ scope.names, y.2 ≠ .cell) (hkind : scope.kind = .function)
    (hnames : ∀ y ∈ scope.names, y.2 = .local → scope.names.lookup y.1 = some .local) (hx : scope.names.lookup x = some .local)
    (h : wpAny (model pw w) Ar (eval iter env) (SrcU w Ar h₀ L m env elt x scope cl (fun s₂ => FinE h₀ L m s₂ Q)) E s)
    (hs : ∀ x, foldedSetIterable iter env x = pure x := by intro _; rfl) :
    wpAny (model pw w) Ar (eval (.ListComp elt [⟨.Name x px, iter, [], 0⟩] scope pos) env) Q E s := ListComp_U F₀ hclos hcell hkind hnames hx h hs
theorem compT {ct elt iter : PySem.Expr} {x : Str} {px : Pos} {scope : Scope} {cl : List (Str × Addr)} {pos : Pos} {Q : Value → Shared → Prop} (F₀ : Fr h₀ L s.heap m)
    (hclos : closureFor scope env = pure cl) (hcell : ∀ y ∈ scope.names, y.2 ≠ .cell) (hkind : scope.kind = .function)
    (hnames : ∀ y ∈ scope.names, y.2 = .local → scope.names.lookup y.1 = some .local) (hx : scope.names.lookup x = some .local)
    (h : wpAny (model pw w) Ar (eval iter env) (SrcT w Ar h₀ L m env ct elt x scope cl (fun s₂ => FinE h₀ L m s₂ Q)) E s)
    (hs : ∀ x, foldedSetIterable iter env x = pure x := by intro _; rfl) :
    wpAny (model pw w) Ar (eval (.ListComp elt [⟨.Name x px, iter, [ct], 0⟩] scope pos) env) Q E s := ListComp_T F₀ hclos hcell hkind hnames hx h hs
theorem cells_in {h : Heap} {cells : List (Addr × Obj)} {B : Addr} (N : News h₀ L h (cells ++ (M w A c ++ (X ++ st)))) (R : Rep w A c' X st σ) (l : ∀ p ∈ M w A c ++ (X ++ st), p.1 < B) (hc : ∀ p ∈ cells, B < p.1) :
    News h₀ L h (M w A c ++ ((cells ++ X) ++ st)) ∧ Rep w A c' (cells ++ X) st σ := by
  refine ⟨news_sub N fun p hp => ?_, R.offX (fun p hp q => ?_) fun p hp q => ?_⟩
  · simp only [List.mem_append] at hp ⊢
    rcases hp with hp | (hp | hp) | hp
    · exact .inr (.inl hp)
    · exact .inl hp
    · exact .inr (.inr (.inl hp))
    · exact .inr (.inr (.inr hp))
  · rcases List.mem_append.mp hp with hp | hp
    · rw [← M_addrs w A c] at q; obtain ⟨r, hr, e⟩ := List.mem_map.mp q
      have a1 := l r (List.mem_append_left _ hr); have a2 := hc p hp; rw [e] at a1; exact absurd (Nat.lt_trans a1 a2) (Nat.lt_irrefl _)
    · exact R.off p (List.mem_append_left _ hp) q
  · rw [List.map_append] at q
    rcases List.mem_append.mp q with q | q
    · obtain ⟨r, hr, e⟩ := List.mem_map.mp q
      have a1 := l p (List.mem_append_right _ (List.mem_append_right _ hp)); have a2 := hc r hr; rw [e] at a2; exact absurd (Nat.lt_trans a1 a2) (Nat.lt_irrefl _)
    · exact R.sep p hp q
theorem cells_out {h : Heap} {cells : List (Addr × Obj)} (N : News h₀ L h (M w A c ++ ((cells ++ X) ++ st))) : News h₀ L h (M w A c ++ (X ++ st)) := news_sub N fun p hp => by
  simp only [List.mem_append] at hp ⊢
  rcases hp with hp | hp | hp
  · exact .inl hp
  · exact .inr (.inl (.inr hp))
  · exact .inr (.inr hp)
theorem Rep.outC {cells : List (Addr × Obj)} (R : Rep w A c' (cells ++ X) st σ) : Rep w A c' X st σ :=
  R.offX (fun p hp => R.off p (List.mem_append_left _ (List.mem_append_right _ hp))) fun p hp q => R.sep p hp (by rw [List.map_append]; exact List.mem_append_right _ q)
theorem CompSrc_range {elt : PySem.Expr} {x : Str} {scope : Scope} {cl : List (Str × Addr)} {Fin : Shared → List Value → List (Addr × Obj) → Prop} {r : Addr} {b : Int} {t u v : Tok} {n : Nat} {news : List (Addr × Obj)}
    (hh : Ar.handled = none) (F : Fr h₀ L s.heap m) (N : News h₀ L s.heap news) (hr : IsRange s.heap r 0 b 1 t u v) (hb : b = (n : Nat)) (hsz : n ≤ 2 ^ 20)
    (h : ∀ g, CompRest pw w Ar h₀ L m env elt x scope cl { s with heap := g } (fun _ => True) (fun i v => ∃ t, v = .int (0 + (i : Int)) t) (Fin { s with heap := g }) n 0 [] news) :
    SrcU w Ar h₀ L m env elt x scope cl Fin (.ref r) s := by
  subst hb
  exact CompSrc.range hh F N hr (small_one (by lia) (by lia) (by lia) (by lia)) (rangeSize_nat _ _) (Nat.le_trans hsz (by rw [sizeLine_eq]; decide)) h
theorem CompSrc_rangeT {ct elt : PySem.Expr} {x : Str} {scope : Scope} {cl : List (Str × Addr)} {Fin : Shared → List Value → List (Addr × Obj) → Prop} {r : Addr} {b : Int} {t u v : Tok} {n : Nat} {news : List (Addr × Obj)}
    (hh : Ar.handled = none) (F : Fr h₀ L s.heap m) (N : News h₀ L s.heap news) (hr : IsRange s.heap r 0 b 1 t u v) (hb : b = (n : Nat)) (hsz : n ≤ 2 ^ 20)
    (h : ∀ g, CompRestT pw w Ar h₀ L m env ct elt x scope cl { s with heap := g } (fun _ => True) (fun i v => ∃ t, v = .int (0 + (i : Int)) t) (Fin { s with heap := g }) n 0 [] news) :
    SrcT w Ar h₀ L m env ct elt x scope cl Fin (.ref r) s := by
  subst hb
  exact CompSrcT.range hh F N hr (small_one (by lia) (by lia) (by lia) (by lia)) (rangeSize_nat _ _) (Nat.le_trans hsz (by rw [sizeLine_eq]; decide)) h
noncomputable def Bit.p (b : Bit) : PyData := .tuple [.int b.who, .int b.place, .bool b.turned]
theorem bits_reads {h : Heap} {l : List (Addr × Obj)} (N : News h₀ L h l) (hs : ∀ p ∈ st, p ∈ l) : ∀ {vs : List Value} {bs : List Bit}, DatAll st vs (bs.map Bit.d) → ∃ as, ReadsAll h vs (bs.map Bit.p) as
  | _, [], .nil => ⟨_, ReadsAll.nil⟩
  | _, b :: bs, .cons h1 r => by
    obtain ⟨t, n, t1, t2, rfl, hm⟩ := bit_in h1
    obtain ⟨as, q⟩ := bits_reads N hs r
    exact ⟨_, ReadsAll.cons (reads_tuple_at (N.get (hs _ hm)) rfl rfl (ReadsAll.cons (Reads.int _ _) (ReadsAll.cons (Reads.int _ _) (ReadsAll.cons (Reads.bool _) ReadsAll.nil)))) q⟩
theorem bits_eqv : ∀ bs : List Bit, PyData.eqvAll (bs.map Bit.p) (bs.map Bit.p) = true
  | [] => by simp only [List.map_nil, PyData.eqvAll]
  | b :: bs => by simp only [List.map_cons, PyData.eqvAll, Bit.p, PyData.eqv, beq_self_eq_true, Bool.and_self, Bool.true_and]; exact bits_eqv bs
theorem bits_lay : ∀ bs : List Bit, PyData.canLayAll0 (bs.map Bit.p) = true ∧ PyData.depthAll (bs.map Bit.p) ≤ 3
  | [] => ⟨rfl, Nat.zero_le _⟩
  | b :: bs => by
    have ih := bits_lay bs
    refine ⟨?_, ?_⟩
    · simp only [List.map_cons, PyData.canLayAll0, Bit.p, PyData.canLay0, Bool.and_self, Bool.true_and]; exact ih.1
    · simp only [List.map_cons, PyData.depthAll, Bit.p, PyData.depth]; exact Nat.max_le.mpr ⟨by decide, ih.2⟩
theorem eq_bits {Q : Value → Shared → Prop} {a1 a2 : Addr} {bs : List Bit} {st1 st2 : List (Addr × Obj)} (N : News h₀ L s.heap (M w A c ++ (X ++ st))) (h1 : DatIn st1 (.ref a1) (.list (bs.map Bit.d))) (s1 : ∀ p ∈ st1, p ∈ st) (h2 : DatIn st2 (.ref a2) (.list (bs.map Bit.d))) (s2 : ∀ p ∈ st2, p ∈ st)
    (hu : Ar.units + 64 < cLine) (h : Q (.bool true) s) : wpAny (model pw w) Ar (compareOp .Eq (.ref a1) (.ref a2)) Q E s := by
  obtain ⟨v1, n1, m1, d1⟩ := list_in h1
  obtain ⟨v2, n2, m2, d2⟩ := list_in h2
  obtain ⟨as, r1⟩ := bits_reads N (fun p hp => mem_led (s1 p hp)) d1
  obtain ⟨as', r2⟩ := bits_reads N (fun p hp => mem_led (s2 p hp)) d2
  have sh : SeqAt.shaped (.list (bs.map Bit.p)) = true := by
    have := bits_lay bs
    simp only [SeqAt.shaped, PyData.canLay0, PyData.depth, this.1, Bool.true_and]
    exact decide_eq_true (by lia)
  exact eq_dataH (reads_list_at (N.get (mem_led (s1 _ m1))) rfl rfl r1) (reads_list_at (N.get (mem_led (s2 _ m2))) rfl rfl r2) sh sh hu (by rw [PyData.eqv, bits_eqv]; exact h)
theorem cells_from : ∀ (names : List (Str × NameKind)) (n : Nat) (acc : List (Str × Addr)) (B : Nat), B < n → (∀ q ∈ acc, @LT.lt Nat _ B q.2) → ∀ q ∈ cellsFrom n names acc, @LT.lt Nat _ B q.2
  | [], n, acc, B, h, ha => by unfold cellsFrom; exact ha
  | (y, k) :: r, n, acc, B, h, ha => by
    unfold cellsFrom
    split
    · exact cells_from r (n + 1) ((y, n) :: acc) B (by lia) fun q hq => by
        rcases List.mem_cons.mp hq with rfl | hq
        · exact h
        · exact ha q hq
    · exact cells_from r n acc B h ha
theorem cells_gt {cm : Str → Option Value} {B : Nat} : ∀ {cs : List (Str × Addr)} {cells : List (Addr × Obj)}, CellsAre cm cs cells → (∀ q ∈ cs, @LT.lt Nat _ B q.2) → ∀ p ∈ cells, @LT.lt Nat _ B p.1
  | _, _, .nil, _, p, hp => nomatch hp
  | _, _, .cons h r, hc, p, hp => by
    rcases List.mem_cons.mp hp with rfl | hp
    · exact hc _ (.head _)
    · exact cells_gt r (fun q hq => hc q (.tail _ hq)) p hp
theorem cells_above {cm : Str → Option Value} {B : Nat} {names : List (Str × NameKind)} {cells : List (Addr × Obj)} (Y : CellsAre cm (cellsFrom (B + 1) names []) cells) : ∀ p ∈ cells, @LT.lt Nat _ B p.1 :=
  cells_gt Y (cells_from names (B + 1) [] B (Nat.lt_succ_self _) fun _ h => nomatch h)
end
end
section
theorem kr_WAre : True := by
  k_with_none
  k_with "b5" => ((case B => k_asm); (case F => k_asm); (case K => k_asm); (case N => k_asm); (case T => k_asm))
  k_with "hdu" => ((case hd => first | exact room1 hd (Nat.le_of_ble_eq_true rfl) | exact room1 hd (by lia) | ktr_room); (case hu => first | exact unit1 hu (Nat.le_of_ble_eq_true rfl) | exact unit1 hu (by lia) | ktr_units))
  k_with "iq" => ((first | (simp only [bne_self_eq_false, beq_self_eq_true, beq_iff_eq, bne_iff_ne, ne_eq, beq_eq_false_iff_ne, decide_eq_true_eq, decide_eq_false_iff_not, Bool.not_eq_true', Bool.not_eq_false', Bool.not_true, Bool.not_false, Option.isSome_some, Option.isSome_none, not_false_eq_true, Bool.false_eq_true, reduceCtorEq, eq_self]; done) | ((try simp only [bne_self_eq_false, beq_self_eq_true, beq_iff_eq, bne_iff_ne, ne_eq, beq_eq_false_iff_ne, decide_eq_true_eq, decide_eq_false_iff_not, Bool.not_eq_true', Bool.not_eq_false', Bool.not_true, Bool.not_false, Option.isSome_some, Option.isSome_none, not_false_eq_true, Bool.false_eq_true, reduceCtorEq, eq_self]); first | with_reducible assumption | (law_purse 20000 => omega))))
  k_with "ch" => ((repeat' (first | assumption | refine (show ∀ p ∈ _, p ∈ _ by assumption) _ ?_ | refine List.mem_cons_of_mem _ ?_)))
  k_with "uq" => ((intro p9 h9; repeat' (first | exact h9 | refine List.mem_cons_of_mem _ ?_ | refine (show ∀ p ∈ _, p ∈ _ by assumption) _ ?_)))
  k_with "en" => ((k_dflt (refine' enter ?B ?F ?K ?N ?T ?hk ?hd ?ho ?hc ?hb ?hl ?_ ?c2 ?c3 ?c4 ?c5; (case B => k_asm); (case F => k_asm); (case K => k_asm); (case N => k_asm); (case T => k_asm); (case hk => first | exact rfl | assumption); (case hd => exact hd); (case ho => k_is); (case hc => k_is); (case hb => exact BindsTo.of_eq rfl); (case hl => exact locs rfl); (case c2 => exact rfl); (case c3 => exact rfl); (case c4 => exact rfl); (case c5 => decide); k_whole); intro g' L' h' A' outer' E' F' N' B' X' T'; (try dsimp only); (try k_fold)))
  k_with "eval Attribute Name" => (k_here; (with_reducible show wpAny _ _ (eval (PySem.Expr.Attribute (PySem.Expr.Name _ _) _ _) _) _ _ _); k_dflt (refine' attr_b ?F ?K ?N ?v ?h1 ?h2 ?h3 ?h4 ?hv ?hh ?_ ?a ?b; (case F => k_asm); (case K => k_asm); (case N => k_asm); (case v => rfl); (case h1 => k_is); (case h2 => k_is); (case h3 => k_is); (case h4 => k_is); (case hv => k_get); (case hh => k_handed); (case a => rfl); (case b => rfl); k_whole); (try dsimp only))
  k_with "eval Call Attribute" => (k_here; k_dflt ((with_reducible show wpAny _ _ (eval (PySem.Expr.Call (PySem.Expr.Attribute (PySem.Expr.Name _ _) _ _) _ _ _) _) _ _ _); refine' call_b ?F ?K ?N ?v ?h1 ?h2 ?h3 ?hv ?_ ?a ?b; (case F => k_asm); (case K => k_asm); (case N => k_asm); (case v => rfl); (case h1 => k_is); (case h2 => k_is); (case h3 => k_is); (case hv => k_get); (case a => rfl); (case b => rfl); k_whole); (try dsimp only))
  k_with "RetK" => (k_dflt (first | (refine' retK_ ?F ?N ?_; (case F => k_asm); (case N => k_asm); k_whole) | (refine' retN_ ?F ?N ?_; (case F => k_asm); (case N => k_asm); k_whole)); intro F9q N9q; (try dsimp only); (try k_sweep))
  trivial
section
variable {w : World} {mean : ExcName → Option Value} {mg mb : Str → Option Value} {dp un : Nat} {gd : Option (List Code)} {cn : Str} {cs : Scope} {a : Addr} {ccd : Value} {cl : List (Str × Addr)} {outer : List Env} {A₀ : Around} {base h₀ : Heap} {L : Addr} {m : Str → Option Value} {s : Shared}
    {Q E : Value → Shared → Prop} {A : Ba} {c : Bc} {k : Mk} {X st : List (Addr × Obj)} {σ : St} {n n1 n2 b : Nat} {S : Src} {o : Obj} {V : Lv} {bx : Addr} {x y τ : T} {i j : Int} {tk tk1 tk2 tk3 : Tok}
theorem width_use (B : Below A₀ base outer h₀) (F : Fr h₀ L s.heap m) (K : (Mine.hd.heap_39 w.params).In h₀) (N : News h₀ L s.heap (M w A c ++ (X ++ st))) (TT : TopL mean mg mb h₀) (hk : cs.kind = .function) (hd : dp + 1 < recursionLimit) (hu : un + 16 * (1) < cLine)
    (R : Rep w A c X st σ) (ha : At σ n τ) (ret : ∀ t h' tk', Fr h₀ L h' m → News h₀ L h' (M w A c ++ (X ++ st)) → Q (.int (τ.wd : Nat) t) { s with heap := h', toks := tk' }) :
    wpAny (model pw w) (ktrTop dp un gd cn cs L a ccd cl outer) (call (.ref 355) [.ref A.b, .int n tk]) Q E s :=
  of_stp (ko := none) B F K N TT hk hd hu trivial (κ := fun v e st' _ => ∃ t, v = .int (τ.wd : Nat) t ∧ e = ⟨c, X⟩ ∧ st' = st) (fun Y s => width_use_v s R ha fun t tk' => ⟨t, rfl, rfl, rfl⟩)
    fun v c' X' st' h' tk' hq F' N' => by
      obtain ⟨t, rfl, e, rfl⟩ := hq
      cases e
      exact ret t h' tk' F' N'
theorem bits_len {ax : Addr} {bs : List Bit} {st' : List (Addr × Obj)} {Ar : Around} (N : News h₀ L s.heap (M w A c ++ (X ++ st))) (hb : DatIn st' (.ref ax) (.list (bs.map Bit.d))) (hs : ∀ p ∈ st', p ∈ st) (hn : bs.length ≤ 2 ^ 20) (h : ∀ t tk', Q (.int (bs.length : Nat) t) { s with toks := tk' }) :
    wpAny (model pw w) Ar (call (.builtin "len") [.ref ax]) Q E s := by
  obtain ⟨vs, n, hm, ha⟩ := list_in hb
  have hl : vs.length = bs.length := by have := ha.length; rwa [List.length_map] at this
  exact len_M N (mem_led (hs _ hm)) (by lia) (by rw [hl]; exact h)
end
theorem kw2 : True := by
  k_with "call ref" => (k_here; (with_reducible show wpAny _ _ (call (Value.ref 355) _) _ _ _); k_dflt (refine' width_use ?B ?F ?K ?N ?T ?hk ?hd ?hu ?R ?ha ?_; k_extra "b5"; (case hk => first | exact rfl | assumption); (case R => assumption); (case ha => first | assumption | exact at_ix (by assumption) | exact Ext.at (by assumption) (by first | assumption | exact at_ix (by assumption))); k_extra "hdu"; k_whole); intro t9q h9q tk9q F9q N9q; (try dsimp only); (try k_fold); (try k_sweep))
  k_with "ite" => (k_dflt (first | refine ite_pos (by k_extra "iq") ?_ | refine ite_neg (by k_extra "iq") ?_))
  k_with "ite" => (k_dflt (first | refine iteB_neg (by with_reducible assumption) ?_ | refine iteB_pos (by with_reducible assumption) ?_))
  k_with "testChain" => ((with_reducible show wpAny _ _ (testChain _ _ (_ :: _ :: _) _) _ _ _); k_dflt (refine test_link ?_))
  k_with "newTuple" => (k_here; k_dflt (refine' newTuple_M ?k1 ?k2 ?k3 ?k4 ?_; (case k1 => k_asm); (case k2 => k_asm); (case k3 => assumption); (case k4 => exact Nat.le_of_ble_eq_true rfl); k_whole); intro a9q h9q F9q N9q R9q; (try k_sweep))
  k_with "eval ListComp" => (k_here; k_dflt (refine comp1 (by k_asm) (by rfl) (by decide) (by rfl) (by decide) (by rfl) ?_))
  k_with "call builtin:len" => (k_here; (with_reducible show wpAny _ _ (call (Value.builtin "len") [Value.ref _]) _ _ _); k_dflt (refine' bits_len ?k1 ?k2 ?k3 ?k4 ?_; (case k1 => k_asm); (case k2 => assumption); (case k3 => first | (intro p9q h9q; exact h9q) | (intro p9q h9q; repeat' (first | exact h9q | refine List.mem_cons_of_mem _ ?_))); (case k4 => first | assumption | (rw [T.bitsOf_length]; lia)); k_whole); intro t9q tk9q)
  k_with "call ref" => (k_here; (with_reducible show wpAny _ _ (call (Value.ref 1067) _) _ _ _); refine stop_of ?_)
  k_with "newTuple" => (k_here; (with_reducible show wpAny _ _ (newTuple [_, _]) (fun v s₁ => wpAny _ _ (unpackItems v _ none) _ _ s₁) _ _); k_dflt (refine' pair_store ?F ?N ?R ?hh ?_ ?a ?b ?c; (case F => k_asm); (case N => k_asm); (case R => assumption); (case hh => exact rfl); (case a => first | exact rfl | assumption); (case b => rfl); (case c => rfl); k_whole); intro a9q h9q tk9q F9q N9q R9q; (try dsimp only); (try k_sweep))
  trivial
section
variable {w : World} {mean : ExcName → Option Value} {mg mb : Str → Option Value} {dp un : Nat} {gd : Option (List Code)} {cn : Str} {cs : Scope} {a : Addr} {ccd : Value} {cl : List (Str × Addr)} {outer : List Env} {A₀ : Around} {base h₀ : Heap} {L : Addr} {m : Str → Option Value} {s : Shared}
    {Q E : Value → Shared → Prop} {A : Ba} {c : Bc} {k : Mk} {X st : List (Addr × Obj)} {σ : St} {n n1 n2 b : Nat} {S : Src} {o : Obj} {V : Lv} {bx : Addr} {x y τ : T} {i j : Int} {tk tk1 tk2 tk3 : Tok}
theorem are_use (B : Below A₀ base outer h₀) (F : Fr h₀ L s.heap m) (K : (Mine.hd.heap_39 w.params).In h₀) (N : News h₀ L s.heap (M w A c ++ (X ++ st))) (TT : TopL mean mg mb h₀) (hk : cs.kind = .function)
    (hd : dp + (16 + 2 * x.dep) < recursionLimit) (hu : un + 16 * ((16 + 2 * x.dep)) < cLine)
    (R : Rep w A c X st σ) (ha : At σ n x) (hV : LvIs V σ st) (ho : x.ok) (hv : x.lv V.w0 V.w1) (hb : DatIn st (.ref bx) (.list ((T.bitsOf x).map Bit.d)))
    (ret : ∀ st' h' tk', Fr h₀ L h' m → News h₀ L h' (M w A c ++ (X ++ st')) → (∀ p ∈ st, p ∈ st') → Rep w A c X st' σ → Q (.bool true) { s with heap := h', toks := tk' }) :
    wpAny (model pw w) (ktrTop dp un gd cn cs L a ccd cl outer) (call (.ref 1072) [.ref A.b, .ref V.a, .int n tk, .ref bx]) Q E s := by
  have hxw := T.ok_wd ho
  have hbl := T.bitsOf_length x
  refine wpAny_call ?_
  k_dflt (refine' code_defC ?k1 ?k2 ?k3 ?k4 ?k5 ?kA ?kF ?kK ?k6 ?k7 ?k8 ?k9 ?kB ?kD ?_ ?c2 ?c3 ?c4; (case kA => exact rfl); (case kF => exact rfl); (case kK => assumption); (case k1 => k_asm); (case k2 => k_asm); (case k3 => k_asm); (case k4 => k_asm); (case k5 => k_asm); (case k6 => k_is); (case k7 => k_is); (case k8 => ktr_room); (case k9 => exact BindsTo.of_eq rfl); (case kB => exact rfl); (case kD => decide +kernel); (case c2 => exact rfl); (case c3 => exact rfl); (case c4 => exact rfl); k_whole; intro g' L' h' tk' cells' FG' F' N' Y' B' X' T' l1')
  obtain ⟨N0, R0⟩ := cells_in N' R l1' (cells_above Y')
  clear N' R
  k_cells Y'
  have N1 : News _ _ _ (M w A c ++ ((_ :: _ :: _ :: X) ++ st)) := N0
  have R1 : Rep w A c (_ :: _ :: _ :: X) st σ := R0
  clear N0 R0
  (try dsimp only)
  (try k_fold)
  k_steps
  refine CompSrc_range (n := x.wd) rfl (by assumption) (by assumption) (by assumption) (by rw [T.bitsOf_length]) (by lia) (fun g => ?_)
  refine rest_read (n := x.wd) (d := fun i => (x.readT i).d) ?_ ?_ x.wd 0 [] st (by lia) rfl (fun _ h => h) R1 .nil
  · intro i hi v I oI C oC D m₂ h9 tk9 E' ys st9 hP hns hm hs9 F9 N9 R9
    obtain ⟨t9, rfl⟩ := hP
    k_steps
    refine read_old (i := i) (V := V) (x := x) (by k_asm) (by k_asm) (by k_asm) (by k_asm) (by k_asm) (by first | exact rfl | assumption) (by first | exact room1 hd (Nat.le_of_ble_eq_true rfl) | exact room1 hd (by lia) | ktr_room) (by first | exact unit1 hu (Nat.le_of_ble_eq_true rfl) | exact unit1 hu (by lia) | ktr_units) (by assumption) ha (hV.up hs9) ho hv (by lia) hi ?_
    intro v8 st8 h8 tk8 F8 N8 hs8 R8 D8
    (try dsimp only)
    (try k_fold)
    k_steps
    exact Post1.mk (by assumption) (by assumption) hs8 R8 D8
  · intro ys st9 hl9 hs9 R9 D9 Dz h9 tk9 F9 N9 o9
    obtain ⟨N8, R8⟩ := fin3 N9 o9 R9
    clear N9
    have Dy : DatIn ((Dz, LCg.lst ys) :: st9) (.ref Dz) (.list ((T.bitsOf x).map Bit.d)) := by
      refine .list (.head _) ?_
      rw [T.bitsOf, List.map_map]
      exact DatAll.mono (fun _ h => .tail _ h) D9
    k_steps
    refine eq_bits N8 Dy (fun _ h => h) hb (fun p hp => .tail _ (hs9 p hp)) (by ktr_units) ?_
    k_steps
    exact ret _ _ _ (by assumption) (cells_out (cells := [_, _, _]) (by assumption)) (fun p hp => .tail _ (hs9 p hp)) (Rep.outC (cells := [_, _, _]) R8)

end
end
section
theorem kr_WDraw : True := by
  k_with_none
  k_with "b5" => ((case B => k_asm); (case F => k_asm); (case K => k_asm); (case N => k_asm); (case T => k_asm))
  k_with "hdu" => ((case hd => first | exact room1 hd (Nat.le_of_ble_eq_true rfl) | exact room1 hd (by lia) | ktr_room); (case hu => first | exact unit1 hu (Nat.le_of_ble_eq_true rfl) | exact unit1 hu (by lia) | ktr_units))
  k_with "iq" => ((first | (simp only [bne_self_eq_false, beq_self_eq_true, beq_iff_eq, bne_iff_ne, ne_eq, beq_eq_false_iff_ne, decide_eq_true_eq, decide_eq_false_iff_not, Bool.not_eq_true', Bool.not_eq_false', Bool.not_true, Bool.not_false, Option.isSome_some, Option.isSome_none, not_false_eq_true, Bool.false_eq_true, reduceCtorEq, eq_self]; done) | ((try simp only [bne_self_eq_false, beq_self_eq_true, beq_iff_eq, bne_iff_ne, ne_eq, beq_eq_false_iff_ne, decide_eq_true_eq, decide_eq_false_iff_not, Bool.not_eq_true', Bool.not_eq_false', Bool.not_true, Bool.not_false, Option.isSome_some, Option.isSome_none, not_false_eq_true, Bool.false_eq_true, reduceCtorEq, eq_self]); first | with_reducible assumption | (law_purse 20000 => omega))))
  k_with "ch" => ((repeat' (first | assumption | refine (show ∀ p ∈ _, p ∈ _ by assumption) _ ?_ | refine List.mem_cons_of_mem _ ?_)))
  k_with "uq" => ((intro p9 h9; repeat' (first | exact h9 | refine List.mem_cons_of_mem _ ?_ | refine (show ∀ p ∈ _, p ∈ _ by assumption) _ ?_)))
  k_with "en" => ((k_dflt (refine' enter ?B ?F ?K ?N ?T ?hk ?hd ?ho ?hc ?hb ?hl ?_ ?c2 ?c3 ?c4 ?c5; (case B => k_asm); (case F => k_asm); (case K => k_asm); (case N => k_asm); (case T => k_asm); (case hk => first | exact rfl | assumption); (case hd => exact hd); (case ho => k_is); (case hc => k_is); (case hb => exact BindsTo.of_eq rfl); (case hl => exact locs rfl); (case c2 => exact rfl); (case c3 => exact rfl); (case c4 => exact rfl); (case c5 => decide); k_whole); intro g' L' h' A' outer' E' F' N' B' X' T'; (try dsimp only); (try k_fold)))
  k_with "eval Attribute Name" => (k_here; (with_reducible show wpAny _ _ (eval (PySem.Expr.Attribute (PySem.Expr.Name _ _) _ _) _) _ _ _); k_dflt (refine' attr_b ?F ?K ?N ?v ?h1 ?h2 ?h3 ?h4 ?hv ?hh ?_ ?a ?b; (case F => k_asm); (case K => k_asm); (case N => k_asm); (case v => rfl); (case h1 => k_is); (case h2 => k_is); (case h3 => k_is); (case h4 => k_is); (case hv => k_get); (case hh => k_handed); (case a => rfl); (case b => rfl); k_whole); (try dsimp only))
  k_with "eval Call Attribute" => (k_here; k_dflt ((with_reducible show wpAny _ _ (eval (PySem.Expr.Call (PySem.Expr.Attribute (PySem.Expr.Name _ _) _ _) _ _ _) _) _ _ _); refine' call_b ?F ?K ?N ?v ?h1 ?h2 ?h3 ?hv ?_ ?a ?b; (case F => k_asm); (case K => k_asm); (case N => k_asm); (case v => rfl); (case h1 => k_is); (case h2 => k_is); (case h3 => k_is); (case hv => k_get); (case a => rfl); (case b => rfl); k_whole); (try dsimp only))
  k_with "RetK" => (k_dflt (first | (refine' retK_ ?F ?N ?_; (case F => k_asm); (case N => k_asm); k_whole) | (refine' retN_ ?F ?N ?_; (case F => k_asm); (case N => k_asm); k_whole)); intro F9q N9q; (try dsimp only); (try k_sweep))
  trivial
theorem kw3 : True := by
  k_with "newTuple" => (k_here; k_dflt (refine' newTuple_M ?k1 ?k2 ?k3 ?k4 ?_; (case k1 => k_asm); (case k2 => k_asm); (case k3 => assumption); (case k4 => exact Nat.le_of_ble_eq_true rfl); k_whole); intro a9q h9q F9q N9q R9q; (try k_sweep))
  k_with "ite" => (k_dflt (first | refine ite_pos (by k_extra "iq") ?_ | refine ite_neg (by k_extra "iq") ?_))
  k_with "subscriptTail" => (k_here; (with_reducible show wpAny _ _ (subscriptTail _ _ (Value.ref (Src.d _)) (Value.str _ _)) _ _ _); k_dflt (refine' src_item ?k1 ?k2 ?k3 ?_ ?k4 ?k5; (case k1 => k_asm); (case k2 => assumption); (case k3 => with_unfolding_all rfl); (case k4 => with_unfolding_all rfl); (case k5 => intro _; with_unfolding_all rfl); k_whole))
  k_with "subscriptTail" => (k_here; (with_reducible show wpAny _ _ (subscriptTail _ _ (Value.ref (Src.cl _)) (Value.int _ _)) _ _ _); k_dflt (refine' cells_item ?k1 ?k2 ?k3 ?k6 ?k7 ?_ ?k4; (case k1 => k_asm); (case k2 => assumption); (case k3 => first | (intro p9q h9q; exact h9q) | (intro p9q h9q; repeat' (first | exact h9q | refine List.mem_cons_of_mem _ ?_))); (case k6 => exact Int.fmod_nonneg_of_pos _ (by lia)); (case k7 => exact Int.fmod_lt_of_pos _ (by lia)); (case k4 => with_unfolding_all rfl); k_whole); intro v9q t9q)
  k_with "setItem ref str" => (k_here; (with_reducible show wpAny _ _ (setItem (Value.ref (Src.d _)) _ _) _ _ _); k_dflt (refine' src_set ?k1 ?k2 ?k3 ?k4 ?k5 ?_; (case k1 => k_asm); (case k2 => k_asm); (case k3 => assumption); (case k4 => assumption); (case k5 => assumption); k_whole); intro h9q o9q F9q N9q R9q D9q; (try k_sweep))
  k_with "call builtin:len" => (k_here; (with_reducible show wpAny _ _ (call (Value.builtin "len") [Value.ref (Src.cl _)]) _ _ _); k_dflt (refine' cells_len ?k1 ?k2 ?k3 ?_; (case k1 => k_asm); (case k2 => assumption); (case k3 => first | (intro p9q h9q; exact h9q) | (intro p9q h9q; repeat' (first | exact h9q | refine List.mem_cons_of_mem _ ?_))); k_whole); intro t9q tk9q)
  k_with "compareOp NotEq ref ref" => (k_here; (with_reducible show wpAny _ _ (compareOp _ (Value.ref (Src.cl _)) _) _ _ _); k_dflt (refine' cells_ne ?k1 ?k2 ?k3 ?k4 ?k5 ?_; (case k1 => k_asm); (case k2 => assumption); (case k3 => first | (intro p9q h9q; exact h9q) | (intro p9q h9q; repeat' (first | exact h9q | refine List.mem_cons_of_mem _ ?_))); (case k4 => k_mem); (case k5 => ktr_units); k_whole))
  k_with "newList" => (k_here; k_dflt (refine' newList_M ?k1 ?k2 ?k3 ?k4 ?_; (case k1 => k_asm); (case k2 => k_asm); (case k3 => assumption); (case k4 => exact Nat.le_of_ble_eq_true rfl); k_whole); intro a9q h9q F9q N9q R9q; (try k_sweep))
  k_with "binaryOp FloorDiv int int" => (k_here; k_dflt (refine' floordiv_int ?k1 ?_ ?k2; (case k1 => split <;> lia); (case k2 => exact Or.inl (PyProof.noPylong_small (by split <;> lia)))))
  k_with "binaryOp Mod int int" => (k_here; k_dflt (refine' mod_int' ?k1 ?_; (case k1 => omega)))
  k_with "eval IfExp" => (k_here; (fail_if_success (have g9q : Unit := by assumption)); refine stop_of ?_)
  k_with "newTuple" => (k_here; (with_reducible show wpAny _ _ (newTuple [_, _]) (fun v s₁ => wpAny _ _ (unpackItems v _ none) _ _ s₁) _ _); k_dflt (refine' pair_store ?F ?N ?R ?hh ?_ ?a ?b ?c; (case F => k_asm); (case N => k_asm); (case R => assumption); (case hh => exact rfl); (case a => first | exact rfl | assumption); (case b => rfl); (case c => rfl); k_whole); intro a9q h9q tk9q F9q N9q R9q; (try dsimp only); (try k_sweep))
  trivial
inductive DrawQ (g : Heap) (L : Addr) (m : Str → Option Value) (w : World) (A : Ba) (c : Bc) (X st : List (Addr × Obj)) (σ : St) (s : Shared) : Value → Shared → Prop
  | mk (x : Int) (t : Tok) (p : Addr × Obj) (h' : Heap) (tk : Nat) : Fr g L h' m → News g L h' (M w A c ++ (X ++ p :: st)) → Rep w A c X (p :: st) σ → DrawQ g L m w A c X st σ s (.int x t) { s with heap := h', toks := tk }
theorem draw_split {Md : Model} {Ar : Around} {e : Sem Value} {g h : Heap} {L : Addr} {m : Str → Option Value} {w : World} {A : Ba} {c : Bc} {X st : List (Addr × Obj)} {σ : St} {s : Shared} {tk : Nat} {Q E : Value → Shared → Prop} (F : Fr g L h m) (N : News g L h (M w A c ++ (X ++ st))) (R : Rep w A c X st σ)
    (h1 : wpAny Md Ar e (DrawQ g L m w A c X st σ s) E { s with heap := h, toks := tk }) (h2 : ∀ v s', DrawQ g L m w A c X st σ s v s' → Q v s') : wpAny Md Ar e Q E { s with heap := h, toks := tk } := wpAny_mono h1 h2 fun _ _ e => e
section
variable {w : World} {mean : ExcName → Option Value} {mg mb : Str → Option Value} {dp un : Nat} {gd : Option (List Code)} {cn : Str} {cs : Scope} {a : Addr} {ccd : Value} {cl : List (Str × Addr)} {outer : List Env} {A₀ : Around} {base h₀ : Heap} {L : Addr} {m : Str → Option Value} {s : Shared}
    {Q E : Value → Shared → Prop} {A : Ba} {c : Bc} {k : Mk} {X st : List (Addr × Obj)} {σ : St} {n n1 n2 b : Nat} {S : Src} {o : Obj} {x y τ : T} {i j : Int} {tk tk1 tk2 tk3 : Tok}
theorem draw_use (B : Below A₀ base outer h₀) (F : Fr h₀ L s.heap m) (K : (Mine.hd.heap_39 w.params).In h₀) (N : News h₀ L s.heap (M w A c ++ (mkL w A k ((S.d, o) :: X) ++ st))) (TT : TopL mean mg mb h₀) (hk : cs.kind = .function)
    (hd : dp + 6 < recursionLimit) (hu : un + 16 * (6) < cLine)
    (R : Rep w A c (mkL w A k ((S.d, o) :: X)) st σ) (nx : NdX k ((S.d, o) :: X)) (hS : SrcIs w S o st b) (hm : 1 ≤ j) (hb : b ≤ 1000)
    (ret : ∀ (r : Nat) t o' st' h' tk', (r : Int) < j → Fr h₀ L h' m → News h₀ L h' (M w A c ++ (mkL w A k ((S.d, o') :: X) ++ st')) → (∀ p ∈ st, p ∈ st') → Rep w A c (mkL w A k ((S.d, o') :: X)) st' σ → SrcIs w S o' st' (b + 1) → Q (.int (r : Nat) t) { s with heap := h', toks := tk' }) :
    wpAny (model pw w) (ktrTop dp un gd cn cs L a ccd cl outer) (call (.ref 1055) [.ref S.d, .int j tk]) Q E s := by
  obtain ⟨sp, t1, t2, hp0, hpb, hD⟩ := hS.2.2.2
  have hlen := hS.2.1
  have ret' : ∀ (x : Int) t o' st' h' tk', 0 ≤ x → x < j → Fr h₀ L h' m → News h₀ L h' (M w A c ++ (mkL w A k ((S.d, o') :: X) ++ st')) → (∀ p ∈ st, p ∈ st') → Rep w A c (mkL w A k ((S.d, o') :: X)) st' σ → SrcIs w S o' st' (b + 1) → Q (.int x t) { s with heap := h', toks := tk' } := fun x t o' st' h' tk' h0 h1 => by
    obtain ⟨r, rfl⟩ := Int.eq_ofNat_of_zero_le h0
    exact ret r t o' st' h' tk' h1
  (k_dflt (refine' enter ?B ?F ?K ?N ?T ?hk ?hd ?ho ?hc ?hb ?hl ?_ ?c2 ?c3 ?c4 ?c5; k_extra "b5"; (case hk => first | exact rfl | assumption); (case hd => exact hd); (case ho => k_is); (case hc => k_is); (case hb => exact BindsTo.of_eq rfl); (case hl => exact locs rfl); (case c2 => exact rfl); (case c3 => exact rfl); (case c4 => exact rfl); (case c5 => decide); k_whole); intro g' L' h' A' outer' E' F' N' B' X' T'; (try dsimp only); (try k_fold))
  k_steps
  unfold Stop
  have flag : Unit := ()
  refine' draw_split (s := s) ?F ?N ?R ?h1 ?h2
  case F => k_asm
  case N => k_asm
  case R => assumption
  case h1 =>
    by_cases hz : S.ns = []
    · k_steps
      refine' DrawQ.mk _ _ _ _ _ ?dq1 ?dq2 ?dq3; (case dq1 => assumption); (case dq2 => assumption); (case dq3 => assumption)
    · have hl0 : 1 ≤ S.ns.length := Nat.pos_of_ne_zero fun e => hz (List.length_eq_zero_iff.mp e)
      k_steps
      refine' DrawQ.mk _ _ _ _ _ ?dq1 ?dq2 ?dq3; (case dq1 => assumption); (case dq2 => assumption); (case dq3 => assumption)
  case h2 =>
    rintro v s' ⟨x, t, p, h', tk, F', N', R'⟩
    dsimp only
    k_steps
    exact ret' _ _ _ _ _ _ (Int.fmod_nonneg_of_pos _ (by lia)) (Int.fmod_lt_of_pos _ (by lia)) (by assumption) (by assumption) (fun p hp => .tail _ (.tail _ hp)) (by assumption) ⟨hS.1, hS.2.1, .tail _ (.tail _ hS.2.2.1), sp + 1, _, _, by lia, by lia, by assumption⟩

end
end
section
theorem kr_Pool : True := by
  k_with_none
  trivial
theorem SrcIs.le {w S o st b b'} (h : SrcIs w S o st b) (hb : b ≤ b') : SrcIs w S o st b' :=
  ⟨h.1, h.2.1, h.2.2.1, let ⟨sp, t, t', h0, h1, h2⟩ := h.2.2.2; ⟨sp, t, t', h0, by lia, h2⟩⟩
theorem NdX.set {k : Mk} {X : List (Addr × Obj)} {d : Addr} {o o' : Obj} (h : NdX k ((d, o) :: X)) : NdX k ((d, o') :: X) := h
theorem LvIs.ext {V σ σ' st j} (h : LvIs V σ st) (x : Ext σ σ' j) : LvIs V σ' st := ⟨x.at h.1, x.at h.2.1, h.2.2⟩
noncomputable def Good (V : Lv) (d : Nat) (x : T) : Prop := x.ok ∧ x.lv V.w0 V.w1 ∧ x.dep ≤ d ∧ x.wd ≤ 10
theorem Good.le {V d d' x} (h : Good V d x) (hd : d ≤ d') : Good V d' x := ⟨h.1, h.2.1, Nat.le_trans h.2.2.1 hd, h.2.2.2⟩
abbrev BitsIn (st : List (Addr × Obj)) (v : Value) (bs : List Bit) : Prop := DatIn st v (.list (bs.map Bit.d))
abbrev pairObj (n : Nat) (u : Tok) (bx : Addr) (nt : Nat) : Obj := { cls := .type "tuple", data := .seq #[.int (n : Nat) u, .ref bx] nt }
inductive PEnt (V : Lv) (σ : St) (st : List (Addr × Obj)) (d : Nat) (v : Value) : Prop
  | ent (t : Addr) (u : Tok) (nt : Nat) (bx : Addr) (n : Nat) (x : T) (e : v = .ref t) (hm : (t, pairObj n u bx nt) ∈ st) (hb : BitsIn st (.ref bx) (T.bitsOf x)) (ha : At σ n x) (hg : Good V d x) : PEnt V σ st d v
theorem PEnt.up {V σ σ' st st' d d' v j} (h : PEnt V σ st d v) (hs : ∀ p ∈ st, p ∈ st') (x : Ext σ σ' j) (hd : d ≤ d') : PEnt V σ' st' d' v := by
  obtain ⟨t, u, nt, bx, n, y, e, hm, hb, ha, hg⟩ := h
  exact ⟨t, u, nt, bx, n, y, e, hs _ hm, DatIn.mono hs hb, x.at ha, hg.le hd⟩
noncomputable def PoolIs (V : Lv) (σ : St) (st : List (Addr × Obj)) (d : Nat) (vs : List Value) : Prop := ∀ v ∈ vs, PEnt V σ st d v
theorem PoolIs.up {V σ σ' st st' d d' vs j} (h : PoolIs V σ st d vs) (hs : ∀ p ∈ st, p ∈ st') (x : Ext σ σ' j) (hd : d ≤ d') : PoolIs V σ' st' d' vs := fun v hv => (h v hv).up hs x hd
theorem PoolIs.add {V σ st d vs v} (h : PoolIs V σ st d vs) (hv : PEnt V σ st d v) : PoolIs V σ st d (vs ++ [v]) := fun u hu => by
  rcases List.mem_append.mp hu with hu | hu
  · exact h u hu
  · simp only [List.mem_singleton] at hu; subst hu; exact hv
section
variable {Ar : Around} {E : Value → Shared → Prop} {s : Shared} {h₀ : Heap} {L : Addr} {m : Str → Option Value} {w : World} {A : Ba} {c c₀ : Bc} {X st st' : List (Addr × Obj)} {σ : St} {V : Lv} {Q : Value → Shared → Prop}
theorem pool_len {pa : Addr} {vs : List Value} {kn : Nat} (N : News h₀ L s.heap (M w A c ++ (X ++ st))) (hm : (pa, listOf vs.toArray kn) ∈ X) (hn : vs.length ≤ 2 ^ 20) (h : ∀ t tk', Q (.int (vs.length : Nat) t) { s with toks := tk' }) :
    wpAny (model pw w) Ar (call (.builtin "len") [.ref pa]) Q E s := len_M N (List.mem_append_right _ (List.mem_append_left _ hm)) hn h
theorem pool_item {value slice : PySem.Expr} {pa : Addr} {vs : List Value} {kn d : Nat} {k : Int} {u : Tok} (N : News h₀ L s.heap (M w A c ++ (X ++ st))) (hm : (pa, listOf vs.toArray kn) ∈ X) (hP : PoolIs V σ st' d vs) (h0 : 0 ≤ k) (h1 : k < vs.length) (hn : vs.length ≤ 2 ^ 20)
    (h : ∀ (t : Addr) (u : Tok) (nt : Nat) (bx : Addr) (n : Nat) (x : T), (t, pairObj n u bx nt) ∈ st' → BitsIn st' (.ref bx) (T.bitsOf x) → At σ n x → Good V d x → Q (.ref t) s)
    (hq : subscripted slice false (.ref pa) (.int k u) = operate [.ref pa, .int k u] (getItem (.ref pa) (.int k u)) := by with_unfolding_all rfl) :
    wpAny (model pw w) Ar (subscriptTail value slice (.ref pa) (.int k u)) Q E s := by
  have hk : k.toNat < vs.length := by lia
  obtain ⟨t, u', nt, bx, n, x, e, g1, g2, g3, g4⟩ := hP _ (List.getElem_mem hk)
  exact item_litK (N.isList (List.mem_append_right _ (List.mem_append_left _ hm))) h0 (by lia) (v := .ref t) (by rw [List.getElem?_eq_getElem hk, e]) (h t u' nt bx n x g1 g2 g3 g4) hq
theorem grown {h : Heap} {D : Addr} {o : Obj} (N : News h₀ L h ((D, o) :: (M w A c ++ (X ++ st)))) (R : Rep w A c₀ X st σ) (l : ∀ p ∈ M w A c ++ (X ++ st), p.1 < D) : News h₀ L h (M w A c ++ (X ++ ((D, o) :: st))) ∧ Rep w A c₀ X ((D, o) :: st) σ :=
  ⟨news_sub N fun p hp => by
    simp only [List.mem_append, List.mem_cons] at hp ⊢
    rcases hp with hp | hp | hp | hp
    · exact .inr (.inl hp)
    · exact .inr (.inr (.inl hp))
    · exact .inl hp
    · exact .inr (.inr (.inr hp)), R.cons (not_addr (w := w) (c := c) l) (not_X (w := w) (A := A) (c := c) l)⟩
theorem add_bits {a1 a2 : Addr} {b1 b2 : List Bit} {st1 st2 : List (Addr × Obj)} (F : Fr h₀ L s.heap m) (N : News h₀ L s.heap (M w A c ++ (X ++ st))) (R : Rep w A c₀ X st σ) (h1 : BitsIn st1 (.ref a1) b1) (s1 : ∀ p ∈ st1, p ∈ st) (h2 : BitsIn st2 (.ref a2) b2) (s2 : ∀ p ∈ st2, p ∈ st)
    (hn : b1.length + b2.length ≤ 2 ^ 20)
    (h : ∀ D o h', Fr h₀ L h' m → News h₀ L h' (M w A c ++ (X ++ ((D, o) :: st))) → Rep w A c₀ X ((D, o) :: st) σ → BitsIn ((D, o) :: st) (.ref D) (b1 ++ b2) → Q (.ref D) { s with heap := h' }) :
    wpAny (model pw w) Ar (binaryOp .Add (.ref a1) (.ref a2)) Q E s := by
  obtain ⟨v1, n1, m1, d1⟩ := list_in h1
  obtain ⟨v2, n2, m2, d2⟩ := list_in h2
  have l1 := d1.length; have l2 := d2.length
  rw [List.length_map] at l1 l2
  refine add_lists (hsz := by rw [sizeLine_eq]; lia) F N (N.isList (mem_led (s1 _ m1))) (N.isList (mem_led (s2 _ m2))) fun h' F' N' => ?_
  obtain ⟨N', R'⟩ := grown N' R fun p hp => Heap.lt_size (N p hp).1
  refine h _ _ h' F' N' R' (.list (.head _) ?_)
  rw [List.map_append]
  exact DatAll.append (DatAll.mono (fun p hp => .tail _ (s1 p hp)) d1) (DatAll.mono (fun p hp => .tail _ (s2 p hp)) d2)
theorem dat_rep {l : List (Addr × Obj)} {vs : List Value} {ds : List Dat} (h : DatAll l vs ds) : ∀ k : Nat, DatAll l (List.replicate k vs).flatten (List.replicate k ds).flatten
  | 0 => .nil
  | k + 1 => by simp only [List.replicate_succ, List.flatten_cons]; exact DatAll.append h (dat_rep h k)
theorem rep_one (b : Bit) : ∀ k : Nat, (List.replicate k (List.map Bit.d [b])).flatten = (List.replicate k b).map Bit.d
  | 0 => rfl
  | k + 1 => by rw [List.replicate_succ, List.flatten_cons, rep_one b k]; rfl
theorem mul_bit {a1 : Addr} {b : Bit} {st1 : List (Addr × Obj)} {k : Nat} {u : Tok} (F : Fr h₀ L s.heap m) (N : News h₀ L s.heap (M w A c ++ (X ++ st))) (R : Rep w A c₀ X st σ) (h1 : BitsIn st1 (.ref a1) [b]) (s1 : ∀ p ∈ st1, p ∈ st) (hn : k ≤ 100)
    (h : ∀ D o h', Fr h₀ L h' m → News h₀ L h' (M w A c ++ (X ++ ((D, o) :: st))) → Rep w A c₀ X ((D, o) :: st) σ → BitsIn ((D, o) :: st) (.ref D) (List.replicate k b) → Q (.ref D) { s with heap := h' }) :
    wpAny (model pw w) Ar (binaryOp .Mult (.ref a1) (.int (k : Nat) u)) Q E s := by
  obtain ⟨v1, n1, m1, d1⟩ := list_in h1
  have l1 := d1.length
  simp only [List.map_cons, List.map_nil, List.length_cons, List.length_nil] at l1
  refine mul_list F N (items := v1.toArray) (k := n1) (N.get (mem_led (s1 _ m1))) (by lia) (by lia) (by simp only [List.size_toArray, Int.toNat_natCast]; rw [l1]; lia) fun h' F' N' => ?_
  obtain ⟨N', R'⟩ := grown N' R fun p hp => Heap.lt_size (N p hp).1
  refine h _ _ h' F' N' R' ?_
  have e := listMul_foldl_if v1.toArray ((k : Nat) : Int).toNat
  have q := dat_rep (DatAll.mono (fun p hp => .tail _ (s1 p hp)) d1 : DatAll ((s.heap.objs.size, ({ cls := .type "list", data := .seq (List.foldl (fun x1 x2 => x1 ++ x2) #[] (List.replicate (if v1.toArray.isEmpty = true then 0 else ((k : Nat) : Int).toNat) v1.toArray)) } : Obj)) :: st) v1 _) k
  have e2 : (List.replicate k (List.map Bit.d [b])).flatten = (List.replicate k b).map Bit.d := by
    exact rep_one b k
  rw [e2] at q
  refine .list (vs := (List.replicate k v1).flatten) (n := 0) ?_ q
  rw [e, Int.toNat_natCast]
  exact .head _
theorem dat_drop {l : List (Addr × Obj)} : ∀ {vs : List Value} {ds : List Dat} (k : Nat), DatAll l vs ds → DatAll l (vs.drop k) (ds.drop k)
  | _, _, 0, h => h
  | _, _, _ + 1, .nil => .nil
  | _, _, k + 1, .cons _ r => dat_drop k r
theorem dat_take {l : List (Addr × Obj)} : ∀ {vs : List Value} {ds : List Dat} (k : Nat), DatAll l vs ds → DatAll l (vs.take k) (ds.take k)
  | _, _, 0, _ => .nil
  | _, _, _ + 1, .nil => .nil
  | _, _, k + 1, .cons h r => .cons h (dat_take k r)
theorem cut_bits {value slice : PySem.Expr} {a1 : Addr} {bs : List Bit} {st1 : List (Addr × Obj)} {x y : Nat} {i j : Int} {t1 t2 : Tok} (F : Fr h₀ L s.heap m) (N : News h₀ L s.heap (M w A c ++ (X ++ st))) (R : Rep w A c₀ X st σ) (h1 : BitsIn st1 (.ref a1) bs) (s1 : ∀ p ∈ st1, p ∈ st)
    (hl : i = (x : Nat)) (hu : j = (y : Nat)) (hxy : x ≤ y) (hy : y ≤ bs.length) (hn : bs.length ≤ 100)
    (h : ∀ D o h', Fr h₀ L h' m → News h₀ L h' (M w A c ++ (X ++ ((D, o) :: st))) → Rep w A c₀ X ((D, o) :: st) σ → BitsIn ((D, o) :: st) (.ref D) ((bs.drop x).take (y - x)) → Q (.ref D) { s with heap := h' })
    (hs : subscripted slice false (.ref a1) (.ref s.heap.objs.size) = operate [.ref s.heap.objs.size, .ref a1] (getItem (.ref a1) (.ref s.heap.objs.size)) := by with_unfolding_all rfl) (ht : ∀ r, letTemporaryGo value (.ref a1) r = pure () := by intro _; with_unfolding_all rfl) :
    wpAny (model pw w) Ar (subscriptTail value slice (.ref a1) (.ref s.heap.objs.size)) Q E { s with heap := s.heap.push { cls := .type "slice", data := .fields #[.int i t1, .int j t2, .none] } } := by
  subst hl hu
  obtain ⟨v1, n1, m1, d1⟩ := list_in h1
  have l1 := d1.length
  rw [List.length_map] at l1
  refine kmk_slice F N (its := v1.toArray) (N.isList (mem_led (s1 _ m1))) (.int _ _) (.int _ _) (fun D h' F' N' l => ?_) hs ht (by rw [sizeLine_eq, List.size_toArray]; lia)
  obtain ⟨N', R'⟩ := grown N' R l
  refine h _ _ h' F' N' R' ?_
  rw [slicePick_run _ _ _ (by rw [List.size_toArray]; lia) hxy]
  refine .list (.head _) ?_
  rw [List.map_take, List.map_drop]
  exact dat_take _ (dat_drop _ (DatAll.mono (fun p hp => .tail _ (s1 p hp)) d1))
theorem last_one : ∀ (bs : List Bit) (h0 : 1 ≤ bs.length), bs.drop (bs.length - 1) = [bs[bs.length - 1]'(by lia)] := fun bs h0 => by
  refine List.ext_getElem (by rw [List.length_drop, List.length_singleton]; lia) fun i h1 h2 => ?_
  rw [List.length_singleton] at h2
  rw [List.getElem_drop, List.getElem_singleton]
  congr 1
  lia
theorem last_bits {value slice : PySem.Expr} {a1 : Addr} {bs : List Bit} {st1 : List (Addr × Obj)} {t1 : Tok} (F : Fr h₀ L s.heap m) (N : News h₀ L s.heap (M w A c ++ (X ++ st))) (R : Rep w A c₀ X st σ) (h1 : BitsIn st1 (.ref a1) bs) (s1 : ∀ p ∈ st1, p ∈ st)
    (h0 : 1 ≤ bs.length) (hn : bs.length ≤ 100)
    (h : ∀ D o h', Fr h₀ L h' m → News h₀ L h' (M w A c ++ (X ++ ((D, o) :: st))) → Rep w A c₀ X ((D, o) :: st) σ → BitsIn ((D, o) :: st) (.ref D) [bs[bs.length - 1]'(by lia)] → Q (.ref D) { s with heap := h' })
    (hs : subscripted slice false (.ref a1) (.ref s.heap.objs.size) = operate [.ref s.heap.objs.size, .ref a1] (getItem (.ref a1) (.ref s.heap.objs.size)) := by with_unfolding_all rfl) (ht : ∀ r, letTemporaryGo value (.ref a1) r = pure () := by intro _; with_unfolding_all rfl) :
    wpAny (model pw w) Ar (subscriptTail value slice (.ref a1) (.ref s.heap.objs.size)) Q E { s with heap := s.heap.push { cls := .type "slice", data := .fields #[.int (-1) t1, .none, .none] } } := by
  obtain ⟨v1, n1, m1, d1⟩ := list_in h1
  have l1 := d1.length
  rw [List.length_map] at l1
  refine kmk_slice F N (its := v1.toArray) (N.isList (mem_led (s1 _ m1))) (.int _ _) .none (fun D h' F' N' l => ?_) hs ht (by rw [sizeLine_eq, List.size_toArray]; lia)
  obtain ⟨N', R'⟩ := grown N' R l
  refine h _ _ h' F' N' R' ?_
  rw [show ((-1 : Int)) = -((1 : Nat) : Int) from rfl, slicePick_last _ 1 (Nat.le_refl _)]
  refine .list (.head _) ?_
  have q := dat_drop (v1.length - 1) (DatAll.mono (fun p hp => .tail _ (s1 p hp)) d1 : DatAll ((D, listOf (v1.drop (v1.length - 1)).toArray 0) :: st) v1 _)
  have e : (List.map Bit.d bs).drop (v1.length - 1) = [bs[bs.length - 1]'(by lia)].map Bit.d := by
    rw [l1, ← List.map_drop, last_one bs h0]
  rw [e] at q
  simpa using q
theorem isTup_led {h : Heap} {t bx : Addr} {n nt : Nat} {u : Tok} (N : News h₀ L h (M w A c ++ (X ++ st))) (hm : (t, pairObj n u bx nt) ∈ st) : IsTup h t #[.int (n : Nat) u, .ref bx] := News.isTup N (mem_led hm)
theorem in34 {a : Addr} {r : Nat} {t t3 t4 : Tok} (N : News h₀ L s.heap (M w A c ++ (X ++ st))) (hm : (a, tupOf [.int 3 t3, .int 4 t4]) ∈ st) (h : Q (.bool (decide (r = 3 ∨ r = 4))) s) : wpAny (model pw w) Ar (compareOp .In (.int (r : Nat) t) (.ref a)) Q E s := by
  refine in_tuple_ints (ns := [3, 4]) (News.isTup N (mem_led hm)) (.cons _ _ (.cons _ _ .nil)) ?_
  have e : ([(3 : Int), 4].any (· == ((r : Nat) : Int))) = decide (r = 3 ∨ r = 4) := by
    simp only [List.any_cons, List.any_nil, Bool.or_false]
    by_cases h0 : r = 3
    · subst h0; rfl
    · by_cases h1 : r = 4
      · subst h1; rfl
      · rw [decide_eq_false (fun q => q.elim h0 h1), beq_eq_false_iff_ne.mpr (by lia), beq_eq_false_iff_ne.mpr (by lia)]; rfl
  rw [e]; exact h
theorem min_nat {r x : Nat} {t u : Tok} (hh : Ar.handled = none) (F : Fr h₀ L s.heap m) (N : News h₀ L s.heap (M w A c ++ (X ++ st))) (hx : x ≤ 10)
    (h : ∀ (k : Nat) t' h' tk', x + k ≤ 10 → k ≤ r → Fr h₀ L h' m → News h₀ L h' (M w A c ++ (X ++ st)) → Q (.int (k : Nat) t') { s with heap := h', toks := tk' }) :
    wpAny (model pw w) Ar (call (.builtin "min") [.int (r : Nat) t, .int (10 - (x : Nat)) u]) Q E s := by
  refine min_two_N hh F N fun h' tk' F' N' => ?_
  by_cases q : (10 : Int) - (x : Nat) < (r : Nat)
  · rw [if_pos q, show (10 : Int) - (x : Nat) = ((10 - x : Nat) : Int) by lia]
    exact h _ _ _ _ (by lia) (by lia) F' N'
  · rw [if_neg q]
    exact h _ _ _ _ (by lia) (by lia) F' N'
theorem lit_bit {a t : Addr} {t1 t2 : Tok} (h1 : (a, lstOf [.ref t]) ∈ st) (h2 : (t, tupOf [.int 2 t1, .int 0 t2, .bool false]) ∈ st) : BitsIn st (.ref a) [⟨2, 0, false⟩] :=
  .list (vs := [.ref t]) (n := 0) h1 (.cons (.tuple (vs := [.int 2 t1, .int 0 t2, .bool false]) (n := 0) h2 (.cons (.int _ _) (.cons (.int _ _) (.cons (.bool _) .nil)))) .nil)
theorem flip_bits {v : Value} {bs : List Bit} (h : DatIn st v (.list (bs.map fun b => b.flip.d))) : BitsIn st v (bs.map Bit.flip) := by
  show DatIn st v (.list ((bs.map Bit.flip).map Bit.d))
  rw [List.map_map]; exact h
theorem bits_to {v : Value} {bs bs' : List Bit} (h : BitsIn st v bs) (e : bs = bs') : DatIn st v (.list (bs'.map Bit.d)) := e ▸ h
theorem cut_end {d h l a b : Nat} {x : T} (g : Good V d x) (hl : l ≤ h) (hh : h < x.wd) (ha : a = l) (hb : b = h + 1 - l) : ((T.bitsOf x).drop a).take b = T.bitsOf (T.cutT x h l) := by
  subst ha hb; exact (T.bits_cut g.1 g.2.1 hl hh).symm
theorem bits_ok {V : Lv} {x : T} {d : Nat} (g : Good V d x) : ∀ b ∈ T.bitsOf x, b.ok := fun b hb => by
  obtain ⟨i, _, rfl⟩ := List.mem_map.mp hb
  exact T.ok_readT g.2.1
theorem PEnt.mk {d : Nat} {t : Addr} {u : Tok} {nt : Nat} {bx : Addr} {n : Nat} {x : T} {bs : List Bit} (hm : (t, pairObj n u bx nt) ∈ st) (hb : BitsIn st (.ref bx) bs) (e : bs = T.bitsOf x) (ha : At σ n x) (hg : Good V d x) : PEnt V σ st d (.ref t) :=
  ⟨t, u, nt, bx, n, x, rfl, hm, e ▸ hb, ha, hg⟩
theorem good_put {d : Nat} {x y : T} (gx : Good V d x) (gy : Good V d y) (h : x.wd + y.wd ≤ 10) : Good V (d + 1) (T.putT x y) := by
  have o := T.ok_putT gx.1 gy.1 (by lia)
  have := T.dep_putT x y
  have := gx.2.2.1; have := gy.2.2.1
  exact ⟨o.1, T.lv_putT gx.2.1 gy.2.1, by lia, by rw [o.2]; exact h⟩
theorem good_wider {d m1 : Nat} {x : T} (g : Good V d x) (h : x.wd + m1 ≤ 10) : Good V (d + 1) (T.widerT m1 x) := by
  have o := T.ok_widerT (m := m1) g.1 (by lia)
  have := T.dep_widerT m1 x; have := g.2.2.1
  exact ⟨o.1, T.lv_widerT g.2.1, by lia, by rw [o.2]; exact h⟩
theorem good_sx {d m1 : Nat} {x : T} (g : Good V d x) (h : x.wd + m1 ≤ 10) : Good V (d + 1) (T.sxT m1 x) := by
  have o := T.ok_sxT (m := m1) g.1 (by lia)
  have := T.dep_sxT m1 x; have := g.2.2.1
  exact ⟨o.1, T.lv_sxT g.2.1, by lia, by rw [o.2]; exact h⟩
theorem good_not {d : Nat} {x : T} (g : Good V d x) : Good V (d + 1) (T.notT x) := by
  have o := T.ok_notT g.1
  have := T.dep_notT x; have := g.2.2.1
  exact ⟨o.1, T.lv_notT g.2.1, by lia, by rw [o.2]; exact g.2.2.2⟩
theorem good_cut {d h l : Nat} {x : T} (g : Good V d x) (a : l ≤ h) (b : h < x.wd) : Good V (d + 1) (T.cutT x h l) := by
  have o := T.ok_cutT g.1 a b
  have := T.dep_cutT x h l; have := g.2.2.1; have := g.2.2.2
  exact ⟨o.1, T.lv_cutT g.2.1, by lia, by rw [o.2]; lia⟩
theorem last_bit {x : T} (h : 1 ≤ (T.bitsOf x).length) : (T.bitsOf x)[(T.bitsOf x).length - 1]'(by lia) = T.readT x (x.wd - 1) := by
  rw [T.bitsOf_get]; rw [T.bitsOf_length]
end
end
section
section
variable {w : World} {mean : ExcName → Option Value} {mg mb : Str → Option Value} {dp un : Nat} {gd : Option (List Code)} {cn : Str} {cs : Scope} {a : Addr} {ccd : Value} {cl : List (Str × Addr)} {outer : List Env} {A₀ : Around} {base h₀ : Heap} {L : Addr} {m : Str → Option Value} 
     {A : Ba} {c : Bc} {k : Mk} {X st : List (Addr × Obj)} {σ : St} {n n1 n2 b : Nat} {S : Src} {o : Obj} {V : Lv} {bx : Addr} {x y τ : T} {i j : Int} {tk tk1 tk2 tk3 : Tok}
variable {ko : Option Mk}
variable {So : Sc} {Y : Cx} {tk0 : Nat} {κ : KO Value}
theorem are_use_v (s : Std ⟨So, Y, w, A, ko, true⟩ (16 + 2 * x.dep)) (R : Rep w A c X st σ) (ha : At σ n x) (hV : LvIs V σ st) (ho : x.ok) (hv : x.lv V.w0 V.w1) (hb : DatIn st (.ref bx) (.list ((T.bitsOf x).map Bit.d)))
    (ret : ∀ st' tk', Gr st st' → Rep w A c X st' σ → κ (.bool true) ⟨c, X⟩ st' tk') :
    Stp ⟨So, Y, w, A, ko, true⟩ ⟨c, X⟩ st tk0 (call (.ref 1072) [.ref A.b, .ref V.a, .int n tk, .ref bx]) κ :=
  ⟨fun h₁ m q F N l => by obtain ⟨mean, mg, mb, T⟩ := s.T; exact are_use s.B F s.K N.1 T s.hk s.hd s.hu R ha hV ho hv hb fun st' h' tk' F' N' y0 y1 => l _ h' ⟨c, X⟩ _ _ F' ⟨N', N.2⟩ (ret st' tk' y0 y1)⟩
end
section
variable {So : Sc} {Y : Cx} {w : World} {A : Ba} {c : Bc} {k : Mk} {ko : Option Mk} {X st st' st1 : Led} {σ : St} {S : Src} {o : Obj} {V : Lv} {bx ax a1 pa : Addr} {vs : List Value} {bs bs1 bs2 : List Bit} {b d kn n n1 m1 i1 tk0 x1 y1 : Nat} {i j : Int} {τ x y : T} {tk tk1 tk2 : Tok} {κ : KO Value}
theorem bits_len_v (hb : DatIn st' (.ref ax) (.list (bs.map Bit.d))) (hs : Gr st' st) (hn : bs.length ≤ 2 ^ 20) (ret : ∀ t tk', κ (.int (bs.length : Nat) t) ⟨c, X⟩ st tk') : Stp ⟨So, Y, w, A, ko, true⟩ ⟨c, X⟩ st tk0 (call (.builtin "len") [.ref ax]) κ := ⟨fun h₁ m q F N l => bits_len N.1 hb hs hn fun t tk' => l _ h₁ _ _ _ F N (ret t tk')⟩
theorem cut_slc_v {x y : Nat} (R : Rep w A c X st σ) (h1 : BitsIn st1 (.ref a1) bs) (s1 : Gr st1 st) (hl : i = (x : Nat)) (hu : j = (y : Nat)) (hxy : x ≤ y) (hy : y ≤ bs.length) (hn : bs.length ≤ 100)
    (ret : ∀ D o, Rep w A c X ((D, o) :: st) σ → BitsIn ((D, o) :: st) (.ref D) ((bs.drop x).take (y - x)) → κ (.ref D) ⟨c, X⟩ ((D, o) :: st) tk0) : Slc ⟨So, Y, w, A, ko, true⟩ (.ref a1) (.int i tk1) (.int j tk2) ⟨c, X⟩ st tk0 κ :=
  ⟨fun ve ie h₁ m q so F N l => cut_bits (s := Z.sh ⟨So, Y, w, A, ko, true⟩ h₁ tk0) F N.1 R h1 s1 hl hu hxy hy hn (fun D o h' F' N' R' B' => l _ h' ⟨c, X⟩ _ _ F' ⟨N', N.2⟩ (ret D o R' B')) (so.1 _ _) (so.2 _)⟩
theorem last_slc_v (R : Rep w A c X st σ) (h1 : BitsIn st1 (.ref a1) bs) (s1 : Gr st1 st) (h0 : 1 ≤ bs.length) (hn : bs.length ≤ 100)
    (ret : ∀ D o, Rep w A c X ((D, o) :: st) σ → BitsIn ((D, o) :: st) (.ref D) [bs[bs.length - 1]'(by omega)] → κ (.ref D) ⟨c, X⟩ ((D, o) :: st) tk0) : Slc ⟨So, Y, w, A, ko, true⟩ (.ref a1) (.int (-1) tk1) .none ⟨c, X⟩ st tk0 κ :=
  ⟨fun ve ie h₁ m q so F N l => last_bits (s := Z.sh ⟨So, Y, w, A, ko, true⟩ h₁ tk0) F N.1 R h1 s1 h0 hn (fun D o h' F' N' R' B' => l _ h' ⟨c, X⟩ _ _ F' ⟨N', N.2⟩ (ret D o R' B')) (so.1 _ _) (so.2 _)⟩
theorem add_bits_v {st2 : Led} {a2 : Addr} (R : Rep w A c X st σ) (h1 : BitsIn st1 (.ref a1) bs1) (s1 : Gr st1 st) (h2 : BitsIn st2 (.ref a2) bs2) (s2 : Gr st2 st) (hn : bs1.length + bs2.length ≤ 2 ^ 20)
    (ret : ∀ D o, Rep w A c X ((D, o) :: st) σ → BitsIn ((D, o) :: st) (.ref D) (bs1 ++ bs2) → κ (.ref D) ⟨c, X⟩ ((D, o) :: st) tk0) : Stp ⟨So, Y, w, A, ko, true⟩ ⟨c, X⟩ st tk0 (binaryOp .Add (.ref a1) (.ref a2)) κ :=
  ⟨fun h₁ m q F N l => add_bits (s := Z.sh ⟨So, Y, w, A, ko, true⟩ h₁ tk0) F N.1 R h1 s1 h2 s2 hn (fun D o h' F' N' R' B' => l _ h' ⟨c, X⟩ _ _ F' ⟨N', N.2⟩ (ret D o R' B'))⟩
theorem mul_bit_v {b9 : Bit} {r : Nat} (R : Rep w A c X st σ) (h1 : BitsIn st1 (.ref a1) [b9]) (s1 : Gr st1 st) (hn : r ≤ 100)
    (ret : ∀ D o, Rep w A c X ((D, o) :: st) σ → BitsIn ((D, o) :: st) (.ref D) (List.replicate r b9) → κ (.ref D) ⟨c, X⟩ ((D, o) :: st) tk0) : Stp ⟨So, Y, w, A, ko, true⟩ ⟨c, X⟩ st tk0 (binaryOp .Mult (.ref a1) (.int (r : Nat) tk1)) κ :=
  ⟨fun h₁ m q F N l => mul_bit (s := Z.sh ⟨So, Y, w, A, ko, true⟩ h₁ tk0) F N.1 R h1 s1 hn (fun D o h' F' N' R' B' => l _ h' ⟨c, X⟩ _ _ F' ⟨N', N.2⟩ (ret D o R' B'))⟩
theorem wider_j_v (s : Std ⟨So, Y, w, A, some k, true⟩ 8) (R : Rep w A c (mkL w A k X) st σ) (ha : At σ n τ) (ho : τ.ok) (hb : τ.wd + m1 ≤ 30) (hr : σ.ts.length + 1 ≤ 2 ^ 20) (hj : j = (m1 : Nat)) (ret : ∀ n' t c' st' σ' tk', Gr st st' → Rep w A c' (mkL w A k X) st' σ' → Ext σ σ' (1) → At σ' n' (τ.widerT m1) → κ (.int (n' : Nat) t) ⟨c', (mkL w A k X)⟩ st' tk') : Stp ⟨So, Y, w, A, some k, true⟩ ⟨c, mkL w A k X⟩ st tk0 (call (.ref 1010) [.ref k.m, .int j tk1, .int n tk]) κ := by
  subst hj
  exact wider_v s R ha ho hb hr ret
theorem sxt_j_v (s : Std ⟨So, Y, w, A, some k, true⟩ 10) (R : Rep w A c (mkL w A k X) st σ) (ha : At σ n τ) (ho : τ.ok) (hb : τ.wd + m1 ≤ 30) (hr : σ.ts.length + 1 ≤ 2 ^ 20) (hj : j = (m1 : Nat)) (ret : ∀ n' t c' st' σ' tk', Gr st st' → Rep w A c' (mkL w A k X) st' σ' → Ext σ σ' (1) → At σ' n' (τ.sxT m1) → κ (.int (n' : Nat) t) ⟨c', (mkL w A k X)⟩ st' tk') : Stp ⟨So, Y, w, A, some k, true⟩ ⟨c, mkL w A k X⟩ st tk0 (call (.ref 1017) [.ref k.m, .int j tk1, .int n tk]) κ := by
  subst hj
  exact sxt_v s R ha ho hb hr ret
theorem draw_use_v (s : Std ⟨So, Y, w, A, some k, true⟩ 6) (R : Rep w A c (mkL w A k ((S.d, o) :: X)) st σ) (nx : NdX k ((S.d, o) :: X)) (hS : SrcIs w S o st b) (hm : 1 ≤ j) (hb : b ≤ 1000)
    (ret : ∀ (r : Nat) t o' st' tk', (r : Int) < j → Gr st st' → Rep w A c (mkL w A k ((S.d, o') :: X)) st' σ → SrcIs w S o' st' (b + 1) → κ (.int (r : Nat) t) ⟨c, mkL w A k ((S.d, o') :: X)⟩ st' tk') :
    Stp ⟨So, Y, w, A, some k, true⟩ ⟨c, mkL w A k ((S.d, o) :: X)⟩ st tk0 (call (.ref 1055) [.ref S.d, .int j tk]) κ :=
  ⟨fun h₁ m q F N l => by
    obtain ⟨mean, mg, mb, T⟩ := s.T
    exact draw_use s.B F s.K N.1 T s.hk s.hd s.hu R nx hS hm hb fun r t o' st' h' tk' l1 F' N' hs R' S' => l _ h' ⟨c, mkL w A k ((S.d, o') :: X)⟩ _ _ F' ⟨N', ⟨_, rfl⟩⟩ (ret r t o' st' tk' l1 hs R' S')⟩
end
end
section
theorem kr_vform : True := by
  k_with_none
  k_with "cn" => first
    | (with_reducible refine Cnd.neg (by first | assumption | exact rfl) ?_) | (with_reducible refine Cnd.pos (by first | assumption | exact rfl) ?_)
    | (refine Cnd.neg (by kernel_rfl!) ?_) | (refine Cnd.pos (by kernel_rfl!) ?_)
    | (refine Cnd.pos (by (first | (simp only [bne_self_eq_false, beq_self_eq_true, beq_iff_eq, bne_iff_ne, ne_eq, beq_eq_false_iff_ne, decide_eq_true_eq, decide_eq_false_iff_not, Bool.not_eq_true', Bool.not_eq_false', Bool.not_true, Bool.not_false, Option.isSome_some, Option.isSome_none, not_false_eq_true, Bool.false_eq_true, reduceCtorEq, eq_self]; done) | ((try simp only [bne_self_eq_false, beq_self_eq_true, beq_iff_eq, bne_iff_ne, ne_eq, beq_eq_false_iff_ne, decide_eq_true_eq, decide_eq_false_iff_not, Bool.not_eq_true', Bool.not_eq_false', Bool.not_true, Bool.not_false, Option.isSome_some, Option.isSome_none, not_false_eq_true, Bool.false_eq_true, reduceCtorEq, eq_self]); first | with_reducible assumption | (law_purse 20000 => omega)))) ?_) | (refine Cnd.neg (by (first | (simp only [bne_self_eq_false, beq_self_eq_true, beq_iff_eq, bne_iff_ne, ne_eq, beq_eq_false_iff_ne, decide_eq_true_eq, decide_eq_false_iff_not, Bool.not_eq_true', Bool.not_eq_false', Bool.not_true, Bool.not_false, Option.isSome_some, Option.isSome_none, not_false_eq_true, Bool.false_eq_true, reduceCtorEq, eq_self]; done) | ((try simp only [bne_self_eq_false, beq_self_eq_true, beq_iff_eq, bne_iff_ne, ne_eq, beq_eq_false_iff_ne, decide_eq_true_eq, decide_eq_false_iff_not, Bool.not_eq_true', Bool.not_eq_false', Bool.not_true, Bool.not_false, Option.isSome_some, Option.isSome_none, not_false_eq_true, Bool.false_eq_true, reduceCtorEq, eq_self]); first | with_reducible assumption | (law_purse 20000 => omega)))) ?_)
  k_with "cj" => first
    | (with_reducible refine Conj.no (by first | assumption | exact rfl) ?_) | (with_reducible refine Conj.yes (by first | assumption | exact rfl) ?_)
    | (refine Conj.no (by kernel_rfl!) ?_) | (refine Conj.yes (by kernel_rfl!) ?_)
    | (refine Conj.yes (by (first | (simp only [bne_self_eq_false, beq_self_eq_true, beq_iff_eq, bne_iff_ne, ne_eq, beq_eq_false_iff_ne, decide_eq_true_eq, decide_eq_false_iff_not, Bool.not_eq_true', Bool.not_eq_false', Bool.not_true, Bool.not_false, Option.isSome_some, Option.isSome_none, not_false_eq_true, Bool.false_eq_true, reduceCtorEq, eq_self]; done) | ((try simp only [bne_self_eq_false, beq_self_eq_true, beq_iff_eq, bne_iff_ne, ne_eq, beq_eq_false_iff_ne, decide_eq_true_eq, decide_eq_false_iff_not, Bool.not_eq_true', Bool.not_eq_false', Bool.not_true, Bool.not_false, Option.isSome_some, Option.isSome_none, not_false_eq_true, Bool.false_eq_true, reduceCtorEq, eq_self]); first | with_reducible assumption | (law_purse 20000 => omega)))) ?_) | (refine Conj.no (by (first | (simp only [bne_self_eq_false, beq_self_eq_true, beq_iff_eq, bne_iff_ne, ne_eq, beq_eq_false_iff_ne, decide_eq_true_eq, decide_eq_false_iff_not, Bool.not_eq_true', Bool.not_eq_false', Bool.not_true, Bool.not_false, Option.isSome_some, Option.isSome_none, not_false_eq_true, Bool.false_eq_true, reduceCtorEq, eq_self]; done) | ((try simp only [bne_self_eq_false, beq_self_eq_true, beq_iff_eq, bne_iff_ne, ne_eq, beq_eq_false_iff_ne, decide_eq_true_eq, decide_eq_false_iff_not, Bool.not_eq_true', Bool.not_eq_false', Bool.not_true, Bool.not_false, Option.isSome_some, Option.isSome_none, not_false_eq_true, Bool.false_eq_true, reduceCtorEq, eq_self]); first | with_reducible assumption | (law_purse 20000 => omega)))) ?_)
  k_with "up" => (intro p9 h9; repeat' (first | exact h9 | refine List.mem_cons_of_mem _ ?_ | refine (show ∀ p ∈ _, p ∈ _ by assumption) _ ?_))
  k_with "vm1" => first
    | (refine (?_ : Stp _ _ _ _ _ _); k_extra "st")
    | (refine (?_ : Cnd _ _ _); k_extra "cn")
    | (refine (?_ : Conj _ _ _ _ _ _ _ _); k_extra "cj")
    | (refine (?_ : Sub _ _ _ _ _ _ _); k_extra "sb")
    | (refine (?_ : Tp _ _ _ _ _ _); refine' tp_v ?R ?_; (case R => assumption); intro b9 R9)
    | k_extra "vm9" 
  k_with "sb" => (refine' sub_v ?hd ?hx ?_; (case hd => first | assumption | exact datUp (by assumption) (by k_extra "up")); (case hx => exact rfl); intro t9)
  k_with "vm" => (repeat' (k_extra "vm1"))
  k_with "st" => ((with_reducible refine' bits_len_v ?hb ?hs ?hn ?_); (case hb => assumption); (case hs => first | assumption | k_extra "up"); (case hn => rw [T.bitsOf_length]; lia); intro t9 tk9; (try simp only [T.bitsOf_length]))
  k_with "vm9" => (refine (?_ : Slc _ _ _ _ _ _ _ _); first
    | ((with_reducible refine' last_slc_v ?R ?h1 ?s1 ?h0 ?hn ?_); (case R => assumption); (case h1 => assumption); (case s1 => first | assumption | k_extra "up"); (case h0 => rw [T.bitsOf_length]; lia); (case hn => rw [T.bitsOf_length]; lia); intro D9 o9 R9 B9)
    | (refine' cut_slc_v ?R ?h1 ?s1 ?hl ?hu ?hxy ?hy ?hn ?_; (case R => assumption); (case h1 => assumption); (case s1 => first | assumption | k_extra "up"); (case hl => exact (Int.toNat_of_nonneg (by lia)).symm); (case hu => exact (Int.toNat_of_nonneg (by lia)).symm); (case hxy => lia); (case hy => rw [T.bitsOf_length]; lia); (case hn => rw [T.bitsOf_length]; lia); intro D9 o9 R9 B9))
  trivial
section
variable {So : Sc} {Y : Cx} {w : World} {A : Ba} {c : Bc} {k : Mk} {ko : Option Mk} {X st st' st1 : Led} {σ : St} {S : Src} {o : Obj} {V : Lv} {bx ax a1 pa : Addr} {vs : List Value} {bs bs1 bs2 : List Bit} {b d kn n n1 m1 i1 tk0 x1 y1 : Nat} {i j : Int} {τ x y : T} {tk tk1 tk2 : Tok} {κ : KO Value}
theorem form_v (s : Std ⟨So, Y, w, A, some k, true⟩ 60) (R : Rep w A c (mkL w A k ((S.d, o) :: X)) st σ) (nx : NdX k ((S.d, o) :: X)) (hS : SrcIs w S o st b) (hV : LvIs V σ st) (hb : b ≤ 990) (ha : At σ n x) (g : Good V d x) (hx : BitsIn st (.ref bx) (T.bitsOf x)) (hd9 : d ≤ 10) (hr : σ.ts.length + (3 * d + 14) ≤ 2 ^ 20)
    (ret : ∀ o' c' st' σ' tk', Gr st st' → Rep w A c' (mkL w A k ((S.d, o') :: X)) st' σ' → Ext σ σ' (3 * d + 12) → SrcIs w S o' st' (b + 6) → κ (.bool true) ⟨c', mkL w A k ((S.d, o') :: X)⟩ st' tk') :
    Stp ⟨So, Y, w, A, some k, true⟩ ⟨c, mkL w A k ((S.d, o) :: X)⟩ st tk0 (call (.ref 1093) [.ref S.d, .ref A.b, .ref V.a, .ref k.m, .int n tk, .ref bx]) κ := by
  have hw := T.ok_wd g.1
  have hd9' := g.2.2.1
  have hw9 := g.2.2.2
  refine def_law_is_one_form.enter s (D' := 59) (by lia) rfl ⟨rfl, rfl, trivial⟩ rfl (by decide) fun Y2 s2 fin => ?_
  k_extra "vm"
  refine' draw_use_v (s2.le (by lia)) (by assumption) (NdX.set nx) ?hS ?hm ?hb ?_; (case hS => first | assumption | exact SrcIs.up (by assumption) (by k_extra "up")); (case hm => lia); (case hb => lia); intro r1 t1 o1 st1 tk1 l1 hs1 R1 S1
  k_extra "vm"
  refine' draw_use_v (s2.le (by lia)) (by assumption) (NdX.set nx) ?hS ?hm ?hb ?_; (case hS => first | assumption | exact SrcIs.up (by assumption) (by k_extra "up")); (case hm => lia); (case hb => lia); intro r2 t2 o2 st2 tk2 l2 hs2 R2 S2
  k_extra "vm"
  refine' draw_use_v (s2.le (by lia)) (by assumption) (NdX.set nx) ?hS ?hm ?hb ?_; (case hS => first | assumption | exact SrcIs.up (by assumption) (by k_extra "up")); (case hm => lia); (case hb => lia); intro r3 t3 o3 st3 tk3 l3 hs3 R3 S3
  k_extra "vm"
  refine' draw_use_v (s2.le (by lia)) (by assumption) (NdX.set nx) ?hS ?hm ?hb ?_; (case hS => first | assumption | exact SrcIs.up (by assumption) (by k_extra "up")); (case hm => lia); (case hb => lia); intro r4 t4 o4 st4 tk4 l4 hs4 R4 S4
  k_extra "vm"
  have l1' : r1 < x.wd := by lia
  have l2' : r1 + r2 < x.wd := by lia
  have l3' : r3 < r2 + 1 := by lia
  have l4' : r3 + r4 < r2 + 1 := by lia
  have gc := good_cut (h := r1 + r2) (l := r1) g (by lia) l2'
  have ok5 := T.ok_cutT (h := r1 + r2) (l := r1) g.1 (by lia) l2'
  have gd5 := gc.2.2.1
  refine cut_all w _ (r1 + r2) (r1) (s2.le (by lia)) (by assumption) (by first | assumption | (repeat' (first | assumption | refine Ext.at (show Ext _ _ _ by assumption) ?_))) (g.1) (by lia) (by lia) (by lia) (l2') (by lia) ?_
  intro n5 t5 c5 st5 σ5 tk5 hs5 R5 X5 A5
  have z5 := Ext.len X5
  k_extra "vm"
  refine are_use_v (x := T.cutT x (r1 + r2) r1) (s2.le (by lia)) (by assumption) (by assumption) (LvIs.up (LvIs.ext hV (by assumption)) (by k_extra "up")) gc.1 gc.2.1 (bits_to (by assumption) (cut_end g (by lia) l2' (by lia) (by lia))) ?_
  intro st6 tk6 hs6 R6
  k_extra "vm"
  refine cut_all w _ (r3 + r4) (r3) (s2.le (by lia)) (by assumption) (by first | assumption | (repeat' (first | assumption | refine Ext.at (show Ext _ _ _ by assumption) ?_))) (gc.1) (by lia) (by lia) (by lia) (by rw [ok5.2]; lia) (by lia) ?_
  intro n7 t7 c7 st7 σ7 tk7 hs7 R7 X7 A7
  have z7 := Ext.len X7
  k_extra "vm"
  refine cut_all w _ (r1 + (r3 + r4)) (r1 + r3) (s2.le (by lia)) (by assumption) (by first | assumption | (repeat' (first | assumption | refine Ext.at (show Ext _ _ _ by assumption) ?_))) (g.1) (by lia) (by lia) (by lia) (by lia) (by lia) ?_
  intro n8 t8 c8 st8 σ8 tk8 hs8 R8 X8 A8
  have z8 := Ext.len X8
  have e78 : n7 = n8 := at_inj R8.ok (Ext.at X8 A7) (by rw [T.cutT_cutT g.1 (by lia) l2' (by lia) (by lia)]; exact A8)
  subst e78
  k_extra "vm"
  refine' draw_use_v (s2.le (by lia)) (by assumption) (NdX.set nx) ?hS ?hm ?hb ?_; (case hS => first | assumption | exact SrcIs.up (by assumption) (by k_extra "up")); (case hm => lia); (case hb => lia); intro r9 t9 o9 st9 tk9 l9 hs9 R9 S9
  k_extra "vm"
  refine' draw_use_v (s2.le (by lia)) (by assumption) (NdX.set nx) ?hS ?hm ?hb ?_; (case hS => first | assumption | exact SrcIs.up (by assumption) (by k_extra "up")); (case hm => lia); (case hb => lia); intro r10 t10 o10 st10 tk10 l10 hs10 R10 S10
  k_extra "vm"
  have ok11 := T.ok_widerT (m := r9) g.1 (show x.wd + r9 ≤ 30 by lia)
  have wd11 := ok11.2
  refine wider_j_v (m1 := r9) (τ := x) (s2.le (by lia)) (by assumption) (by first | assumption | (repeat' (first | assumption | refine Ext.at (show Ext _ _ _ by assumption) ?_))) (g.1) (by lia) (by lia) (by lia) ?_
  intro n11 t11 c11 st11 σ11 tk11 hs11 R11 X11 A11
  have z11 := Ext.len X11
  k_extra "vm"
  refine wider_j_v (m1 := r10) (τ := T.widerT r9 x) (s2.le (by lia)) (by assumption) (by first | assumption | (repeat' (first | assumption | refine Ext.at (show Ext _ _ _ by assumption) ?_))) (ok11.1) (by lia) (by lia) (by lia) ?_
  intro n12 t12 c12 st12 σ12 tk12 hs12 R12 X12 A12
  have z12 := Ext.len X12
  k_extra "vm"
  refine wider_j_v (m1 := r9 + r10) (τ := x) (s2.le (by lia)) (by assumption) (by first | assumption | (repeat' (first | assumption | refine Ext.at (show Ext _ _ _ by assumption) ?_))) (g.1) (by lia) (by lia) (by lia) ?_
  intro n13 t13 c13 st13 σ13 tk13 hs13 R13 X13 A13
  have z13 := Ext.len X13
  have e11 : n12 = n13 := at_inj R13.ok (Ext.at X13 A12) (by rw [T.widerT_widerT]; exact A13)
  subst e11
  k_extra "vm"
  have ok14 := T.ok_sxT (m := r9) g.1 (show x.wd + r9 ≤ 30 by lia)
  have wd14 := ok14.2
  refine sxt_j_v (m1 := r9) (τ := x) (s2.le (by lia)) (by assumption) (by first | assumption | (repeat' (first | assumption | refine Ext.at (show Ext _ _ _ by assumption) ?_))) (g.1) (by lia) (by lia) (by lia) ?_
  intro n14 t14 c14 st14 σ14 tk14 hs14 R14 X14 A14
  have z14 := Ext.len X14
  k_extra "vm"
  refine sxt_j_v (m1 := r10) (τ := T.sxT r9 x) (s2.le (by lia)) (by assumption) (by first | assumption | (repeat' (first | assumption | refine Ext.at (show Ext _ _ _ by assumption) ?_))) (ok14.1) (by lia) (by lia) (by lia) ?_
  intro n15 t15 c15 st15 σ15 tk15 hs15 R15 X15 A15
  have z15 := Ext.len X15
  k_extra "vm"
  refine sxt_j_v (m1 := r9 + r10) (τ := x) (s2.le (by lia)) (by assumption) (by first | assumption | (repeat' (first | assumption | refine Ext.at (show Ext _ _ _ by assumption) ?_))) (g.1) (by lia) (by lia) (by lia) ?_
  intro n16 t16 c16 st16 σ16 tk16 hs16 R16 X16 A16
  have z16 := Ext.len X16
  have e14 : n15 = n16 := at_inj R16.ok (Ext.at X16 A15) (by rw [T.sxT_sxT g.1]; exact A16)
  subst e14
  k_extra "vm"
  refine (?_ : Fin _ _ _ _ _)
  rw [beq_self_eq_true]
  exact fin _ _ _ _ (ret _ _ _ _ _ (by k_extra "up") (by assumption) (Ext.le ((((((((X5.trans X7).trans X8).trans X11).trans X12).trans X13).trans X14).trans X15).trans X16) (by lia)) (SrcIs.le (SrcIs.up (by assumption) (by k_extra "up")) (by lia)))
end
end
section
section
variable {So : Sc} {Y : Cx} {w : World} {A : Ba} {c : Bc} {k : Mk} {ko : Option Mk} {X st st' st1 : Led} {σ : St} {S : Src} {o : Obj} {V : Lv} {bx ax a1 pa : Addr} {vs : List Value} {bs bs1 bs2 : List Bit} {b d kn n n1 m1 i1 tk0 x1 y1 : Nat} {i j : Int} {τ x y : T} {tk tk1 tk2 : Tok} {κ : KO Value}
theorem Cnd.split {b : Bool} {p q : Prop} (hp : b = true → p) (hq : b = false → q) : Cnd b p q := ⟨hp, hq⟩
theorem pool_len_v (hm : (pa, listOf vs.toArray kn) ∈ X) (hn : vs.length ≤ 2 ^ 20) (ret : ∀ t tk', κ (.int (vs.length : Nat) t) ⟨c, X⟩ st tk') : Stp ⟨So, Y, w, A, ko, true⟩ ⟨c, X⟩ st tk0 (call (.builtin "len") [.ref pa]) κ := ⟨fun h₁ m q F N l => pool_len N.1 hm hn fun t tk' => l _ h₁ _ _ _ F N (ret t tk')⟩
theorem pool_item_v {u : Tok} (hm : (pa, listOf vs.toArray kn) ∈ X) (hP : PoolIs V σ st' d vs) (h0 : 0 ≤ i) (h1 : i < vs.length) (hn : vs.length ≤ 2 ^ 20)
    (ret : ∀ (t : Addr) (u : Tok) (nt : Nat) (bx : Addr) (n : Nat) (x : T), (t, pairObj n u bx nt) ∈ st' → BitsIn st' (.ref bx) (T.bitsOf x) → At σ n x → Good V d x → κ (.ref t) ⟨c, X⟩ st tk0) : Sub ⟨So, Y, w, A, ko, true⟩ (.ref pa) (.int i u) ⟨c, X⟩ st tk0 κ :=
  ⟨fun ve ie ho => ⟨fun h₁ m q F N l => pool_item N.1 hm hP h0 h1 hn (fun t u nt bx n x a1 a2 a3 a4 => l _ h₁ _ _ _ F N (ret t u nt bx n x a1 a2 a3 a4)) (ho _ _ _)⟩⟩
theorem min_nat_v {r x : Nat} {t u : Tok} (hx : x ≤ 10) (ret : ∀ (m : Nat) t' tk', x + m ≤ 10 → m ≤ r → κ (.int (m : Nat) t') ⟨c, X⟩ st tk') : Stp ⟨So, Y, w, A, ko, true⟩ ⟨c, X⟩ st tk0 (call (.builtin "min") [.int (r : Nat) t, .int (10 - (x : Nat)) u]) κ :=
  ⟨fun h₁ m q F N l => min_nat rfl F N.1 hx fun k' t' h' tk' a b F' N' => l _ h' ⟨c, X⟩ _ _ F' ⟨N', N.2⟩ (ret k' t' tk' a b)⟩
theorem in34_b {r : Nat} : ([(3 : Int), 4].any (· == ((r : Nat) : Int))) = decide (r = 3 ∨ r = 4) := by
  simp only [List.any_cons, List.any_nil, Bool.or_false]
  by_cases h0 : r = 3
  · subst h0; rfl
  · by_cases h1 : r = 4
    · subst h1; rfl
    · rw [decide_eq_false (fun q => q.elim h0 h1), beq_eq_false_iff_ne.mpr (by omega), beq_eq_false_iff_ne.mpr (by omega)]; rfl
theorem mul_lit_v {t : Addr} {t1 t2 : Tok} {r : Nat} (R : Rep w A c X st σ) (h1 : (a1, lstOf [.ref t]) ∈ st) (h2 : (t, tupOf [.int 2 t1, .int 0 t2, .bool false]) ∈ st) (hn : r ≤ 100)
    (ret : ∀ D o, Rep w A c X ((D, o) :: st) σ → BitsIn ((D, o) :: st) (.ref D) (List.replicate r ⟨2, 0, false⟩) → κ (.ref D) ⟨c, X⟩ ((D, o) :: st) tk0) : Stp ⟨So, Y, w, A, ko, true⟩ ⟨c, X⟩ st tk0 (binaryOp .Mult (.ref a1) (.int (r : Nat) tk1)) κ :=
  mul_bit_v R (lit_bit h1 h2) (fun _ h => h) hn ret
theorem unp_pair {t bx : Addr} {u : Tok} {nt : Nat} {f : Value → Value → Prop} (hm : (t, pairObj n u bx nt) ∈ st') (hs : Gr st' st) (h : f (.int (n : Nat) u) (.ref bx)) : Unp ⟨So, Y, w, A, ko, true⟩ (.ref t) ⟨c, X⟩ st f :=
  ⟨⟨_, _, _, _, rfl, List.mem_append_right _ (List.mem_append_right _ (hs _ hm)), fun h e => ⟨_, e, rfl, _, rfl⟩, h⟩⟩
end
theorem kr_vmore : True := by
  k_with_none
  k_with "cn" => first
    | (with_reducible refine Cnd.neg (by first | assumption | exact rfl) ?_) | (with_reducible refine Cnd.pos (by first | assumption | exact rfl) ?_)
    | (refine Cnd.neg (by kernel_rfl!) ?_) | (refine Cnd.pos (by kernel_rfl!) ?_)
    | (refine Cnd.pos (by (first | (simp only [bne_self_eq_false, beq_self_eq_true, beq_iff_eq, bne_iff_ne, ne_eq, beq_eq_false_iff_ne, decide_eq_true_eq, decide_eq_false_iff_not, Bool.not_eq_true', Bool.not_eq_false', Bool.not_true, Bool.not_false, Option.isSome_some, Option.isSome_none, not_false_eq_true, Bool.false_eq_true, reduceCtorEq, eq_self]; done) | ((try simp only [bne_self_eq_false, beq_self_eq_true, beq_iff_eq, bne_iff_ne, ne_eq, beq_eq_false_iff_ne, decide_eq_true_eq, decide_eq_false_iff_not, Bool.not_eq_true', Bool.not_eq_false', Bool.not_true, Bool.not_false, Option.isSome_some, Option.isSome_none, not_false_eq_true, Bool.false_eq_true, reduceCtorEq, eq_self]); first | with_reducible assumption | (law_purse 20000 => omega)))) ?_) | (refine Cnd.neg (by (first | (simp only [bne_self_eq_false, beq_self_eq_true, beq_iff_eq, bne_iff_ne, ne_eq, beq_eq_false_iff_ne, decide_eq_true_eq, decide_eq_false_iff_not, Bool.not_eq_true', Bool.not_eq_false', Bool.not_true, Bool.not_false, Option.isSome_some, Option.isSome_none, not_false_eq_true, Bool.false_eq_true, reduceCtorEq, eq_self]; done) | ((try simp only [bne_self_eq_false, beq_self_eq_true, beq_iff_eq, bne_iff_ne, ne_eq, beq_eq_false_iff_ne, decide_eq_true_eq, decide_eq_false_iff_not, Bool.not_eq_true', Bool.not_eq_false', Bool.not_true, Bool.not_false, Option.isSome_some, Option.isSome_none, not_false_eq_true, Bool.false_eq_true, reduceCtorEq, eq_self]); first | with_reducible assumption | (law_purse 20000 => omega)))) ?_)
  k_with "cj" => first
    | (with_reducible refine Conj.no (by first | assumption | exact rfl) ?_) | (with_reducible refine Conj.yes (by first | assumption | exact rfl) ?_)
    | (refine Conj.no (by kernel_rfl!) ?_) | (refine Conj.yes (by kernel_rfl!) ?_)
    | (refine Conj.yes (by (first | (simp only [bne_self_eq_false, beq_self_eq_true, beq_iff_eq, bne_iff_ne, ne_eq, beq_eq_false_iff_ne, decide_eq_true_eq, decide_eq_false_iff_not, Bool.not_eq_true', Bool.not_eq_false', Bool.not_true, Bool.not_false, Option.isSome_some, Option.isSome_none, not_false_eq_true, Bool.false_eq_true, reduceCtorEq, eq_self]; done) | ((try simp only [bne_self_eq_false, beq_self_eq_true, beq_iff_eq, bne_iff_ne, ne_eq, beq_eq_false_iff_ne, decide_eq_true_eq, decide_eq_false_iff_not, Bool.not_eq_true', Bool.not_eq_false', Bool.not_true, Bool.not_false, Option.isSome_some, Option.isSome_none, not_false_eq_true, Bool.false_eq_true, reduceCtorEq, eq_self]); first | with_reducible assumption | (law_purse 20000 => omega)))) ?_) | (refine Conj.no (by (first | (simp only [bne_self_eq_false, beq_self_eq_true, beq_iff_eq, bne_iff_ne, ne_eq, beq_eq_false_iff_ne, decide_eq_true_eq, decide_eq_false_iff_not, Bool.not_eq_true', Bool.not_eq_false', Bool.not_true, Bool.not_false, Option.isSome_some, Option.isSome_none, not_false_eq_true, Bool.false_eq_true, reduceCtorEq, eq_self]; done) | ((try simp only [bne_self_eq_false, beq_self_eq_true, beq_iff_eq, bne_iff_ne, ne_eq, beq_eq_false_iff_ne, decide_eq_true_eq, decide_eq_false_iff_not, Bool.not_eq_true', Bool.not_eq_false', Bool.not_true, Bool.not_false, Option.isSome_some, Option.isSome_none, not_false_eq_true, Bool.false_eq_true, reduceCtorEq, eq_self]); first | with_reducible assumption | (law_purse 20000 => omega)))) ?_)
  k_with "up" => (intro p9 h9; repeat' (first | exact h9 | refine List.mem_cons_of_mem _ ?_ | refine (show ∀ p ∈ _, p ∈ _ by assumption) _ ?_))
  k_with "vm1" => first
    | (refine (?_ : Stp _ _ _ _ _ _); k_extra "st")
    | (refine (?_ : Cnd _ _ _); k_extra "cn")
    | (refine (?_ : Conj _ _ _ _ _ _ _ _); k_extra "cj")
    | (refine (?_ : Sub _ _ _ _ _ _ _); k_extra "sb")
    | (refine (?_ : Tp _ _ _ _ _ _); refine' tp_v ?R ?_; (case R => assumption); intro b9 R9)
    | k_extra "vm9" 
  k_with "sb" => (refine' sub_v ?hd ?hx ?_; (case hd => first | assumption | exact datUp (by assumption) (by k_extra "up")); (case hx => exact rfl); intro t9)
  k_with "vm" => (repeat' (k_extra "vm1"))
  k_with "st" => ((with_reducible refine' bits_len_v ?hb ?hs ?hn ?_); (case hb => assumption); (case hs => first | assumption | k_extra "up"); (case hn => rw [T.bitsOf_length]; lia); intro t9 tk9; (try simp only [T.bitsOf_length]))
  k_with "st" => ((with_reducible refine' pool_len_v ?hm ?hn ?_); (case hm => exact (.tail _ (.tail _ (.tail _ (.head _))))); (case hn => first | assumption | lia); intro t9 tk9)
  k_with "sb" => ((with_reducible refine' pool_item_v ?hm ?hP ?h0 ?h1 ?hn ?_); (case hm => exact (.tail _ (.tail _ (.tail _ (.head _))))); (case hP => assumption); (case h0 => first | assumption | exact Int.natCast_nonneg _ | lia); (case h1 => first | assumption | lia); (case hn => first | assumption | lia); intro t9 u9 nt9 bx9 n9 x9 hm9 B9 A9 G9; have W9 := T.ok_wd G9.1; have V9 := G9.2.2.2; have D9 := G9.2.2.1)
  k_with "vm9" => (refine (?_ : Unp _ _ _ _ _); refine' unp_pair ?q1 ?q2 ?_; (case q1 => assumption); (case q2 => first | assumption | k_extra "up"))
  k_with "st" => ((with_reducible refine' min_nat_v ?hx ?_); (case hx => lia); intro m9 t9 tk9 b9 b9')
  k_with "st" => ((with_reducible refine' draw_use_v ?s ?R ?nx ?hS ?hm ?hb ?_); (case s => exact Std.le (by assumption) (by lia)); (case R => assumption); (case nx => assumption); (case hS => first | assumption | exact SrcIs.up (by assumption) (by k_extra "up")); (case hm => lia); (case hb => lia); intro r9 t9 o9 st9 tk9 l9 hs9 R9 S9; have nx9 := NdX.set (o' := o9) (by assumption))
  k_with "st" => ((with_reducible refine' add_bits_v ?R ?h1 ?s1 ?h2 ?s2 ?hn ?_); (case R => assumption); (case h1 => assumption); (case s1 => first | assumption | k_extra "up"); (case h2 => assumption); (case s2 => first | assumption | k_extra "up"); (case hn => simp only [T.bitsOf_length, List.length_replicate]; lia); intro D9 o9 R9 B9)
  k_with "st" => ((with_reducible refine' mul_lit_v ?R ?h1 ?h2 ?hn ?_); (case R => assumption); (case h1 => exact .head _); (case h2 => exact .tail _ (.head _)); (case hn => lia); intro D9 o9 R9 B9)
  k_with "st" => ((with_reducible refine' mul_bit_v ?R ?h1 ?s1 ?hn ?_); (case R => assumption); (case h1 => assumption); (case s1 => first | assumption | k_extra "up"); (case hn => lia); intro D9 o9 R9 B9)
  k_with "vm9" => (refine (?_ : Slc _ _ _ _ _ _ _ _); first
    | ((with_reducible refine' last_slc_v ?R ?h1 ?s1 ?h0 ?hn ?_); (case R => assumption); (case h1 => assumption); (case s1 => first | assumption | k_extra "up"); (case h0 => rw [T.bitsOf_length]; lia); (case hn => rw [T.bitsOf_length]; lia); intro D9 o9 R9 B9)
    | (refine' cut_slc_v ?R ?h1 ?s1 ?hl ?hu ?hxy ?hy ?hn ?_; (case R => assumption); (case h1 => assumption); (case s1 => first | assumption | k_extra "up"); (case hl => exact (Int.toNat_of_nonneg (by lia)).symm); (case hu => exact (Int.toNat_of_nonneg (by lia)).symm); (case hxy => lia); (case hy => rw [T.bitsOf_length]; lia); (case hn => rw [T.bitsOf_length]; lia); intro D9 o9 R9 B9))
  k_with "vm9" => (refine (?_ : Tl _ _ _ _ _ _); refine' tl_v ?R ?_; (case R => assumption); intro b9 R9)
  k_with "st" => ((with_reducible refine neg_v ?_); intro t9 tk9)
  k_with "cn" => first
    | (with_reducible refine Cnd.neg (by first | assumption | exact rfl) ?_) | (with_reducible refine Cnd.pos (by first | assumption | exact rfl) ?_)
    | (refine Cnd.split ?_ ?_ <;> intro e9 <;> (first | rw [in34_b] at e9 | skip) <;> simp only [beq_iff_eq, beq_eq_false_iff_ne, ne_eq, decide_eq_true_eq, decide_eq_false_iff_not] at e9)
  trivial
section
variable {So : Sc} {Y : Cx} {w : World} {A : Ba} {c : Bc} {k : Mk} {ko : Option Mk} {X st st' st1 : Led} {σ : St} {S : Src} {o : Obj} {V : Lv} {bx ax a1 pa : Addr} {vs : List Value} {bs bs1 bs2 : List Bit} {b d kn n n1 m1 i1 tk0 x1 y1 : Nat} {i j : Int} {τ x y : T} {tk tk1 tk2 : Tok} {κ : KO Value}
theorem more_v (s : Std ⟨So, Y, w, A, some k, true⟩ 40) (R : Rep w A c (mkL w A k ((S.d, o) :: (pa, listOf vs.toArray kn) :: X)) st σ) (nx : NdX k ((S.d, o) :: (pa, listOf vs.toArray kn) :: X)) (hS : SrcIs w S o st b) (hb : b ≤ 990) (hP : PoolIs V σ st d vs) (h1 : 1 ≤ vs.length) (h2 : vs.length ≤ 100) (hd9 : d ≤ 10) (hr : σ.ts.length + (d + 3) ≤ 2 ^ 20)
    (ret : ∀ v o' c' st' σ' tk', PEnt V σ' st' (d + 1) v → Gr st st' → Rep w A c' (mkL w A k ((S.d, o') :: (pa, listOf vs.toArray kn) :: X)) st' σ' → Ext σ σ' (d + 2) → SrcIs w S o' st' (b + 5) → κ v ⟨c', mkL w A k ((S.d, o') :: (pa, listOf vs.toArray kn) :: X)⟩ st' tk') :
    Stp ⟨So, Y, w, A, some k, true⟩ ⟨c, mkL w A k ((S.d, o) :: (pa, listOf vs.toArray kn) :: X)⟩ st tk0 (call (.ref 1086) [.ref S.d, .ref k.m, .ref pa]) κ := by
  refine def_law_more.enter s (D' := 39) (by lia) rfl ⟨rfl, trivial⟩ rfl (by decide) fun Y2 s2 fin => ?_
  k_extra "vm"
  · refine' put_v ?zs ?zR ?z0 ?z1 ?z2 ?z3 ?z4 ?z5 ?_; (case zR => assumption); (case z0 => assumption); (case z1 => assumption); (case z2 => exact (show Good _ _ _ by assumption).1); (case z3 => exact (show Good _ _ _ by assumption).1); (case z4 => lia); (case z5 => lia); (case zs => exact s2.le (by lia))
    intro n8 t8 c8 st8 σ8 tk8 hs8 R8 X8 A8; have z8 := Ext.len X8
    k_extra "vm"
    refine (?_ : Fin _ _ _ _ _)
    refine' fin _ _ _ _ (ret _ _ _ _ _ _ ?zP ?zh ?zR ?zX ?zS); (case zR => assumption); (case zh => k_extra "up"); (case zX => exact Ext.le (by assumption) (by lia)); (case zS => exact SrcIs.le (SrcIs.up (by assumption) (by k_extra "up")) (by lia)); (case zP => (refine' PEnt.mk (.head _) ?zb ?ze ?za ?zg; (case zb => (refine' DatIn.mono ?zu ?zc; (case zc => assumption); (case zu => k_extra "up"))); (case za => assumption); (case zg => exact good_put (show Good _ _ _ by assumption) (show Good _ _ _ by assumption) (by lia)); (case ze => exact (T.bits_put (show Good _ _ _ by assumption).1 (show Good _ _ _ by assumption).1 (show Good _ _ _ by assumption).2.1 (show Good _ _ _ by assumption).2.1 (by lia)).symm)))
  · refine' cut_all w _ _ _ ?zs ?zR ?z0 ?z1 ?z2 ?z3 ?z4 ?z5 ?z6 ?_; (case zR => assumption); (case z0 => assumption); (case z1 => exact (show Good _ _ _ by assumption).1); (case z2 => exact (Int.natCast_add _ _).symm); (case z3 => exact rfl); (case z4 => lia); (case z5 => lia); (case z6 => lia); (case zs => exact s2.le (by lia))
    intro n8 t8 c8 st8 σ8 tk8 hs8 R8 X8 A8; have z8 := Ext.len X8
    k_extra "vm"
    refine (?_ : Fin _ _ _ _ _)
    refine' fin _ _ _ _ (ret _ _ _ _ _ _ ?zP ?zh ?zR ?zX ?zS); (case zR => assumption); (case zh => k_extra "up"); (case zX => exact Ext.le (by assumption) (by lia)); (case zS => exact SrcIs.le (SrcIs.up (by assumption) (by k_extra "up")) (by lia)); (case zP => (refine' PEnt.mk (.head _) ?zb ?ze ?za ?zg; (case zb => (refine' DatIn.mono ?zu ?zc; (case zc => assumption); (case zu => k_extra "up"))); (case za => assumption); (case zg => exact good_cut (show Good _ _ _ by assumption) (by lia) (by lia)); (case ze => exact cut_end (show Good _ _ _ by assumption) (by lia) (by lia) (by lia) (by lia))))
  · refine' wider_v ?zs ?zR ?z0 ?z1 ?z2 ?z3 ?_; (case zR => assumption); (case z0 => assumption); (case z1 => exact (show Good _ _ _ by assumption).1); (case z2 => lia); (case z3 => lia); (case zs => exact s2.le (by lia))
    intro n8 t8 c8 st8 σ8 tk8 hs8 R8 X8 A8; have z8 := Ext.len X8
    k_extra "vm"
    refine (?_ : Fin _ _ _ _ _)
    refine' fin _ _ _ _ (ret _ _ _ _ _ _ ?zP ?zh ?zR ?zX ?zS); (case zR => assumption); (case zh => k_extra "up"); (case zX => exact Ext.le (by assumption) (by lia)); (case zS => exact SrcIs.le (SrcIs.up (by assumption) (by k_extra "up")) (by lia)); (case zP => (refine' PEnt.mk (.head _) ?zb ?ze ?za ?zg; (case zb => (refine' DatIn.mono ?zu ?zc; (case zc => assumption); (case zu => k_extra "up"))); (case za => assumption); (case zg => exact good_wider (show Good _ _ _ by assumption) (by lia)); (case ze => exact by rw [T.bits_wider (show Good _ _ _ by assumption).1 (by lia)])))
  · refine' sxt_v ?zs ?zR ?z0 ?z1 ?z2 ?z3 ?_; (case zR => assumption); (case z0 => assumption); (case z1 => exact (show Good _ _ _ by assumption).1); (case z2 => lia); (case z3 => lia); (case zs => exact s2.le (by lia))
    intro n8 t8 c8 st8 σ8 tk8 hs8 R8 X8 A8; have z8 := Ext.len X8
    k_extra "vm"
    refine (?_ : Fin _ _ _ _ _)
    refine' fin _ _ _ _ (ret _ _ _ _ _ _ ?zP ?zh ?zR ?zX ?zS); (case zR => assumption); (case zh => k_extra "up"); (case zX => exact Ext.le (by assumption) (by lia)); (case zS => exact SrcIs.le (SrcIs.up (by assumption) (by k_extra "up")) (by lia)); (case zP => (refine' PEnt.mk (.head _) ?zb ?ze ?za ?zg; (case zb => (refine' DatIn.mono ?zu ?zc; (case zc => assumption); (case zu => k_extra "up"))); (case za => assumption); (case zg => exact good_sx (show Good _ _ _ by assumption) (by lia)); (case ze => exact by rw [T.bits_sx (show Good _ _ _ by assumption).1 (by lia), last_bit (by rw [T.bitsOf_length]; lia)])))
  · refine' one_v ?zs ?zR ?z0 ?z1 ?z2 ?_; (case zR => assumption); (case z0 => assumption); (case z1 => exact (show Good _ _ _ by assumption).1); (case z2 => lia); (case zs => exact s2.le (by lia))
    intro n8 t8 c8 st8 σ8 tk8 hs8 R8 X8 A8; have z8 := Ext.len X8
    k_extra "vm"
    refine' flip_use_v (s2.le (by lia)) ?zR ?zb ?zl ?zo ?_; (case zR => assumption); (case zb => (refine' DatIn.mono ?zu ?zc; (case zc => assumption); (case zu => exact (by k_extra "up")))); (case zl => rw [T.bitsOf_length]; lia); (case zo => exact bits_ok (show Good _ _ _ by assumption))
    intro D7 st7 tk7 hs7 R7 B7
    have B8 := flip_bits B7
    k_extra "vm"
    refine (?_ : Fin _ _ _ _ _)
    refine' fin _ _ _ _ (ret _ _ _ _ _ _ ?zP ?zh ?zR ?zX ?zS); (case zR => assumption); (case zh => k_extra "up"); (case zX => exact Ext.le (by assumption) (by lia)); (case zS => exact SrcIs.le (SrcIs.up (by assumption) (by k_extra "up")) (by lia)); (case zP => (refine' PEnt.mk (.head _) ?zb ?ze ?za ?zg; (case zb => (refine' DatIn.mono ?zu ?zc; (case zc => assumption); (case zu => k_extra "up"))); (case za => assumption); (case zg => exact good_not (show Good _ _ _ by assumption)); (case ze => exact (T.bits_not (show Good _ _ _ by assumption).1 (show Good _ _ _ by assumption).2.1).symm)))
  · refine' cut_all w _ _ _ ?zs ?zR ?z0 ?z1 ?z2 ?z3 ?z4 ?z5 ?z6 ?_; (case zR => assumption); (case z0 => assumption); (case z1 => exact (show Good _ _ _ by assumption).1); (case z2 => exact (Int.natCast_add _ _).symm); (case z3 => exact rfl); (case z4 => lia); (case z5 => lia); (case z6 => lia); (case zs => exact s2.le (by lia))
    intro n8 t8 c8 st8 σ8 tk8 hs8 R8 X8 A8; have z8 := Ext.len X8
    k_extra "vm"
    refine (?_ : Fin _ _ _ _ _)
    refine' fin _ _ _ _ (ret _ _ _ _ _ _ ?zP ?zh ?zR ?zX ?zS); (case zR => assumption); (case zh => k_extra "up"); (case zX => exact Ext.le (by assumption) (by lia)); (case zS => exact SrcIs.le (SrcIs.up (by assumption) (by k_extra "up")) (by lia)); (case zP => (refine' PEnt.mk (.head _) ?zb ?ze ?za ?zg; (case zb => (refine' DatIn.mono ?zu ?zc; (case zc => assumption); (case zu => k_extra "up"))); (case za => assumption); (case zg => exact good_cut (show Good _ _ _ by assumption) (by lia) (by lia)); (case ze => exact cut_end (show Good _ _ _ by assumption) (by lia) (by lia) (by lia) (by lia))))
end
end
section
section
variable {w : World} {mean : ExcName → Option Value} {mg mb : Str → Option Value} {dp un : Nat} {gd : Option (List Code)} {cn : Str} {cs : Scope} {a : Addr} {ccd : Value} {cl : List (Str × Addr)} {outer : List Env} {A₀ : Around} {base h₀ : Heap} {L : Addr} {m : Str → Option Value} {s : Shared}
    {Q E : Value → Shared → Prop} {A : Ba} {c : Bc} {k : Mk} {X st : List (Addr × Obj)} {σ : St} {n b d kn : Nat} {x : T} {tk : Tok} {S : Src} {o : Obj} {V : Lv} {bx pa : Addr} {vs : List Value} {v : Value} {bt : Bit}
theorem form_use (B : Below A₀ base outer h₀) (F : Fr h₀ L s.heap m) (K : (Mine.hd.heap_39 w.params).In h₀) (N : News h₀ L s.heap (M w A c ++ (mkL w A k ((S.d, o) :: X) ++ st))) (TT : TopL mean mg mb h₀) (hk : cs.kind = .function)
    (hd : dp + 60 < recursionLimit) (hu : un + 16 * (60) < cLine)
    (R : Rep w A c (mkL w A k ((S.d, o) :: X)) st σ) (nx : NdX k ((S.d, o) :: X)) (hS : SrcIs w S o st b) (hV : LvIs V σ st) (hb : b ≤ 990) (ha : At σ n x) (g : Good V d x) (hx : BitsIn st (.ref bx) (T.bitsOf x)) (hd9 : d ≤ 10) (hr : σ.ts.length + (3 * d + 14) ≤ 2 ^ 20)
    (ret : ∀ o' c' st' σ' h' tk', Fr h₀ L h' m → News h₀ L h' (M w A c' ++ (mkL w A k ((S.d, o') :: X) ++ st')) → (∀ p ∈ st, p ∈ st') → Rep w A c' (mkL w A k ((S.d, o') :: X)) st' σ' → Ext σ σ' (3 * d + 12) → SrcIs w S o' st' (b + 6) → Q (.bool true) { s with heap := h', toks := tk' }) :
    wpAny (model pw w) (ktrTop dp un gd cn cs L a ccd cl outer) (call (.ref 1093) [.ref S.d, .ref A.b, .ref V.a, .ref k.m, .int n tk, .ref bx]) Q E s :=
  of_stp (ko := some k) B F K N TT hk hd hu ⟨_, rfl⟩ (κ := fun v e st' _ => ∃ o' c' σ', (v, e) = (.bool true, ⟨c', mkL w A k ((S.d, o') :: X)⟩) ∧ Gr st st' ∧ Rep w A c' (mkL w A k ((S.d, o') :: X)) st' σ' ∧ Ext σ σ' (3 * d + 12) ∧ SrcIs w S o' st' (b + 6))
    (fun Y s => form_v s R nx hS hV hb ha g hx hd9 hr fun o' c' st' σ' tk' g R' X' S' => ⟨o', c', σ', rfl, g, R', X', S'⟩)
    fun v c' X' st' h' tk' hq F' N' => by
      obtain ⟨o', c2, σ', e, g, R', X', S'⟩ := hq
      cases e
      exact ret o' _ st' σ' h' tk' F' N' g R' X' S'
theorem more_use (B : Below A₀ base outer h₀) (F : Fr h₀ L s.heap m) (K : (Mine.hd.heap_39 w.params).In h₀) (N : News h₀ L s.heap (M w A c ++ (mkL w A k ((S.d, o) :: (pa, listOf vs.toArray kn) :: X) ++ st))) (TT : TopL mean mg mb h₀) (hk : cs.kind = .function)
    (hd : dp + 40 < recursionLimit) (hu : un + 16 * (40) < cLine)
    (R : Rep w A c (mkL w A k ((S.d, o) :: (pa, listOf vs.toArray kn) :: X)) st σ) (nx : NdX k ((S.d, o) :: (pa, listOf vs.toArray kn) :: X)) (hS : SrcIs w S o st b) (hb : b ≤ 990) (hP : PoolIs V σ st d vs) (h1 : 1 ≤ vs.length) (h2 : vs.length ≤ 100) (hd9 : d ≤ 10) (hr : σ.ts.length + (d + 3) ≤ 2 ^ 20)
    (ret : ∀ v o' c' st' σ' h' tk', PEnt V σ' st' (d + 1) v → Fr h₀ L h' m → News h₀ L h' (M w A c' ++ (mkL w A k ((S.d, o') :: (pa, listOf vs.toArray kn) :: X) ++ st')) → (∀ p ∈ st, p ∈ st') → Rep w A c' (mkL w A k ((S.d, o') :: (pa, listOf vs.toArray kn) :: X)) st' σ' → Ext σ σ' (d + 2) → SrcIs w S o' st' (b + 5) → Q v { s with heap := h', toks := tk' }) :
    wpAny (model pw w) (ktrTop dp un gd cn cs L a ccd cl outer) (call (.ref 1086) [.ref S.d, .ref k.m, .ref pa]) Q E s :=
  of_stp (ko := some k) B F K N TT hk hd hu ⟨_, rfl⟩ (κ := fun v e st' _ => ∃ o' c' σ', e = ⟨c', mkL w A k ((S.d, o') :: (pa, listOf vs.toArray kn) :: X)⟩ ∧ PEnt V σ' st' (d + 1) v ∧ Gr st st' ∧ Rep w A c' (mkL w A k ((S.d, o') :: (pa, listOf vs.toArray kn) :: X)) st' σ' ∧ Ext σ σ' (d + 2) ∧ SrcIs w S o' st' (b + 5))
    (fun Y s => more_v s R nx hS hb hP h1 h2 hd9 hr fun v o' c' st' σ' tk' P' g R' X' S' => ⟨o', c', σ', rfl, P', g, R', X', S'⟩)
    fun v c' X' st' h' tk' hq F' N' => by
      obtain ⟨o', c2, σ', e, P', g, R', X', S'⟩ := hq
      cases e
      exact ret v o' _ st' σ' h' tk' P' F' N' g R' X' S'
theorem truth_use (B : Below A₀ base outer h₀) (F : Fr h₀ L s.heap m) (K : (Mine.hd.heap_39 w.params).In h₀) (N : News h₀ L s.heap (M w A c ++ (X ++ st))) (TT : TopL mean mg mb h₀) (hk : cs.kind = .function)
    (hd : dp + 8 < recursionLimit) (hu : un + 16 * (8) < cLine)
    (R : Rep w A c X st σ) (hV : LvIs V σ st) (hb : DatIn st v bt.d) (ho : bt.ok) (hp : bt.who ≠ 2 → bt.place < if bt.who = 0 then V.w0 else V.w1) (hr : σ.ts.length + 2 ≤ 2 ^ 20)
    (ret : ∀ n' t c' st' σ' h' tk', Fr h₀ L h' m → News h₀ L h' (M w A c' ++ (X ++ st')) → (∀ p ∈ st, p ∈ st') → Rep w A c' X st' σ' → Ext σ σ' 2 → At σ' n' (bt.truth V) → Q (.int (n' : Nat) t) { s with heap := h', toks := tk' }) :
    wpAny (model pw w) (ktrTop dp un gd cn cs L a ccd cl outer) (call (.ref 1079) [.ref A.b, .ref V.a, v]) Q E s :=
  of_stp (ko := none) B F K N TT hk hd hu trivial (κ := fun v e st' _ => ∃ n' t c' σ', (v, e) = (.int (n' : Nat) t, ⟨c', X⟩) ∧ Gr st st' ∧ Rep w A c' X st' σ' ∧ Ext σ σ' 2 ∧ At σ' n' (bt.truth V))
    (fun Y s => truth_v s R hV hb ho hp hr fun n' t c' st' σ' tk' g R' X' A' => ⟨n', t, c', σ', rfl, g, R', X', A'⟩)
    fun v c' X' st' h' tk' hq F' N' => by
      obtain ⟨n', t, c2, σ', e, g, R', X', A'⟩ := hq
      cases e
      exact ret n' t _ st' σ' h' tk' F' N' g R' X' A'
theorem bv_sort_go (B : Below A₀ base outer h₀) (F : Fr h₀ L s.heap m) (K : (Mine.hd.heap_39 w.params).In h₀) (N : News h₀ L s.heap (M w A c ++ (X ++ st))) (TT : TopL mean mg mb h₀) (hk : cs.kind = .function)
    (hd : dp + 1 < recursionLimit) (hu : un + 16 * (1) < cLine)
    {i : Int} {x : Nat} (W : WantW x) (R : Rep w A c X st σ) (hi : i = (x : Nat)) (hx : 1 ≤ x ∧ x ≤ 4096)
    (ret : ∀ t c' σ' h' tk', Fr h₀ L h' m → News h₀ L h' (M w A c' ++ (X ++ st)) → Rep w A c' X st σ' → Ext σ σ' 0 → σ'.fs = σ.fs → x ∈ σ'.ws → Q (.int (σ'.sx x : Nat) t) { s with heap := h', toks := tk' }) :
    wpAny (model pw w) (ktrTop dp un gd cn cs L a ccd cl outer) (call (.ref 654) [.ref A.b, .int i tk]) Q E s := by
  exact of_stp (ko := none) B F K N TT hk hd hu trivial (κ := fun v e st' _ => ∃ t c' σ', v = .int (σ'.sx x : Nat) t ∧ e = ⟨c', X⟩ ∧ st' = st ∧ Rep w A c' X st σ' ∧ Ext σ σ' 0 ∧ σ'.fs = σ.fs ∧ x ∈ σ'.ws) (fun Y s => sort_go_v s R W hi hx fun t c' σ' tk' R' X' f' w' => ⟨t, c', σ', rfl, rfl, rfl, R', X', f', w'⟩)
    fun v c' X' st' h' tk' hq F' N' => by
      obtain ⟨t, c2, σ', rfl, e, rfl, R', X', f', w'⟩ := hq
      cases e
      exact ret t c' σ' h' tk' F' N' R' X' f' w'
theorem bv_num_go {j : Int} {n1 x : Nat} {tk1 tk2 : Tok} (B : Below A₀ base outer h₀) (F : Fr h₀ L s.heap m) (K : (Mine.hd.heap_39 w.params).In h₀) (N : News h₀ L s.heap (M w A c ++ (X ++ st))) (TT : TopL mean mg mb h₀) (hk : cs.kind = .function)
    (hd : dp + 4 < recursionLimit) (hu : un + 16 * (4) < cLine)
    (R : Rep w A c X st σ) (W : WantW x) (hj : j = (x : Nat)) (hr : σ.ts.length + 1 ≤ 2 ^ 20) (hx : 1 ≤ x ∧ x ≤ 40)
    (ret : ∀ n' t c' st' σ' h' tk', Fr h₀ L h' m → News h₀ L h' (M w A c' ++ (X ++ st')) → (∀ p ∈ st, p ∈ st') → Rep w A c' X st' σ' → Ext σ σ' 1 → At σ' n' (.num (n1 % 2 ^ x) x) → Q (.int (n' : Nat) t) { s with heap := h', toks := tk' }) :
    wpAny (model pw w) (ktrTop dp un gd cn cs L a ccd cl outer) (call (.ref 675) [.ref A.b, .int (n1 : Nat) tk1, .int j tk2]) Q E s :=
  of_stp (ko := none) B F K N TT hk hd hu trivial (κ := fun v e st' _ => ∃ n' t c' σ', (v, e) = (.int (n' : Nat) t, ⟨c', X⟩) ∧ Gr st st' ∧ Rep w A c' X st' σ' ∧ Ext σ σ' 1 ∧ At σ' n' (.num (n1 % 2 ^ x) x))
    (fun Y s => bv_num_j_v s R rfl W hj hr hx fun n' t c' st' σ' tk' g R' X' A' => ⟨n', t, c', σ', rfl, g, R', X', A'⟩)
    fun v c' X' st' h' tk' hq F' N' => by
      obtain ⟨n', t, c2, σ', e, g, R', X', A'⟩ := hq
      cases e
      exact ret n' t _ st' σ' h' tk' F' N' g R' X' A'
theorem bit_old {j : Int} {i : Nat} {tk1 : Tok} (B : Below A₀ base outer h₀) (F : Fr h₀ L s.heap m) (K : (Mine.hd.heap_39 w.params).In h₀) (N : News h₀ L s.heap (M w A c ++ (mkL w A k X ++ st))) (TT : TopL mean mg mb h₀) (hk : cs.kind = .function)
    (hd : dp + (12 + x.dep) < recursionLimit) (hu : un + 16 * (12 + x.dep) < cLine)
    (R : Rep w A c (mkL w A k X) st σ) (ha : At σ n x) (ho : x.ok) (hj : j = (i : Nat)) (hi : i < x.wd) (hr : σ.ts.length + (x.dep + 1) ≤ 2 ^ 20)
    (ret : ∀ n' t c' st' σ' h' tk', Fr h₀ L h' m → News h₀ L h' (M w A c' ++ (mkL w A k X ++ st')) → (∀ p ∈ st, p ∈ st') → Rep w A c' (mkL w A k X) st' σ' → Ext σ σ' (x.dep + 1) → At σ' n' (x.bitT i) → Q (.int (n' : Nat) t) { s with heap := h', toks := tk' }) :
    wpAny (model pw w) (ktrTop dp un gd cn cs L a ccd cl outer) (call (.ref 1038) [.ref k.m, .int j tk, .int n tk1]) Q E s :=
  of_stp (ko := some k) B F K N TT hk hd hu ⟨_, rfl⟩ (κ := fun v e st' _ => ∃ n' t c' σ', (v, e) = (.int (n' : Nat) t, ⟨c', mkL w A k X⟩) ∧ Gr st st' ∧ Rep w A c' (mkL w A k X) st' σ' ∧ Ext σ σ' (x.dep + 1) ∧ At σ' n' (x.bitT i))
    (fun Y s => bit_all w x i s R ha ho hj hi hr fun n' t c' st' σ' tk' g R' X' A' => ⟨n', t, c', σ', rfl, g, R', X', A'⟩)
    fun v c' X' st' h' tk' hq F' N' => by
      obtain ⟨n', t, c2, σ', e, g, R', X', A'⟩ := hq
      cases e
      exact ret n' t _ st' σ' h' tk' F' N' g R' X' A'
end
end
section
theorem kr_Ini : True := by
  k_with_none
  trivial
theorem nu_nil {w : World} {o : Obj} (h : Obj.IsDictOf (intKind pw w) o []) : NuIs w o [] := by
  obtain ⟨es, ep, ex, hd, _, hp, _⟩ := h
  refine ⟨ex, es, ep, hd, ?_⟩
  generalize es.toList = l at hp
  cases hp
  rfl
noncomputable def K1 : NK := ⟨Str.ofString "true", [], 0, .inl 0⟩
noncomputable def K2 : NK := ⟨Str.ofString "false", [], 0, .inl 0⟩
theorem k1_ok : K1.ok := by unfold NK.ok K1 extS; simp only [Sum.isRight_inl, Bool.false_eq_true, false_iff]; decide
theorem k2_ok : K2.ok := by unfold NK.ok K2 extS; simp only [Sum.isRight_inl, Bool.false_eq_true, false_iff]; decide
theorem k12 : ¬ K1 = K2 := by decide
section
variable {w : World} {A : Around} {E : Value → Shared → Prop} {s : Shared} {h₀ : Heap} {L d a a1 : Addr} {m : Str → Option Value} {news : List (Addr × Obj)} {o : Obj} {Q : Value → Shared → Prop}
theorem at2 {v1 : Value} : atKey [(K1, a1, v1)] K2 = none := by unfold atKey; rw [List.find?_cons_of_neg (by simpa using k12)]; rfl
end
noncomputable def σ0 : St := ⟨[.nil, .tt, .ff], [], []⟩
theorem ok0 : σ0.Ok where
  n0 := rfl
  n1 := rfl
  n2 := rfl
  nd := by decide
  nw := List.nodup_nil
  wb := fun _ h => nomatch h
  cl := fun τ h k hk => by
    simp only [σ0, List.mem_cons, List.mem_nil_iff, or_false] at h
    rcases h with rfl | rfl | rfl <;> cases hk
  wi := fun τ h => by
    simp only [σ0, List.mem_cons, List.mem_nil_iff, or_false] at h
    rcases h with rfl | rfl | rfl <;> exact .inl rfl
abbrev emT (n : Nat) : Obj := { cls := .type "tuple", data := .seq #[] n }
theorem rep_new {w : World} {A : Ba} {c : Bc} {X st : List (Addr × Obj)} {p0 p1 p2 b0 b1 b2 e0 e1 e2 g0 g1 g2 u1 u2 : Tok} {d1 d2 d3 ka1 ka2 : Addr} {n1 n2 n3 : Nat} (nd : A.addrs.Nodup) (off : ∀ p ∈ X ++ st, p.1 ∉ A.addrs) (sep : ∀ p ∈ st, p.1 ∉ X.map (·.1))
    (eto : c.to = [.str (Str.ofString "") p0, .str (Str.ofString "true") p1, .str (Str.ofString "false") p2]) (eta : c.ta = [.ref d1, .ref d2, .ref d3]) (m1 : (d1, emT n1) ∈ st) (m2 : (d2, emT n2) ∈ st) (m3 : (d3, emT n3) ∈ st)
    (ets : c.ts = [.int 0 b0, .int 0 b1, .int 0 b2]) (etd : c.td = [.int 0 e0, .int 0 e1, .int 0 e2]) (esw : c.sw = [.int 0 g0, .int 0 g1, .int 0 g2]) (esn : c.sn.length = 3) (efn : c.fn = []) (efa : c.fa = []) (efr : c.fr = [])
    (hnu : NuIs w c.nu [(K1, ka1, .int 1 u1), (K2, ka2, .int 2 u2)]) (hk1 : DatIn st (.ref ka1) K1.dd) (hk2 : DatIn st (.ref ka2) K2.dd) (hbv : Obj.IsDictOf (intKind pw w) c.bv []) (lo1 : (A.nu == sysModules) = false) (lo2 : (A.bv == sysModules) = false) : Rep w A c X st σ0 where
  ok := ok0
  nd := nd
  off := off
  sep := sep
  to := by rw [eto]; exact .cons (.str _ _) (.cons (.str _ _) (.cons (.str _ _) .nil))
  ta := by rw [eta]; exact .cons (.tuple (vs := []) m1 .nil) (.cons (.tuple (vs := []) m2 .nil) (.cons (.tuple (vs := []) m3 .nil) .nil))
  ts := by rw [ets]; exact .cons (.int _ _) (.cons (.int _ _) (.cons (.int _ _) .nil))
  td := by rw [etd]; exact .cons (.int _ _) (.cons (.int _ _) (.cons (.int _ _) .nil))
  sw := by rw [esw]; exact .cons (.int _ _) (.cons (.int _ _) (.cons (.int _ _) .nil))
  sn := esn
  nu := ⟨_, hnu, rfl, fun x hx => by
    simp only [List.mem_cons, List.mem_nil_iff, or_false] at hx
    rcases hx with rfl | rfl
    · exact hk1
    · exact hk2, fun i x hx => by
    match i, hx with
    | 0, hx => cases hx; exact ⟨_, rfl⟩
    | 1, hx => cases hx; exact ⟨_, rfl⟩
    | i + 2, hx => simp at hx⟩
  bv := ⟨[], [], hbv, .nil, Nat.zero_le _, fun x => rfl⟩
  fn := by rw [efn]; rfl
  fa := by rw [efa]; exact .nil
  fr := by rw [efr]; exact .nil
  fw := fun _ h => nomatch h
  fl := Nat.zero_le _
  lo1 := lo1
  lo2 := lo2
  room := by decide
noncomputable def Asc : List Nat → Prop
  | a :: b :: l => a < b ∧ Asc (b :: l)
  | _ => True
theorem Asc.tail {a : Nat} {l : List Nat} (h : Asc (a :: l)) : Asc l := by
  cases l with
  | nil => trivial
  | cons b l => exact h.2
theorem Asc.first {a : Nat} : ∀ {l : List Nat}, Asc (a :: l) → ∀ b ∈ l, a < b
  | [], _, b, hb => nomatch hb
  | c :: l, h, b, hb => by
    rcases List.mem_cons.mp hb with rfl | hb
    · exact h.1
    · exact Nat.lt_trans h.1 (Asc.first h.2 b hb)
theorem Asc.lt : ∀ {l : List Nat}, Asc l → ∀ {i j : Nat}, i < j → j < l.length → l.getD i 0 < l.getD j 0
  | [], _, i, j, _, hj => nomatch hj
  | a :: l, h, 0, j + 1, _, hj => by
    have hj' : j < l.length := Nat.lt_of_succ_lt_succ hj
    show a < l.getD j 0
    have e : l.getD j 0 = l[j] := by rw [List.getD_eq_getElem?_getD, List.getElem?_eq_getElem hj']; rfl
    rw [e]
    exact h.first _ (List.getElem_mem hj')
  | a :: l, h, i + 1, j + 1, hi, hj => Asc.lt h.tail (Nat.lt_of_succ_lt_succ hi) (Nat.lt_of_succ_lt_succ hj)
theorem Asc.inj {l : List Nat} (h : Asc l) {i j : Nat} (hi : i < l.length) (hj : j < l.length) (e : l.getD i 0 = l.getD j 0) : i = j := by
  rcases Nat.lt_trichotomy i j with q | q | q
  · exact absurd e (Nat.ne_of_lt (h.lt q hj))
  · exact q
  · exact absurd e (Nat.ne_of_gt (h.lt q hi))
theorem Asc.nodup {l : List Nat} (h : Asc l) : ∀ {is : List Nat}, is.Nodup → (∀ i ∈ is, i < l.length) → (is.map fun i => l.getD i 0).Nodup
  | [], _, _ => List.nodup_nil
  | i :: is, n, b => by
    rw [List.nodup_cons] at n
    refine List.nodup_cons.mpr ⟨fun hm => ?_, Asc.nodup h n.2 fun j hj => b j (.tail _ hj)⟩
    obtain ⟨j, hj, e⟩ := List.mem_map.mp hm
    have := h.inj (b j (.tail _ hj)) (b i (.head _)) e
    exact n.1 (this ▸ hj)
theorem Asc.apart {l : List Nat} (h : Asc l) {is : List Nat} {i : Nat} (n : i ∉ is) (b : ∀ j ∈ is, j < l.length) (hi : i < l.length) : l.getD i 0 ∉ is.map fun j => l.getD j 0 := fun hm => by
  obtain ⟨j, hj, e⟩ := List.mem_map.mp hm
  exact n (h.inj (b j hj) hi e ▸ hj)
theorem Asc.low {l : List Nat} {a : Nat} (h : Asc (a :: l)) {is : List Nat} (b : ∀ j ∈ is, j < (a :: l).length) {y : Nat} (hy : y < a) : y ∉ is.map fun j => (a :: l).getD j 0 := fun hm => by
  obtain ⟨j, hj, e⟩ := List.mem_map.mp hm
  have e' : (a :: l).getD j 0 = y := e
  match j, b j hj, e' with
  | 0, _, e' => exact absurd (show a = y from e') (Nat.ne_of_gt hy)
  | j + 1, bj, e' => exact absurd (Nat.lt_trans (e' ▸ h.lt (Nat.succ_pos j) bj : a < y) hy) (Nat.lt_irrefl _)
end
section
section
variable {S : Sc} {X : Cx} {w : World} {B A : Ba} {c0 : Bc} {c : Bc} {st Y l : Led} {tk D n : Nat} {es : List DictEntry} {x d b : Nat} {nm : String} {o : Obj} {κ : KO Value} {vs : List Value} {k : KO Unit} {xs : List (NK × Addr × Value)}
noncomputable def I2 (x d : Addr) (es : List DictEntry) (n : Nat) : Led := [(x, instObj 748 d), (d, dictOf es n)]
theorem off_cons (off : ∀ p ∈ Y ++ st, p.1 ∉ l.map (·.1)) (h : ∀ p ∈ (l ++ Y) ++ st, p.1 < b) : ∀ p ∈ Y ++ ((b, o) :: st), p.1 ∉ l.map (·.1) := fun p hp => (List.mem_append.mp hp).elim (fun hp => off p (List.mem_append_left _ hp)) fun hp => (List.mem_cons.mp hp).elim (fun e hm => by
    subst e
    obtain ⟨q, hq, e⟩ := List.mem_map.mp hm
    have := h q (List.mem_append_left _ (List.mem_append_left _ hq))
    rw [e] at this
    exact Nat.lt_irrefl _ this) fun hp => off p (List.mem_append_right _ hp)
structure Bo (w : World) (x d : Nat) (Y st : Led) : Prop where
  lt : d < x
  off : ∀ p ∈ Y ++ st, p.1 ∉ [x, d]
theorem Bo.cons (P : Bo w x d Y st) (h : ∀ p ∈ (I2 x d es n ++ Y) ++ st, p.1 < b) : Bo w x d Y ((b, o) :: st) := ⟨P.lt, off_cons (l := I2 x d es n) P.off h⟩
theorem Bo.nd (P : Bo w x d Y st) : [x, d].Nodup := by
  have := P.lt
  simp only [List.nodup_cons, List.mem_singleton, List.not_mem_nil, not_false_eq_true, List.nodup_nil, and_true]
  exact Nat.ne_of_gt this
theorem i_set {v : Value} (s : Std ⟨S, X, w, B, none, false⟩ D) (P : Bo w x d Y st) (g : ∀ w, AttS w 748 (Str.ofString nm)) (hl : getL (Str.ofString nm) es = some none) (hz : es.length ≤ 900)
    (ret : ∀ t tk, k () ⟨c0, I2 x d (es ++ [ent w nm t v]) (n + 1) ++ Y⟩ st tk) : Stp ⟨S, X, w, B, none, false⟩ ⟨c0, I2 x d es n ++ Y⟩ st tk (setAttr (.ref x) (Str.ofString nm) v) k :=
  set_at (l' := fun t => I2 x d (es ++ [ent w nm t v]) (n + 1)) 1 s (g w) (.head _) rfl (fun _ => rfl) P.nd P.off hl hz ret
theorem i_lst (s : Std ⟨S, X, w, B, none, false⟩ D) (P : Bo w x d Y st) (g : ∀ w, AttS w 748 (Str.ofString nm)) (hl : getL (Str.ofString nm) es = some none) (hz : es.length ≤ 900) (hv : vs.length ≤ 100)
    (ret : ∀ b, (∀ p ∈ (I2 x d es n ++ Y) ++ st, p.1 < b) → Bo w x d Y ((b, lstO vs) :: st) → ∀ t tk, k () ⟨c0, I2 x d (es ++ [ent w nm t (.ref b)]) (n + 1) ++ Y⟩ ((b, lstO vs) :: st) tk) :
    Tl ⟨S, X, w, B, none, false⟩ vs ⟨c0, I2 x d es n ++ Y⟩ st tk (fun v c st tk => Stp ⟨S, X, w, B, none, false⟩ c st tk (setAttr (.ref x) (Str.ofString nm) v) k) :=
  ⟨hv, fun b hb => i_set s (P.cons hb) g hl hz (ret b hb (P.cons hb))⟩
theorem i_dct (s : Std ⟨S, X, w, B, none, false⟩ D) (P : Bo w x d Y st) (g : ∀ w, AttS w 748 (Str.ofString nm)) (hl : getL (Str.ofString nm) es = some none) (hz : es.length ≤ 900)
    (ret : ∀ b o, (∀ p ∈ (I2 x d es n ++ Y) ++ st, p.1 < b) → (b == sysModules) = false → o.IsDictOf (intKind pw w) [] → Bo w x d Y ((b, o) :: st) → ∀ t tk, k () ⟨c0, I2 x d (es ++ [ent w nm t (.ref b)]) (n + 1) ++ Y⟩ ((b, o) :: st) tk) :
    Td ⟨S, X, w, B, none, false⟩ ⟨c0, I2 x d es n ++ Y⟩ st tk (fun v c st tk => Stp ⟨S, X, w, B, none, false⟩ c st tk (setAttr (.ref x) (Str.ofString nm) v) k) :=
  ⟨fun b o hb lo hd => i_set s (P.cons hb) g hl hz (ret b o hb lo hd (P.cons hb))⟩
theorem Stp.sub {α : Type} {z : Z} {c c2 : Es} {st st2 : Led} {tk : Nat} {t : Sem α} {k : KO α} (h : Stp z c2 st2 tk t k) (hs : ∀ p ∈ z.led c2 st2, p ∈ z.led c st) (hk : z.mkd c → z.mkd c2) : Stp z c st tk t k :=
  ⟨fun hp m q F N l => h.h hp m q F ⟨fun p hp' => N.1 p (hs p hp'), hk N.2⟩ l⟩
end
theorem kr_vinit : True := by
  k_with_none
  k_with "as" => exact fun w => ⟨by k_is, by k_is, by k_is, by k_is⟩
  trivial
section
variable {w : World} {Y : Led} {x d sn sw fn fa fr to ta ts td nu D0 Dt n : Nat} {D on : Obj} {es : List DictEntry} {lsn lsw lto lta lts ltd : List Value}
noncomputable def A1 (x d sn sw fn fa fr to ta ts td nu : Nat) : Ba := ⟨x, d, sn, sw, fn, fa, fr, to, ta, ts, td, nu, 0, fun _ => 0⟩
noncomputable def c1 (lsn lsw lto lta lts ltd : List Value) (on : Obj) : Bc := ⟨lsn, lsw, [], [], [], lto, lta, lts, ltd, on, on, fun _ => 0⟩
theorem led12 : ∀ p ∈ (M12 (A1 x d sn sw fn fa fr to ta ts td nu) (dictOf es n) (c1 lsn lsw lto lta lts ltd on) ++ Y) ++ [(Dt, tupOf []), (D0, tupOf [])], p ∈ (I2 x d es n ++ Y) ++ [(Dt, tupOf []), (nu, on), (td, lstO ltd), (ts, lstO lts), (ta, lstO lta), (D0, tupOf []), (to, lstO lto), (fr, lstO []), (fa, lstO []), (fn, lstO []), (sw, lstO lsw), (sn, lstO lsn)] :=
  List.forall_mem_append.mpr ⟨List.forall_mem_append.mpr ⟨List.forall_mem_cons.mpr ⟨List.mem_append_left _ (List.mem_append_left _ (List.mem_of_getElem? (i := 0) rfl)), List.forall_mem_cons.mpr ⟨List.mem_append_left _ (List.mem_append_left _ (List.mem_of_getElem? (i := 1) rfl)), List.forall_mem_cons.mpr ⟨List.mem_append_right _ (List.mem_of_getElem? (i := 11) rfl), List.forall_mem_cons.mpr ⟨List.mem_append_right _ (List.mem_of_getElem? (i := 10) rfl), List.forall_mem_cons.mpr ⟨List.mem_append_right _ (List.mem_of_getElem? (i := 9) rfl), List.forall_mem_cons.mpr ⟨List.mem_append_right _ (List.mem_of_getElem? (i := 8) rfl), List.forall_mem_cons.mpr ⟨List.mem_append_right _ (List.mem_of_getElem? (i := 7) rfl), List.forall_mem_cons.mpr ⟨List.mem_append_right _ (List.mem_of_getElem? (i := 6) rfl), List.forall_mem_cons.mpr ⟨List.mem_append_right _ (List.mem_of_getElem? (i := 4) rfl), List.forall_mem_cons.mpr ⟨List.mem_append_right _ (List.mem_of_getElem? (i := 3) rfl), List.forall_mem_cons.mpr ⟨List.mem_append_right _ (List.mem_of_getElem? (i := 2) rfl), List.forall_mem_cons.mpr ⟨List.mem_append_right _ (List.mem_of_getElem? (i := 1) rfl), List.forall_mem_nil _⟩⟩⟩⟩⟩⟩⟩⟩⟩⟩⟩⟩, fun p hp => List.mem_append_left _ (List.mem_append_right _ hp)⟩, List.forall_mem_cons.mpr ⟨List.mem_append_right _ (List.mem_of_getElem? (i := 0) rfl), List.forall_mem_cons.mpr ⟨List.mem_append_right _ (List.mem_of_getElem? (i := 5) rfl), List.forall_mem_nil _⟩⟩⟩
theorem stp12 {α : Type} {S : Sc} {X : Cx} {B : Ba} {c0 : Bc} {tk : Nat} {t : Sem α} {k : KO α} (h : Stp ⟨S, X, w, B, none, false⟩ ⟨c0, M12 (A1 x d sn sw fn fa fr to ta ts td nu) (dictOf es n) (c1 lsn lsw lto lta lts ltd on) ++ Y⟩ [(Dt, tupOf []), (D0, tupOf [])] tk t k) :
    Stp ⟨S, X, w, B, none, false⟩ ⟨c0, I2 x d es n ++ Y⟩ [(Dt, tupOf []), (nu, on), (td, lstO ltd), (ts, lstO lts), (ta, lstO lta), (D0, tupOf []), (to, lstO lto), (fr, lstO []), (fa, lstO []), (fn, lstO []), (sw, lstO lsw), (sn, lstO lsn)] tk t k := h.sub led12 fun _ => trivial
theorem mkp1 (hc : Asc [d, x, sn, sw, fn, fa, fr, to, D0, ta, ts, td, nu, Dt]) (hY : ∀ p ∈ Y, p.1 < d) (lo : (nu == sysModules) = false) (hon : on.IsDictOf (intKind pw w) []) :
    MkP w (A1 x d sn sw fn fa fr to ta ts td nu) on Y [(Dt, tupOf []), (D0, tupOf [])] [] := by
  have hb : ∀ j ∈ ([1, 0, 2, 3, 4, 5, 6, 7, 9, 10, 11, 12] : List Nat), j < 14 := by decide
  refine ⟨hc.nodup (is := [1, 0, 2, 3, 4, 5, 6, 7, 9, 10, 11, 12]) (by decide) hb, fun p hp => ?_, nu_nil hon, (fun _ h => nomatch h), List.nodup_nil, lo, Nat.zero_le _⟩
  rcases List.mem_append.mp hp with hp | hp
  · exact hc.low hb (hY p hp)
  · rcases List.mem_cons.mp hp with rfl | hp
    · exact hc.apart (i := 13) (is := [1, 0, 2, 3, 4, 5, 6, 7, 9, 10, 11, 12]) (by decide) hb (by decide : 13 < 14)
    · rw [List.mem_singleton.mp hp]
      exact hc.apart (i := 8) (is := [1, 0, 2, 3, 4, 5, 6, 7, 9, 10, 11, 12]) (by decide) hb (by decide : 8 < 14)
theorem m_set {S : Sc} {X : Cx} {A B : Ba} {c0 c : Bc} {nm : String} {v : Value} {k : KO Unit} {st : Led} {D tk : Nat} (s : Std ⟨S, X, w, B, none, false⟩ D) (nd : A.ad12.Nodup) (off : ∀ p ∈ Y ++ st, p.1 ∉ A.ad12) (g : ∀ w, AttS w 748 (Str.ofString nm)) (hl : getL (Str.ofString nm) es = some none) (hz : es.length ≤ 900)
    (ret : ∀ t tk, k () ⟨c0, M12 A (dictOf (es ++ [ent w nm t v]) (n + 1)) c ++ Y⟩ st tk) : Stp ⟨S, X, w, B, none, false⟩ ⟨c0, M12 A (dictOf es n) c ++ Y⟩ st tk (setAttr (.ref A.b) (Str.ofString nm) v) k :=
  set_at (l' := fun t => M12 A (dictOf (es ++ [ent w nm t v]) (n + 1)) c) 1 s (g w) (.head _) rfl (fun _ => rfl) nd off hl hz ret
theorem MkP.made {A : Ba} {c : Bc} {st : Led} {kt : Nat} {o D n0 n1 : Obj} {v : Value} (P : MkP w A n0 Y st []) (h : ∀ p ∈ (M12 A D c ++ Y) ++ st, p.1 < kt) (NO : NuIs w n1 [(K1, kt, v)]) (hk : DatIn ((kt, o) :: st) (.ref kt) K1.dd) : MkP w A n1 Y ((kt, o) :: st) [(K1, kt, v)] :=
  ⟨P.nd, (P.cons h).off, NO, fun x hx => by rw [List.mem_singleton.mp hx]; exact ⟨hk, k1_ok⟩, (by simp), P.lo, Nat.le_of_ble_eq_true rfl⟩
end
structure Born (w : World) (A : Ba) (c : Bc) (Y st : Led) : Prop where
  nd : A.ad12.Nodup
  off : ∀ p ∈ Y ++ st, p.1 ∉ A.ad12
  gt : ∀ p ∈ st, ∀ q ∈ Y, q.1 < p.1
  to : ∃ p0 p1 p2, c.to = [.str (Str.ofString "") p0, .str (Str.ofString "true") p1, .str (Str.ofString "false") p2]
  ta : ∃ d1 d2 d3, c.ta = [.ref d1, .ref d2, .ref d3] ∧ (d1, emT 0) ∈ st ∧ (d2, emT 0) ∈ st ∧ (d3, emT 0) ∈ st
  ts : ∃ p0 p1 p2, c.ts = [.int 0 p0, .int 0 p1, .int 0 p2]
  td : ∃ p0 p1 p2, c.td = [.int 0 p0, .int 0 p1, .int 0 p2]
  sw : ∃ p0 p1 p2, c.sw = [.int 0 p0, .int 0 p1, .int 0 p2]
  sn : c.sn.length = 3
  fn : c.fn = []
  fa : c.fa = []
  fr : c.fr = []
  nu : ∃ k1 k2 u1 u2, NuIs w c.nu [(K1, k1, .int 1 u1), (K2, k2, .int 2 u2)] ∧ DatIn st (.ref k1) K1.dd ∧ DatIn st (.ref k2) K2.dd
  lo : (A.nu == sysModules) = false
section
variable {S : Sc} {X : Cx} {w : World} {B A : Ba} {c0 : Bc} {c : Bc} {st Y l : Led} {tk0 D n : Nat} {es : List DictEntry} {x d b : Nat} {nm : Str} {o : Obj} {κ : KO Value} {vs : List Value} {k : KO Unit} {xs : List (NK × Addr × Value)}
theorem binit (s : Std ⟨S, X, w, B, none, false⟩ 2) (hdx : d < x) (hY : ∀ p ∈ Y, p.1 < d)
    (ret : ∀ A c es st' tk', A.b = x → A.d = d → (∃ f, es = (bankEs w { A with tk := f }).take 13) → Born w A c Y st' → κ .none ⟨c0, M12 A (dictOf es 13) c ++ Y⟩ st' tk') :
    Stc ⟨S, X, w, B, none, false⟩ ⟨c0, I2 x d [] 0 ++ Y⟩ [] tk0 (.ref 236) [.ref x] κ := by
  refine def_init.enter3 s (D' := 1) (by lia) rfl trivial rfl (by decide) fun Y2 s2 _ fin => ?_
  have P0 : Bo w x d Y [] := ⟨hdx, fun p hp hm => by
    rw [List.append_nil] at hp
    have := hY p hp
    rcases List.mem_cons.mp hm with e | hm
    · rw [e] at this; exact absurd (Nat.lt_trans this hdx) (Nat.lt_irrefl _)
    · rw [List.mem_singleton.mp hm] at this; exact absurd this (Nat.lt_irrefl _)⟩
  refine i_lst s2 P0 (by k_extra "as") (by k_get) (Nat.le_of_ble_eq_true rfl) (Nat.le_of_ble_eq_true rfl) fun sn hsn P1 t0 u1 => ?_
  refine (?_ : Tl _ _ _ _ _ _); refine i_lst s2 P1 (by k_extra "as") (by k_get) (Nat.le_of_ble_eq_true rfl) (Nat.le_of_ble_eq_true rfl) fun sw hsw P2 t1 tk2 => ?_
  refine (?_ : Tl _ _ _ _ _ _); refine i_lst s2 P2 (by k_extra "as") (by k_get) (Nat.le_of_ble_eq_true rfl) (Nat.le_of_ble_eq_true rfl) fun fn hfn P3 t2 _ => ?_
  refine (?_ : Tl _ _ _ _ _ _); refine i_lst s2 P3 (by k_extra "as") (by k_get) (Nat.le_of_ble_eq_true rfl) (Nat.le_of_ble_eq_true rfl) fun fa hfa P4 t3 _ => ?_
  refine (?_ : Tl _ _ _ _ _ _); refine i_lst s2 P4 (by k_extra "as") (by k_get) (Nat.le_of_ble_eq_true rfl) (Nat.le_of_ble_eq_true rfl) fun fr hfr P5 t4 tk5 => ?_
  refine (?_ : Stp _ _ _ _ _ _); refine i_set s2 P5 (by k_extra "as") (by k_get) (Nat.le_of_ble_eq_true rfl) fun t5 tk6 => ?_
  refine (?_ : Tl _ _ _ _ _ _); refine i_lst s2 P5 (by k_extra "as") (by k_get) (Nat.le_of_ble_eq_true rfl) (Nat.le_of_ble_eq_true rfl) fun to hto P6 t6 tk7 => ?_
  refine (?_ : Tp _ _ _ _ _ _); refine ⟨Nat.le_of_ble_eq_true rfl, fun D0 hD0 => ?_⟩
  have P7 := P6.cons (o := tupOf []) hD0
  refine (?_ : Tl _ _ _ _ _ _); refine i_lst s2 P7 (by k_extra "as") (by k_get) (Nat.le_of_ble_eq_true rfl) (Nat.le_of_ble_eq_true rfl) fun ta hta P8 t7 tk8 => ?_
  refine (?_ : ∀ _ : Tok, _)
  intro tb
  refine (?_ : Tl _ _ _ _ _ _); refine i_lst s2 P8 (by k_extra "as") (by k_get) (Nat.le_of_ble_eq_true rfl) (Nat.le_of_ble_eq_true rfl) fun ts hts P9 t8 tk9 => ?_
  refine (?_ : Tl _ _ _ _ _ _); refine i_lst s2 P9 (by k_extra "as") (by k_get) (Nat.le_of_ble_eq_true rfl) (Nat.le_of_ble_eq_true rfl) fun td htd P10 t9 tk10 => ?_
  refine (?_ : Td _ _ _ _ _); refine i_dct s2 P10 (by k_extra "as") (by k_get) (Nat.le_of_ble_eq_true rfl) fun nu on hnu lo hon P11 t10 tk11 => ?_
  refine (?_ : Mt _ _ _ _ _ _ _)
  refine meth_v s2 (C := 748) (by k_is) (by k_is) (by k_is) (List.mem_append_left _ (List.mem_append_left _ (.head _))) (List.mem_append_left _ (List.mem_append_left _ (.tail _ (.head _)))) (by k_get) ?_
  refine (?_ : Tp _ _ _ _ _ _); refine ⟨Nat.le_of_ble_eq_true rfl, fun Dt hDt => ?_⟩
  refine (?_ : ∀ _ : Tok, _)
  intro tc
  have hm : ∀ {l1 l2 l3 : Led} {b a : Nat} {o : Obj}, (∀ p ∈ (l1 ++ l2) ++ ((a, o) :: l3), p.1 < b) → a < b := fun h => h _ (List.mem_append_right _ (.head _))
  have hc : Asc [d, x, sn, sw, fn, fa, fr, to, D0, ta, ts, td, nu, Dt] := ⟨hdx, hsn _ (List.mem_append_left _ (List.mem_append_left _ (.head _))), hm hsw, hm hfn, hm hfa, hm hfr, hm hto, hm hD0, hm hta, hm hts, hm htd, hm hnu, hm hDt, trivial⟩
  refine stp12 ?_
  have d1 : ∀ {st : Led} {Dt : Addr}, (Dt, tupOf []) ∈ st → DatIn st (.ref Dt) (.tuple []) := fun h => .tuple (vs := []) h .nil
  have gy : ∀ {l1 l2 l3 : Led} {b : Nat}, (∀ p ∈ (l1 ++ l2) ++ l3, p.1 < b) → ∀ q ∈ l2, q.1 < b := fun h q hq => h q (List.mem_append_left _ (List.mem_append_right _ hq))
  have Q1 := mkp1 (w := w) hc hY lo hon
  refine' mk_new (kk := K1) s2 ?g Q1 k1_ok rfl (d1 (.head _)) (.int _ _) (Nat.le_of_ble_eq_true rfl) (Nat.le_of_ble_eq_true rfl) (Nat.le_of_ble_eq_true rfl) (Nat.le_of_ble_eq_true rfl) fun kt v1 o1 tk12 hkt NO1 => ?_
  case g => exact ⟨by k_get, by k_get, by k_get, by k_get, by k_get⟩
  have hk1 := key_dat (kk := K1) (b := kt) (t1 := tk11) (t2 := tc) (d1 (Dt := Dt) (.head [(D0, tupOf [])])) (.int 0 (tk11 + 1))
  have Q2 := Q1.made hkt NO1 hk1
  refine (?_ : Stp _ _ _ _ _ _)
  refine m_set s2 Q2.nd Q2.off (by k_extra "as") (by k_get) (Nat.le_of_ble_eq_true rfl) fun t11 tk13 => ?_
  refine (?_ : Mt _ _ _ _ _ _ _)
  refine meth_v s2 (C := 748) (by k_is) (by k_is) (by k_is) (List.mem_append_left _ (List.mem_append_left _ (.head _))) (List.mem_append_left _ (List.mem_append_left _ (.tail _ (.head _)))) (by k_get) ?_
  refine (?_ : Tp _ _ _ _ _ _); refine ⟨Nat.le_of_ble_eq_true rfl, fun Df hDf => ?_⟩
  refine (?_ : ∀ _ : Tok, _)
  intro td2
  have Q3 := Q2.cons (o := tupOf []) hDf
  refine (?_ : Stp _ _ _ _ _ _)
  refine' mk_new (kk := K2) s2 ?g Q3 k2_ok at2 (d1 (.head _)) (.int _ _) (Nat.le_of_ble_eq_true rfl) (Nat.le_of_ble_eq_true rfl) (Nat.le_of_ble_eq_true rfl) (Nat.le_of_ble_eq_true rfl) fun kf v2 o2 tk14 hkf NO2 => ?_
  case g => exact ⟨by k_get, by k_get, by k_get, by k_get, by k_get⟩
  refine (?_ : Stp _ _ _ _ _ _)
  refine m_set s2 Q2.nd (Q3.cons hkf).off (by k_extra "as") (by k_get) (Nat.le_of_ble_eq_true rfl) fun t12 tk15 => ?_
  have hk2 := key_dat (kk := K2) (b := kf) (t1 := tk13) (t2 := td2) (d1 (Dt := Df) (.head [(kt, tupOf [.str K1.op tk11, .ref Dt, .int K1.sort tc, .int 0 (tk11 + 1)]), (Dt, tupOf []), (D0, tupOf [])])) (.int 0 (tk13 + 1))
  refine fin _ _ _ _ (ret _ _ _ _ _ rfl rfl ⟨fun i => [t0, t1, t2, t3, t4, t5, t6, t7, t8, t9, t10, t11, t12, 0, 0, 0, 0, 0, 0, 0, tk5, v1, v2].getD i 0, rfl⟩ ⟨Q2.nd, (Q3.cons hkf).off, ?_, ⟨_, _, _, rfl⟩, ⟨_, _, _, rfl, .tail _ (.tail _ (.tail _ (.tail _ (.head _)))), .tail _ (.tail _ (.tail _ (.head _))), .tail _ (.head _)⟩, ⟨_, _, _, rfl⟩, ⟨_, _, _, rfl⟩, ⟨_, _, _, rfl⟩, rfl, rfl, rfl, rfl, ⟨_, _, _, _, NO2, hk1.mono (fun _ h => .tail _ (.tail _ h)), hk2⟩, lo⟩)
  exact List.forall_mem_cons.mpr ⟨gy hkf, List.forall_mem_cons.mpr ⟨gy hDf, List.forall_mem_cons.mpr ⟨gy hkt, List.forall_mem_cons.mpr ⟨gy hDt, List.forall_mem_cons.mpr ⟨gy hD0, List.forall_mem_nil _⟩⟩⟩⟩⟩
end
end
section
theorem kr_WTop0 : True := by
  k_with_none
  trivial
theorem born_rep {w : World} {A : Ba} {c : Bc} {es : List DictEntry} {X st0 st : Led} {bv : Nat} {obv D : Obj} {f : Nat → Tok} {t : Tok} (Bn : Born w A c (X ++ st0) st) (he : es = (bankEs w { A with tk := f }).take 13) (hbv : obv.IsDictOf (intKind pw w) []) (lo2 : (bv == sysModules) = false)
    (hb : ∀ p ∈ (M12 A D c ++ (X ++ st0)) ++ st, p.1 < bv) (sep : ∀ p ∈ st0, p.1 ∉ X.map (·.1)) :
    ∃ A' c', A'.b = A.b ∧ (M w A' c' = M12 A (dictOf (es ++ [ent w "bv_numbers" t (.ref bv)]) 14) c ++ [(bv, obv)]) ∧ Rep w A' c' X (st ++ st0) σ0 := by
  subst he
  have hn : bv ∉ A.ad12 := fun hm => by
    obtain ⟨q, hq, e⟩ := List.mem_map.mp (show bv ∈ (M12 A D c).map (·.1) from hm)
    have := hb q (List.mem_append_left _ (List.mem_append_left _ hq))
    rw [e] at this
    exact Nat.lt_irrefl _ this
  refine ⟨{ A with bv := bv, tk := fun i => if i = 13 then t else f i }, { c with bv := obv }, rfl, rfl, ?_⟩
  obtain ⟨p0, p1, p2, eto⟩ := Bn.to
  obtain ⟨d1, d2, d3, eta, m1, m2, m3⟩ := Bn.ta
  obtain ⟨b0, b1, b2, ets⟩ := Bn.ts
  obtain ⟨e0, e1, e2, etd⟩ := Bn.td
  obtain ⟨g0, g1, g2, esw⟩ := Bn.sw
  obtain ⟨k1, k2, u1, u2, nu, hk1, hk2⟩ := Bn.nu
  refine rep_new (nd := ?_) (off := fun p hp hm => ?_) (sep := fun p hp => ?_) (eto := eto) (eta := eta) (m1 := List.mem_append_left _ m1) (m2 := List.mem_append_left _ m2) (m3 := List.mem_append_left _ m3) (ets := ets) (etd := etd) (esw := esw) (esn := Bn.sn) (efn := Bn.fn) (efa := Bn.fa) (efr := Bn.fr) (hnu := nu)
    (hk1 := hk1.mono fun _ h => List.mem_append_left _ h) (hk2 := hk2.mono fun _ h => List.mem_append_left _ h) (hbv := hbv) (lo1 := Bn.lo) (lo2 := lo2)
  · show (A.ad12 ++ [bv]).Nodup
    exact List.nodup_append.mpr ⟨Bn.nd, List.nodup_cons.mpr ⟨List.not_mem_nil, List.nodup_nil⟩, fun a ha b hb e => hn (by rw [List.mem_singleton.mp hb] at e; exact e ▸ ha)⟩
  · have hp' : p ∈ (X ++ st0) ++ st := by
      simp only [List.mem_append] at hp ⊢
      rcases hp with hp | hp | hp
      · exact .inl (.inl hp)
      · exact .inr hp
      · exact .inl (.inr hp)
    rcases List.mem_append.mp (show p.1 ∈ A.ad12 ++ [bv] from hm) with hm | hm
    · exact Bn.off p hp' hm
    · have := hb p (by rw [List.append_assoc]; exact List.mem_append_right _ hp')
      rw [List.mem_singleton.mp hm] at this
      exact Nat.lt_irrefl _ this
  · rcases List.mem_append.mp hp with hp | hp
    · intro hm
      obtain ⟨q, hq, e⟩ := List.mem_map.mp hm
      have := Bn.gt p hp q (List.mem_append_left _ hq)
      rw [e] at this
      exact Nat.lt_irrefl _ this
    · exact sep p hp
section
variable {w : World} {mean : ExcName → Option Value} {mg mb : Str → Option Value} {dp un D tk : Nat} {gd : Option (List Code)} {cn : Str} {cs : Scope} {a : Addr} {ccd : Value} {cl : List (Str × Addr)} {outer : List Env} {A₀ : Around} {base h₀ : Heap} {L : Addr} {m : Str → Option Value} {s : Shared}
    {Q E : Value → Shared → Prop} {A : Ba} {c : Bc} {X st Y xs : List (Addr × Obj)} {σ : St}
abbrev ba0 : Ba := ⟨0, 0, 0, 0, 0, 0, 0, 0, 0, 0, 0, 0, 0, fun _ => 0⟩
abbrev bc0 : Bc := ⟨[], [], [], [], [], [], [], [], [], default, default, fun _ => 0⟩
abbrev cxOf (dp un : Nat) (gd : Option (List Code)) (cn : Str) (cs : Scope) (L a : Addr) (ccd : Value) (cl : List (Str × Addr)) (outer : List Env) (A₀ : Around) (base h₀ : Heap) (s : Shared) (E : Value → Shared → Prop) : Cx := ⟨cn, cs, dp, un, gd, L, a, ccd, cl, outer, A₀, base, h₀, s.gens, s.drawn, s.os, E, fun _ _ _ _ => True⟩
theorem init_c (B : Below A₀ base outer h₀) (F : Fr h₀ L s.heap m) (K : (Mine.hd.heap_39 w.params).In h₀) {x d : Nat} (N : News h₀ L s.heap ((x, instObj 748 d) :: (d, dictOf [] 0) :: Y)) (TT : TopL mean mg mb h₀) (hk : cs.kind = .function) (hd : dp + 2 < recursionLimit) (hu : un + 16 * 2 < cLine)
    (hdx : d < x) (hY : ∀ p ∈ Y, p.1 < d)
    (ret : ∀ A c es st' h' tk', A.b = x → A.d = d → (∃ f, es = (bankEs w { A with tk := f }).take 13) → Born w A c Y st' → Fr h₀ L h' m → News h₀ L h' ((M12 A (dictOf es 13) c ++ Y) ++ st') → Q .none { s with heap := h', toks := tk' }) :
    codeAny (model pw w) (ktrTop dp un gd cn cs L a ccd cl outer) (.call (.ref 236) ⟨[.ref x], []⟩) (RQ Q E) s :=
  (binit (S := ⟨[], [], []⟩) (X := cxOf dp un gd cn cs L a ccd cl outer A₀ base h₀ s E) (B := ba0) (c0 := bc0) (tk0 := s.toks) (κ := fun v c' st' _ => v = .none ∧ ∃ A c es, A.b = x ∧ A.d = d ∧ (∃ f, es = (bankEs w { A with tk := f }).take 13) ∧ Born w A c Y st' ∧ c'.xs = M12 A (dictOf es 13) c ++ Y)
    ⟨B, K, ⟨mean, mg, mb, TT⟩, hk, hd, hu⟩ hdx hY fun A c es st' tk' h1 h2 h3 h4 => ⟨rfl, A, c, es, h1, h2, h3, h4, rfl⟩).h s.heap m Q F ⟨by show News h₀ L s.heap ((I2 x d [] 0 ++ Y) ++ []); rw [List.append_nil]; exact N, trivial⟩ fun v h' c' st' tk' F' N' hk' => by
      obtain ⟨rfl, A, c, es, h1, h2, h3, h4, e⟩ := hk'
      exact ret A c es st' h' tk' h1 h2 h3 h4 F' (by have := N'.1; rw [← e]; exact this)
theorem of_own {α : Type} {t : Sem α} {Q : α → Shared → Prop} {κ : KO α} (B : Below A₀ base outer h₀) (F : Fr h₀ L s.heap m) (K : (Mine.hd.heap_39 w.params).In h₀) (N : News h₀ L s.heap (xs ++ st)) (TT : TopL mean mg mb h₀) (hk : cs.kind = .function) (hd : dp + D < recursionLimit) (hu : un + 16 * D < cLine)
    (h : ∀ Y : Cx, Std ⟨⟨[], [], []⟩, Y, w, ba0, none, false⟩ D → Stp ⟨⟨[], [], []⟩, Y, w, ba0, none, false⟩ ⟨bc0, xs⟩ st s.toks t κ)
    (hκ : ∀ v c' st' h' tk', κ v c' st' tk' → Fr h₀ L h' m → News h₀ L h' (c'.xs ++ st') → Q v { s with heap := h', toks := tk' }) :
    wpAny (model pw w) (ktrTop dp un gd cn cs L a ccd cl outer) t Q E s :=
  (h (cxOf dp un gd cn cs L a ccd cl outer A₀ base h₀ s E) ⟨B, K, ⟨mean, mg, mb, TT⟩, hk, hd, hu⟩).h s.heap m Q F ⟨N, trivial⟩ fun v h' c' st' tk' F' N' hk' => hκ v c' st' h' tk' hk' F' N'.1
theorem own_cons {h : Heap} {L : Addr} {h₀ : Heap} {p : Addr × Obj} {l st : Led} (N : News h₀ L h (p :: (l ++ st))) : News h₀ L h (l ++ p :: st) := news_sub N fun q hq => by
  simp only [List.mem_append, List.mem_cons] at hq ⊢
  rcases hq with hq | hq | hq
  · exact .inr (.inl hq)
  · exact .inl hq
  · exact .inr (.inr hq)
theorem news_bank {h : Heap} {L : Addr} {h₀ : Heap} {p : Addr × Obj} {l X st st' : Led} (N : News h₀ L h ((l ++ (X ++ st)) ++ (p :: st'))) : News h₀ L h ((l ++ [p]) ++ (X ++ (st' ++ st))) := news_sub N fun q hq => by
  simp only [List.mem_append, List.mem_cons, List.mem_nil_iff, or_false] at hq ⊢
  rcases hq with (hq | hq) | hq | hq | hq
  · exact .inl (.inl hq)
  · exact .inr (.inl hq)
  · exact .inl (.inr (.inl hq))
  · exact .inr (.inr hq)
  · exact .inl (.inr (.inr hq))
theorem get_bv13 {w : World} {A : Ba} {es : List DictEntry} (he : ∃ f, es = (bankEs w { A with tk := f }).take 13) : getL (Str.ofString "bv_numbers") es = some none := by
  obtain ⟨f, rfl⟩ := he
  show getL (Str.ofString "bv_numbers") [_, _, _, _, _, _, _, _, _, _, _, _, _] = _
  k_get
theorem len13 {w : World} {A : Ba} {es : List DictEntry} (he : ∃ f, es = (bankEs w { A with tk := f }).take 13) : es.length ≤ 900 := by
  obtain ⟨f, rfl⟩ := he
  exact Nat.le_of_ble_eq_true rfl
end
end
section
theorem kr_WTop : True := by
  k_with_none
  k_with "eval Attribute Name" => (k_here; (with_reducible show wpAny _ _ (eval (PySem.Expr.Attribute (PySem.Expr.Name _ _) _ _) _) _ _ _); k_dflt (refine' attr_b ?F ?K ?N ?v ?h1 ?h2 ?h3 ?h4 ?hv ?hh ?_ ?a ?b; (case F => k_asm); (case K => k_asm); (case N => k_asm); (case v => rfl); (case h1 => k_is); (case h2 => k_is); (case h3 => k_is); (case h4 => k_is); (case hv => k_get); (case hh => k_handed); (case a => rfl); (case b => rfl); k_whole); (try dsimp only))
  k_with "eval Call Attribute" => (k_here; k_dflt ((with_reducible show wpAny _ _ (eval (PySem.Expr.Call (PySem.Expr.Attribute (PySem.Expr.Name _ _) _ _) _ _ _) _) _ _ _); refine' call_b ?F ?K ?N ?v ?h1 ?h2 ?h3 ?hv ?_ ?a ?b; (case F => k_asm); (case K => k_asm); (case N => k_asm); (case v => rfl); (case h1 => k_is); (case h2 => k_is); (case h3 => k_is); (case hv => k_get); (case a => rfl); (case b => rfl); k_whole); (try dsimp only))
  k_with "RetK" => (k_dflt (first | (refine' retK_ ?F ?N ?_; (case F => k_asm); (case N => k_asm); k_whole) | (refine' retN_ ?F ?N ?_; (case F => k_asm); (case N => k_asm); k_whole)); intro F9q N9q; (try dsimp only); (try k_sweep))
  trivial
theorem kw4 : True := by
  k_with "call ref" => (k_here; refine stop_of ?_)
  k_with "setAttr ref" => (k_here; refine stop_of ?_)
  trivial
section
variable {w : World} {mean : ExcName → Option Value} {mg mb : Str → Option Value} {dp un : Nat} {gd : Option (List Code)} {cn : Str} {cs : Scope} {a : Addr} {ccd : Value} {cl : List (Str × Addr)} {outer : List Env} {A₀ : Around} {base h₀ : Heap} {L : Addr} {m : Str → Option Value} {s : Shared}
    {Q E : Value → Shared → Prop} {A : Ba} {c : Bc} {k : Mk} {X st : List (Addr × Obj)} {σ : St} {n n1 n2 b : Nat} {news : List (Addr × Obj)} {x y τ : T} {i j : Int} {tk tk1 tk2 tk3 : Tok}
theorem bank_new (B : Below A₀ base outer h₀) (F : Fr h₀ L s.heap m) (K : (Mine.hd.heap_39 w.params).In h₀) (N : News h₀ L s.heap (X ++ st)) (TT : TopL mean mg mb h₀) (hk : cs.kind = .function)
    (hd : dp + 30 < recursionLimit) (hu : un + 16 * (30) < cLine)
    (sep : ∀ p ∈ st, p.1 ∉ X.map (·.1))
    (ret : ∀ A c st' h' tk', Fr h₀ L h' m → News h₀ L h' (M w A c ++ (X ++ (st' ++ st))) → Rep w A c X (st' ++ st) σ0 → Q (.ref A.b) { s with heap := h', toks := tk' }) :
    wpAny (model pw w) (ktrTop dp un gd cn cs L a ccd cl outer) (call (.ref 748) []) Q E s := by
  refine call_cls (fI := 647) F K N (by k_is) (by k_is) (by k_is) fun x d h1 F1 N1 hY hdx => ?_
  refine ks_code_super (binds := [(PySem.Str.ofString "self", .ref x)]) B F1 K N1 TT rfl rfl hk (by k_is) (by k_is) (by ktr_room) (BindsTo.of_eq rfl) (locs rfl) (fun g L2 h2 FG F2 N2 B2 X2 T2 lt2 => ?_) (by decide) rfl rfl rfl
  k_steps
  unfold Stop
  rename_i so h3 F3 N3 l3 q h4 F4 N4 l4
  refine call_meth (pos := []) N4 (.head _) ?_
  refine init_c (Y := X ++ st) B2 F4 X2 (news_sub N4 fun p hp => .tail _ (.tail _ hp)) T2 rfl (by ktr_room) (by (have hcL9 := cLine_is); (simp only [units_under_make, units_in1, units_deeper, Around.mark_units, units_caller]); (try dsimp only [ktrTop]); lia) hdx hY fun A c es st' h5 tk5 e1 e2 he Bn F5 N5 => ?_
  clear l3 l4 N3 N4 N2 lt2 F2 F3 F4 N1 F1
  subst e1
  k_steps
  unfold Stop
  rename_i bv h6 obv F6 N6 lb lo2 _ _ hbv _
  refine of_own (D := 2) (xs := M12 A (dictOf es 13) c ++ (X ++ st)) (st := (bv, obv) :: st') (κ := fun _ c' st'' _ => ∃ t, c'.xs = M12 A (dictOf (es ++ [ent w "bv_numbers" t (.ref bv)]) 14) c ++ (X ++ st) ∧ st'' = (bv, obv) :: st') B2 F6 X2 (own_cons N6) T2 rfl (by ktr_room) (by (have hcL9 := cLine_is); (simp only [units_under_make, units_in1, units_deeper, Around.mark_units, units_caller]); (try dsimp only [ktrTop]); lia)
    (fun Y s => m_set s Bn.nd (off_cons (l := M12 A (dictOf es 13) c) Bn.off lb) (fun w => ⟨by k_is, by k_is, by k_is, by k_is⟩) (get_bv13 he) (len13 he) fun t tk => ⟨t, rfl, rfl⟩) fun v c' st'' h7 tk7 hk7 F7 N7 => ?_
  obtain ⟨t, ec, rfl⟩ := hk7
  rw [ec] at N7
  clear N6 F6
  k_steps
  obtain ⟨f, he⟩ := he
  obtain ⟨A', c', e1, e2, R⟩ := born_rep (t := t) Bn he hbv lo2 lb sep
  rw [← e1]
  refine ret A' c' st' _ _ (by assumption) ?_ R
  rw [e2]
  exact news_bank (by assumption)

end
end
section
theorem kr_WRew : True := by
  k_with_none
  k_with "eval Attribute Name" => (k_here; (with_reducible show wpAny _ _ (eval (PySem.Expr.Attribute (PySem.Expr.Name _ _) _ _) _) _ _ _); k_dflt (refine' attr_b ?F ?K ?N ?v ?h1 ?h2 ?h3 ?h4 ?hv ?hh ?_ ?a ?b; (case F => k_asm); (case K => k_asm); (case N => k_asm); (case v => rfl); (case h1 => k_is); (case h2 => k_is); (case h3 => k_is); (case h4 => k_is); (case hv => k_get); (case hh => k_handed); (case a => rfl); (case b => rfl); k_whole); (try dsimp only))
  k_with "eval Call Attribute" => (k_here; k_dflt ((with_reducible show wpAny _ _ (eval (PySem.Expr.Call (PySem.Expr.Attribute (PySem.Expr.Name _ _) _ _) _ _ _) _) _ _ _); refine' call_b ?F ?K ?N ?v ?h1 ?h2 ?h3 ?hv ?_ ?a ?b; (case F => k_asm); (case K => k_asm); (case N => k_asm); (case v => rfl); (case h1 => k_is); (case h2 => k_is); (case h3 => k_is); (case hv => k_get); (case a => rfl); (case b => rfl); k_whole); (try dsimp only))
  k_with "RetK" => (k_dflt (first | (refine' retK_ ?F ?N ?_; (case F => k_asm); (case N => k_asm); k_whole) | (refine' retN_ ?F ?N ?_; (case F => k_asm); (case N => k_asm); k_whole)); intro F9q N9q; (try dsimp only); (try k_sweep))
  trivial
section
variable {w : World} {mean : ExcName → Option Value} {mg mb : Str → Option Value} {dp un : Nat} {gd : Option (List Code)} {cn : Str} {cs : Scope} {a : Addr} {ccd : Value} {cl : List (Str × Addr)} {outer : List Env} {A₀ : Around} {base h₀ : Heap} {L : Addr} {m : Str → Option Value} {s : Shared}
    {Q E : Value → Shared → Prop} {A : Ba} {c : Bc} {k : Mk} {X st : List (Addr × Obj)} {σ : St} {n n1 n2 b : Nat} {news : List (Addr × Obj)} {x y τ : T} {i j : Int} {tk tk1 tk2 tk3 : Tok}
theorem rew_done {h : Heap} {c₀ : Bc} {kn : Addr} {x d : Nat} {okn : Obj} {t0 t1 t2 t3 t4 t5 : Tok} (N : News h₀ L h ((kn, okn) :: (x, instObj 1041 d) :: (d, dictOf [ent w "bank" t0 (.ref A.b), ent w "yes" t1 (.int 1 t4), ent w "no" t2 (.int 2 t5), ent w "known" t3 (.ref kn)] 4) :: (M w A c ++ (X ++ st))))
    (R : Rep w A c₀ X st σ) (hl : ∀ p ∈ M w A c ++ (X ++ st), @LT.lt Nat _ p.1 d) (hx : @LT.lt Nat _ d x) (nX : (X.map (·.1)).Nodup) :
    ∃ k : Mk, k.m = x ∧ News h₀ L h (M w A c ++ (mkL w A k X ++ st)) ∧ Rep w A c₀ (mkL w A k X) st σ ∧ NdX k X := by
  have hA : ∀ y : Nat, d ≤ y → y ∉ A.addrs := fun y hy q => by
    rw [← M_addrs w A c] at q
    obtain ⟨r, hr, e⟩ := List.mem_map.mp q
    have z := hl r (List.mem_append_left _ hr)
    have e' : r.1 = y := e
    rw [e'] at z; lia
  have hXl : ∀ y ∈ X.map (·.1), @LT.lt Nat _ y d := fun y hy => by
    obtain ⟨r, hr, e⟩ := List.mem_map.mp hy
    have e' : r.1 = y := e
    rw [← e']; exact hl r (List.mem_append_right _ (List.mem_append_left _ hr))
  refine ⟨⟨x, d, kn, fun i => match i with | 0 => t0 | 1 => t1 | 2 => t2 | 3 => t3 | 4 => t4 | _ => t5⟩, rfl, news_sub N fun p hp => ?_, R.offX (fun p hp => ?_) (fun p hp q => ?_), ?_⟩
  · simp only [mkL, List.mem_append, List.mem_cons, List.cons_append] at hp
    simp only [List.mem_append, List.mem_cons]
    rcases hp with hp | hp | hp | hp | hp
    · exact .inr (.inr (.inr (.inl hp)))
    · exact .inr (.inl hp)
    · exact .inr (.inr (.inl hp))
    · exact .inr (.inr (.inr (.inr (.inl hp))))
    · exact .inr (.inr (.inr (.inr (.inr hp))))
  · rcases List.mem_cons.mp hp with rfl | hp
    · exact hA x (Nat.le_of_lt hx)
    rcases List.mem_cons.mp hp with rfl | hp
    · exact hA d (Nat.le_refl _)
    · exact R.off p (List.mem_append_left _ hp)
  · have z := hl p (List.mem_append_right _ (List.mem_append_right _ hp))
    simp only [mkL, List.map_cons, List.mem_cons] at q
    rcases q with q | q | q
    · have q' : p.1 = x := q
      rw [q'] at z; lia
    · have q' : p.1 = d := q
      rw [q'] at z; lia
    · exact R.sep p hp q
  · show (x :: d :: X.map (·.1)).Nodup
    rw [List.nodup_cons, List.nodup_cons]
    refine ⟨fun q => ?_, fun q => ?_, nX⟩
    · rcases List.mem_cons.mp q with q | q
      · have q' : x = d := q
        lia
      · have := hXl x q; lia
    · have := hXl d q; lia
end
theorem kw5 : True := by
  k_with "call ref" => (k_here; k_dflt (first
      | (refine' call_cls ?k1 ?k2 ?k3 ?k4 ?k5 ?k6 ?_; (case k1 => k_asm); (case k2 => k_asm); (case k3 => k_asm); (case k4 => k_is); (case k5 => k_is); (case k6 => k_is); intro x'q d'q h'q F'q N'q l1q l2q; (try k_lt l1q); (try k_lt2 l2q); first | (refine' code_def ?k1 ?k2 ?k3 ?k4 ?k5 ?kA ?kF ?kK ?k6 ?k7 ?k8 ?k9 ?kB ?_ ?c2 ?c3 ?c4 ?c5; (case kA => exact rfl); (case kF => exact rfl); (case kK => first | exact rfl | assumption); (case k1 => k_asm); (case k2 => k_asm); (case k3 => k_asm); (case k4 => k_asm); (case k5 => k_asm); (case k6 => k_is); (case k7 => k_is); (case k8 => ktr_room); (case k9 => exact BindsTo.of_eq rfl); (case c5 => decide); (case kB => exact locs rfl); (case c2 => exact rfl); (case c3 => exact rfl); (case c4 => exact rfl); k_whole; intro g'q L'q h'q FG'q F'q N'q B'q X'q T'q; (try dsimp only); (try k_fold)) | (refine' ks_code_super ?k1 ?k2 ?k3 ?k4 ?k5 ?kA ?kF ?kK ?k6 ?k7 ?k8 ?k9 ?kB ?_ ?c1 ?c2 ?c3 ?c4; (case kA => exact rfl); (case kF => exact rfl); (case kK => first | exact rfl | assumption); (case k1 => k_asm); (case k2 => k_asm); (case k3 => k_asm); (case k4 => k_asm); (case k5 => k_asm); (case k6 => k_is); (case k7 => k_is); (case k8 => ktr_room); (case k9 => exact BindsTo.of_eq rfl); (case kB => exact locs rfl); (case c1 => decide); (case c2 => exact rfl); (case c3 => exact rfl); (case c4 => exact rfl); intro g'q L'q h'q FG'q F'q N'q B'q X'q T'q l1q; (try k_lt l1q); (try dsimp only); (try k_fold)))
      | (refine' call_meth ?k1 ?k2 ?_; (case k1 => k_asm); (case k2 => k_mem); k_whole; first | (refine' code_def ?k1 ?k2 ?k3 ?k4 ?k5 ?kA ?kF ?kK ?k6 ?k7 ?k8 ?k9 ?kB ?_ ?c2 ?c3 ?c4 ?c5; (case kA => exact rfl); (case kF => exact rfl); (case kK => first | exact rfl | assumption); (case k1 => k_asm); (case k2 => k_asm); (case k3 => k_asm); (case k4 => k_asm); (case k5 => k_asm); (case k6 => k_is); (case k7 => k_is); (case k8 => ktr_room); (case k9 => exact BindsTo.of_eq rfl); (case c5 => decide); (case kB => exact locs rfl); (case c2 => exact rfl); (case c3 => exact rfl); (case c4 => exact rfl); k_whole; intro g'q L'q h'q FG'q F'q N'q B'q X'q T'q; (try dsimp only); (try k_fold)) | (refine' ks_code_super ?k1 ?k2 ?k3 ?k4 ?k5 ?kA ?kF ?kK ?k6 ?k7 ?k8 ?k9 ?kB ?_ ?c1 ?c2 ?c3 ?c4; (case kA => exact rfl); (case kF => exact rfl); (case kK => first | exact rfl | assumption); (case k1 => k_asm); (case k2 => k_asm); (case k3 => k_asm); (case k4 => k_asm); (case k5 => k_asm); (case k6 => k_is); (case k7 => k_is); (case k8 => ktr_room); (case k9 => exact BindsTo.of_eq rfl); (case kB => exact locs rfl); (case c1 => decide); (case c2 => exact rfl); (case c3 => exact rfl); (case c4 => exact rfl); intro g'q L'q h'q FG'q F'q N'q B'q X'q T'q l1q; (try k_lt l1q); (try dsimp only); (try k_fold)))
      | (refine wpAny_call ?_; first | (refine' code_def ?k1 ?k2 ?k3 ?k4 ?k5 ?kA ?kF ?kK ?k6 ?k7 ?k8 ?k9 ?kB ?_ ?c2 ?c3 ?c4 ?c5; (case kA => exact rfl); (case kF => exact rfl); (case kK => first | exact rfl | assumption); (case k1 => k_asm); (case k2 => k_asm); (case k3 => k_asm); (case k4 => k_asm); (case k5 => k_asm); (case k6 => k_is); (case k7 => k_is); (case k8 => ktr_room); (case k9 => exact BindsTo.of_eq rfl); (case c5 => decide); (case kB => exact locs rfl); (case c2 => exact rfl); (case c3 => exact rfl); (case c4 => exact rfl); k_whole; intro g'q L'q h'q FG'q F'q N'q B'q X'q T'q; (try dsimp only); (try k_fold)) | (refine' ks_code_super ?k1 ?k2 ?k3 ?k4 ?k5 ?kA ?kF ?kK ?k6 ?k7 ?k8 ?k9 ?kB ?_ ?c1 ?c2 ?c3 ?c4; (case kA => exact rfl); (case kF => exact rfl); (case kK => first | exact rfl | assumption); (case k1 => k_asm); (case k2 => k_asm); (case k3 => k_asm); (case k4 => k_asm); (case k5 => k_asm); (case k6 => k_is); (case k7 => k_is); (case k8 => ktr_room); (case k9 => exact BindsTo.of_eq rfl); (case kB => exact locs rfl); (case c1 => decide); (case c2 => exact rfl); (case c3 => exact rfl); (case c4 => exact rfl); intro g'q L'q h'q FG'q F'q N'q B'q X'q T'q l1q; (try k_lt l1q); (try dsimp only); (try k_fold)))))
  trivial
section
variable {w : World} {mean : ExcName → Option Value} {mg mb : Str → Option Value} {dp un : Nat} {gd : Option (List Code)} {cn : Str} {cs : Scope} {a : Addr} {ccd : Value} {cl : List (Str × Addr)} {outer : List Env} {A₀ : Around} {base h₀ : Heap} {L : Addr} {m : Str → Option Value} {s : Shared}
    {Q E : Value → Shared → Prop} {A : Ba} {c : Bc} {k : Mk} {X st : List (Addr × Obj)} {σ : St} {n n1 n2 b : Nat} {news : List (Addr × Obj)} {x y τ : T} {i j : Int} {tk tk1 tk2 tk3 : Tok}
theorem rew_new (B : Below A₀ base outer h₀) (F : Fr h₀ L s.heap m) (K : (Mine.hd.heap_39 w.params).In h₀) (N : News h₀ L s.heap (M w A c ++ (X ++ st))) (TT : TopL mean mg mb h₀) (hk : cs.kind = .function)
    (hd : dp + 30 < recursionLimit) (hu : un + 16 * (30) < cLine)
    (R : Rep w A c X st σ) (nX : (X.map (·.1)).Nodup)
    (ret : ∀ k h' tk', Fr h₀ L h' m → News h₀ L h' (M w A c ++ (mkL w A k X ++ st)) → Rep w A c (mkL w A k X) st σ → NdX k X → Q (.ref k.m) { s with heap := h', toks := tk' }) :
    wpAny (model pw w) (ktrTop dp un gd cn cs L a ccd cl outer) (call (.ref 1041) [.ref A.b]) Q E s := by
  k_steps
  obtain ⟨k9, e9, N9, R9, X9⟩ := rew_done (show News h₀ L _ ((_, _) :: _) by assumption) R (by assumption) (by lia) nX
  rw [← e9]
  exact ret k9 _ _ (by assumption) N9 R9 X9

end
end
section
theorem kr_WFun : True := by
  k_with_none
  k_with "b5" => ((case B => k_asm); (case F => k_asm); (case K => k_asm); (case N => k_asm); (case T => k_asm))
  k_with "hdu" => ((case hd => first | exact room1 hd (Nat.le_of_ble_eq_true rfl) | exact room1 hd (by lia) | ktr_room); (case hu => first | exact unit1 hu (Nat.le_of_ble_eq_true rfl) | exact unit1 hu (by lia) | ktr_units))
  k_with "iq" => ((first | (simp only [bne_self_eq_false, beq_self_eq_true, beq_iff_eq, bne_iff_ne, ne_eq, beq_eq_false_iff_ne, decide_eq_true_eq, decide_eq_false_iff_not, Bool.not_eq_true', Bool.not_eq_false', Bool.not_true, Bool.not_false, Option.isSome_some, Option.isSome_none, not_false_eq_true, Bool.false_eq_true, reduceCtorEq, eq_self]; done) | ((try simp only [bne_self_eq_false, beq_self_eq_true, beq_iff_eq, bne_iff_ne, ne_eq, beq_eq_false_iff_ne, decide_eq_true_eq, decide_eq_false_iff_not, Bool.not_eq_true', Bool.not_eq_false', Bool.not_true, Bool.not_false, Option.isSome_some, Option.isSome_none, not_false_eq_true, Bool.false_eq_true, reduceCtorEq, eq_self]); first | with_reducible assumption | (law_purse 20000 => omega))))
  k_with "ch" => ((repeat' (first | assumption | refine (show ∀ p ∈ _, p ∈ _ by assumption) _ ?_ | refine List.mem_cons_of_mem _ ?_)))
  k_with "uq" => ((intro p9 h9; repeat' (first | exact h9 | refine List.mem_cons_of_mem _ ?_ | refine (show ∀ p ∈ _, p ∈ _ by assumption) _ ?_)))
  k_with "en" => ((k_dflt (refine' enter ?B ?F ?K ?N ?T ?hk ?hd ?ho ?hc ?hb ?hl ?_ ?c2 ?c3 ?c4 ?c5; (case B => k_asm); (case F => k_asm); (case K => k_asm); (case N => k_asm); (case T => k_asm); (case hk => first | exact rfl | assumption); (case hd => exact hd); (case ho => k_is); (case hc => k_is); (case hb => exact BindsTo.of_eq rfl); (case hl => exact locs rfl); (case c2 => exact rfl); (case c3 => exact rfl); (case c4 => exact rfl); (case c5 => decide); k_whole); intro g' L' h' A' outer' E' F' N' B' X' T'; (try dsimp only); (try k_fold)))
  k_with "eval Attribute Name" => (k_here; (with_reducible show wpAny _ _ (eval (PySem.Expr.Attribute (PySem.Expr.Name _ _) _ _) _) _ _ _); k_dflt (refine' attr_b ?F ?K ?N ?v ?h1 ?h2 ?h3 ?h4 ?hv ?hh ?_ ?a ?b; (case F => k_asm); (case K => k_asm); (case N => k_asm); (case v => rfl); (case h1 => k_is); (case h2 => k_is); (case h3 => k_is); (case h4 => k_is); (case hv => k_get); (case hh => k_handed); (case a => rfl); (case b => rfl); k_whole); (try dsimp only))
  k_with "eval Call Attribute" => (k_here; k_dflt ((with_reducible show wpAny _ _ (eval (PySem.Expr.Call (PySem.Expr.Attribute (PySem.Expr.Name _ _) _ _) _ _ _) _) _ _ _); refine' call_b ?F ?K ?N ?v ?h1 ?h2 ?h3 ?hv ?_ ?a ?b; (case F => k_asm); (case K => k_asm); (case N => k_asm); (case v => rfl); (case h1 => k_is); (case h2 => k_is); (case h3 => k_is); (case hv => k_get); (case a => rfl); (case b => rfl); k_whole); (try dsimp only))
  k_with "RetK" => (k_dflt (first | (refine' retK_ ?F ?N ?_; (case F => k_asm); (case N => k_asm); k_whole) | (refine' retN_ ?F ?N ?_; (case F => k_asm); (case N => k_asm); k_whole)); intro F9q N9q; (try dsimp only); (try k_sweep))
  trivial
section
variable {w : World} {mean : ExcName → Option Value} {mg mb : Str → Option Value} {dp un : Nat} {gd : Option (List Code)} {cn : Str} {cs : Scope} {a : Addr} {ccd : Value} {cl : List (Str × Addr)} {outer : List Env} {A₀ : Around} {base h₀ : Heap} {L : Addr} {m : Str → Option Value} {s : Shared}
    {Q E : Value → Shared → Prop} {A : Ba} {c : Bc} {k : Mk} {X st : List (Addr × Obj)} {σ : St} {n n1 n2 b : Nat} {ea : Addr} {en f : Nat} {nm : Str} {τ : T} {i j : Int} {tk tk1 tk2 tk3 : Tok}
theorem Rep.decl {e : Nat → Nat} {v va vr : Value} {x : Nat} (R : Rep w A c X st σ) (hx : x ∈ σ.ws) (ha : DatIn st va (.tuple [])) (hr : DatIn st vr (.int (σ.sx x : Nat))) (hl : σ.fs.length < 50) :
    Rep w A { c with fn := c.fn ++ [v], fa := c.fa ++ [va], fr := c.fr ++ [vr], e := e } X st ⟨σ.ts, σ.ws, σ.fs ++ [x]⟩ where
  ok := ⟨R.ok.n0, R.ok.n1, R.ok.n2, R.ok.nd, R.ok.nw, R.ok.wb, R.ok.cl, R.ok.wi⟩
  nd := R.nd
  off := R.off
  sep := R.sep
  to := R.to
  ta := R.ta
  ts := R.ts
  td := R.td
  sw := R.sw
  sn := R.sn
  nu := let ⟨xs, Y⟩ := R.nu; ⟨xs, Y.is, Y.keys, Y.dats, Y.vals⟩
  bv := let ⟨kvs, D, b⟩ := R.bv; ⟨kvs, D, b.is, b.fl, b.ln, b.at_⟩
  fn := by rw [List.length_append, List.length_append, R.fn]; rfl
  fa := by rw [List.map_append]; exact DatAll.append R.fa (DatAll.one ha)
  fr := by rw [List.map_append]; exact DatAll.append R.fr (DatAll.one hr)
  fw := fun y hy => (List.mem_append.mp hy).elim (R.fw y) fun h => by simp only [List.mem_singleton] at h; subst h; exact hx
  fl := by rw [List.length_append, List.length_singleton]; lia
  lo1 := R.lo1
  lo2 := R.lo2
  room := R.room
theorem isTup0 {h : Heap} {ea : Addr} {en : Nat} (N : News h₀ L h (M w A c ++ (X ++ st))) (hm : (ea, emT en) ∈ st) : IsTup h ea #[] := News.isTup N (mem_led hm)
end
theorem kw6 : True := by
  k_with "call type:tuple" => (k_here; (with_reducible show wpAny _ _ (call (Value.type _) [Value.ref _]) _ _ _); k_dflt (refine' call_tuple_tup (isTup0 ?k1 ?k2) ?_; (case k1 => k_asm); (case k2 => k_extra "ch"); k_whole))
  k_with "call builtin:list.append" => (k_here; k_dflt (refine' app_fn ?k1 ?k2 ?k3 ?k4 ?_; (case k1 => k_asm); (case k2 => k_asm); (case k3 => assumption); (case k4 => first | assumption | lia | (dsimp only; lia)); k_whole); intro h9q F9q N9q; (try k_sweep))
  k_with "call builtin:list.append" => (k_here; k_dflt (refine' app_fa ?k1 ?k2 ?k3 ?k4 ?_; (case k1 => k_asm); (case k2 => k_asm); (case k3 => assumption); (case k4 => first | assumption | lia | (dsimp only; lia)); k_whole); intro h9q F9q N9q; (try k_sweep))
  k_with "call builtin:list.append" => (k_here; k_dflt (refine' app_fr ?k1 ?k2 ?k3 ?k4 ?_; (case k1 => k_asm); (case k2 => k_asm); (case k3 => assumption); (case k4 => first | assumption | lia | (dsimp only; lia)); k_whole); intro h9q F9q N9q; (try k_sweep))
  k_with "call builtin:len" => (k_here; (with_reducible show wpAny _ _ (call (Value.builtin "len") [Value.ref _]) _ _ _); k_dflt (refine' len_M ?k1 ?k2 ?k3 ?_; (case k1 => k_asm); (case k2 => k_mem); (case k3 => first | assumption | lia | (simp only [List.length_append, List.length_cons, List.length_nil]; lia)); k_whole); intro t9q tk9q)
  trivial
section
variable {w : World} {mean : ExcName → Option Value} {mg mb : Str → Option Value} {dp un : Nat} {gd : Option (List Code)} {cn : Str} {cs : Scope} {a : Addr} {ccd : Value} {cl : List (Str × Addr)} {outer : List Env} {A₀ : Around} {base h₀ : Heap} {L : Addr} {m : Str → Option Value} {s : Shared}
    {Q E : Value → Shared → Prop} {A : Ba} {c : Bc} {k : Mk} {X st : List (Addr × Obj)} {σ : St} {n n1 n2 b : Nat} {x : Nat} {ea : Addr} {en f : Nat} {nm : Str} {τ : T} {i j : Int} {tk tk1 tk2 tk3 : Tok}
theorem decl_use (B : Below A₀ base outer h₀) (F : Fr h₀ L s.heap m) (K : (Mine.hd.heap_39 w.params).In h₀) (N : News h₀ L s.heap (M w A c ++ (X ++ st))) (TT : TopL mean mg mb h₀) (hk : cs.kind = .function)
    (hd : dp + 6 < recursionLimit) (hu : un + 16 * (6) < cLine)
    (R : Rep w A c X st σ) (hm : (ea, emT en) ∈ st) (hi : i = (σ.sx x : Nat)) (hx : x ∈ σ.ws) (hl : σ.fs.length < 50)
    (ret : ∀ t c' h' tk', Fr h₀ L h' m → News h₀ L h' (M w A c' ++ (X ++ st)) → Rep w A c' X st ⟨σ.ts, σ.ws, σ.fs ++ [x]⟩ → Q (.int (σ.fs.length : Nat) t) { s with heap := h', toks := tk' }) :
    wpAny (model pw w) (ktrTop dp un gd cn cs L a ccd cl outer) (call (.ref 278) [.ref A.b, .str nm tk, .ref ea, .int i tk2]) Q E s := by
  have l1 := R.fn
  have l2 : c.fa.length = σ.fs.length := by have := R.fa.length; rwa [List.length_map] at this
  have l3 : c.fr.length = σ.fs.length := by have := R.fr.length; rwa [List.length_map] at this
  subst hi
  (k_dflt (refine' enter ?B ?F ?K ?N ?T ?hk ?hd ?ho ?hc ?hb ?hl ?_ ?c2 ?c3 ?c4 ?c5; k_extra "b5"; (case hk => first | exact rfl | assumption); (case hd => exact hd); (case ho => k_is); (case hc => k_is); (case hb => exact BindsTo.of_eq rfl); (case hl => exact locs rfl); (case c2 => exact rfl); (case c3 => exact rfl); (case c4 => exact rfl); (case c5 => decide); k_whole); intro g' L' h' A' outer' E' F' N' B' X' T'; (try dsimp only); (try k_fold))
  k_steps
  have e9 : ∀ v : Value, ((c.fn ++ [v]).length : Int) - 1 = ((σ.fs.length : Nat) : Int) := fun v => by rw [List.length_append, List.length_singleton, l1]; lia
  rw [e9]
  exact ret _ _ _ _ (by assumption) (by assumption) (Rep.decl R hx (.tuple (vs := []) hm .nil) (.int _ _) hl)

end
end
section
theorem kr_ZipT : True := by
  k_with_none
  trivial
open Sem (wp)
section
variable {prog : Program} {w : World} {A : Around} {E : Value → Shared → Prop} {s : Shared}
theorem next_tup0 {it t : Addr} {Q : Value → Shared → Prop} (hh : A.handled = none) (hit : s.heap.IsTupleIter it t 0) (ht : s.heap.IsTuple t #[])
    (hE : ∀ h' e, Heap.ExtBut it s.heap h' → (∃ o, h'.get? e = some o ∧ o.cls = .type "StopIteration") → E (.ref e) { s with heap := h' }) :
    wpAny (model prog w) A (Builtin.SmallTypes.nextOf (.ref it)) Q E s := by
  obtain ⟨o, ho, hc, hd⟩ := id hit
  obtain ⟨ot, hot, _, nt, hdt⟩ := ht
  unfold Builtin.SmallTypes.nextOf
  refine wpAny_bind (wpAny_callSpecial?_slot (name := Str.ofString "__next__") hit.typeIs PySem.F.slot_tuple_iterator_next
    (wpAny_call_entry PySem.F.slot_tuple_iterator_next hit.typeIs PySem.F.entry_tuple_iterator_next ?_ (PySem.F.args_tuple_iterator_next_1 _)))
  show wpAny _ _ (field (.ref it) 0 >>= _) _ _ s
  refine wpAny_bind (wpAny_field ho hd (x := .ref t) rfl ?_)
  show wpAny _ _ (if (Value.ref t == Value.none) = true then _ else _) _ _ s
  rw [if_neg (show ¬ ((Value.ref t == Value.none) = true) from Bool.false_ne_true)]
  show wpAny _ _ (field (.ref it) 1 >>= _) _ _ s
  refine wpAny_bind (wpAny_field ho hd (x := .int (0 : Nat) 0) rfl ?_)
  show wpAny _ _ (seqItems? (.ref t) >>= _) _ _ s
  refine wpAny_bind (wpAny_seqItems hot hdt ?_)
  simp only [Int.toNat_natCast, show (#[] : Array Value)[0]? = none from rfl]
  refine wpAny_bind (wpAny_rule (wpAny_bind (wpAny_setField ho hd (by simp) ?_)))
  show wpAny _ _ (newExc (.type "StopIteration") [] >>= _) _ _ _
  refine wpAny_bind ?_
  simp only [newExc, newTuple]
  refine wpAny_bind (wpAny_newObj_type ?_ (by size_fits))
  refine wpAny_bind (m := firstArgMember _ _) (wpAny_of_eq (a := Value.none) (by first | rfl | (simp only [firstArgMember]; rfl)) ?_)
  refine wpAny_newObj_type ?_ (by size_fits)
  simp only [raiseNew]
  refine wpAny_bind (wpAny_handled ?_)
  first | rw [show A.in1.handled = none from hh] | rw [hh]
  refine wpAny_bind (wpAny_pure (wpAny_throw ?_))
  exact hE _ _ (((Heap.SameBut.update ..).extBut.push _).push _) ⟨_, Heap.get?_push_size _ rfl, rfl⟩
structure Zip0 (h : Heap) (z TI TO i1 t : Addr) (i2 : Value) : Prop where
  hz : IsZip h z TI TO .none
  hTI : IsPair h TI (.ref i1) i2
  hTO : ∃ a b, IsPair h TO a b
  h1 : h.IsTupleIter i1 t 0
  ht : h.IsTuple t #[]
  i1z : i1 ≠ z
  tz : t ≠ z
theorem zip_end0 {z TI TO i1 t : Addr} {i2 : Value} {Q : Option Value → Shared → Prop} (hh : A.handled = none) (D : Zip0 s.heap z TI TO i1 t i2)
    (hQ : ∀ h', (∀ c o, c ≠ z → c ≠ i1 → s.heap.get? c = some o → h'.get? c = some o) → Q none { s with heap := h' }) : wpAny (model prog w) A (pyNext (.ref z)) Q E s := by
  obtain ⟨hz, hTI, ⟨a, b, hTO⟩, h1, ht, i1z, tz⟩ := D
  have hT : s.TypeIs (.ref z) "zip" := ⟨_, hz, rfl⟩
  unfold pyNext
  refine wpAny_bind (wpAny_attempt (wpAny_callSpecial?_slot (name := Str.ofString "__next__") hT PySem.F.slot_zip_next
    (wpAny_call_entry PySem.F.slot_zip_next hT PySem.F.entry_zip_next ?_ (PySem.F.args_zip_next_1 _))))
  show wpAny _ _ (field (.ref z) 2 >>= _) _ _ _
  refine wpAny_bind (wpAny_field hz rfl (x := .bool false) rfl ?_)
  show wpAny _ _ (field (.ref z) 3 >>= _) _ _ _
  refine wpAny_bind (wpAny_field hz rfl (x := .ref TI) rfl ?_)
  refine wpAny_bind (wpAny_seqItems hTI rfl ?_)
  show wpAny _ _ (Builtin.SmallTypes.ownedTupleIsFree (.ref z) >>= _) _ _ _
  refine wpAny_bind ?_
  unfold Builtin.SmallTypes.ownedTupleIsFree
  refine wpAny_bind (wpAny_field hz rfl (x := .none) rfl (wpAny_pure ?_))
  simp only [if_true]
  refine wpAny_bind (wpAny_rule ?_)
  refine wpAny_bind (wpAny_field hz rfl (x := .ref TO) rfl ?_)
  refine wpAny_bind (wpAny_setField_rec hz (by simp) fun h₁ hz₁ hs₁ => ?_)
  replace hz₁ : IsZip h₁ z TI TO .ellipsis := hz₁
  refine wpAny_bind ?_
  simp only [List.zipIdx_cons, List.zipIdx_nil, List.forIn_cons, List.forIn_nil]
  refine wpAny_bind (wpAny_bind (wpAny_onRaise ?_))
  show wpAny _ _ (Builtin.SmallTypes.nextOf (.ref i1) >>= _) _ _ _
  refine wpAny_bind (next_tup0 hh (h1.extBut hs₁.extBut i1z) (ht.extBut hs₁.extBut tz) fun h₂ e hs₂ he => ?_)
  obtain ⟨oe, hoe, hce⟩ := he
  have hz₂ : IsZip h₂ z TI TO .ellipsis := hs₂ _ _ i1z.symm hz₁
  have hez : e ≠ z := fun x => by subst x; rw [hz₂] at hoe; cases hoe; simp at hce
  refine wpAny_setField_rec hz₂ (by simp) fun h₃ _ hs₃ => ?_
  refine wpAny_bind (wpAny_isInstance (T := "StopIteration") (b := true) ⟨oe, hs₃.extBut _ _ hez hoe, hce⟩ isSubtype_stop ?_)
  exact wpAny_pure (hQ _ fun c o c1 c2 x => hs₃.extBut _ _ c1 (hs₂ _ _ c2 (hs₁.extBut _ _ c1 x)))
abbrev zt1 (h : Heap) (l1 : Addr) : Heap := h.push { cls := .type "tuple_iterator", data := .fields #[.ref l1, .int 0 0] }
abbrev zt2 (h : Heap) (l1 l2 : Addr) : Heap := (zt1 h l1).push { cls := .type "tuple_iterator", data := .fields #[.ref l2, .int 0 0] }
abbrev zt3 (h : Heap) (l1 l2 : Addr) : Heap := (zt2 h l1 l2).push { cls := .type "tuple", data := .seq #[.ref h.objs.size, .ref (zt1 h l1).objs.size] }
abbrev zt4 (h : Heap) (l1 l2 : Addr) : Heap := (zt3 h l1 l2).push { cls := .type "tuple", data := .seq #[.none, .none] }
abbrev zt5 (h : Heap) (l1 l2 : Addr) : Heap := (zt4 h l1 l2).push { cls := .type "zip", data := .fields #[.none, .bool false, .bool false, .ref (zt2 h l1 l2).objs.size, .ref (zt3 h l1 l2).objs.size] }
theorem meets_zt (l1 l2 : Addr) (xs ys : Array Value) :
    Meets (Builtin.«zip.__new__» ⟨[.type "zip", .ref l1, .ref l2], []⟩) (fun _ R s => s.heap.IsTuple l1 xs ∧ s.heap.IsTuple l2 ys ∧
      R (.ok (.ret (.ref (zt4 s.heap l1 l2).objs.size))) { s with heap := zt5 s.heap l1 l2 }) :=
  .of_wp fun prog w A R s h => by
    obtain ⟨hp, g, d, tk, os⟩ := s; obtain ⟨hl1, hl2, h⟩ := h
    have hsub := sub_zip
    have hL1 : Heap.IsTuple (Shared.heap ⟨hp, g, d, tk, os⟩) l1 xs := hl1
    have hL2 : Heap.IsTuple (Shared.heap ⟨hp.push { cls := .type "tuple_iterator", data := .fields #[.ref l1, .int 0 0] }, g, d, tk, os⟩) l2 ys := Heap.IsTuple.push hl2 _
    wp_walk using wpAny_pyIter_tuple hL1, wpAny_pyIter_tuple hL2
    exact ⟨_, rfl, h⟩
theorem call_zt {l1 l2 : Addr} {xs ys : Array Value} {Q : Value → Shared → Prop} (hl1 : s.heap.IsTuple l1 xs) (hl2 : s.heap.IsTuple l2 ys)
    (h : ∀ h', IsZip h' (s.heap.objs.size + 4) (s.heap.objs.size + 2) (s.heap.objs.size + 3) .none → IsPair h' (s.heap.objs.size + 2) (.ref s.heap.objs.size) (.ref (s.heap.objs.size + 1)) →
      IsPair h' (s.heap.objs.size + 3) .none .none → h'.IsTupleIter s.heap.objs.size l1 0 → 
      (∀ c o, s.heap.get? c = some o → h'.get? c = some o) → Q (.ref (s.heap.objs.size + 4)) { s with heap := h' }) :
    wpAny (model prog w) A (call (.type "zip") [.ref l1, .ref l2]) Q E s := by
  refine callType_new PySem.F.called_zip (by decide) (PySem.F.typeCall_zip_2 _ _) (PySem.F.newCall_zip_2 _ _) (fun obj => PySem.F.args_object_init_3 obj _ _) PySem.F.entry_zip_new
    (meets_zt l1 l2 xs ys) ⟨hl1, hl2, ?_⟩
  have z1 : (zt1 s.heap l1).objs.size = s.heap.objs.size + 1 := Heap.size_push ..
  have z2 : (zt2 s.heap l1 l2).objs.size = s.heap.objs.size + 2 := by rw [Heap.size_push, z1]
  have z3 : (zt3 s.heap l1 l2).objs.size = s.heap.objs.size + 3 := by rw [Heap.size_push, z2]
  have z4 : (zt4 s.heap l1 l2).objs.size = s.heap.objs.size + 4 := by rw [Heap.size_push, z3]
  have g5 : (zt5 s.heap l1 l2).get? (zt4 s.heap l1 l2).objs.size = some _ := Heap.get?_push_size _ rfl
  have g4 : (zt5 s.heap l1 l2).get? (zt3 s.heap l1 l2).objs.size = some _ := Heap.get?_push_of_some _ (Heap.get?_push_size _ rfl)
  have g3 : (zt5 s.heap l1 l2).get? (zt2 s.heap l1 l2).objs.size = some _ := Heap.get?_push_of_some _ (Heap.get?_push_of_some _ (Heap.get?_push_size _ rfl))
  have g1 : (zt5 s.heap l1 l2).get? s.heap.objs.size = some _ := Heap.get?_push_of_some _ (Heap.get?_push_of_some _ (Heap.get?_push_of_some _ (Heap.get?_push_of_some _ (Heap.get?_push_size _ rfl))))
  show _ ∧ _
  rw [z2, z3, z4] at g5
  rw [z1, z2] at g3
  rw [z3] at g4
  rw [z4]
  exact ⟨⟨_, g5, rfl⟩, h _ g5 g3 g4 ⟨_, g1, rfl, rfl⟩ fun c o x =>
    Heap.get?_push_of_some _ (Heap.get?_push_of_some _ (Heap.get?_push_of_some _ (Heap.get?_push_of_some _ (Heap.get?_push_of_some _ x))))⟩
theorem For_none {env : Env} {t iter : PySem.Expr} {body : List Stmt} {pos : Pos} {Q : Flow → Shared → Prop}
    (h : wpAny (model prog w) A (eval iter env) (fun xv s₁ => wpAny (model prog w) A (pyIter xv) (fun it s₂ => ∀ E', wpAny (model prog w) A (pyNext it) (fun r s₃ => r = none ∧ Q .next s₃) E' s₂) E s₁) E s)
    (hs : ∀ x, foldedSetIterable iter env x = pure x) : wpAny (model prog w) A (exec (.For t iter body [] pos) env) Q E s := by
  refine wpAny_For (wpAny_mono h (fun xv s₁ h₁ => wpAny_mono h₁ (fun it s₂ h₂ => ?_) fun _ _ e => e) fun _ _ e => e) hs
  refine codeAny_forLoop_any (fun _ s' => s' = s₂) ?_ 0 rfl
  rintro k s' rfl
  refine wpAny_mono (h₂ _) (fun r s₃ h₃ => ?_) fun _ _ e => e
  obtain ⟨rfl, q⟩ := h₃
  exact wpAny_execs_nil q
theorem zip_none {L : Addr} {h₀ : Heap} {m : Str → Option Value} {news : List (Addr × Obj)} {l1 l2 : Addr} {ys : Array Value} {Q : Shared → Prop} (hh : A.handled = none) (F : Fr h₀ L s.heap m) (N : News h₀ L s.heap news)
    (h1 : IsTup s.heap l1 #[]) (h2 : IsTup s.heap l2 ys) (done : ∀ h' tk, Fr h₀ L h' m → News h₀ L h' news → Q { s with heap := h', toks := tk }) :
    wpAny (model prog w) A (call (.type "zip") [.ref l1, .ref l2]) (fun xv s₁ => wpAny (model prog w) A (pyIter xv) (fun it s₂ => ∀ E', wpAny (model prog w) A (pyNext it) (fun r s₃ => r = none ∧ Q s₃) E' s₂) E s₁) E s := by
  have hl1 : l1 < s.heap.objs.size := by obtain ⟨o, ho, _⟩ := h1; exact Heap.lt_size ho
  have ne : ∀ (y : Nat) (k : Nat), y < s.heap.objs.size → y ≠ s.heap.objs.size + k := fun y k h => Nat.ne_of_lt (Nat.lt_of_lt_of_le h (Nat.le_add_right _ k))
  refine call_zt h1 h2 fun h' hz hTI hTO hit hk => wpAny_pyIter_zip hz fun E' => ?_
  refine zip_end0 hh ⟨hz, hTI, ⟨_, _, hTO⟩, hit, (let ⟨o, e, r⟩ := h1; ⟨o, hk _ _ e, r⟩), (Nat.ne_of_lt (Nat.lt_add_of_pos_right (by decide : 0 < 4))), ne _ 4 hl1⟩ fun h'' hk' => ⟨rfl, ?_⟩
  have up : ∀ c o, s.heap.get? c = some o → h''.get? c = some o := fun c o e => hk' c o (ne c 4 (Heap.lt_size e)) (ne c 0 (Heap.lt_size e)) (hk c o e)
  exact done h'' s.toks (F.keeps up) fun p hp => ⟨up _ _ (N p hp).1, (N p hp).2⟩
end
end
section
theorem kr_WApp : True := by
  k_with_none
  k_with "b5" => ((case B => k_asm); (case F => k_asm); (case K => k_asm); (case N => k_asm); (case T => k_asm))
  k_with "hdu" => ((case hd => first | exact room1 hd (Nat.le_of_ble_eq_true rfl) | exact room1 hd (by lia) | ktr_room); (case hu => first | exact unit1 hu (Nat.le_of_ble_eq_true rfl) | exact unit1 hu (by lia) | ktr_units))
  k_with "iq" => ((first | (simp only [bne_self_eq_false, beq_self_eq_true, beq_iff_eq, bne_iff_ne, ne_eq, beq_eq_false_iff_ne, decide_eq_true_eq, decide_eq_false_iff_not, Bool.not_eq_true', Bool.not_eq_false', Bool.not_true, Bool.not_false, Option.isSome_some, Option.isSome_none, not_false_eq_true, Bool.false_eq_true, reduceCtorEq, eq_self]; done) | ((try simp only [bne_self_eq_false, beq_self_eq_true, beq_iff_eq, bne_iff_ne, ne_eq, beq_eq_false_iff_ne, decide_eq_true_eq, decide_eq_false_iff_not, Bool.not_eq_true', Bool.not_eq_false', Bool.not_true, Bool.not_false, Option.isSome_some, Option.isSome_none, not_false_eq_true, Bool.false_eq_true, reduceCtorEq, eq_self]); first | with_reducible assumption | (law_purse 20000 => omega))))
  k_with "ch" => ((repeat' (first | assumption | refine (show ∀ p ∈ _, p ∈ _ by assumption) _ ?_ | refine List.mem_cons_of_mem _ ?_)))
  k_with "uq" => ((intro p9 h9; repeat' (first | exact h9 | refine List.mem_cons_of_mem _ ?_ | refine (show ∀ p ∈ _, p ∈ _ by assumption) _ ?_)))
  k_with "en" => ((k_dflt (refine' enter ?B ?F ?K ?N ?T ?hk ?hd ?ho ?hc ?hb ?hl ?_ ?c2 ?c3 ?c4 ?c5; (case B => k_asm); (case F => k_asm); (case K => k_asm); (case N => k_asm); (case T => k_asm); (case hk => first | exact rfl | assumption); (case hd => exact hd); (case ho => k_is); (case hc => k_is); (case hb => exact BindsTo.of_eq rfl); (case hl => exact locs rfl); (case c2 => exact rfl); (case c3 => exact rfl); (case c4 => exact rfl); (case c5 => decide); k_whole); intro g' L' h' A' outer' E' F' N' B' X' T'; (try dsimp only); (try k_fold)))
  k_with "eval Attribute Name" => (k_here; (with_reducible show wpAny _ _ (eval (PySem.Expr.Attribute (PySem.Expr.Name _ _) _ _) _) _ _ _); k_dflt (refine' attr_b ?F ?K ?N ?v ?h1 ?h2 ?h3 ?h4 ?hv ?hh ?_ ?a ?b; (case F => k_asm); (case K => k_asm); (case N => k_asm); (case v => rfl); (case h1 => k_is); (case h2 => k_is); (case h3 => k_is); (case h4 => k_is); (case hv => k_get); (case hh => k_handed); (case a => rfl); (case b => rfl); k_whole); (try dsimp only))
  k_with "eval Call Attribute" => (k_here; k_dflt ((with_reducible show wpAny _ _ (eval (PySem.Expr.Call (PySem.Expr.Attribute (PySem.Expr.Name _ _) _ _) _ _ _) _) _ _ _); refine' call_b ?F ?K ?N ?v ?h1 ?h2 ?h3 ?hv ?_ ?a ?b; (case F => k_asm); (case K => k_asm); (case N => k_asm); (case v => rfl); (case h1 => k_is); (case h2 => k_is); (case h3 => k_is); (case hv => k_get); (case a => rfl); (case b => rfl); k_whole); (try dsimp only))
  k_with "RetK" => (k_dflt (first | (refine' retK_ ?F ?N ?_; (case F => k_asm); (case N => k_asm); k_whole) | (refine' retN_ ?F ?N ?_; (case F => k_asm); (case N => k_asm); k_whole)); intro F9q N9q; (try dsimp only); (try k_sweep))
  trivial
section
variable {w : World} {mean : ExcName → Option Value} {mg mb : Str → Option Value} {dp un : Nat} {gd : Option (List Code)} {cn : Str} {cs : Scope} {a : Addr} {ccd : Value} {cl : List (Str × Addr)} {outer : List Env} {A₀ : Around} {base h₀ : Heap} {L : Addr} {m : Str → Option Value} {s : Shared}
    {Q E : Value → Shared → Prop} {A : Ba} {c : Bc} {k : Mk} {X st : List (Addr × Obj)} {σ : St} {n n1 n2 b : Nat} {x : Nat} {ea : Addr} {en f : Nat} {nm : Str} {τ : T} {i j : Int} {tk tk1 tk2 tk3 : Tok}
theorem Rep.fa_at {f x : Nat} (R : Rep w A c X st σ) (hf : σ.fs[f]? = some x) : ∃ va n, c.fa[f]? = some (.ref va) ∧ (va, emT n) ∈ st := by
  have hl : f < (σ.fs.map fun _ => Dat.tuple []).length := by rw [List.length_map]; exact (List.getElem?_eq_some_iff.mp hf).1
  obtain ⟨v, hv, hd⟩ := R.fa.get hl
  rw [List.getElem_map] at hd
  cases hd with
  | tuple hm ha => cases ha; exact ⟨_, _, hv, hm⟩
theorem Rep.fr_at {f x : Nat} (R : Rep w A c X st σ) (hf : σ.fs[f]? = some x) : ∃ t, c.fr[f]? = some (.int (σ.sx x : Nat) t) := by
  have hl : f < (σ.fs.map fun y => Dat.int (σ.sx y : Nat)).length := by rw [List.length_map]; exact (List.getElem?_eq_some_iff.mp hf).1
  obtain ⟨v, hv, hd⟩ := R.fr.get hl
  rw [List.getElem_map, (List.getElem?_eq_some_iff.mp hf).2] at hd
  cases hd
  exact ⟨_, hv⟩
theorem led_ne {h : Heap} {en : Nat} (N : News h₀ L h (M w A c ++ (X ++ st))) (hm : (ea, emT en) ∈ st) : ea ≠ L := (N _ (mem_led hm)).2.1
theorem add_fs (σ : St) (τ : T) : (σ.add τ).fs = σ.fs := by unfold St.add; split <;> rfl
theorem make_fs (τ : T) (B : Below A₀ base outer h₀) (F : Fr h₀ L s.heap m) (K : (Mine.hd.heap_39 w.params).In h₀) (N : News h₀ L s.heap (M w A c ++ (X ++ st))) (TT : TopL mean mg mb h₀) (hk : cs.kind = .function)
    (hd : dp + 1 < recursionLimit) (hu : un + 16 * (1) < cLine)
    {o : Str} {va vd : Value} {i : Int} {ns : List Int} (R : Rep w A c X st σ) (ho : o = τ.op) (hi : i = (σ.sx τ.wd : Nat)) (f : Fits σ τ) (hn : τ ≠ .nil) (hr : σ.ts.length + 1 ≤ 2 ^ 20) (ha : DatIn st va (.tuple (ns.map .int))) (hns : ns = τ.kids.map fun k => (σ.ix k : Int)) (hv : DatIn st vd (datD τ.dat))
    (ret : ∀ n' t c' st' σ' h' tk', Fr h₀ L h' m → News h₀ L h' (M w A c' ++ (X ++ st')) → (∀ p ∈ st, p ∈ st') → Rep w A c' X st' σ' → Ext σ σ' 1 → σ'.fs = σ.fs → At σ' n' (τ) → Q (.int (n' : Nat) t) { s with heap := h', toks := tk' }) :
    Stop <| wpAny (model pw w) (ktrTop dp un gd cn cs L a ccd cl outer) (call (.ref 369) [.ref A.b, .str o tk, va, .int i tk2, vd]) Q E s := by
  unfold Stop
  exact of_stp (ko := none) B F K N TT hk hd hu trivial (κ := fun v e st' _ => ∃ n' t c', v = .int (n' : Nat) t ∧ e = ⟨c', X⟩ ∧ Gr st st' ∧ Rep w A c' X st' (σ.add τ) ∧ At (σ.add τ) n' τ) (fun Y s => make_gv τ s R ho hi f hn hr ha hns hv fun n' t c' st' tk' g R' a => ⟨n', t, c', rfl, rfl, g, R', a⟩)
    fun v c' X' st' h' tk' hq F' N' => by
      obtain ⟨n', t, c2, rfl, e, g, R', a⟩ := hq
      cases e
      exact ret n' t _ st' _ h' tk' F' N' g R' (ext_add _ _) (add_fs _ _) a
end
theorem kw7 : True := by
  k_with "exec For Tuple Call cons nil" => (k_here; refine For_none ?_ (fun _ => rfl))
  k_with "call type:zip" => (k_here; k_dflt (refine' zip_none ?hh ?F ?N (isTup0 ?N1 ?m1) (isTup0 ?N2 ?m2) ?_; (case hh => exact rfl); (case F => first | k_asm | assumption); (case N => first | k_asm | assumption); (case N1 => k_asm); (case N2 => k_asm); (case m1 => k_extra "ch"); (case m2 => k_extra "ch"); k_whole); intro h9q tk9q F9q N9q; (try dsimp only); (try k_fold); (try k_sweep))
  k_with "call type:tuple" => (k_here; (with_reducible show wpAny _ _ (call (Value.type _) [Value.ref _]) _ _ _); k_dflt (refine' call_tuple_tup (isTup0 ?k1 ?k2) ?_; (case k1 => k_asm); (case k2 => k_extra "ch"); k_whole))
  k_with "call builtin:len" => (k_here; (with_reducible show wpAny _ _ (call (Value.builtin "len") [Value.ref _]) _ _ _); k_dflt (refine' len_tuple (isTup0 ?k1 ?k2) ?_; (case k1 => k_asm); (case k2 => k_extra "ch"); k_whole); intro t9q tk9q)
  k_with "subscriptTail" => (k_here; (with_reducible show wpAny _ _ (subscriptTail _ _ (Value.ref _) (Value.int _ _)) _ _ _); (with_unfolding_all refine' item_litK ?k1 ?k2 ?k3 ?k4 ?_ ?k6; (case k1 => exact News.isList (by with_reducible assumption) (by k_mem)); (case k4 => assumption); (case k2 => exact Int.natCast_nonneg _); (case k3 => omega); (case k6 => with_unfolding_all rfl); k_whole))
  k_with "ite" => (k_dflt (first | refine ite_pos (by k_extra "iq") ?_ | refine ite_neg (by k_extra "iq") ?_))
  k_with "call ref" => (k_here; (with_reducible show wpAny _ _ (call (Value.ref 369) _) _ _ _); refine stop_of ?_)
  trivial
section
variable {w : World} {mean : ExcName → Option Value} {mg mb : Str → Option Value} {dp un : Nat} {gd : Option (List Code)} {cn : Str} {cs : Scope} {a : Addr} {ccd : Value} {cl : List (Str × Addr)} {outer : List Env} {A₀ : Around} {base h₀ : Heap} {L : Addr} {m : Str → Option Value} {s : Shared}
    {Q E : Value → Shared → Prop} {A : Ba} {c : Bc} {k : Mk} {X st : List (Addr × Obj)} {σ : St} {n n1 n2 b : Nat} {x : Nat} {ea : Addr} {en f : Nat} {nm : Str} {τ : T} {i j : Int} {tk tk1 tk2 tk3 : Tok}
theorem app_use (B : Below A₀ base outer h₀) (F : Fr h₀ L s.heap m) (K : (Mine.hd.heap_39 w.params).In h₀) (N : News h₀ L s.heap (M w A c ++ (X ++ st))) (TT : TopL mean mg mb h₀) (hk : cs.kind = .function)
    (hd : dp + 8 < recursionLimit) (hu : un + 16 * (8) < cLine)
    (R : Rep w A c X st σ) (hm : (ea, emT en) ∈ st) (hf : σ.fs[f]? = some x) (hr : σ.ts.length + 1 ≤ 2 ^ 20)
    (ret : ∀ n' t c' st' σ' h' tk', Fr h₀ L h' m → News h₀ L h' (M w A c' ++ (X ++ st')) → (∀ p ∈ st, p ∈ st') → Rep w A c' X st' σ' → Ext σ σ' 1 → σ'.fs = σ.fs → At σ' n' (.leaf f x) → Q (.int (n' : Nat) t) { s with heap := h', toks := tk' }) :
    wpAny (model pw w) (ktrTop dp un gd cn cs L a ccd cl outer) (call (.ref 516) [.ref A.b, .int (f : Nat) tk, .ref ea]) Q E s := by
  obtain ⟨va, vn, h1, h2⟩ := R.fa_at hf
  obtain ⟨tr, h3⟩ := R.fr_at hf
  have hfl := R.fl
  have hf1 := (List.getElem?_eq_some_iff.mp hf).1
  refine wpAny_call ?_
  k_dflt ktr_enter
  k_steps
  refine make_fs (ns := []) (.leaf f x) (by k_asm) (by k_asm) (by k_asm) (by k_asm) (by k_asm) (by first | exact rfl | assumption) (by first | exact room1 hd (Nat.le_of_ble_eq_true rfl) | exact room1 hd (by lia) | ktr_room) (by first | exact unit1 hu (Nat.le_of_ble_eq_true rfl) | exact unit1 hu (by lia) | ktr_units) R rfl rfl ⟨by simp [T.kids], .inr (R.fw x (List.mem_of_getElem? hf))⟩ (by simp) hr (.tuple (vs := []) hm .nil) rfl (.int _ _) ?_
  intro n8 t8 c8 st8 σ8 h8 tk8 F8 N8 hs8 R8 X8 fs8 A8
  (try dsimp only)
  (try k_fold)
  k_steps
  exact ret _ _ _ _ _ _ _ (by assumption) (by assumption) hs8 R8 X8 fs8 A8

end
end
section
theorem kr_WSrc : True := by
  k_with_none
  k_with "eval Attribute Name" => (k_here; (with_reducible show wpAny _ _ (eval (PySem.Expr.Attribute (PySem.Expr.Name _ _) _ _) _) _ _ _); k_dflt (refine' attr_b ?F ?K ?N ?v ?h1 ?h2 ?h3 ?h4 ?hv ?hh ?_ ?a ?b; (case F => k_asm); (case K => k_asm); (case N => k_asm); (case v => rfl); (case h1 => k_is); (case h2 => k_is); (case h3 => k_is); (case h4 => k_is); (case hv => k_get); (case hh => k_handed); (case a => rfl); (case b => rfl); k_whole); (try dsimp only))
  k_with "eval Call Attribute" => (k_here; k_dflt ((with_reducible show wpAny _ _ (eval (PySem.Expr.Call (PySem.Expr.Attribute (PySem.Expr.Name _ _) _ _) _ _ _) _) _ _ _); refine' call_b ?F ?K ?N ?v ?h1 ?h2 ?h3 ?hv ?_ ?a ?b; (case F => k_asm); (case K => k_asm); (case N => k_asm); (case v => rfl); (case h1 => k_is); (case h2 => k_is); (case h3 => k_is); (case hv => k_get); (case a => rfl); (case b => rfl); k_whole); (try dsimp only))
  k_with "RetK" => (k_dflt (first | (refine' retK_ ?F ?N ?_; (case F => k_asm); (case N => k_asm); k_whole) | (refine' retN_ ?F ?N ?_; (case F => k_asm); (case N => k_asm); k_whole)); intro F9q N9q; (try dsimp only); (try k_sweep))
  trivial
section
variable {w : World} {mean : ExcName → Option Value} {mg mb : Str → Option Value} {dp un : Nat} {gd : Option (List Code)} {cn : Str} {cs : Scope} {a : Addr} {ccd : Value} {cl : List (Str × Addr)} {outer : List Env} {A₀ : Around} {base h₀ : Heap} {L : Addr} {m : Str → Option Value} {s : Shared}
    {Q E : Value → Shared → Prop} {A : Ba} {c : Bc} {k : Mk} {X st : List (Addr × Obj)} {σ : St} {n n1 n2 b : Nat} {news : List (Addr × Obj)} {sl : Addr} {vs : List Value} {ns : List Int} {x y τ : T} {i j : Int} {tk tk1 tk2 tk3 : Tok}
theorem sl_slice {Ar : Around} {value slice : PySem.Expr} {l : Addr} {t1 : Tok} {vs : List Value} {ns : List Int} {news : List (Addr × Obj)} (F : Fr h₀ L s.heap m) (N : News h₀ L s.heap news) (hl : h₀.IsList l vs.toArray) (hi : IntsAre vs ns) (hz : vs.length ≤ 2 ^ 20)
    (h : ∀ D ws h', Fr h₀ L h' m → News h₀ L h' ((D, listOf (List.toArray ws) 0) :: news) → (∀ p ∈ news, p.1 < D) → IntsAre ws (ns.take 40) → Q (.ref D) { s with heap := h' })
    (hs : subscripted slice false (.ref l) (.ref s.heap.objs.size) = operate [.ref s.heap.objs.size, .ref l] (getItem (.ref l) (.ref s.heap.objs.size)) := by with_unfolding_all rfl) (ht : ∀ r, letTemporaryGo value (.ref l) r = pure () := by intro _; with_unfolding_all rfl) :
    wpAny (model pw w) Ar (subscriptTail value slice (.ref l) (.ref s.heap.objs.size)) Q E { s with heap := s.heap.push { cls := .type "slice", data := .fields #[.none, .int 40 t1, .none] } } := by
  refine kmk_slice F N (its := vs.toArray) (hl.at fun o e => F.keep l o e) .none (.int _ _) (fun D h' F' N' l1 => ?_) hs ht (by rw [sizeLine_eq, List.size_toArray]; lia)
  have q := kmk_upto (y := 40) hi (by decide)
  exact h D (slicePick vs.toArray none (some 40) none).toList h' F' (by rw [Array.toArray_toList]; exact N') l1 q
theorem off1_mem {D : Addr} : ∀ {l : List (Addr × Obj)}, LCg.Off1 D l → ∀ p ∈ l, p.1 ≠ D := fun {l} => by
  induction l with
  | nil => intro _ p h; cases h
  | cons q r ih =>
    intro x p h
    rcases List.mem_cons.mp h with rfl | h
    · exact x.1
    · exact ih x.2 p h
noncomputable def PostI (h₀ : Heap) (L : Addr) (m : Str → Option Value) (news : List (Addr × Obj)) (s : Shared) (y : Value) (s' : Shared) : Prop := ∃ h' tk' i t, y = .int i t ∧ s' = { s with heap := h', toks := tk' } ∧ Fr h₀ L h' m ∧ News h₀ L h' news
theorem PostI.mk {news : List (Addr × Obj)} {h' : Heap} {tk' : Nat} {i : Int} {t : Tok} (F : Fr h₀ L h' m) (N : News h₀ L h' news) : PostI h₀ L m news s (.int i t) { s with heap := h', toks := tk' } := ⟨h', tk', i, t, rfl, rfl, F, N⟩
open PyProof.Rows.LCg in
theorem rest_ints {Ar : Around} {elt : PySem.Expr} {xn : Str} {scope : Scope} {cl : List (Str × Addr)} {env : Env} {Sp : List (Addr × Obj) → Prop} {Fin : List Value → List (Addr × Obj) → Prop} {ws : List Value} {ms : List Int} {news : List (Addr × Obj)} (hS : Sp news) (hw : IntsAre ws ms)
    (turn : ∀ x t I oI C oC D m₂ h tk (E' : Value → Shared → Prop) ys, NsObj oC m₂ → m₂ xn = some (.int x t) → Fr h₀ L h m → News h₀ L h ((I, oI) :: (C, oC) :: (D, lst ys) :: news) →
      wpAny (model pw w) Ar (eval elt (compEnvC scope cl C env)) (PostI h₀ L m ((I, oI) :: (C, oC) :: (D, lst ys) :: news) s) E' { s with heap := h, toks := tk })
    (fin : ∀ ys ns', ys.length = ws.length → IntsAre ys ns' → Fin ys news) :
    ∀ k i ys ns', i + k = ws.length → ys.length = i → IntsAre ys ns' → CompRest pw w Ar h₀ L m env elt xn scope cl s Sp (fun i v => ws.toArray[i]? = some v) Fin k i ys news
  | 0, i, ys, ns', hk, hl, hi => CompRest.zero (fin ys ns' (by lia) hi)
  | k + 1, i, ys, ns', hk, hl, hi => CompRest.succ fun v I oI C oC Da m₂ h tk E' hP hns hm F N o ap => by
    obtain ⟨t, ht⟩ := hw.get i (ms[i]'(by have := hw.length; lia)) (List.getElem?_eq_getElem _)
    have hv : v = .int (ms[i]'(by have := hw.length; lia)) t := by
      have hP' : ws[i]? = some v := by simpa using hP
      rw [ht] at hP'; exact (Option.some.inj hP').symm
    subst hv
    exact wpAny_mono (turn _ t I oI C oC Da m₂ h tk E' ys hns hm F N) (fun y s₄ h₄ => by
      obtain ⟨h4, tk4, i4, t4, rfl, rfl, F4, N4⟩ := h₄
      exact ⟨h4, tk4, news, rfl, F4, N4, o, hS, rest_ints hS hw turn fin k (i + 1) (ys ++ [.int i4 t4]) (ns' ++ [i4]) (by lia) (by rw [List.length_append, hl]; rfl) (hi.append (.cons _ _ .nil))⟩) fun _ _ e => e
end
theorem kw8 : True := by
  k_with "subscriptTail Name Slice ref ref" => (k_here; k_dflt (refine' sl_slice ?F ?N ?l ?i ?z ?_ ?s ?t; (case F => k_asm); (case N => k_asm); (case l => assumption); (case i => assumption); (case z => omega); (case s => with_unfolding_all rfl); (case t => intro _; with_unfolding_all rfl); k_whole); intro D'q ws'q h'q F'q N'q l1q hI'q; (try k_lt l1q); (try k_sweep))
  k_with "eval ListComp" => (k_here; k_dflt (refine comp1 (by k_asm) (by rfl) (by decide) (by rfl) (by decide) (by rfl) ?_))
  trivial
section
variable {w : World} {mean : ExcName → Option Value} {mg mb : Str → Option Value} {dp un : Nat} {gd : Option (List Code)} {cn : Str} {cs : Scope} {a : Addr} {ccd : Value} {cl : List (Str × Addr)} {outer : List Env} {A₀ : Around} {base h₀ : Heap} {L : Addr} {m : Str → Option Value} {s : Shared}
    {Q E : Value → Shared → Prop} {A : Ba} {c : Bc} {k : Mk} {X st : List (Addr × Obj)} {σ : St} {n n1 n2 b : Nat} {news : List (Addr × Obj)} {sl : Addr} {vs : List Value} {ns : List Int} {x y τ : T} {i j : Int} {tk tk1 tk2 tk3 : Tok}
theorem source_use (B : Below A₀ base outer h₀) (F : Fr h₀ L s.heap m) (K : (Mine.hd.heap_39 w.params).In h₀) (N : News h₀ L s.heap (news)) (TT : TopL mean mg mb h₀) (hk : cs.kind = .function)
    (hd : dp + 6 < recursionLimit) (hu : un + 16 * (6) < cLine)
    (hL : h₀.IsList sl vs.toArray) (hI : IntsAre vs ns) (hn : ns.length ≤ 63)
    (ret : ∀ (S : Src) ob h' tk', Fr h₀ L h' m → News h₀ L h' ((S.d, ob) :: (S.cl, listOf S.vs.toArray S.nn) :: news) → (∀ p ∈ news, p.1 ≠ S.d ∧ p.1 ≠ S.cl) → S.d ≠ S.cl → SrcIs w S ob [(S.cl, listOf S.vs.toArray S.nn)] 0 → Q (.ref S.d) { s with heap := h', toks := tk' }) :
    wpAny (model pw w) (ktrTop dp un gd cn cs L a ccd cl outer) (call (.ref 1048) [.ref sl]) Q E s := by
  have hvn : vs.length = ns.length := hI.length
  refine wpAny_call ?_
  k_dflt ktr_enter
  have hL' : Heap.IsList _ sl vs.toArray := hL.at fun o e => Fr.keep (show Fr h₀ L _ m by assumption) sl o e
  k_steps
  rename_i d7 h7 o7 la lo7 hd0
  have hl9 := hI'q.length
  have hl8 : (List.take 40 ns).length ≤ 40 := List.length_take_le _ _
  refine PyProof.Rows.LCg.CompSrc.ledger rfl (by k_asm) (by k_asm) (.head _) (by rw [sizeLine_eq, List.size_toArray]; lia) (fun g => ?_)
  rw [List.size_toArray]
  refine rest_ints (.inr ⟨_, .head _, rfl, _, rfl⟩) hI'q ?_ ?_ _ 0 [] [] (Nat.zero_add _) rfl .nil
  · intro x t I oI C oC D m₂ h9 tk9 E' ys hns hm F9 N9
    k_steps
    exact PostI.mk (by assumption) (by assumption)
  · intro ys ns' hyl hyi Dz h9 tk9 F9 N9 o9
    k_steps
    have no9 := off1_mem o9
    refine kdn_made_str F9 N9 (.tail (fun e => o9.2.1 e.symm) (.tail (Nat.ne_of_gt l1q.1) (.head fun p hp => Nat.ne_of_lt (la p hp)))) hd0 rfl (of_decide_eq_true (by first | rfl | kernel_rfl!)) (fun h8 o8 F8 N8 hd8 => ?_)
    clear N9 F9
    (try dsimp only)
    k_steps
    refine ret ⟨_, Dz, ys, ys.length, ns'⟩ o8 _ _ (by assumption) (news_sub (by assumption) ?_) (fun p hp => ⟨Nat.ne_of_lt (la p hp), no9 p (.tail _ (.tail _ hp))⟩) o9.2.1 ⟨hyi, (show ns'.length ≤ 40 by have := hyi.length; lia), .head _, 0, _, _, Int.le_refl _, Int.le_refl _, hd8⟩
    intro p hp
    rcases List.mem_cons.mp hp with rfl | hp
    · exact .tail _ (.tail _ (.head _))
    rcases List.mem_cons.mp hp with rfl | hp
    · exact .head _
    · exact .tail _ (.tail _ (.tail _ hp))

end
end
section
theorem kr_Cel : True := by
  k_with_none
  trivial
theorem upd_list {d : Addr} {o : Obj} : ∀ {X : List (Addr × Obj)} {i : Nat}, (X.map (·.1)).Nodup → X[i]? = some (d, o) → UpdF d o X (fun o' => X.set i (d, o'))
  | [], i, _, h => by simp at h
  | p :: X, 0, n, h => by
    simp only [List.getElem?_cons_zero, Option.some.injEq] at h
    subst h
    rw [List.map_cons, List.nodup_cons] at n
    exact .head fun q hq e => n.1 (List.mem_map.mpr ⟨q, hq, e⟩)
  | p :: X, i + 1, n, h => by
    rw [List.getElem?_cons_succ] at h
    rw [List.map_cons, List.nodup_cons] at n
    exact .tail (fun e => n.1 (List.mem_map.mpr ⟨(d, o), List.mem_of_getElem? h, e.symm⟩)) (upd_list n.2 h)
theorem upd_pre {d : Addr} {o : Obj} {g : Obj → List (Addr × Obj)} {X : List (Addr × Obj)} (U : UpdF d o X g) : ∀ {P : List (Addr × Obj)}, (∀ p ∈ P, p.1 ≠ d) → UpdF d o (P ++ X) (fun o' => P ++ g o')
  | [], _ => U
  | p :: P, h => .tail (h p (.head _)) (upd_pre U fun q hq => h q (.tail _ hq))
theorem upd_post {d : Addr} {o : Obj} {g : Obj → List (Addr × Obj)} {X st : List (Addr × Obj)} (U : UpdF d o X g) (h : ∀ p ∈ st, p.1 ≠ d) : UpdF d o (X ++ st) (fun o' => g o' ++ st) := by
  obtain ⟨pre, post, rfl, hg, q1, q2⟩ := U.split
  have e : (fun o' => g o' ++ st) = fun o' => pre ++ (d, o') :: (post ++ st) := funext fun o' => by rw [hg]; simp
  rw [e]
  simp only [List.append_assoc, List.cons_append]
  exact upd_split q1 fun p hp => (List.mem_append.mp hp).elim (q2 p) (h p)
theorem set_map {X : List (Addr × Obj)} {i : Nat} {d : Addr} {o o' : Obj} (h : X[i]? = some (d, o)) : (X.set i (d, o')).map (·.1) = X.map (·.1) := by
  refine List.ext_getElem (by simp) fun j h1 h2 => ?_
  simp only [List.getElem_map, List.getElem_set]
  split
  · rename_i e; subst e
    have := (List.getElem?_eq_some_iff.mp h).2
    rw [this]
  · rfl
theorem upd_at {w : World} {A : Ba} {c c₀ : Bc} {X st : List (Addr × Obj)} {σ : St} {i : Nat} {d : Addr} {o : Obj} (R : Rep w A c₀ X st σ) (nd : (X.map (·.1)).Nodup) (hi : X[i]? = some (d, o)) :
    UpdF d o (M w A c ++ (X ++ st)) (fun o' => M w A c ++ (X.set i (d, o') ++ st)) := by
  have hm : (d, o) ∈ X := List.mem_of_getElem? hi
  refine upd_pre (upd_post (upd_list nd hi) fun p hp e => ?_) fun p hp e => ?_
  · exact R.sep p hp (by rw [e]; exact List.mem_map_of_mem (f := fun q : Addr × Obj => q.1) hm)
  · refine R.off _ (List.mem_append_left _ hm) ?_
    rw [← M_addrs w A c]
    have := List.mem_map_of_mem (f := fun q : Addr × Obj => q.1) hp
    rw [e] at this; exact this
theorem mkL_set {w : World} {A : Ba} {k : Mk} {X : List (Addr × Obj)} {i : Nat} {p : Addr × Obj} : (mkL w A k X).set (i + 2) p = mkL w A k (X.set i p) := rfl
section
variable {M' : Model} {Ar : Around} {E : Value → Shared → Prop} {s : Shared} {h₀ : Heap} {L a : Addr} {m : Str → Option Value} {w : World} {A : Ba} {c c₀ : Bc} {k : Mk} {X st : List (Addr × Obj)} {σ : St} {i : Nat} {d : Addr} {o : Obj} {cn : Str} {cs : Scope} {ccd : Value} {cl : List (Str × Addr)} {x : Str} {v : Value} {v₀ : Option Value} {Q : Unit → Shared → Prop}
theorem cell_set (hc : cl.lookup x = some d) (F : Fr h₀ L s.heap m) (N : News h₀ L s.heap (M w A c ++ (X ++ st))) (R : Rep w A c₀ X st σ) (nd : (X.map (·.1)).Nodup) (hi : X[i]? = some (d, o)) (hd : o.data = .cell v₀)
    (h : ∀ h' o', Fr h₀ L h' m → News h₀ L h' (M w A c ++ (X.set i (d, o') ++ st)) → Rep w A c₀ (X.set i (d, o')) st σ → ((X.set i (d, o')).map (·.1)).Nodup → o'.data = .cell (some v) → Q () { s with heap := h' })
    (hk : cs.kind = .function := by rfl) (hx : (envX cn cs L a ccd cl).kindOf x = some .cell := by rfl) : wpAny M' Ar (storeName (envX cn cs L a ccd cl) x v) Q E s :=
  storeX_C F N hc (upd_at R nd hi) hd (fun h' o' F' N' d' => h h' o' F' N' (R.setX (set_map hi)) (by rw [set_map hi]; exact nd) d') hk hx
theorem app_X {prog : Program} {w' : World} {its : List Value} {n : Nat} {y : Value} {Q : Value → Shared → Prop} (hi : X[i]? = some (d, listOf its.toArray n)) (F : Fr h₀ L s.heap m) (N : News h₀ L s.heap (M w A c ++ (mkL w A k X ++ st))) (R : Rep w A c₀ (mkL w A k X) st σ) (nd : NdX k X) (hz : its.length ≤ 2 ^ 20)
    (h : ∀ h', Fr h₀ L h' m → News h₀ L h' (M w A c ++ (mkL w A k (X.set i (d, listOf (its ++ [y]).toArray (n + 1))) ++ st)) → Rep w A c₀ (mkL w A k (X.set i (d, listOf (its ++ [y]).toArray (n + 1)))) st σ → NdX k (X.set i (d, listOf (its ++ [y]).toArray (n + 1))) → Q .none { s with heap := h' }) :
    wpAny (model prog w') Ar (call (.builtin "list.append") [.ref d, y]) Q E s := by
  obtain ⟨pre, post, e, hg, q1, q2⟩ := (upd_at (c := c) (i := i + 2) R nd hi).split
  rw [e] at N
  have z := N (d, listOf its.toArray n) (List.mem_append.mpr (.inr (.head _)))
  refine append_at (hsz := by simpa using Nat.le_trans hz (by decide)) z.1 fun h' hs ho' => h h' (F.change hs z.2.1 z.2.2) ?_ (R.setX (by show k.m :: k.d :: (X.set i _).map (·.1) = k.m :: k.d :: X.map (·.1); rw [set_map hi])) (by show (k.m :: k.d :: (X.set i _).map (·.1)).Nodup; rw [set_map hi]; exact nd)
  have N' := news_set N q1 q2 hs ho'
  rw [List.push_toArray] at N'
  have g' := hg (listOf (its ++ [y]).toArray (n + 1))
  rw [← mkL_set (w := w) (A := A) (k := k), g']
  exact N'
theorem newList_X {X1 X2 : List (Addr × Obj)} {vs : List Value} {Q : Value → Shared → Prop} (F : Fr h₀ L s.heap m) (N : News h₀ L s.heap (M w A c ++ (mkL w A k (X1 ++ X2) ++ st))) (R : Rep w A c₀ (mkL w A k (X1 ++ X2)) st σ) (nd : NdX k (X1 ++ X2)) (hsz : vs.length ≤ 100)
    (h : ∀ D h', Fr h₀ L h' m → News h₀ L h' (M w A c ++ (mkL w A k (X1 ++ (D, lstOf vs) :: X2) ++ st)) → Rep w A c₀ (mkL w A k (X1 ++ (D, lstOf vs) :: X2)) st σ → NdX k (X1 ++ (D, lstOf vs) :: X2) → Q (.ref D) { s with heap := h' }) : wpAny M' Ar (newList vs) Q E s :=
  newList_N F N (fun h' F' N' => by
    have lt : ∀ p ∈ M w A c ++ (mkL w A k (X1 ++ X2) ++ st), p.1 < s.heap.objs.size := fun p hp => Heap.lt_size (N p hp).1
    have sub : ∀ p, p ∈ mkL w A k (X1 ++ (s.heap.objs.size, lstOf vs) :: X2) → p = (s.heap.objs.size, lstOf vs) ∨ p ∈ mkL w A k (X1 ++ X2) := fun p hp => by
      simp only [mkL, List.mem_cons, List.mem_append] at hp ⊢
      rcases hp with hp | hp | hp | hp | hp
      · exact .inr (.inl hp)
      · exact .inr (.inr (.inl hp))
      · exact .inr (.inr (.inr (.inl hp)))
      · exact .inl hp
      · exact .inr (.inr (.inr (.inr hp)))
    refine h _ h' F' (news_sub N' fun p hp => ?_) (R.offX (fun p hp => ?_) fun p hp q => ?_) ?_
    · rcases List.mem_append.mp hp with hp | hp
      · exact .tail _ (List.mem_append_left _ hp)
      rcases List.mem_append.mp hp with hp | hp
      · rcases sub p hp with rfl | hp
        · exact .head _
        · exact .tail _ (List.mem_append_right _ (List.mem_append_left _ hp))
      · exact .tail _ (List.mem_append_right _ (List.mem_append_right _ hp))
    · rcases sub p hp with rfl | hp
      · exact not_addr (w := w) (c := c) lt
      · exact R.off p (List.mem_append_left _ hp)
    · obtain ⟨r, hr, e⟩ := List.mem_map.mp q
      rcases sub r hr with rfl | hr
      · have z := lt p (List.mem_append_right _ (List.mem_append_right _ hp))
        rw [← e] at z; exact absurd z (Nat.lt_irrefl _)
      · exact R.sep p hp (by rw [← e]; exact List.mem_map_of_mem (f := fun q : Addr × Obj => q.1) hr)
    · have hn : s.heap.objs.size ∉ k.m :: k.d :: (X1 ++ X2).map (·.1) := fun q => by
        have q' : s.heap.objs.size ∈ (mkL w A k (X1 ++ X2)).map (·.1) := q
        obtain ⟨r, hr, e⟩ := List.mem_map.mp q'
        have z := lt r (List.mem_append_right _ (List.mem_append_left _ hr))
        rw [e] at z; exact absurd z (Nat.lt_irrefl _)
      have nd' : (k.m :: k.d :: (X1 ++ X2).map (·.1)).Nodup := nd
      show (k.m :: k.d :: (X1 ++ (s.heap.objs.size, lstOf vs) :: X2).map (·.1)).Nodup
      have e1 : (k.m :: k.d :: (X1 ++ (s.heap.objs.size, lstOf vs) :: X2).map (·.1)) = (k.m :: k.d :: X1.map (·.1)) ++ s.heap.objs.size :: X2.map (·.1) := by simp
      have e2 : (k.m :: k.d :: (X1 ++ X2).map (·.1)) = (k.m :: k.d :: X1.map (·.1)) ++ X2.map (·.1) := by simp
      rw [e2] at nd' hn
      rw [e1]
      exact (List.perm_middle.nodup_iff).mpr (List.nodup_cons.mpr ⟨hn, nd'⟩)) (Nat.le_trans hsz (by decide))
end
theorem cells_nd {n : Nat} {o1 o2 o3 o4 o5 o6 o7 : Obj} : (([(n + 1 + 1 + 1 + 1 + 1 + 1 + 1, o1), (n + 1 + 1 + 1 + 1 + 1 + 1, o2), (n + 1 + 1 + 1 + 1 + 1, o3), (n + 1 + 1 + 1 + 1, o4), (n + 1 + 1 + 1, o5), (n + 1 + 1, o6), (n + 1, o7)] : List (Addr × Obj)).map (·.1)).Nodup := by
  show ([n + 1 + 1 + 1 + 1 + 1 + 1 + 1, n + 1 + 1 + 1 + 1 + 1 + 1, n + 1 + 1 + 1 + 1 + 1, n + 1 + 1 + 1 + 1, n + 1 + 1 + 1, n + 1 + 1, n + 1] : List Nat).Nodup
  simp only [List.nodup_cons, List.mem_cons, List.mem_nil_iff, or_false, not_or, List.nodup_nil, and_true, not_false_eq_true]
  lia
end
section
theorem kr_Lop : True := by
  k_with_none
  trivial
section
variable {prog : Program} {w : World} {A : Around} {E : Value → Shared → Prop} {s : Shared} {env : Env} {h₀ : Heap} {body : List Stmt} {Q : Flow → Shared → Prop}
noncomputable def TurnEnd (h₀ : Heap) (L : Addr) (I : Addr) (oI : Obj) (J : (Str → Option Value) → List (Addr × Obj) → Prop) (s₁ : Shared) (Q : Flow → Shared → Prop) (f : Flow) (s₂ : Shared) : Prop :=
  match f with
  | .ret v => Q (.ret v) s₂
  | .brk => Q .next s₂
  | _ => ∃ h' tk m' news', s₂ = { s₁ with heap := h', toks := tk } ∧ Fr h₀ L h' m' ∧ News h₀ L h' ((I, oI) :: news') ∧ (∀ p ∈ news', p.1 ≠ I) ∧ J m' news'
theorem TurnEnd.mk {L I : Addr} {oI : Obj} {J : (Str → Option Value) → List (Addr × Obj) → Prop} {s₁ : Shared} {h' : Heap} {tk : Nat} {m' : Str → Option Value} {news' : List (Addr × Obj)} (F : Fr h₀ L h' m') (N : News h₀ L h' ((I, oI) :: news')) (hI : ∀ p ∈ news', p.1 ≠ I) (hJ : J m' news') :
    TurnEnd h₀ L I oI J s₁ Q .next { s₁ with heap := h', toks := tk } := ⟨h', tk, m', news', rfl, F, N, hI, hJ⟩
theorem iter_any {x : Str} {px : Pos} {r : Addr} {b : Int} {t u v : Tok} {n : Nat} {m₀ : Str → Option Value} {news₀ : List (Addr × Obj)} (J : Nat → (Str → Option Value) → List (Addr × Obj) → Prop)
    (hh : A.handled = none) (hr : IsRange s.heap r 0 b 1 t u v) (hsm : Builtin.Range.small 0 b 1 = true) (hn : Builtin.Range.rangeSize 0 b 1 = ((n : Nat) : Int)) (F : Fr h₀ env.locals s.heap m₀) (N : News h₀ env.locals s.heap news₀) (hJ : J 0 m₀ news₀)
    (turn : ∀ (i : Nat) tk' m₁ news₁ h₁ tk₁ (I : Addr) (oI : Obj), i < n → J i m₁ news₁ → (∀ p ∈ news₁, p.1 ≠ I) → Fr h₀ env.locals h₁ m₁ → News h₀ env.locals h₁ ((I, oI) :: news₁) →
      wpAny (model prog w) A (assign (.Name x px) env (.int (i : Nat) tk')) (fun _ s₃ => wpAny (model prog w) A (execs body env) (TurnEnd h₀ env.locals I oI (J (i + 1)) { s with heap := h₁, toks := tk₁ } Q) E s₃) E { s with heap := h₁, toks := tk₁ })
    (done : ∀ h' tk m' news', Fr h₀ env.locals h' m' → News h₀ env.locals h' news' → J n m' news' → Q .next { s with heap := h', toks := tk }) :
    wpAny (model prog w) A (pyIter (.ref r)) (fun it s₂ => TurnsAt prog w A h₀ env (.Name x px) body Q E it s₂) E s := by
  refine wpAny_pyIter_range hr hsm ?_
  have W := (Walks.range (prog := prog) (w := w) hh s.heap.objs.size 0 1 n)
  refine ⟨s.heap.objs.size, [s.heap.objs.size], [s.heap.objs.size], n, _, _, _, m₀, news₀, J, rfl, KTurns.ofWalks W (fun i v s' Q' E' _ h => wpAny_pure h), ?_, ?_, ?_, (by show IsRangeIter _ _ _ _ _; rw [hn]; simpa using Heap.get?_push_size _ rfl), F.push _, (fun p hp => ⟨Heap.get?_push_of_some _ (N p hp).1, (N p hp).2⟩), hJ, ?_, ?_⟩
  · intro hm
    exact absurd F.ns.lt ((List.mem_singleton.mp hm) ▸ Nat.lt_irrefl _)
  · intro b hb
    rw [List.mem_singleton.mp hb]
    exact next_is_new F
  · intro p hp hI
    exact absurd (Heap.lt_size (N p hp).1) ((List.mem_singleton.mp hI) ▸ Nat.lt_irrefl _)
  · rintro i v' m₁ news₁ h₁ tk₁ own hi ⟨t', rfl⟩ hJ₁ hw hown hget hall hst F₁ N₁
    have hst' : ∃ o, h₁.get? s.heap.objs.size = some o := ⟨_, hst⟩
    obtain ⟨oI, hoI⟩ := hst'
    have hm := hall s.heap.objs.size (List.mem_singleton.mpr rfl) (next_is_new F) oI hoI
    have N₂ : News h₀ env.locals h₁ ((s.heap.objs.size, oI) :: news₁) := fun p hp => by
      rcases List.mem_cons.mp hp with rfl | hp
      · exact N₁ _ (List.mem_append_left _ hm)
      · exact N₁ _ (List.mem_append_right _ hp)
    have e : ((0 : Int) + (i : Int) * 1) = ((i : Nat) : Int) := by lia
    rw [e]
    refine wpAny_mono (turn i t' m₁ news₁ h₁ tk₁ s.heap.objs.size oI hi hJ₁ (fun p hp q => hw p hp (List.mem_singleton.mpr q)) F₁ N₂) (fun _ s₃ h₃ => wpAny_mono h₃ (fun f s₄ h₄ => ?_) fun _ _ e => e) fun _ _ e => e
    have own1 : ∀ p ∈ own, p = (s.heap.objs.size, oI) := fun p hp => by
      have p1 := List.mem_singleton.mp (hown p hp)
      have p2 := hget p hp
      rw [p1, hoI] at p2
      exact Prod.ext p1 (Option.some.inj p2).symm
    have fin : (∃ h' tk m' news', s₄ = { { s with heap := h₁, toks := tk₁ } with heap := h', toks := tk } ∧ Fr h₀ env.locals h' m' ∧ News h₀ env.locals h' ((s.heap.objs.size, oI) :: news') ∧ (∀ p ∈ news', p.1 ≠ s.heap.objs.size) ∧ J (i + 1) m' news') →
        LoopStepU h₀ env.locals [s.heap.objs.size] own (J (i + 1)) { s with heap := h₁, toks := tk₁ } .next s₄ := by
      rintro ⟨h', tk, m', news', e, F', N', q, j⟩
      exact ⟨rfl, h', tk, m', news', e, F', fun p hp => by
        rcases List.mem_append.mp hp with hp | hp
        · rw [own1 p hp]; exact N' _ (.head _)
        · exact N' _ (.tail _ hp), fun p hp hI => q p hp (List.mem_singleton.mp hI), j⟩
    cases f with
    | ret v => exact .ret h₄
    | brk => exact .brk h₄
    | next => exact .next (fin h₄)
    | cont => exact .cont (fin h₄)
  · rintro h' tk m' news' F' N' _ j
    exact done h' tk m' news' F' N' j
end
end
section
theorem kr_Cel2 : True := by
  k_with_none
  trivial
open PySem.Spec PyProof.Rows.LCg PyProof.Rows.LCt
noncomputable def lawCl (n : Nat) : List (Str × Addr) := [(Str.ofString "bank", n + 1), (Str.ofString "maker", n + 1 + 1), (Str.ofString "leaves", n + 1 + 1 + 1), (Str.ofString "who", n + 1 + 1 + 1 + 1), (Str.ofString "value", n + 1 + 1 + 1 + 1 + 1), (Str.ofString "t", n + 1 + 1 + 1 + 1 + 1 + 1), (Str.ofString "bits", n + 1 + 1 + 1 + 1 + 1 + 1 + 1)]
theorem lookup_inj : ∀ {l : List (Str × Addr)} {x y : Str} {a : Addr}, (l.map (·.2)).Nodup → l.lookup x = some a → l.lookup y = some a → x = y
  | [], _, _, _, _, h, _ => nomatch h
  | p :: l, x, y, a, nd, hx, hy => by
    rw [List.map_cons, List.nodup_cons] at nd
    have mem : ∀ {z : Str}, l.lookup z = some a → a ∈ l.map (·.2) := fun {z} h => by
      obtain ⟨q, hq, e⟩ : ∃ q ∈ l, q.2 = a := by
        clear nd hx hy
        induction l with
        | nil => cases h
        | cons q l ih =>
          rw [List.lookup_cons] at h
          cases hz : z == q.1 with
          | true => rw [hz] at h; exact ⟨q, .head _, Option.some.inj h⟩
          | false => rw [hz] at h; obtain ⟨r, hr, e⟩ := ih h; exact ⟨r, .tail _ hr, e⟩
      exact e ▸ List.mem_map_of_mem hq
    rw [List.lookup_cons] at hx hy
    cases ex : x == p.1 with
    | true => cases ey : y == p.1 with
      | true => rw [beq_iff_eq] at ex ey; rw [ex, ey]
      | false =>
        rw [ex] at hx; rw [ey] at hy
        exact absurd (mem hy) ((Option.some.inj hx) ▸ nd.1)
    | false => cases ey : y == p.1 with
      | true =>
        rw [ex] at hx; rw [ey] at hy
        exact absurd (mem hx) ((Option.some.inj hy) ▸ nd.1)
      | false => rw [ex] at hx; rw [ey] at hy; exact lookup_inj nd.2 hx hy
theorem lawCl_nd (n : Nat) : ((lawCl n).map (·.2)).Nodup := by
  show ([n + 1, n + 1 + 1, n + 1 + 1 + 1, n + 1 + 1 + 1 + 1, n + 1 + 1 + 1 + 1 + 1, n + 1 + 1 + 1 + 1 + 1 + 1, n + 1 + 1 + 1 + 1 + 1 + 1 + 1] : List Nat).Nodup
  simp only [List.nodup_cons, List.mem_cons, List.mem_nil_iff, or_false, not_or, List.nodup_nil, and_true, not_false_eq_true]
  lia
noncomputable def CellW (n : Nat) (Y : Led) (x : Str) : Prop := ∃ a o v₀, (lawCl n).lookup x = some a ∧ (a, o) ∈ Y ∧ o.data = .cell v₀
noncomputable def Cell (n : Nat) (Y : Led) (x : Str) (v : Value) : Prop := ∃ a o, (lawCl n).lookup x = some a ∧ (a, o) ∈ Y ∧ o.data = .cell (some v)
structure Yst (n : Nat) (Y Y' : Led) (x : Str) (v : Value) : Prop where
  cell : ∀ y u, Cell n Y y u → y ≠ x → Cell n Y' y u
  new : Cell n Y' x v
  w : ∀ y, CellW n Y y → CellW n Y' y
structure Cst (n : Nat) (A : Ba) (k : Mk) (la : Addr) (Y : Led) : Prop where
  b : Cell n Y (Str.ofString "bank") (.ref A.b)
  m : Cell n Y (Str.ofString "maker") (.ref k.m)
  l : Cell n Y (Str.ofString "leaves") (.ref la)
  ww : CellW n Y (Str.ofString "who")
  wv : CellW n Y (Str.ofString "value")
  wt : CellW n Y (Str.ofString "t")
  wi : CellW n Y (Str.ofString "bits")
theorem Cst.set {n : Nat} {A : Ba} {k : Mk} {la : Addr} {Y Y' : Led} {x : Str} {v : Value} (C : Cst n A k la Y) (h : Yst n Y Y' x v) (h1 : Str.ofString "bank" ≠ x) (h2 : Str.ofString "maker" ≠ x) (h3 : Str.ofString "leaves" ≠ x) : Cst n A k la Y' :=
  ⟨h.cell _ _ C.b h1, h.cell _ _ C.m h2, h.cell _ _ C.l h3, h.w _ C.ww, h.w _ C.wv, h.w _ C.wt, h.w _ C.wi⟩
theorem set_mid {P Y T : Led} {j : Nat} {a : Addr} {o o' : Obj} (hj : Y[j]? = some (a, o)) : (P ++ (Y ++ T))[P.length + j]? = some (a, o) ∧ (P ++ (Y ++ T)).set (P.length + j) (a, o') = P ++ (Y.set j (a, o') ++ T) := by
  have hl := (List.getElem?_eq_some_iff.mp hj).1
  refine ⟨?_, ?_⟩
  · rw [List.getElem?_append_right (Nat.le_add_right _ _), Nat.add_sub_cancel_left, List.getElem?_append_left hl]; exact hj
  · rw [List.set_append_right _ _ (Nat.le_add_right _ _), Nat.add_sub_cancel_left, List.set_append_left _ _ hl]
theorem yst_of {n : Nat} {Y : Led} {j : Nat} {a : Addr} {o o' : Obj} {x : Str} {v : Value} (hx : (lawCl n).lookup x = some a) (hj : Y[j]? = some (a, o)) (nd : (Y.map (·.1)).Nodup) (hd : o'.data = .cell (some v)) : Yst n Y (Y.set j (a, o')) x v := by
  have hl := (List.getElem?_eq_some_iff.mp hj).1
  have keep : ∀ {b : Addr} {p : Obj}, (b, p) ∈ Y → b ≠ a → (b, p) ∈ Y.set j (a, o') := fun {b p} hm hb => by
    obtain ⟨i, hi⟩ := List.mem_iff_getElem?.mp hm
    have hij : j ≠ i := fun e => by subst e; rw [hj] at hi; exact hb (congrArg Prod.fst (Option.some.inj hi)).symm
    exact List.mem_of_getElem? (by rw [List.getElem?_set_ne hij]; exact hi)
  have new : (a, o') ∈ Y.set j (a, o') := List.mem_of_getElem? (by rw [List.getElem?_set_self hl])
  refine ⟨fun y u ⟨b, p, h1, h2, h3⟩ hy => ⟨b, p, h1, keep h2 fun e => hy (lookup_inj (lawCl_nd n) h1 (e ▸ hx)), h3⟩, ⟨a, o', hx, new, hd⟩, fun y ⟨b, p, v₀, h1, h2, h3⟩ => ?_⟩
  by_cases e : b = a
  · subst e; exact ⟨b, o', some v, h1, new, hd⟩
  · exact ⟨b, p, v₀, h1, keep h2 e, h3⟩
section
variable {M' : Model} {Ar : Around} {E : Value → Shared → Prop} {s : Shared} {h₀ : Heap} {L a : Addr} {m : Str → Option Value} {w : World} {A : Ba} {c c₀ : Bc} {k : Mk} {Y st P T news : Led} {σ : St} {n : Nat} {cn : Str} {cs : Scope} {ccd : Value} {cl : List (Str × Addr)} {x : Str} {v : Value} {p1 p2 p3 tl : Addr × Obj} {Q : Value → Shared → Prop} {q : Unit → Shared → Prop} {pos : Pos} {scope : Scope} {C : Addr} {env : Env}
theorem cell_rd (hx : (envX cn cs L a ccd cl).kindOf x = some .cell) (hc : Cell n Y x v) (e : cl.lookup x = (lawCl n).lookup x) (N : News h₀ L s.heap news) (hs : ∀ p ∈ Y, p ∈ news) (h : Q v s) (hk : cs.kind = .function) (hb : (x == ("__debug__" : Str)) = false) :
    wpAny M' Ar (eval (.Name x pos) (envX cn cs L a ccd cl)) Q E s := by
  obtain ⟨a, o, h1, h2, h3⟩ := hc
  exact nameX_C N (e.trans h1) (hs _ h2) h3 h hk hx hb
theorem cell_rdc (hx : (compEnvC scope cl C env).kindOf x = some .cell) (hc : Cell n Y x v) (e : cl.lookup x = (lawCl n).lookup x) (N : News h₀ L s.heap news) (hs : ∀ p ∈ Y, p ∈ news) (h : Q v s) (hk : (compEnvC scope cl C env).scope.kind = .function) (hb : (x == ("__debug__" : Str)) = false) :
    wpAny M' Ar (eval (.Name x pos) (compEnvC scope cl C env)) Q E s := by
  obtain ⟨a, o, h1, h2, h3⟩ := hc
  exact kcf_cell N (e.trans h1) (hs _ h2) h3 h hk hx hb
theorem cell_st (hx : (envX cn cs L a ccd cl).kindOf x = some .cell) (hc : CellW n Y x) (e : cl.lookup x = (lawCl n).lookup x) (F : Fr h₀ L s.heap m) (N : News h₀ L s.heap (M w A c ++ ((P ++ (Y ++ T)) ++ st))) (R : Rep w A c₀ (P ++ (Y ++ T)) st σ) (nd : ((P ++ (Y ++ T)).map (·.1)).Nodup) (hk : cs.kind = .function)
    (h : ∀ h' Y', Yst n Y Y' x v → Fr h₀ L h' m → News h₀ L h' (M w A c ++ ((P ++ (Y' ++ T)) ++ st)) → Rep w A c₀ (P ++ (Y' ++ T)) st σ → ((P ++ (Y' ++ T)).map (·.1)).Nodup → q () { s with heap := h' }) :
    wpAny M' Ar (storeName (envX cn cs L a ccd cl) x v) q E s := by
  obtain ⟨a, o, v₀, h1, h2, h3⟩ := hc
  obtain ⟨j, hj⟩ := List.mem_iff_getElem?.mp h2
  have nY : (Y.map (·.1)).Nodup := by
    rw [List.map_append, List.map_append] at nd
    exact (List.nodup_append.mp (List.nodup_append.mp nd).2.1).1
  refine cell_set (e.trans h1) F N R nd (set_mid (o' := o) hj).1 h3 (fun h' o' F' N' R' nd' d' => ?_) hk hx
  rw [(set_mid (o' := o') hj).2] at N' R' nd'
  exact h h' _ (yst_of h1 hj nY d') F' N' R' nd'
theorem cell_st1 (hx : (envX cn cs L a ccd cl).kindOf x = some .cell) (hc : CellW n Y x) (e : cl.lookup x = (lawCl n).lookup x) (F : Fr h₀ L s.heap m) (N : News h₀ L s.heap (M w A c ++ ((p1 :: Y) ++ st))) (R : Rep w A c₀ (p1 :: Y) st σ) (nd : ((p1 :: Y).map (·.1)).Nodup) (hk : cs.kind = .function)
    (h : ∀ h' Y', Yst n Y Y' x v → Fr h₀ L h' m → News h₀ L h' (M w A c ++ ((p1 :: Y') ++ st)) → Rep w A c₀ (p1 :: Y') st σ → ((p1 :: Y').map (·.1)).Nodup → q () { s with heap := h' }) :
    wpAny M' Ar (storeName (envX cn cs L a ccd cl) x v) q E s := by
  refine cell_st (P := [p1]) (Y := Y) (T := []) (st := st) (w := w) (A := A) (c := c) hx hc e F (by rw [List.append_nil Y]; exact N) (by rw [List.append_nil Y]; exact R) (by rw [List.append_nil Y]; exact nd) hk fun h' Y' y F' N' R' nd' => ?_
  rw [List.append_nil Y'] at N' R' nd'
  exact h h' Y' y F' N' R' nd'
theorem cell_st3 (hx : (envX cn cs L a ccd cl).kindOf x = some .cell) (hc : CellW n Y x) (e : cl.lookup x = (lawCl n).lookup x) (F : Fr h₀ L s.heap m) (N : News h₀ L s.heap (M w A c ++ (mkL w A k (p1 :: p2 :: p3 :: Y) ++ st))) (R : Rep w A c₀ (mkL w A k (p1 :: p2 :: p3 :: Y)) st σ) (nd : NdX k (p1 :: p2 :: p3 :: Y)) (hk : cs.kind = .function)
    (h : ∀ h' Y', Yst n Y Y' x v → Fr h₀ L h' m → News h₀ L h' (M w A c ++ (mkL w A k (p1 :: p2 :: p3 :: Y') ++ st)) → Rep w A c₀ (mkL w A k (p1 :: p2 :: p3 :: Y')) st σ → NdX k (p1 :: p2 :: p3 :: Y') → q () { s with heap := h' }) :
    wpAny M' Ar (storeName (envX cn cs L a ccd cl) x v) q E s := by
  refine cell_st (P := mkL w A k [p1, p2, p3]) (Y := Y) (T := []) (st := st) (w := w) (A := A) (c := c) hx hc e F (by rw [List.append_nil Y]; exact N) (by rw [List.append_nil Y]; exact R) (by rw [List.append_nil Y]; exact nd) hk fun h' Y' y F' N' R' nd' => ?_
  rw [List.append_nil Y'] at N' R' nd'
  exact h h' Y' y F' N' R' nd'
theorem cell_st3t (hx : (envX cn cs L a ccd cl).kindOf x = some .cell) (hc : CellW n Y x) (e : cl.lookup x = (lawCl n).lookup x) (F : Fr h₀ L s.heap m) (N : News h₀ L s.heap (M w A c ++ (mkL w A k (p1 :: p2 :: p3 :: (Y ++ T)) ++ st))) (R : Rep w A c₀ (mkL w A k (p1 :: p2 :: p3 :: (Y ++ T))) st σ) (nd : NdX k (p1 :: p2 :: p3 :: (Y ++ T))) (hk : cs.kind = .function)
    (h : ∀ h' Y', Yst n Y Y' x v → Fr h₀ L h' m → News h₀ L h' (M w A c ++ (mkL w A k (p1 :: p2 :: p3 :: (Y' ++ T)) ++ st)) → Rep w A c₀ (mkL w A k (p1 :: p2 :: p3 :: (Y' ++ T))) st σ → NdX k (p1 :: p2 :: p3 :: (Y' ++ T)) → q () { s with heap := h' }) :
    wpAny M' Ar (storeName (envX cn cs L a ccd cl) x v) q E s :=
  cell_st (P := mkL w A k [p1, p2, p3]) hx hc e F N R nd hk h
theorem cell_st2t (hx : (envX cn cs L a ccd cl).kindOf x = some .cell) (hc : CellW n Y x) (e : cl.lookup x = (lawCl n).lookup x) (F : Fr h₀ L s.heap m) (N : News h₀ L s.heap (M w A c ++ (mkL w A k (p1 :: p2 :: (Y ++ T)) ++ st))) (R : Rep w A c₀ (mkL w A k (p1 :: p2 :: (Y ++ T))) st σ) (nd : NdX k (p1 :: p2 :: (Y ++ T))) (hk : cs.kind = .function)
    (h : ∀ h' Y', Yst n Y Y' x v → Fr h₀ L h' m → News h₀ L h' (M w A c ++ (mkL w A k (p1 :: p2 :: (Y' ++ T)) ++ st)) → Rep w A c₀ (mkL w A k (p1 :: p2 :: (Y' ++ T))) st σ → NdX k (p1 :: p2 :: (Y' ++ T)) → q () { s with heap := h' }) :
    wpAny M' Ar (storeName (envX cn cs L a ccd cl) x v) q E s :=
  cell_st (P := mkL w A k [p1, p2]) hx hc e F N R nd hk h
theorem cell_stop (hx : (envX cn cs L a ccd cl).kindOf x = some .cell) (h : Stop (wpAny M' Ar (storeName (envX cn cs L a ccd cl) x v) q E s)) : wpAny M' Ar (storeName (envX cn cs L a ccd cl) x v) q E s := h
theorem cst_mk {Y1 Y2 Y3 : Led} {la : Addr} (y1 : Yst n Y Y1 (Str.ofString "bank") (.ref A.b)) (y2 : Yst n Y1 Y2 (Str.ofString "maker") (.ref k.m)) (y3 : Yst n Y2 Y3 (Str.ofString "leaves") (.ref la)) (h : CellW n Y (Str.ofString "who") ∧ CellW n Y (Str.ofString "value") ∧ CellW n Y (Str.ofString "t") ∧ CellW n Y (Str.ofString "bits")) : Cst n A k la Y3 :=
  have f := fun x (h : CellW n Y x) => y3.w _ (y2.w _ (y1.w _ h))
  ⟨y3.cell _ _ (y2.cell _ _ y1.new (by decide)) (by decide), y3.cell _ _ y2.new (by decide), y3.new, f _ h.1, f _ h.2.1, f _ h.2.2.1, f _ h.2.2.2⟩
theorem cells_hide {h : Heap} {o1 o2 o3 o4 o5 o6 o7 : Obj} (N : News h₀ L h [(n + 1 + 1 + 1 + 1 + 1 + 1 + 1, o1), (n + 1 + 1 + 1 + 1 + 1 + 1, o2), (n + 1 + 1 + 1 + 1 + 1, o3), (n + 1 + 1 + 1 + 1, o4), (n + 1 + 1 + 1, o5), (n + 1 + 1, o6), (n + 1, o7)])
    (d1 : o1.data = .cell none) (d2 : o2.data = .cell none) (d3 : o3.data = .cell none) (d4 : o4.data = .cell none) (d5 : o5.data = .cell none) (d6 : o6.data = .cell none) (d7 : o7.data = .cell none) :
    ∃ Y : Led, News h₀ L h Y ∧ (Y.map (·.1)).Nodup ∧ CellW n Y (Str.ofString "bank") ∧ CellW n Y (Str.ofString "maker") ∧ CellW n Y (Str.ofString "leaves") ∧ CellW n Y (Str.ofString "who") ∧ CellW n Y (Str.ofString "value") ∧ CellW n Y (Str.ofString "t") ∧ CellW n Y (Str.ofString "bits") := by
  refine ⟨_, N, cells_nd, ?_⟩
  have f : ∀ (i : Nat) {x : Str} {a : Addr} {o : Obj}, (lawCl n).lookup x = some a → [(n + 1 + 1 + 1 + 1 + 1 + 1 + 1, o1), (n + 1 + 1 + 1 + 1 + 1 + 1, o2), (n + 1 + 1 + 1 + 1 + 1, o3), (n + 1 + 1 + 1 + 1, o4), (n + 1 + 1 + 1, o5), (n + 1 + 1, o6), (n + 1, o7)][i]? = some (a, o) → o.data = .cell none → CellW n [(n + 1 + 1 + 1 + 1 + 1 + 1 + 1, o1), (n + 1 + 1 + 1 + 1 + 1 + 1, o2), (n + 1 + 1 + 1 + 1 + 1, o3), (n + 1 + 1 + 1 + 1, o4), (n + 1 + 1 + 1, o5), (n + 1 + 1, o6), (n + 1, o7)] x := fun i {x a o} h1 h2 h3 => ⟨a, o, none, h1, List.mem_of_getElem? h2, h3⟩
  exact ⟨f 6 rfl rfl d7, f 5 rfl rfl d6, f 4 rfl rfl d5, f 3 rfl rfl d4, f 2 rfl rfl d3, f 1 rfl rfl d2, f 0 rfl rfl d1⟩
end
noncomputable def clOf (scope : Scope) (env : Env) : List (Str × Addr) := (scope.names.filterMap fun y => if y.2 == .free then (env.cells.lookup y.1).map fun a => (y.1, a) else none).reverse
section
variable {w : World} {Ar : Around} {E : Value → Shared → Prop} {s : Shared} {h₀ : Heap} {L : Addr} {m : Str → Option Value} {env : Env}
theorem comp1L {elt iter : PySem.Expr} {x : Str} {px : Pos} {scope : Scope} {pos : Pos} {Q : Value → Shared → Prop} (F₀ : Fr h₀ L s.heap m)
    (hclos : closureFor scope env = pure (clOf scope env)) (hcell : ∀ y ∈ scope.names, y.2 ≠ .cell) (hkind : scope.kind = .function)
    (hnames : ∀ y ∈ scope.names, y.2 = .local → scope.names.lookup y.1 = some .local) (hx : scope.names.lookup x = some .local)
    (h : wpAny (model pw w) Ar (eval iter env) (SrcU w Ar h₀ L m env elt x scope (clOf scope env) (fun s₂ => FinE h₀ L m s₂ Q)) E s)
    (hs : ∀ x, foldedSetIterable iter env x = pure x := by intro _; rfl) :
    wpAny (model pw w) Ar (eval (.ListComp elt [⟨.Name x px, iter, [], 0⟩] scope pos) env) Q E s := comp1 F₀ hclos hcell hkind hnames hx h hs
theorem compTL {ct elt iter : PySem.Expr} {x : Str} {px : Pos} {scope : Scope} {pos : Pos} {Q : Value → Shared → Prop} (F₀ : Fr h₀ L s.heap m)
    (hclos : closureFor scope env = pure (clOf scope env)) (hcell : ∀ y ∈ scope.names, y.2 ≠ .cell) (hkind : scope.kind = .function)
    (hnames : ∀ y ∈ scope.names, y.2 = .local → scope.names.lookup y.1 = some .local) (hx : scope.names.lookup x = some .local)
    (h : wpAny (model pw w) Ar (eval iter env) (SrcT w Ar h₀ L m env ct elt x scope (clOf scope env) (fun s₂ => FinE h₀ L m s₂ Q)) E s)
    (hs : ∀ x, foldedSetIterable iter env x = pure x := by intro _; rfl) :
    wpAny (model pw w) Ar (eval (.ListComp elt [⟨.Name x px, iter, [ct], 0⟩] scope pos) env) Q E s := compT F₀ hclos hcell hkind hnames hx h hs
end
end
section
theorem kr_Inv : True := by
  k_with_none
  trivial
inductive LeafEnt (σ : St) (st : List (Addr × Obj)) (j wj : Nat) (v : Value) : Prop
  | mk (t : Addr) (u : Tok) (nt : Nat) (bx : Addr) (n : Nat) (e : v = .ref t) (hm : (t, pairObj n u bx nt) ∈ st) (hb : BitsIn st (.ref bx) (T.bitsOf (.leaf j wj))) (ha : At σ n (.leaf j wj)) : LeafEnt σ st j wj v
inductive LeafNo (σ : St) (j wj : Nat) (v : Value) : Prop
  | mk (n : Nat) (t : Tok) (e : v = .int (n : Nat) t) (ha : At σ n (.leaf j wj)) : LeafNo σ j wj v
structure Made1 (σ : St) (st : List (Addr × Obj)) (i : Nat) (vs ls : List Value) : Prop where
  lf : σ.fs.length = i
  lv : vs.length = i
  ll : ls.length = i
  b : ∀ x ∈ σ.fs, 1 ≤ x ∧ x ≤ 4
  e : ∀ j x v, σ.fs[j]? = some x → vs[j]? = some v → LeafEnt σ st j x v
  n : ∀ j x v, σ.fs[j]? = some x → ls[j]? = some v → LeafNo σ j x v
theorem LeafEnt.up {σ σ' : St} {st st' : List (Addr × Obj)} {j wj : Nat} {v : Value} (h : LeafEnt σ st j wj v) (hs : ∀ p ∈ st, p ∈ st') (x : ∀ n τ, At σ n τ → At σ' n τ) : LeafEnt σ' st' j wj v :=
  let ⟨t, u, nt, bx, n, e, hm, hb, ha⟩ := h
  ⟨t, u, nt, bx, n, e, hs _ hm, DatIn.mono hs hb, x _ _ ha⟩
theorem LeafNo.up {σ σ' : St} {j wj : Nat} {v : Value} (h : LeafNo σ j wj v) (x : ∀ n τ, At σ n τ → At σ' n τ) : LeafNo σ' j wj v :=
  let ⟨n, t, e, ha⟩ := h
  ⟨n, t, e, x _ _ ha⟩
theorem snoc_at {α : Type} {l : List α} {a b : α} {i j : Nat} (hl : l.length = i) (h : (l ++ [a])[j]? = some b) : (j < i ∧ l[j]? = some b) ∨ (j = i ∧ b = a) := by
  by_cases q : j < i
  · rw [List.getElem?_append_left (by lia)] at h; exact .inl ⟨q, h⟩
  · have := (List.getElem?_eq_some_iff.mp h).1
    rw [List.length_append, List.length_singleton] at this
    have e : j = i := by lia
    subst e
    rw [List.getElem?_append_right (by lia), hl, Nat.sub_self] at h
    exact .inr ⟨rfl, (Option.some.inj h).symm⟩
theorem snoc_last {α : Type} {l : List α} {a : α} {i : Nat} (hl : l.length = i) : (l ++ [a])[i]? = some a := by
  rw [List.getElem?_append_right (by lia), hl, Nat.sub_self]; rfl
theorem Made1.zero {σ : St} {st : List (Addr × Obj)} (h : σ.fs = []) : Made1 σ st 0 [] [] where
  lf := by rw [h]; rfl
  lv := rfl
  ll := rfl
  b x hx := by rw [h] at hx; cases hx
  e j x v hx := by rw [h] at hx; cases hx
  n j x v hx := by rw [h] at hx; cases hx
theorem Made1.step {σ σ' : St} {st st' : List (Addr × Obj)} {i x : Nat} {vs ls : List Value} {v l : Value} (M : Made1 σ st i vs ls) (hs : ∀ p ∈ st, p ∈ st') (up : ∀ n τ, At σ n τ → At σ' n τ) (hf : σ'.fs = σ.fs ++ [x]) (h1 : 1 ≤ x) (h4 : x ≤ 4) (E : LeafEnt σ' st' i x v) (Nn : LeafNo σ' i x l) : Made1 σ' st' (i + 1) (vs ++ [v]) (ls ++ [l]) where
  lf := by rw [hf, List.length_append, M.lf]; rfl
  lv := by rw [List.length_append, M.lv]; rfl
  ll := by rw [List.length_append, M.ll]; rfl
  b y hy := by
    rw [hf] at hy
    rcases List.mem_append.mp hy with hy | hy
    · exact M.b y hy
    · rw [List.mem_singleton.mp hy]; exact ⟨h1, h4⟩
  e j y u hy hu := by
    rw [hf] at hy
    rcases snoc_at M.lf hy with ⟨q, hy⟩ | ⟨rfl, rfl⟩
    · rcases snoc_at M.lv hu with ⟨_, hu⟩ | ⟨rfl, _⟩
      · exact (M.e j y u hy hu).up hs up
      · exact absurd q (Nat.lt_irrefl _)
    · rcases snoc_at M.lv hu with ⟨q, _⟩ | ⟨_, rfl⟩
      · exact absurd q (Nat.lt_irrefl _)
      · exact E
  n j y u hy hu := by
    rw [hf] at hy
    rcases snoc_at M.lf hy with ⟨q, hy⟩ | ⟨rfl, rfl⟩
    · rcases snoc_at M.ll hu with ⟨_, hu⟩ | ⟨rfl, _⟩
      · exact (M.n j y u hy hu).up up
      · exact absurd q (Nat.lt_irrefl _)
    · rcases snoc_at M.ll hu with ⟨q, _⟩ | ⟨_, rfl⟩
      · exact absurd q (Nat.lt_irrefl _)
      · exact Nn
theorem len2 {α : Type} : ∀ {l : List α}, l.length = 2 → ∃ a b, l = [a, b]
  | [a, b], _ => ⟨a, b, rfl⟩
theorem Made1.two {σ : St} {st : List (Addr × Obj)} {vs ls : List Value} (M : Made1 σ st 2 vs ls) : ∃ w0 w1 v0 v1 l0 l1, vs = [v0, v1] ∧ ls = [l0, l1] ∧ (1 ≤ w0 ∧ w0 ≤ 4) ∧ (1 ≤ w1 ∧ w1 ≤ 4) ∧ LeafEnt σ st 0 w0 v0 ∧ LeafEnt σ st 1 w1 v1 ∧ LeafNo σ 0 w0 l0 ∧ LeafNo σ 1 w1 l1 := by
  obtain ⟨w0, w1, e⟩ := len2 M.lf
  obtain ⟨v0, v1, rfl⟩ := len2 M.lv
  obtain ⟨l0, l1, rfl⟩ := len2 M.ll
  have h0 : σ.fs[0]? = some w0 := by rw [e]; rfl
  have h1 : σ.fs[1]? = some w1 := by rw [e]; rfl
  exact ⟨w0, w1, v0, v1, l0, l1, rfl, rfl, M.b _ (List.mem_of_getElem? h0), M.b _ (List.mem_of_getElem? h1), M.e _ _ _ h0 rfl, M.e _ _ _ h1 rfl, M.n _ _ _ h0 rfl, M.n _ _ _ h1 rfl⟩
inductive Two (σ : St) (st : Led) (la : Addr) (vs ls : List Value) : Prop
  | mk (V : Lv) (v0 v1 : Value) (u0 u1 : Tok) (hv : vs = [v0, v1]) (hl : ls = [.int (V.n0 : Nat) u0, .int (V.n1 : Nat) u1]) (ha : la = V.a) (b0 : 1 ≤ V.w0 ∧ V.w0 ≤ 4) (b1 : 1 ≤ V.w1 ∧ V.w1 ≤ 4) (E0 : LeafEnt σ st 0 V.w0 v0) (E1 : LeafEnt σ st 1 V.w1 v1) (B0 : At σ V.n0 (.leaf 0 V.w0)) (B1 : At σ V.n1 (.leaf 1 V.w1)) : Two σ st la vs ls
theorem Made1.two' {σ : St} {st : List (Addr × Obj)} {vs ls : List Value} (la : Addr) (M : Made1 σ st 2 vs ls) : Two σ st la vs ls := by
  obtain ⟨w0, w1, v0, v1, l0, l1, e, rfl, b0, b1, E0, E1, ⟨n0, u0, rfl, B0⟩, ⟨n1, u1, rfl, B1⟩⟩ := M.two
  exact .mk ⟨la, n0, n1, w0, w1⟩ v0 v1 u0 u1 e rfl rfl b0 b1 E0 E1 B0 B1
inductive Inv1 (w : World) (A : Ba) (k : Mk) (S : Src) (pa la : Addr) (n : Nat) (m₀ : Str → Option Value) (i : Nat) (m : Str → Option Value) (news : List (Addr × Obj)) : Prop
  | mk (c : Bc) (o : Obj) (vs : List Value) (kn : Nat) (ls : List Value) (ln : Nat) (Y : Led) (st : List (Addr × Obj)) (σ : St) (f : Option Value) (hm : m = (fun y => if y = Str.ofString "width" then f else m₀ y)) (hn : news = M w A c ++ (mkL w A k ((S.d, o) :: (pa, listOf (List.toArray vs) kn) :: (la, listOf (List.toArray ls) ln) :: Y) ++ st)) (h0 : Rep w A c (mkL w A k ((S.d, o) :: (pa, listOf (List.toArray vs) kn) :: (la, listOf (List.toArray ls) ln) :: Y)) st σ) (h1 : NdX k ((S.d, o) :: (pa, listOf (List.toArray vs) kn) :: (la, listOf (List.toArray ls) ln) :: Y)) (h2 : SrcIs w S o st i) (h3 : Cst n A k la Y) (h4 : Made1 σ st i vs ls) (h5 : σ.ts.length ≤ 10 + 10 * i) : Inv1 w A k S pa la n m₀ i m news
abbrev Inv1R {w : World} {A : Ba} {c : Bc} {X st : Led} {σ : St} (R : Rep w A c X st σ) {n : Nat} {k : Mk} {la : Addr} {Y : Led} (C : Cst n A k la Y) (S : Src) (pa : Addr) := Inv1 w A k S pa la n
section
variable {w : World} {A : Ba} {c c₀ : Bc} {k : Mk} {X st : List (Addr × Obj)} {σ : St} {h₀ h : Heap} {L I : Addr} {oI : Obj}
theorem push_last (N : News h₀ L h ((I, oI) :: (M w A c ++ (mkL w A k X ++ st)))) (R : Rep w A c₀ (mkL w A k X) st σ) (nd : NdX k X) (hI : ∀ p ∈ M w A c ++ (mkL w A k X ++ st), p.1 ≠ I) :
    News h₀ L h (M w A c ++ (mkL w A k (X ++ [(I, oI)]) ++ st)) ∧ Rep w A c₀ (mkL w A k (X ++ [(I, oI)])) st σ ∧ NdX k (X ++ [(I, oI)]) := by
  have sub : ∀ p, p ∈ mkL w A k (X ++ [(I, oI)]) → p = (I, oI) ∨ p ∈ mkL w A k X := fun p hp => by
    simp only [mkL, List.mem_cons, List.mem_append, List.mem_nil_iff, or_false] at hp ⊢
    rcases hp with hp | hp | hp | hp
    · exact .inr (.inl hp)
    · exact .inr (.inr (.inl hp))
    · exact .inr (.inr (.inr hp))
    · exact .inl hp
  refine ⟨news_sub N fun p hp => ?_, R.offX (fun p hp => ?_) fun p hp q => ?_, ?_⟩
  · rcases List.mem_append.mp hp with hp | hp
    · exact .tail _ (List.mem_append_left _ hp)
    rcases List.mem_append.mp hp with hp | hp
    · rcases sub p hp with rfl | hp
      · exact .head _
      · exact .tail _ (List.mem_append_right _ (List.mem_append_left _ hp))
    · exact .tail _ (List.mem_append_right _ (List.mem_append_right _ hp))
  · rcases sub p hp with rfl | hp
    · intro q
      rw [← M_addrs w A c] at q
      obtain ⟨r, hr, e⟩ := List.mem_map.mp q
      exact hI r (List.mem_append_left _ hr) e
    · exact R.off p (List.mem_append_left _ hp)
  · obtain ⟨r, hr, e⟩ := List.mem_map.mp q
    rcases sub r hr with rfl | hr
    · exact hI p (List.mem_append_right _ (List.mem_append_right _ hp)) e.symm
    · exact R.sep p hp (by rw [← e]; exact List.mem_map_of_mem (f := fun q : Addr × Obj => q.1) hr)
  · have nd' : (k.m :: k.d :: X.map (·.1)).Nodup := nd
    show (k.m :: k.d :: (X ++ [(I, oI)]).map (·.1)).Nodup
    have e1 : (k.m :: k.d :: (X ++ [(I, oI)]).map (·.1)) = (k.m :: k.d :: X.map (·.1)) ++ [I] := by simp
    rw [e1, List.nodup_append]
    refine ⟨nd', by simp, fun a ha b hb e => ?_⟩
    simp only [List.mem_singleton] at hb
    subst hb
    have ha' : a ∈ (mkL w A k X).map (·.1) := ha
    obtain ⟨r, hr, e'⟩ := List.mem_map.mp ha'
    exact hI r (List.mem_append_right _ (List.mem_append_left _ hr)) (e'.trans e)
theorem pop_last (N : News h₀ L h (M w A c ++ (mkL w A k (X ++ [(I, oI)]) ++ st))) (R : Rep w A c₀ (mkL w A k (X ++ [(I, oI)])) st σ) (nd : NdX k (X ++ [(I, oI)])) :
    News h₀ L h ((I, oI) :: (M w A c ++ (mkL w A k X ++ st))) ∧ Rep w A c₀ (mkL w A k X) st σ ∧ NdX k X ∧ (∀ p ∈ M w A c ++ (mkL w A k X ++ st), p.1 ≠ I) := by
  have sup : ∀ p, p ∈ mkL w A k X → p ∈ mkL w A k (X ++ [(I, oI)]) := fun p hp => by
    simp only [mkL, List.mem_cons, List.mem_append] at hp ⊢
    rcases hp with hp | hp | hp
    · exact .inl hp
    · exact .inr (.inl hp)
    · exact .inr (.inr (.inl hp))
  have lst' : (I, oI) ∈ mkL w A k (X ++ [(I, oI)]) := .tail _ (.tail _ (List.mem_append_right _ (.head _)))
  have nd' : (k.m :: k.d :: (X ++ [(I, oI)]).map (·.1)).Nodup := nd
  have e1 : (k.m :: k.d :: (X ++ [(I, oI)]).map (·.1)) = (k.m :: k.d :: X.map (·.1)) ++ [I] := by simp
  rw [e1, List.nodup_append] at nd'
  refine ⟨news_sub N fun p hp => ?_, R.offX (fun p hp => R.off p (List.mem_append_left _ (sup p hp))) fun p hp q => ?_, nd'.1, fun p hp e => ?_⟩
  · rcases List.mem_cons.mp hp with rfl | hp
    · exact List.mem_append_right _ (List.mem_append_left _ lst')
    rcases List.mem_append.mp hp with hp | hp
    · exact List.mem_append_left _ hp
    rcases List.mem_append.mp hp with hp | hp
    · exact List.mem_append_right _ (List.mem_append_left _ (sup p hp))
    · exact List.mem_append_right _ (List.mem_append_right _ hp)
  · obtain ⟨r, hr, e⟩ := List.mem_map.mp q
    exact R.sep p hp (by rw [← e]; exact List.mem_map_of_mem (f := fun q : Addr × Obj => q.1) (sup r hr))
  · rcases List.mem_append.mp hp with hp | hp
    · refine R.off _ (List.mem_append_left _ lst') ?_
      rw [← M_addrs w A c]
      have := List.mem_map_of_mem (f := fun q : Addr × Obj => q.1) hp
      rw [e] at this; exact this
    rcases List.mem_append.mp hp with hp | hp
    · have h1 : p.1 ∈ (k.m :: k.d :: X.map (·.1)) := by
        have := List.mem_map_of_mem (f := fun q : Addr × Obj => q.1) hp
        exact this
      exact nd'.2.2 _ h1 I (by simp) e
    · exact R.sep p hp (by rw [e]; exact List.mem_map_of_mem (f := fun q : Addr × Obj => q.1) lst')
end
theorem wid_fun {m₀ : Str → Option Value} {x : Str} : m₀ = fun y => if y = x then m₀ x else m₀ y := funext fun y => by
  by_cases h : y = x
  · subst h; simp
  · simp [h]
theorem wid_set {m₀ : Str → Option Value} {x : Str} {f v : Option Value} : (fun y => if y = x then v else (fun y => if y = x then f else m₀ y) y) = fun y => if y = x then v else m₀ y := funext fun y => by
  by_cases h : y = x <;> simp [h]
theorem iter_any' {prog : Program} {w : World} {A : Around} {E : Value → Shared → Prop} {s : Shared} {env : Env} {h₀ : Heap} {body : List Stmt} {Q : Flow → Shared → Prop} {x : Str} {px : Pos} {r : Addr} {b : Int} {t u v : Tok} {n : Nat} {m₀ : Str → Option Value} {news₀ : List (Addr × Obj)} (J : (Str → Option Value) → Nat → (Str → Option Value) → List (Addr × Obj) → Prop)
    (hh : A.handled = none) (F : Fr h₀ env.locals s.heap m₀) (N : News h₀ env.locals s.heap news₀) (hr : IsRange s.heap r 0 b 1 t u v) (hsm : Builtin.Range.small 0 b 1 = true) (hn : Builtin.Range.rangeSize 0 b 1 = ((n : Nat) : Int)) (hJ : J m₀ 0 m₀ news₀)
    (turn : ∀ (i : Nat) tk' m₁ news₁ h₁ tk₁ (I : Addr) (oI : Obj), i < n → J m₀ i m₁ news₁ → (∀ p ∈ news₁, p.1 ≠ I) → Fr h₀ env.locals h₁ m₁ → News h₀ env.locals h₁ ((I, oI) :: news₁) →
      wpAny (model prog w) A (assign (.Name x px) env (.int (i : Nat) tk')) (fun _ s₃ => wpAny (model prog w) A (execs body env) (TurnEnd h₀ env.locals I oI (J m₀ (i + 1)) { s with heap := h₁, toks := tk₁ } Q) E s₃) E { s with heap := h₁, toks := tk₁ })
    (done : ∀ h' tk m' news', Fr h₀ env.locals h' m' → News h₀ env.locals h' news' → J m₀ n m' news' → Q .next { s with heap := h', toks := tk }) :
    wpAny (model prog w) A (pyIter (.ref r)) (fun it s₂ => TurnsAt prog w A h₀ env (.Name x px) body Q E it s₂) E s := iter_any (J m₀) hh hr hsm hn F N hJ turn done
end
section
theorem kr_Inv2 : True := by
  k_with_none
  trivial
theorem Bit.flip_place {w0 w1 : Nat} {b : Bit} (ih : b.who ≠ 2 → b.place < if b.who = 0 then w0 else w1) (h : b.flip.who ≠ 2) : b.flip.place < if b.flip.who = 0 then w0 else w1 := by
  obtain ⟨who, pl, tu⟩ := b
  by_cases q : who = 2
  · subst q; exact absurd rfl h
  · have e : Bit.flip ⟨who, pl, tu⟩ = ⟨who, pl, !tu⟩ := if_neg q
    rw [e]; exact ih q
namespace T
theorem readT_place {w0 w1 : Nat} : ∀ {x : T} {i : Nat}, x.ok → x.lv w0 w1 → i < x.wd → (readT x i).who ≠ 2 → (readT x i).place < if (readT x i).who = 0 then w0 else w1
  | .leaf k w, i, o, lv, hi, h => by
    rcases lv with ⟨rfl, rfl⟩ | ⟨rfl, rfl⟩ <;> exact hi
  | .num v w, i, o, lv, hi, h => absurd rfl h
  | .bnot x, i, o, lv, hi, h => Bit.flip_place (readT_place (x := x) (i := i) o.1 lv hi) h
  | .ext a l x, i, o, lv, hi, h => by
    obtain ⟨o1, o2, o3⟩ := o; simp only [wd] at hi
    exact readT_place (x := x) (i := i + l) o3 lv (by lia) h
  | .cat x y, i, o, lv, hi, h => by
    simp only [wd] at hi
    simp only [readT] at h ⊢
    by_cases q : i < y.wd
    · simp only [q, if_true] at h ⊢; exact readT_place o.2.1 lv.2 q h
    · simp only [q, if_false] at h ⊢; exact readT_place o.1 lv.1 (by lia) h
  | .zx m x, i, o, lv, hi, h => by
    simp only [readT] at h ⊢
    by_cases q : i < x.wd
    · simp only [q, if_true] at h ⊢; exact readT_place (x := x) o.2.1 lv q h
    · simp only [q, if_false] at h; exact absurd rfl h
  | .sx m x, i, o, lv, hi, h => by
    have := ok_wd o.2.1
    exact readT_place (x := x) (i := min i (x.wd - 1)) o.2.1 lv (by lia) h
end T
theorem LeafEnt.pool {V : Lv} {σ : St} {st : List (Addr × Obj)} {j wj : Nat} {v : Value} (h : LeafEnt σ st j wj v) (lv : T.lv V.w0 V.w1 (.leaf j wj)) (h1 : 1 ≤ wj) (h2 : wj ≤ 4) : PEnt V σ st 0 v :=
  let ⟨t, u, nt, bx, n, e, hm, hb, ha⟩ := h
  ⟨t, u, nt, bx, n, .leaf j wj, e, hm, hb, ha, ⟨h1, by lia⟩, lv, Nat.le_refl _, by show wj ≤ 10; lia⟩
theorem turn_end {w : World} {A : Ba} {c c₀ : Bc} {k : Mk} {X st : List (Addr × Obj)} {σ : St} {h₀ h' : Heap} {L I : Addr} {oI : Obj} {J : (Str → Option Value) → List (Addr × Obj) → Prop} {s₁ : Shared} {Q : Flow → Shared → Prop} {tk : Nat} {m' : Str → Option Value} (F : Fr h₀ L h' m') (N : News h₀ L h' (M w A c ++ (mkL w A k (X ++ [(I, oI)]) ++ st))) (R : Rep w A c₀ (mkL w A k (X ++ [(I, oI)])) st σ) (nd : NdX k (X ++ [(I, oI)]))
    (h : Rep w A c₀ (mkL w A k X) st σ → NdX k X → J m' (M w A c ++ (mkL w A k X ++ st))) : TurnEnd h₀ L I oI J s₁ Q .next { s₁ with heap := h', toks := tk } :=
  let ⟨N', R', nd', hI⟩ := pop_last N R nd
  TurnEnd.mk F N' hI (h R' nd')
section
variable {w : World} {A : Ba} {c c₀ : Bc} {k : Mk} {X X1 X2 st : List (Addr × Obj)} {σ : St} {h₀ h : Heap} {L I C D : Addr} {oI oC : Obj} {ys : List Value} {p : Addr × Obj}
theorem move_st (N : News h₀ L h (M w A c ++ (mkL w A k (X1 ++ p :: X2) ++ st))) (R : Rep w A c₀ (mkL w A k (X1 ++ p :: X2)) st σ) (nd : NdX k (X1 ++ p :: X2)) :
    News h₀ L h (M w A c ++ (mkL w A k (X1 ++ X2) ++ (p :: st))) ∧ Rep w A c₀ (mkL w A k (X1 ++ X2)) (p :: st) σ ∧ NdX k (X1 ++ X2) := by
  have sub : ∀ q ∈ mkL w A k (X1 ++ X2), q ∈ mkL w A k (X1 ++ p :: X2) := fun q hq => by
    simp only [mkL, List.mem_cons, List.mem_append] at hq ⊢
    rcases hq with hq | hq | hq | hq
    · exact .inl hq
    · exact .inr (.inl hq)
    · exact .inr (.inr (.inl hq))
    · exact .inr (.inr (.inr (.inr hq)))
  have pin : p ∈ mkL w A k (X1 ++ p :: X2) := .tail _ (.tail _ (List.mem_append_right _ (.head _)))
  have nd' : (k.m :: k.d :: (X1 ++ p :: X2).map (·.1)).Nodup := nd
  have e1 : (k.m :: k.d :: (X1 ++ p :: X2).map (·.1)) = (k.m :: k.d :: X1.map (·.1)) ++ p.1 :: X2.map (·.1) := by simp
  have e2 : (k.m :: k.d :: (X1 ++ X2).map (·.1)) = (k.m :: k.d :: X1.map (·.1)) ++ X2.map (·.1) := by simp
  rw [e1] at nd'
  have nd2 := (List.perm_middle.nodup_iff).mp nd'
  rw [List.nodup_cons] at nd2
  have pn : p.1 ∉ (mkL w A k (X1 ++ X2)).map (·.1) := fun q => nd2.1 (by
    have q' : p.1 ∈ k.m :: k.d :: (X1 ++ X2).map (·.1) := q
    rw [e2] at q'; exact q')
  refine ⟨news_sub N fun q hq => ?_, Rep.cons (R.offX (fun q hq => R.off q (List.mem_append_left _ (sub q hq))) fun q hq r => ?_) (R.off p (List.mem_append_left _ pin)) pn, ?_⟩
  · rcases List.mem_append.mp hq with hq | hq
    · exact List.mem_append_left _ hq
    rcases List.mem_append.mp hq with hq | hq
    · exact List.mem_append_right _ (List.mem_append_left _ (sub q hq))
    rcases List.mem_cons.mp hq with rfl | hq
    · exact List.mem_append_right _ (List.mem_append_left _ pin)
    · exact List.mem_append_right _ (List.mem_append_right _ hq)
  · obtain ⟨z, hz, e⟩ := List.mem_map.mp r
    exact R.sep q hq (by rw [← e]; exact List.mem_map_of_mem (f := fun q : Addr × Obj => q.1) (sub z hz))
  · show (k.m :: k.d :: (X1 ++ X2).map (·.1)).Nodup
    rw [e2]; exact nd2.2
theorem move_k {P : Prop} (N : News h₀ L h (M w A c ++ (mkL w A k (X1 ++ p :: X2) ++ st))) (R : Rep w A c₀ (mkL w A k (X1 ++ p :: X2)) st σ) (nd : NdX k (X1 ++ p :: X2))
    (q : News h₀ L h (M w A c ++ (mkL w A k (X1 ++ X2) ++ (p :: st))) → Rep w A c₀ (mkL w A k (X1 ++ X2)) (p :: st) σ → NdX k (X1 ++ X2) → P) : P := let ⟨a, b, c⟩ := move_st N R nd; q a b c
theorem pool3 {V : Lv} {d : Nat} {v0 v1 v2 : Value} (p0 : PEnt V σ st d v0) (p1 : PEnt V σ st d v1) (p2 : PEnt V σ st d v2) : PoolIs V σ st d [v0, v1, v2] := fun v hv => by
  simp only [List.mem_cons, List.mem_nil_iff, or_false] at hv
  rcases hv with rfl | rfl | rfl
  · exact p0
  · exact p1
  · exact p2
theorem mk_mem {q : Addr × Obj} : q ∈ mkL w A k (X3 I oI C oC D ys X) ↔ q ∈ X3 I oI C oC D ys (mkL w A k X) := by
  simp only [mkL, List.mem_cons]
  constructor
  · rintro (h | h | h | h | h | h)
    · exact .inr (.inr (.inr (.inl h)))
    · exact .inr (.inr (.inr (.inr (.inl h))))
    · exact .inl h
    · exact .inr (.inl h)
    · exact .inr (.inr (.inl h))
    · exact .inr (.inr (.inr (.inr (.inr h))))
  · rintro (h | h | h | h | h | h)
    · exact .inr (.inr (.inl h))
    · exact .inr (.inr (.inr (.inl h)))
    · exact .inr (.inr (.inr (.inr (.inl h))))
    · exact .inl h
    · exact .inr (.inl h)
    · exact .inr (.inr (.inr (.inr (.inr h))))
theorem news_perm {Y Z : List (Addr × Obj)} (N : News h₀ L h (M w A c ++ (Y ++ st))) (hz : ∀ q ∈ Z, q ∈ Y) : News h₀ L h (M w A c ++ (Z ++ st)) := news_sub N fun q hq => by
  rcases List.mem_append.mp hq with hq | hq
  · exact List.mem_append_left _ hq
  rcases List.mem_append.mp hq with hq | hq
  · exact List.mem_append_right _ (List.mem_append_left _ (hz q hq))
  · exact List.mem_append_right _ (List.mem_append_right _ hq)
theorem Rep.perm {Y Z : List (Addr × Obj)} (R : Rep w A c₀ Y st σ) (h : ∀ q ∈ Z, q ∈ Y) : Rep w A c₀ Z st σ :=
  R.offX (fun q hq => R.off q (List.mem_append_left _ (h q hq))) fun q hq r => by
    obtain ⟨z, hz, e⟩ := List.mem_map.mp r
    exact R.sep q hq (by rw [← e]; exact List.mem_map_of_mem (f := fun q : Addr × Obj => q.1) (h z hz))
theorem mk_in (N : News h₀ L h (M w A c ++ (X3 I oI C oC D ys (mkL w A k X) ++ st))) : News h₀ L h (M w A c ++ (mkL w A k (X3 I oI C oC D ys X) ++ st)) := news_perm N fun _ => mk_mem.mp
theorem mk_out (N : News h₀ L h (M w A c ++ (mkL w A k (X3 I oI C oC D ys X) ++ st))) : News h₀ L h (M w A c ++ (X3 I oI C oC D ys (mkL w A k X) ++ st)) := news_perm N fun _ => mk_mem.mpr
theorem Rep.mk_in (R : Rep w A c₀ (X3 I oI C oC D ys (mkL w A k X)) st σ) : Rep w A c₀ (mkL w A k (X3 I oI C oC D ys X)) st σ := R.perm fun _ => mk_mem.mp
theorem Rep.mk_out (R : Rep w A c₀ (mkL w A k (X3 I oI C oC D ys X)) st σ) : Rep w A c₀ (X3 I oI C oC D ys (mkL w A k X)) st σ := R.perm fun _ => mk_mem.mpr
end
section
variable {Ar : Around} {E : Value → Shared → Prop} {s : Shared} {h₀ : Heap} {L : Addr} {m : Str → Option Value} {w : World} {A : Ba} {c c₀ : Bc} {k : Mk} {X st st' : List (Addr × Obj)} {σ : St} {V : Lv} {Q : Value → Shared → Prop}
theorem bits_item {value slice : PySem.Expr} {bx : Addr} {bs : List Bit} {i : Nat} {u : Tok} (N : News h₀ L s.heap (M w A c ++ (X ++ st))) (hb : BitsIn st' (.ref bx) bs) (hs : ∀ p ∈ st', p ∈ st) (hi : i < bs.length) (hz : bs.length ≤ 100)
    (h : ∀ v, DatIn st v (bs[i]).d → Q v s) (hq : subscripted slice false (.ref bx) (.int (i : Nat) u) = operate [.ref bx, .int (i : Nat) u] (getItem (.ref bx) (.int (i : Nat) u)) := by with_unfolding_all rfl) :
    wpAny (model pw w) Ar (subscriptTail value slice (.ref bx) (.int (i : Nat) u)) Q E s := by
  obtain ⟨vs, n, hm, ha⟩ := list_in hb
  have hl : vs.length = bs.length := by have := ha.length; rwa [List.length_map] at this
  obtain ⟨hb2, hd⟩ := dat_at ha (i := i) (by lia)
  exact item_litK (N.isList (mem_led (hs _ hm))) (Int.natCast_nonneg _) (by lia) (v := vs[i]'(by lia)) (by rw [Int.toNat_natCast]; exact List.getElem?_eq_getElem _) (h _ (DatIn.mono hs hd)) hq
theorem ne_nil {a b : Addr} {na nb : Nat} {news : List (Addr × Obj)} (N : News h₀ L s.heap news) (ha : (a, listOf (List.toArray []) na) ∈ news) (hb : (b, listOf (List.toArray []) nb) ∈ news) (hu : Ar.units + 64 < cLine) (h : Q (.bool false) s) :
    wpAny (model pw w) Ar (compareOp .NotEq (.ref a) (.ref b)) Q E s :=
  ne_intsK (vs := []) (us := []) (N.isList ha) .nil (N.isList hb) .nil hu h
end
theorem PostT.mk' {w : World} {h₀ : Heap} {L : Addr} {m : Str → Option Value} {s : Shared} {A : Ba} {X st : List (Addr × Obj)} {σ : St} {j : Nat} {c' : Bc} {st' : List (Addr × Obj)} {σ' : St} {h' : Heap} {tk' : Nat} {ok : Bool} (e : ok = false) (F : Fr h₀ L h' m) (N : News h₀ L h' (M w A c' ++ (X ++ st'))) (hs : ∀ p ∈ st, p ∈ st') (R : Rep w A c' X st' σ') (x : Ext σ σ' j) : PostT w h₀ L m A X st σ j s ok { s with heap := h', toks := tk' } := e ▸ PostT.mk F N hs R x
theorem push_k {w : World} {A : Ba} {c c₀ : Bc} {k : Mk} {X st : List (Addr × Obj)} {σ : St} {h₀ h : Heap} {L I : Addr} {oI : Obj} {P : Prop} (N : News h₀ L h ((I, oI) :: (M w A c ++ (mkL w A k X ++ st)))) (R : Rep w A c₀ (mkL w A k X) st σ) (nd : NdX k X) (hI : ∀ p ∈ M w A c ++ (mkL w A k X ++ st), p.1 ≠ I)
    (q : News h₀ L h (M w A c ++ (mkL w A k (X ++ [(I, oI)]) ++ st)) → Rep w A c₀ (mkL w A k (X ++ [(I, oI)])) st σ → NdX k (X ++ [(I, oI)]) → P) : P := let ⟨a, b, c⟩ := push_last N R nd hI; q a b c
theorem le_ {a b : Nat} (h : Nat.ble a b = true) : a ≤ b := Nat.le_of_ble_eq_true h
theorem rm0 {a b A B n : Nat} (h : a ≤ A) (g : b ≤ B) (e : Nat.ble (A + B) n = true) : a + b ≤ n := Nat.le_trans (Nat.add_le_add h g) (le_ e)
theorem rm1 {a b d D n : Nat} (h : d ≤ D) (e : Nat.ble (a + (b + D) + 1) n = true) : a + (b + d) < n := Nat.lt_of_le_of_lt (Nat.add_le_add_left (Nat.add_le_add_left h b) a) (le_ e)
theorem rm2 {a b d D n : Nat} (h : d ≤ D) (e : Nat.ble (a + (b + 2 * D) + 1) n = true) : a + (b + 2 * d) < n := rm1 (Nat.mul_le_mul_left 2 h) e
theorem rm3 {a b d D n : Nat} (h : d ≤ D) (e : Nat.ble (a + 16 * (b + D) + 1) n = true) : a + 16 * (b + d) < n := Nat.lt_of_le_of_lt (Nat.add_le_add_left (Nat.mul_le_mul_left 16 (Nat.add_le_add_left h b)) a) (le_ e)
theorem rm4 {a b d D n : Nat} (h : d ≤ D) (e : Nat.ble (a + 16 * (b + 2 * D) + 1) n = true) : a + 16 * (b + 2 * d) < n := rm3 (Nat.mul_le_mul_left 2 h) e
theorem len1 {a i : Nat} (h : a ≤ 100 + 200 * i) (hi : i < 6) : a ≤ 1100 := Nat.le_trans h (Nat.add_le_add_left (Nat.mul_le_mul_left 200 (Nat.le_of_lt_succ hi)) 100)
theorem len2' {a b i : Nat} (h : a ≤ 1100) (z : b ≤ a + (i + 2)) (hi : i < 6) : b ≤ 1107 := Nat.le_trans z (Nat.add_le_add h (Nat.succ_le_succ hi))
theorem len3 {a b i w : Nat} (h : a ≤ 1107) (z : b ≤ a + i * 12) (hi : i < w) (hw : w ≤ 10) : b ≤ 1227 := Nat.le_trans z (Nat.add_le_add h (Nat.mul_le_mul_right 12 (Nat.le_trans (Nat.le_of_lt hi) hw)))
theorem len4 {a b w : Nat} (h : a ≤ 1107) (z : b ≤ a + w * 12) (hw : w ≤ 10) : b ≤ 1227 := Nat.le_trans z (Nat.add_le_add h (Nat.mul_le_mul_right 12 hw))
theorem len5 {a0 a1 a3 a5 i w : Nat} (hi : i < 6) (za : a0 ≤ 100 + 200 * i) (hw : w ≤ 10) (z1 : a1 ≤ a0 + (i + 2)) (z3 : a3 ≤ a1 + w * 12) (z5 : a5 ≤ a3 + (3 * (i + 1) + 12)) : a5 ≤ 100 + 200 * (i + 1) :=
  Nat.le_trans z5 (Nat.le_trans (Nat.add_le_add (Nat.le_trans z3 (Nat.add_le_add (Nat.le_trans z1 (Nat.add_le_add za (Nat.succ_le_succ hi))) (Nat.mul_le_mul_right 12 hw))) (Nat.add_le_add_right (Nat.mul_le_mul_left 3 hi) 12))
    (show 100 + 200 * i + 157 ≤ 100 + 200 * i + 200 from Nat.add_le_add_left (le_ rfl) _))
inductive Inv2 (w : World) (A : Ba) (k : Mk) (S : Src) (V : Lv) (pa : Addr) (n : Nat) (m₀ : Str → Option Value) (i : Nat) (m : Str → Option Value) (news : List (Addr × Obj)) : Prop
  | mk (c : Bc) (o : Obj) (vs : List Value) (kn : Nat) (Y : Led) (st : List (Addr × Obj)) (σ : St) (f : Option Value) (hm : m = (fun y => if y = Str.ofString "lap" then f else m₀ y)) (hn : news = M w A c ++ (mkL w A k ((S.d, o) :: (pa, listOf (List.toArray vs) kn) :: Y) ++ st)) (h0 : Rep w A c (mkL w A k ((S.d, o) :: (pa, listOf (List.toArray vs) kn) :: Y)) st σ) (h1 : NdX k ((S.d, o) :: (pa, listOf (List.toArray vs) kn) :: Y)) (h2 : SrcIs w S o st (4 + 20 * i)) (h3 : Cst n A k V.a Y) (h4 : LvIs V σ st) (h5 : PoolIs V σ st i vs) (h6 : (1 ≤ vs.length ∧ vs.length ≤ 3 + i)) (h7 : σ.ts.length ≤ 100 + 200 * i) : Inv2 w A k S V pa n m₀ i m news
abbrev Inv2R {w : World} {A : Ba} {c : Bc} {X st : Led} {σ : St} (R : Rep w A c X st σ) {n : Nat} {k : Mk} {la : Addr} {Y : Led} (C : Cst n A k la Y) (S : Src) (V : Lv) (pa : Addr) := Inv2 w A k S V pa n
theorem inv2_mk {w : World} {A : Ba} {k : Mk} {S : Src} {V : Lv} {pa : Addr} {n : Nat} {m₀ m : Str → Option Value} {f : Option Value} {i b kn : Nat} {c : Bc} {o : Obj} {vs : List Value} {Y : Led} {st : List (Addr × Obj)} {σ : St} (hm : m = fun y => if y = Str.ofString "lap" then f else m₀ y) (R : Rep w A c (mkL w A k ((S.d, o) :: (pa, listOf (List.toArray vs) kn) :: Y)) st σ) (nd : NdX k ((S.d, o) :: (pa, listOf (List.toArray vs) kn) :: Y)) (hS : SrcIs w S o st b) (hb : b ≤ 4 + 20 * i) (C : Cst n A k V.a Y) (hV : LvIs V σ st) (hP : PoolIs V σ st i vs) (h1 : 1 ≤ vs.length) (h2 : vs.length ≤ 3 + i) (z : σ.ts.length ≤ 100 + 200 * i) :
    Inv2 w A k S V pa n m₀ i m (M w A c ++ (mkL w A k ((S.d, o) :: (pa, listOf (List.toArray vs) kn) :: Y) ++ st)) :=
  ⟨_, _, _, _, _, _, _, _, hm, rfl, R, nd, hS.le hb, C, hV, hP, ⟨h1, h2⟩, z⟩
end
section
theorem kr_WLaw : True := by
  k_with_none
  k_with "b5" => ((case B => k_asm); (case F => k_asm); (case K => k_asm); (case N => k_asm); (case T => k_asm))
  k_with "hdu" => ((case hd => first | exact room1 hd (Nat.le_of_ble_eq_true rfl) | exact room1 hd (by lia) | ktr_room); (case hu => first | exact unit1 hu (Nat.le_of_ble_eq_true rfl) | exact unit1 hu (by lia) | ktr_units))
  k_with "iq" => ((first | (simp only [bne_self_eq_false, beq_self_eq_true, beq_iff_eq, bne_iff_ne, ne_eq, beq_eq_false_iff_ne, decide_eq_true_eq, decide_eq_false_iff_not, Bool.not_eq_true', Bool.not_eq_false', Bool.not_true, Bool.not_false, Option.isSome_some, Option.isSome_none, not_false_eq_true, Bool.false_eq_true, reduceCtorEq, eq_self]; done) | ((try simp only [bne_self_eq_false, beq_self_eq_true, beq_iff_eq, bne_iff_ne, ne_eq, beq_eq_false_iff_ne, decide_eq_true_eq, decide_eq_false_iff_not, Bool.not_eq_true', Bool.not_eq_false', Bool.not_true, Bool.not_false, Option.isSome_some, Option.isSome_none, not_false_eq_true, Bool.false_eq_true, reduceCtorEq, eq_self]); first | with_reducible assumption | (law_purse 20000 => omega))))
  k_with "ch" => ((repeat' (first | assumption | refine (show ∀ p ∈ _, p ∈ _ by assumption) _ ?_ | refine List.mem_cons_of_mem _ ?_)))
  k_with "uq" => ((intro p9 h9; repeat' (first | exact h9 | refine List.mem_cons_of_mem _ ?_ | refine (show ∀ p ∈ _, p ∈ _ by assumption) _ ?_)))
  k_with "en" => ((k_dflt (refine' enter ?B ?F ?K ?N ?T ?hk ?hd ?ho ?hc ?hb ?hl ?_ ?c2 ?c3 ?c4 ?c5; (case B => k_asm); (case F => k_asm); (case K => k_asm); (case N => k_asm); (case T => k_asm); (case hk => first | exact rfl | assumption); (case hd => exact hd); (case ho => k_is); (case hc => k_is); (case hb => exact BindsTo.of_eq rfl); (case hl => exact locs rfl); (case c2 => exact rfl); (case c3 => exact rfl); (case c4 => exact rfl); (case c5 => decide); k_whole); intro g' L' h' A' outer' E' F' N' B' X' T'; (try dsimp only); (try k_fold)))
  k_with "eval Attribute Name" => (k_here; (with_reducible show wpAny _ _ (eval (PySem.Expr.Attribute (PySem.Expr.Name _ _) _ _) _) _ _ _); k_dflt (refine' attr_b ?F ?K ?N ?v ?h1 ?h2 ?h3 ?h4 ?hv ?hh ?_ ?a ?b; (case F => k_asm); (case K => k_asm); (case N => k_asm); (case v => rfl); (case h1 => k_is); (case h2 => k_is); (case h3 => k_is); (case h4 => k_is); (case hv => k_get); (case hh => k_handed); (case a => rfl); (case b => rfl); k_whole); (try dsimp only))
  k_with "eval Call Attribute" => (k_here; k_dflt ((with_reducible show wpAny _ _ (eval (PySem.Expr.Call (PySem.Expr.Attribute (PySem.Expr.Name _ _) _ _) _ _ _) _) _ _ _); refine' call_b ?F ?K ?N ?v ?h1 ?h2 ?h3 ?hv ?_ ?a ?b; (case F => k_asm); (case K => k_asm); (case N => k_asm); (case v => rfl); (case h1 => k_is); (case h2 => k_is); (case h3 => k_is); (case hv => k_get); (case a => rfl); (case b => rfl); k_whole); (try dsimp only))
  k_with "RetK" => (k_dflt (first | (refine' retK_ ?F ?N ?_; (case F => k_asm); (case N => k_asm); k_whole) | (refine' retN_ ?F ?N ?_; (case F => k_asm); (case N => k_asm); k_whole)); intro F9q N9q; (try dsimp only); (try k_sweep))
  trivial
theorem src_split {h₀ h : Heap} {L d cl : Addr} {o ol : Obj} {cells : List (Addr × Obj)} (N : News h₀ L h ((d, o) :: (cl, ol) :: cells)) : News h₀ L h (((d, o) :: cells) ++ [(cl, ol)]) := news_sub N fun p hp => by
  simp only [List.mem_append, List.mem_cons, List.mem_nil_iff, or_false, List.cons_append] at hp ⊢
  rcases hp with hp | hp | hp
  · exact .inl hp
  · exact .inr (.inr hp)
  · exact .inr (.inl hp)
theorem src_sep {d cl : Addr} {o ol : Obj} {cells : List (Addr × Obj)} (h : ∀ p ∈ cells, p.1 ≠ d ∧ p.1 ≠ cl) (ne : d ≠ cl) : ∀ p ∈ [(cl, ol)], p.1 ∉ ((d, o) :: cells).map (·.1) := fun p hp hm => by
  simp only [List.mem_singleton] at hp; subst hp
  rcases List.mem_cons.mp hm with e | e
  · exact ne e.symm
  · obtain ⟨q, hq, e⟩ := List.mem_map.mp e
    exact (h q hq).2 e
theorem src_nd {d cl : Addr} {o : Obj} {cells : List (Addr × Obj)} (h : ∀ p ∈ cells, p.1 ≠ d ∧ p.1 ≠ cl) (n : (cells.map (·.1)).Nodup) : (((d, o) :: cells).map (·.1)).Nodup := by
  rw [List.map_cons, List.nodup_cons]
  refine ⟨fun hm => ?_, n⟩
  obtain ⟨q, hq, e⟩ := List.mem_map.mp hm
  exact (h q hq).1 e
theorem kw9 : True := by
  k_with "newTuple" => (k_here; k_dflt (refine' newTuple_M ?k1 ?k2 ?k3 ?k4 ?_; (case k1 => k_asm); (case k2 => k_asm); (case k3 => assumption); (case k4 => exact Nat.le_of_ble_eq_true rfl); k_whole); intro a9q h9q F9q N9q R9q; (try k_sweep))
  k_with "call builtin:list.append" => (k_here; k_dflt (first | (refine' app_X (i := 1) ?hi ?F ?N ?R ?nd ?hz ?_; (case F => k_asm); (case N => k_asm); (case R => assumption); (case nd => assumption); (case hi => rfl); (case hz => first | exact Nat.le_of_ble_eq_true rfl | lia); k_whole) | (refine' app_X (i := 2) ?hi ?F ?N ?R ?nd ?hz ?_; (case F => k_asm); (case N => k_asm); (case R => assumption); (case nd => assumption); (case hi => rfl); (case hz => first | exact Nat.le_of_ble_eq_true rfl | lia); k_whole)); intro h9q F9q N9q R9q n9q; (try dsimp only [List.set] at N9q R9q n9q); (try k_sweep))
  k_with "subscriptTail" => (k_here; (with_reducible show wpAny _ _ (subscriptTail _ _ (Value.ref _) (Value.int _ _)) _ _ _); (with_unfolding_all refine' item_litK ?k1 ?k2 ?k3 ?k4 ?_ ?k6; (case k1 => exact News.isList (by with_reducible assumption) (by k_mem)); (case k4 => first | assumption | exact rfl); (case k2 => first | exact Int.natCast_nonneg _ | decide); (case k3 => first | lia | decide); (case k6 => with_unfolding_all rfl); k_whole))
  k_with "subscriptTail" => (k_here; (first | (have g9q : T := by assumption) | fail); clear g9q; (with_reducible show wpAny _ _ (subscriptTail _ _ (Value.ref _) (Value.int _ _)) _ _ _); k_dflt (refine' bits_item ?k1 ?k2 ?k3 ?k4 ?k5 ?_ ?k6; (case k1 => k_asm); (case k2 => assumption); (case k3 => k_extra "uq"); (case k4 => rw [T.bitsOf_length]; lia); (case k5 => rw [T.bitsOf_length]; lia); (case k6 => with_unfolding_all rfl); k_whole); intro v9q D9q; rw [T.bitsOf_get] at D9q)
  k_with "eval ListComp" => (k_here; k_dflt (refine comp1L (by k_asm) (by rfl) (by decide) (by rfl) (by decide) (by rfl) ?_))
  k_with "eval ListComp" => (k_here; (first | (have g9q : T := by assumption) | fail); clear g9q; k_dflt (refine compTL (by k_asm) (by rfl) (by decide) (by rfl) (by decide) (by rfl) ?_))
  k_with "assign Tuple" => (k_here; (first | (have g9q : T := by assumption) | fail); clear g9q; (with_reducible show wpAny _ _ (assign (Expr.Tuple _ _ _) _ (Value.ref _)) _ _ _); k_dflt (refine' unpackN_ ?k1 ?k2 (isTup_led ?k3 ?k7) ?k4 ?k5 ?k6 ?_; (case k1 => k_asm); (case k2 => k_asm); (case k3 => k_asm); (case k7 => k_extra "ch"); (case k4 => exact rfl); (case k5 => exact rfl); (case k6 => exact rfl); k_whole); intro h9q F9q N9q; (try k_sweep))
  k_with "call builtin:len" => (k_here; (first | (have g9q : T := by assumption) | fail); clear g9q; (with_reducible show wpAny _ _ (call (Value.builtin "len") [Value.ref _]) _ _ _); k_dflt (refine' bits_len ?k1 ?k2 ?k3 ?k4 ?_; (case k1 => k_asm); (case k2 => assumption); (case k3 => k_extra "uq"); (case k4 => rw [T.bitsOf_length]; lia); k_whole); intro t9q tk9q; (try simp only [T.bitsOf_length]))
  k_with "compareOp NotEq ref ref" => (k_here; (first | (have g9q : T := by assumption) | fail); clear g9q; k_dflt (refine' ne_nil ?k1 ?k2 ?k3 ?k4 ?_; (case k1 => k_asm); (case k2 => exact mem_led (.tail _ (.head _))); (case k3 => exact mem_led (.head _)); (case k4 => ktr_units); k_whole))
  k_with "pyIter ref" => (k_here; (with_reducible show wpAny _ _ (pyIter (Value.ref _)) (fun it s₂ => TurnsAt _ _ _ _ _ _ _ _ _ it s₂) _ _); refine stop_of ?_)
  k_with "exec For Name Call cons nil" => (k_here; refine stop_of ?_)
  k_with "newList" => (k_here; refine stop_of ?_)
  k_with "call ref" => (k_here; (with_reducible show wpAny _ _ (call (Value.ref _) _) _ _ _); refine stop_of ?_)
  k_with "eval Name" => (k_here; k_dflt (first
      | ((with_reducible show wpAny _ _ (eval (PySem.Expr.Name _ _) (compEnvC _ _ _ _)) _ _ _); (refine' cell_rdc ?zx ?zc ?ze ?zN ?zs ?_ ?zk ?zb; (case zx => rfl); (case zc => first | with_reducible assumption | with_reducible exact Cst.b (by with_reducible assumption) | with_reducible exact Cst.m (by with_reducible assumption) | with_reducible exact Cst.l (by with_reducible assumption)); (case ze => rfl); (case zN => k_asm); (case zs => (intro p9q h9q; refine List.mem_append_right _ (List.mem_append_left _ ?_); (repeat' (first | exact h9q | exact List.mem_append_left _ h9q | refine List.Mem.tail _ ?_)))); (case zk => rfl); (case zb => decide); k_whole))
      | (refine' cell_rd ?zx ?zc ?ze ?zN ?zs ?_ ?zk ?zb; (case zx => rfl); (case zc => first | with_reducible assumption | with_reducible exact Cst.b (by with_reducible assumption) | with_reducible exact Cst.m (by with_reducible assumption) | with_reducible exact Cst.l (by with_reducible assumption)); (case ze => rfl); (case zN => k_asm); (case zs => (intro p9q h9q; refine List.mem_append_right _ (List.mem_append_left _ ?_); (repeat' (first | exact h9q | exact List.mem_append_left _ h9q | refine List.Mem.tail _ ?_)))); (case zk => rfl); (case zb => decide); k_whole)))
  k_with "storeName" => (k_here; k_dflt (refine' cell_stop ?zx ?_; (case zx => rfl)))
  trivial
theorem law_holds : PySem.Challenge.rw_nz0166_01.Holds := by
  refine Mine.hd ?_
  k_go0
  (all_goals try k_fold)
  k_steps
  rename_i N0 X0
  obtain ⟨Y, NY, ndY, wb, wm, wl, w4⟩ := cells_hide N0 (by assumption) (by assumption) (by assumption) (by assumption) (by assumption) (by assumption) (by assumption)
  clear N0 X0
  (refine' source_use ?B ?F ?K ?N ?T ?hk ?hd ?hu ?hL ?hI ?hn ?_; k_extra "b5"; (case hk => exact rfl); (case hd => first | exact le_ rfl | exact rm1 (D := 6) (by assumption) rfl | exact rm2 (D := 6) (by assumption) rfl | ktr_room); (case hu => first | exact le_ rfl | exact rm3 (D := 6) (by assumption) rfl | exact rm4 (D := 6) (by assumption) rfl | ktr_units); (case hL => assumption); (case hI => assumption); (case hn => omega)); (intro S o1 h1 tk1 F0 N1 lt1 ne1 S1); (try dsimp only); (try k_fold); (try k_sweep)
  obtain ⟨m0, F1⟩ : ∃ m0, Fr _ _ h1 m0 := ⟨_, F0⟩
  clear F0
  k_steps
  have N2 := src_split N1
  have sp2 := src_sep (o := o1) (ol := listOf S.vs.toArray S.nn) lt1 ne1
  have nd2 := src_nd (o := o1) lt1 ndY
  clear N1 lt1
  (refine' bank_new ?B ?F ?K ?N ?T ?hk ?hd ?hu ?sp ?_; k_extra "b5"; (case hk => exact rfl); (case hd => first | exact le_ rfl | exact rm1 (D := 6) (by assumption) rfl | exact rm2 (D := 6) (by assumption) rfl | ktr_room); (case hu => first | exact le_ rfl | exact rm3 (D := 6) (by assumption) rfl | exact rm4 (D := 6) (by assumption) rfl | ktr_units); (case sp => exact sp2)); (intro A c2 st2 h2 tk2 F2 N3 R2); (try dsimp only); (try k_fold); (try k_sweep)
  k_steps
  unfold Stop
  (refine' cell_st1 ?zx ?zc ?ze ?zF ?zN ?zR ?znd ?zk ?_; (case zx => rfl); (case zc => exact wb); (case ze => rfl); (case zF => k_asm); (case zN => k_asm); (case zR => assumption); (case znd => assumption); (case zk => rfl)); intro h3 Y1 y1 F3 N4 R4 nd4; (try k_sweep)
  have b1 := y1.new
  k_steps
  (refine' rew_new ?B ?F ?K ?N ?T ?hk ?hd ?hu ?R ?nX ?_; k_extra "b5"; (case hk => exact rfl); (case hd => first | exact le_ rfl | exact rm1 (D := 6) (by assumption) rfl | exact rm2 (D := 6) (by assumption) rfl | ktr_room); (case hu => first | exact le_ rfl | exact rm3 (D := 6) (by assumption) rfl | exact rm4 (D := 6) (by assumption) rfl | ktr_units); (case R => assumption); (case nX => assumption)); (intro k h3 tk3 F3 N4 R4 x4); (try dsimp only); (try k_fold); (try k_sweep)
  k_steps
  (refine' newList_X (X1 := [_]) ?F ?N ?R ?nd ?z ?_; (case F => k_asm); (case N => k_asm); (case R => assumption); (case nd => assumption); (case z => exact Nat.zero_le _)); (intro pa h4 F4 N5 R5 x5); (try dsimp only [List.cons_append, List.nil_append] at N5 R5 x5); (try k_sweep)
  k_steps
  (refine' newList_X (X1 := [_, _]) ?F ?N ?R ?nd ?z ?_; (case F => k_asm); (case N => k_asm); (case R => assumption); (case nd => assumption); (case z => exact Nat.zero_le _)); (intro la h5 F5 N6 R6 x6); (try dsimp only [List.cons_append, List.nil_append] at N6 R6 x6); (try k_sweep)
  k_steps
  unfold Stop
  (refine' cell_st3 ?zx ?zc ?ze ?zF ?zN ?zR ?znd ?zk ?_; (case zx => rfl); (case zc => exact y1.w _ wm); (case ze => rfl); (case zF => k_asm); (case zN => k_asm); (case zR => assumption); (case znd => assumption); (case zk => rfl)); intro h3 Y2 y2 F3 N4 R4 nd4; (try k_sweep)
  k_steps
  unfold Stop
  (refine' cell_st3 ?zx ?zc ?ze ?zF ?zN ?zR ?znd ?zk ?_; (case zx => rfl); (case zc => exact y2.w _ (y1.w _ wl)); (case ze => rfl); (case zF => k_asm); (case zN => k_asm); (case zR => assumption); (case znd => assumption); (case zk => rfl)); intro h3 Y3 y3 F3 N4 R4 nd4; (try k_sweep)
  have C0 := cst_mk y1 y2 y3 w4
  clear b1 y1 y2 y3 w4 wb wm wl
  k_steps
  unfold Stop
  refine For_turns (by k_asm) ?_
  k_steps
  unfold Stop
  refine' iter_any' (n := 2) (Inv1R (by assumption : Rep _ _ _ _ _ _) C0 S pa) rfl ?F ?N ?hr ?hs ?hn ?J0 ?turn ?done
  all_goals (try delta Inv1R)
  case F => k_asm
  case N => k_asm
  case hr => assumption
  case hs => decide
  case hn => decide
  case J0 =>
    exact ⟨_, _, [], _, [], _, _, _, _, _, wid_fun, rfl, by assumption, by assumption, SrcIs.up S1 (fun p hp => by simp only [List.mem_cons, List.mem_append]; simp only [List.mem_singleton] at hp; exact .inr (.inr (.inr (.inl hp)))), C0, .zero rfl, by decide⟩
  case turn =>
    intro i tk9 m9 news9 h9 tk8 I oI hi hJ hI F9 N9
    obtain ⟨c7, o7, vs, kn, ls, ln, Y7, st7, σ7, f7, hm, hn, R8, n8, S8, C7, M8, z8⟩ := hJ
    rw [hm] at F9
    rw [hn] at N9 hI
    clear hm hn m9 news9
    refine push_k N9 R8 n8 hI fun N7 R7 n7 => ?_
    dsimp only [List.cons_append, List.nil_append] at N7 R7 n7
    clear N9 R8 n8 hI
    have hl1 := M8.lv
    have hl2 := M8.ll
    k_steps
    unfold Stop
    (refine' cell_st3t ?zx ?zc ?ze ?zF ?zN ?zR ?znd ?zk ?_; (case zx => rfl); (case zc => exact C7.ww); (case ze => rfl); (case zF => k_asm); (case zN => k_asm); (case zR => assumption); (case znd => assumption); (case zk => rfl)); intro h3 Y8 y8 F3 N4 R4 n4; (try k_sweep)
    have C8 := C7.set y8 (by decide) (by decide) (by decide)
    have we := y8.new
    clear y8 C7
    k_steps
    (refine' draw_use ?B ?F ?K ?N ?T ?hk ?hd ?hu ?R ?nx ?hS ?hm ?hb ?_; k_extra "b5"; (case hk => exact rfl); (case hd => first | exact le_ rfl | exact rm1 (D := 6) (by assumption) rfl | exact rm2 (D := 6) (by assumption) rfl | ktr_room); (case hu => first | exact le_ rfl | exact rm3 (D := 6) (by assumption) rfl | exact rm4 (D := 6) (by assumption) rfl | ktr_units); (case R => assumption); (case nx => assumption); (case hS => assumption); (case hm => omega); (case hb => omega)); (intro r1 t1 o1' s1 h1 k1 l1 F1 N1 hs1 R1 S1'); (try dsimp only); (try k_fold); (try k_sweep)
    k_steps
    (refine' bv_sort_go (x := r1 + 1) ?B ?F ?K ?N ?T ?hk ?hd ?hu trivial ?R ?hi ?hx ?_; k_extra "b5"; (case hk => exact rfl); (case hd => first | exact le_ rfl | exact rm1 (D := 6) (by assumption) rfl | exact rm2 (D := 6) (by assumption) rfl | ktr_room); (case hu => first | exact le_ rfl | exact rm3 (D := 6) (by assumption) rfl | exact rm4 (D := 6) (by assumption) rfl | ktr_units); (case R => assumption); (case hi => omega); (case hx => omega)); (intro t2 c2' σ2 h2 k2 F2 N2 R2' X2 fs2 w2); (try dsimp only); (try k_fold); (try k_sweep)
    k_steps
    (refine' decl_use (x := r1 + 1) ?B ?F ?K ?N ?T ?hk ?hd ?hu ?R ?hm ?hi ?hx ?hl ?_; k_extra "b5"; (case hk => exact rfl); (case hd => first | exact le_ rfl | exact rm1 (D := 6) (by assumption) rfl | exact rm2 (D := 6) (by assumption) rfl | ktr_room); (case hu => first | exact le_ rfl | exact rm3 (D := 6) (by assumption) rfl | exact rm4 (D := 6) (by assumption) rfl | ktr_units); (case R => assumption); (case hm => exact .head _); (case hi => rfl); (case hx => exact w2); (case hl => (rw [fs2, M8.lf]; lia))); (intro t3 c3' h3 k3 F3 N3 R3); (try dsimp only); (try k_fold); (try k_sweep)
    k_steps
    (refine' app_use (f := σ2.fs.length) (x := r1 + 1) ?B ?F ?K ?N ?T ?hk ?hd ?hu ?R ?hm ?hf ?hr ?_; k_extra "b5"; (case hk => exact rfl); (case hd => first | exact le_ rfl | exact rm1 (D := 6) (by assumption) rfl | exact rm2 (D := 6) (by assumption) rfl | ktr_room); (case hu => first | exact le_ rfl | exact rm3 (D := 6) (by assumption) rfl | exact rm4 (D := 6) (by assumption) rfl | ktr_units); (case R => assumption); (case hm => exact .head _); (case hf => simp); (case hr => (have z2 := Ext.len X2; show σ2.ts.length + 1 ≤ 2 ^ 20; lia))); (intro n4 t4 c4' st4 σ4 h4 k4 F4 N4 hs4 R4 X4 fs4 A4); (try dsimp only); (try k_fold); (try k_sweep)
    have ef : σ2.fs.length = i := by rw [fs2, M8.lf]
    rw [ef] at A4
    have fs4' : σ4.fs = σ7.fs ++ [r1 + 1] := by rw [fs4]; show σ2.fs ++ [_] = _; rw [fs2]
    have hle : (ls ++ [Value.int (n4 : Nat) t4])[((i : Nat) : Int).toNat]? = some (Value.int (n4 : Nat) t4) := snoc_last M8.ll
    clear fs4 fs2
    have z4 : σ4.ts.length ≤ σ2.ts.length + 1 := by have z := Ext.len X4; exact z
    have z2 := Ext.len X2
    k_steps
    refine CompSrc_range (n := r1 + 1) rfl (by assumption) (by assumption) (by assumption) (by lia) (by lia) (fun g => ?_)
    refine rest_read (n := r1 + 1) (d := fun i9 => (T.readT (.leaf i (r1 + 1)) i9).d) ?_ ?_ (r1 + 1) 0 [] _ (by lia) rfl (fun _ h => h) (by assumption) .nil
    · intro i9 hi9 v9 I9 oI9 C9 oC9 D9 m₂ h9 tk9 E' ys st9 hP9 hns9 hm9 hs9 F9 N9 R9
      obtain ⟨t9, rfl⟩ := hP9
      rw [Int.zero_add] at hm9
      k_steps
      exact Post1.mk (by assumption) (by assumption) (fun p hp => .tail _ hp) (by assumption) (.tuple (n := 0) (.head _) (.cons (.int _ _) (.cons (.int _ _) (.cons (.bool _) .nil))))
    · intro ys st9 hl9 hs9 R9 D9 Dz h9 tk9 F9 N9 o9
      obtain ⟨N8, R8⟩ := fin3 N9 o9 R9
      clear N9 R9
      have Dy : DatIn ((Dz, LCg.lst ys) :: st9) (.ref Dz) (.list ((T.bitsOf (.leaf i (r1 + 1))).map Bit.d)) := by
        refine .list (.head _) ?_
        rw [T.bitsOf, List.map_map]
        exact DatAll.mono (fun _ h => .tail _ h) D9
      k_steps
      refine' turn_end (X := _ :: _ :: _ :: Y8) ?F ?N ?R ?nd ?_; (case F => assumption); (case N => assumption); (case R => assumption); (case nd => assumption)
      intro R5 n5
      have up4 : ∀ n τ, At σ7 n τ → At σ4 n τ := fun n τ h => X4.at (show At _ n τ from X2.at h)
      exact ⟨_, _, vs ++ [_], _, ls ++ [_], _, Y8, _, σ4, _, wid_set, rfl, R5, n5, SrcIs.up S1' (by k_extra "uq"), C8, M8.step (by k_extra "uq") up4 fs4' (by lia) (by lia) ⟨_, _, _, Dz, n4, rfl, .head _, DatIn.mono (fun p hp => .tail _ hp) Dy, A4⟩ ⟨n4, _, rfl, A4⟩, by lia⟩
  case done =>
    intro h9 tk9 m9 news9 F9 N9 hJ
    obtain ⟨c7, o7, vs, kn, ls, ln, Y7, st7, σ7, f7, hm, hn, R7, n7, S7, C7, M7, z7⟩ := hJ
    obtain ⟨V, v0, v1, u0, u1, rfl, rfl, rfl, b0, b1, E0, E1, B0, B1⟩ := M7.two' la
    rw [hm] at F9
    rw [hn] at N9
    clear hm hn m9 news9 M7
    k_steps
    (refine' draw_use ?B ?F ?K ?N ?T ?hk ?hd ?hu ?R ?nx ?hS ?hm ?hb ?_; k_extra "b5"; (case hk => exact rfl); (case hd => first | exact le_ rfl | exact rm1 (D := 6) (by assumption) rfl | exact rm2 (D := 6) (by assumption) rfl | ktr_room); (case hu => first | exact le_ rfl | exact rm3 (D := 6) (by assumption) rfl | exact rm4 (D := 6) (by assumption) rfl | ktr_units); (case R => assumption); (case nx => assumption); (case hS => first | assumption | exact SrcIs.up (by assumption) (by k_extra "uq")); (case hm => omega); (case hb => omega)); (intro r1 t1 o1' s1 h1 k1 l1 F1 N1 hs1 R1 S1'); (try dsimp only); (try k_fold); (try k_sweep)
    k_steps
    (refine' draw_use ?B ?F ?K ?N ?T ?hk ?hd ?hu ?R ?nx ?hS ?hm ?hb ?_; k_extra "b5"; (case hk => exact rfl); (case hd => first | exact le_ rfl | exact rm1 (D := 6) (by assumption) rfl | exact rm2 (D := 6) (by assumption) rfl | ktr_room); (case hu => first | exact le_ rfl | exact rm3 (D := 6) (by assumption) rfl | exact rm4 (D := 6) (by assumption) rfl | ktr_units); (case R => assumption); (case nx => assumption); (case hS => first | assumption | exact SrcIs.up (by assumption) (by k_extra "uq")); (case hm => omega); (case hb => omega)); (intro r2 t2 o2' s2 h2 k2 l2 F2 N2 hs2 R2 S2'); (try dsimp only); (try k_fold); (try k_sweep)
    k_steps
    unfold Stop
    (refine' cell_st3 ?zx ?zc ?ze ?zF ?zN ?zR ?znd ?zk ?_; (case zx => rfl); (case zc => exact C7.wv); (case ze => rfl); (case zF => k_asm); (case zN => k_asm); (case zR => assumption); (case znd => assumption); (case zk => rfl)); intro h3 Y8 y8 F3 N4 R4 n4; (try k_sweep)
    have C8 := C7.set y8 (by decide) (by decide) (by decide)
    have ve := y8.new
    clear y8 C7
    k_steps
    (refine' bv_num_go (n1 := r2) (x := r1 + 1) ?B ?F ?K ?N ?T ?hk ?hd ?hu ?R trivial ?hj ?hr ?hx ?_; k_extra "b5"; (case hk => exact rfl); (case hd => first | exact le_ rfl | exact rm1 (D := 6) (by assumption) rfl | exact rm2 (D := 6) (by assumption) rfl | ktr_room); (case hu => first | exact le_ rfl | exact rm3 (D := 6) (by assumption) rfl | exact rm4 (D := 6) (by assumption) rfl | ktr_units); (case R => assumption); (case hj => omega); (case hr => omega); (case hx => omega)); (intro n3 t3 c3 s3 σ3 h3 k3 F3 N3 hs3 R3 X3' A3); (try dsimp only); (try k_fold); (try k_sweep)
    k_steps
    refine CompSrc_range (n := r1 + 1) rfl (by assumption) (by assumption) (by assumption) (by lia) (by lia) (fun g => ?_)
    refine rest_read (n := r1 + 1) (d := fun i => (T.readT (.num (r2 % 2 ^ (r1 + 1)) (r1 + 1)) i).d) ?_ ?_ (r1 + 1) 0 [] _ (by lia) rfl (fun _ h => h) (by assumption) .nil
    · intro i9 hi9 v9 I9 oI9 C9 oC9 D9 m₂ h9 tk9 E' ys st9 hP9 hns9 hm9 hs9 F9 N9 R9
      obtain ⟨t9, rfl⟩ := hP9
      rw [Int.zero_add] at hm9
      have hi8 : i9 < 4 := by lia
      have eb : T.readT (.num (r2 % 2 ^ (r1 + 1)) (r1 + 1)) i9 = ⟨2, r2 / 2 ^ i9 % 2, false⟩ := by simp only [T.readT, T.bit_mod hi9]
      k_steps
      refine Post1.mk (by assumption) (by assumption) (fun p hp => .tail _ hp) (by assumption) ?_
      rw [eb]
      exact .tuple (n := 0) (.head _) (.cons (.int _ _) (.cons (by rw [read_val]; exact .int _ _) (.cons (.bool _) .nil)))
    · intro ys st9 hl9 hs9 R9 D9 Dz h9 tk9 F9 N9 o9
      obtain ⟨N8, R8⟩ := fin3 N9 o9 R9
      clear N9 R9
      have Dy : DatIn ((Dz, LCg.lst ys) :: st9) (.ref Dz) (.list ((T.bitsOf (.num (r2 % 2 ^ (r1 + 1)) (r1 + 1))).map Bit.d)) := by
        refine .list (.head _) ?_
        rw [T.bitsOf, List.map_map]
        exact DatAll.mono (fun _ h => .tail _ h) D9
      k_steps
      unfold Stop
      refine For_turns (by k_asm) ?_
      k_steps
      unfold Stop
      refine' move_k (X1 := [_, _]) ?N ?R ?nd ?_; (case N => assumption); (case R => assumption); (case nd => assumption)
      intro N8 R8 n8
      dsimp only [List.cons_append, List.nil_append] at N8 R8 n8
      have up3 : ∀ n τ, At σ7 n τ → At σ3 n τ := fun n τ h => Ext.at X3' h
      have z3 := Ext.len X3'
      refine' iter_any' (n := 6) (Inv2R R8 C8 S V pa) rfl ?F ?N ?hr ?hs ?hn ?J0 ?turn ?done
      all_goals (try delta Inv2R)
      case F => k_asm
      case N => k_asm
      case hr => assumption
      case hs => decide
      case hn => decide
      case J0 =>
        refine' inv2_mk wid_fun R8 n8 (SrcIs.up S2' ?hs) ?hb C8 ⟨up3 _ _ B0, up3 _ _ B1, _, _, _, .head _⟩ (pool3 ((E0.up ?h0 up3).pool (.inl ⟨rfl, rfl⟩) b0.1 b0.2) ((E1.up ?h1 up3).pool (.inr ⟨rfl, rfl⟩) b1.1 b1.2) ⟨_, _, _, Dz, n3, .num (r2 % 2 ^ (r1 + 1)) (r1 + 1), rfl, .tail _ (.head _), DatIn.mono ?h2 Dy, A3, ⟨?g1, ?g2, Nat.mod_lt _ (Nat.two_pow_pos _)⟩, trivial, Nat.le_refl _, ?g3⟩) (Nat.le_of_ble_eq_true rfl) (Nat.le_of_ble_eq_true rfl) ?z
        case hs => k_extra "uq"
        case h0 => k_extra "uq"
        case h1 => k_extra "uq"
        case h2 => k_extra "uq"
        case hb => decide
        case g1 => omega
        case g2 => omega
        case g3 => show r1 + 1 ≤ 10; lia
        case z => exact Nat.le_trans (Nat.le_trans z3 (Nat.add_le_add_right z7 1)) (le_ rfl)
      case turn =>
        intro i tk9 m9 news9 h9 tk8 I oI hi hJ hI F9 N9
        obtain ⟨ca, oa, vs, kna, Ya, sa, σa, fa, hm, hn, Ra, na, Sa, Ca, hVa, hPa, hl, za⟩ := hJ
        have hl1 := hl.1
        have hl2 := hl.2
        have i5 : i ≤ 5 := Nat.le_of_lt_succ hi
        rw [hm] at F9
        rw [hn] at N9 hI
        clear hm hn m9 news9 hl
        refine push_k N9 Ra na hI fun N7 R7 n7 => ?_
        have za' := len1 za hi
        dsimp only [List.cons_append, List.nil_append] at N7 R7 n7
        clear N9 Ra na hI
        k_steps
        (refine' more_use (V := V) (d := i) ?B ?F ?K ?N ?T ?hk ?hd ?hu ?R ?nx ?hS ?hb ?hP ?h1 ?h2 ?hd9 ?hr ?_; k_extra "b5"; (case hk => exact rfl); (case hd => first | exact le_ rfl | exact rm1 (D := 6) (by assumption) rfl | exact rm2 (D := 6) (by assumption) rfl | ktr_room); (case hu => first | exact le_ rfl | exact rm3 (D := 6) (by assumption) rfl | exact rm4 (D := 6) (by assumption) rfl | ktr_units); (case R => assumption); (case nx => assumption); (case hS => assumption); (case hb => exact Nat.le_trans (Nat.add_le_add_left (Nat.mul_le_mul_left 20 i5) 4) (le_ rfl)); (case hP => assumption); (case h1 => assumption); (case h2 => exact Nat.le_trans hl2 (Nat.le_trans (Nat.add_le_add_left i5 3) (le_ rfl))); (case hd9 => exact Nat.le_trans i5 (le_ rfl)); (case hr => exact rm0 za' (Nat.add_le_add_right i5 3) rfl)); (intro v1 o1' c1' s1 σ1 h1 k1 P1 F1 N1 hs1 R1 X1' S1'); (try dsimp only); (try k_fold); (try k_sweep)
        obtain ⟨t1, u1, nt1, bx, n1, x, rfl, hm1, Bx, Ax, G⟩ := P1
        have W1 := T.ok_wd G.1
        have V1 := G.2.2.2
        have D1 := G.2.2.1
        have z1 := Ext.len X1'
        have d6 : x.dep ≤ 6 := Nat.le_trans D1 hi
        have zb := len2' za' z1 hi
        have nx1 := NdX.set (o' := o1') n7
        k_steps
        unfold Stop
        (refine' cell_st2t ?zx ?zc ?ze ?zF ?zN ?zR ?znd ?zk ?_; (case zx => rfl); (case zc => exact Ca.wt); (case ze => rfl); (case zF => k_asm); (case zN => k_asm); (case zR => assumption); (case znd => assumption); (case zk => rfl)); intro h3 Yb yb F3 N4 R4 n4; (try k_sweep)
        have Cb := Ca.set yb (by decide) (by decide) (by decide)
        have te := yb.new
        clear Ca yb
        k_steps
        unfold Stop
        (refine' cell_st2t ?zx ?zc ?ze ?zF ?zN ?zR ?znd ?zk ?_; (case zx => rfl); (case zc => exact Cb.wi); (case ze => rfl); (case zF => k_asm); (case zN => k_asm); (case zR => assumption); (case znd => assumption); (case zk => rfl)); intro h3 Yc yc F3 N4 R4 n4; (try k_sweep)
        have Cc := Cb.set yc (by decide) (by decide) (by decide)
        have te := yc.cell _ _ te (by decide)
        have ie := yc.new
        clear Cb yc
        k_steps
        (refine' are_use (x := x) (V := V) ?B ?F ?K ?N ?T ?hk ?hd ?hu ?R ?ha ?hV ?ho ?hv ?hb ?_; k_extra "b5"; (case hk => exact rfl); (case hd => first | exact le_ rfl | exact rm1 (D := 6) (by assumption) rfl | exact rm2 (D := 6) (by assumption) rfl | ktr_room); (case hu => first | exact le_ rfl | exact rm3 (D := 6) (by assumption) rfl | exact rm4 (D := 6) (by assumption) rfl | ktr_units); (case R => assumption); (case ha => exact Ax); (case hV => exact LvIs.up (LvIs.ext hVa X1') (by k_extra "uq")); (case ho => exact G.1); (case hv => exact G.2.1); (case hb => exact DatIn.mono (by k_extra "uq") Bx)); (intro s2 h2 k2 F2 N2 hs2 R2); (try dsimp only); (try k_fold); (try k_sweep)
        k_steps
        refine CompSrc_rangeT (n := x.wd) rfl (by assumption) (by assumption) (by assumption) (by first | rfl | rw [T.bitsOf_length]) (by lia) (fun g => ?_)
        refine rest_test (n := x.wd) (j := 12) ?_ ?_ x.wd 0 _ _ _ (by lia) (fun _ h => h) (by assumption) (Ext.refl _ _)
        · intro i9 hi9 v9 I9 oI9 C9 oC9 D9 m₂ h9 tk9 E' ys st9 c9 σ9 hP9 hns9 hm9 hs9 F9 N9 R9 x9
          obtain ⟨t9, rfl⟩ := hP9
          rw [Int.zero_add] at hm9
          have N8 := mk_in N9
          have R8 := Rep.mk_in R9
          have z9 := len3 zb (Ext.len x9) hi9 V1
          clear N9 R9
          k_steps
          (refine' bit_old (x := x) (i := i9) ?B ?F ?K ?N ?T ?hk ?hd ?hu ?R ?ha ?ho ?hj ?hi ?hr ?_; k_extra "b5"; (case hk => exact rfl); (case hd => first | exact le_ rfl | exact rm1 (D := 6) (by assumption) rfl | exact rm2 (D := 6) (by assumption) rfl | ktr_room); (case hu => first | exact le_ rfl | exact rm3 (D := 6) (by assumption) rfl | exact rm4 (D := 6) (by assumption) rfl | ktr_units); (case R => assumption); (case ha => exact Ext.at x9 Ax); (case ho => exact G.1); (case hj => rfl); (case hi => exact hi9); (case hr => exact rm0 z9 (Nat.succ_le_succ d6) rfl)); (intro n6 t6 c6 s6 σ6 h6 k6 F6 N6 hs6 R6 X6 A6); (try dsimp only); (try k_fold); (try k_sweep)
          have z6 := Nat.le_trans (Ext.len X6) (Nat.add_le_add z9 (Nat.succ_le_succ d6))
          k_steps
          (refine' truth_use (bt := x.readT i9) (V := V) ?B ?F ?K ?N ?T ?hk ?hd ?hu ?R ?hV ?hb ?ho ?hp ?hr ?_; k_extra "b5"; (case hk => exact rfl); (case hd => first | exact le_ rfl | exact rm1 (D := 6) (by assumption) rfl | exact rm2 (D := 6) (by assumption) rfl | ktr_room); (case hu => first | exact le_ rfl | exact rm3 (D := 6) (by assumption) rfl | exact rm4 (D := 6) (by assumption) rfl | ktr_units); (case R => assumption); (case hV => exact LvIs.up (LvIs.ext hVa (X1'.trans (x9.trans X6))) (by k_extra "uq")); (case hb => assumption); (case ho => exact T.ok_readT G.2.1); (case hp => exact T.readT_place G.1 G.2.1 hi9); (case hr => exact rm0 z6 (Nat.le_refl 2) rfl)); (intro n8 t8 c8 s8 σ8 h8 k8 F8 N8 hs8 R8 X8 A8); (try dsimp only); (try k_fold); (try k_sweep)
          have e8 : n6 = n8 := at_inj R8.ok (Ext.at X8 A6) (by rw [T.bitT_readT G.1 G.2.1 hi9]; exact A8)
          subst e8
          k_steps
          refine' PostT.mk' ?e77 ?F (mk_out ?N) ?hs (Rep.mk_out ?R) (Ext.le (X6.trans X8) ?j)
          case e77 => simp
          case F => assumption
          case N => assumption
          case R => assumption
          case hs => k_extra "uq"
          case j => exact Nat.le_trans (Nat.add_le_add_right d6 3) (le_ rfl)
        · intro c3' s3 σ3 hs3 R3 X3e Dz h9 tk9 F9 N9 o9
          obtain ⟨N8, R8⟩ := fin3 N9 o9 R3
          clear N9 R3
          have z3' := Ext.len X3e
          k_steps
          (refine' newList_M ?k1 ?k2 ?k3 ?k4 ?_; (case k1 => k_asm); (case k2 => k_asm); (case k3 => assumption); (case k4 => exact Nat.zero_le _)); intro a9 h8 F8 N8' R8'; (try k_sweep)
          k_steps
          (refine' form_use (V := V) (x := x) (d := i + 1) ?B ?F ?K ?N ?T ?hk ?hd ?hu ?R ?nx ?hS ?hV ?hb ?ha ?g ?hx ?hd9 ?hr ?_; k_extra "b5"; (case hk => exact rfl); (case hd => first | exact le_ rfl | exact rm1 (D := 6) (by assumption) rfl | exact rm2 (D := 6) (by assumption) rfl | ktr_room); (case hu => first | exact le_ rfl | exact rm3 (D := 6) (by assumption) rfl | exact rm4 (D := 6) (by assumption) rfl | ktr_units); (case R => assumption); (case nx => assumption); (case hS => exact SrcIs.up S1' (by k_extra "uq")); (case hV => exact LvIs.up (LvIs.ext hVa (X1'.trans X3e)) (by k_extra "uq")); (case hb => exact Nat.le_trans (Nat.add_le_add_right (Nat.add_le_add_left (Nat.mul_le_mul_left 20 i5) 4) 5) (le_ rfl)); (case ha => exact Ext.at X3e Ax); (case g => exact G); (case hx => exact DatIn.mono (by k_extra "uq") Bx); (case hd9 => exact Nat.le_trans hi (le_ rfl)); (case hr => exact rm0 (len4 zb z3' V1) (Nat.add_le_add_right (Nat.mul_le_mul_left 3 hi) 14) rfl)); (intro o5' c5' s5 σ5 h5 k5 F5 N5 hs5 R5 X5 S5'); (try dsimp only); (try k_fold); (try k_sweep)
          have nx5 := NdX.set (o' := o5') (by assumption)
          have z5 := Ext.len X5
          k_steps
          refine' turn_end (X := _ :: _ :: Yc) ?F ?N ?R ?nd ?_; (case F => assumption); (case N => assumption); (case R => assumption); (case nd => assumption)
          intro R6 n6
          have Xa := (X1'.trans X3e).trans X5
          refine' inv2_mk wid_set R6 n6 (SrcIs.up S5' ?hs) ?hb Cc (LvIs.up (LvIs.ext hVa Xa) ?hs2) ((PoolIs.up hPa ?hs3 Xa ?hi1).add (PEnt.mk (.head _) (DatIn.mono ?hs4 Bx) rfl (Ext.at X5 (Ext.at X3e Ax)) G)) ?l1 ?l2 ?z
          case hs => k_extra "uq"
          case hs2 => k_extra "uq"
          case hs3 => k_extra "uq"
          case hs4 => k_extra "uq"
          case hb => omega
          case hi1 => exact Nat.le_succ i
          case l1 => rw [List.length_append]; exact Nat.le_add_left 1 _
          case l2 => rw [List.length_append]; exact Nat.succ_le_succ hl2
          case z => exact len5 hi za V1 z1 z3' z5
      case done =>
        intro h9 tk9 m9 news9 F9 N9 hJ
        k_steps
end
end Mine
theorem PySem.Challenge.cw_nz0166_01_holds : PySem.Challenge.rw_nz0166_01.Holds :=
  Mine.law_holds
