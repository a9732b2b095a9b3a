import PyProof.Rows.All
import KE.SortData
import Wide.All
import OpenK.AllK
import Wide.FinOn
import HandS.ForMost
import HandS.Exc
import HandS.ExcOwn
import HandS.TupAny
import HandS.Wide
import HandS.Deep
import HandS.Lambda
import HandS.TupMul
import KE.DataCmp
import KE.DataMinMax
import HandS.Star
import HandS.Flow
import HandS.IsInst
import HandS.TupLen
import HandS.SortInts
import HandS.CallLocal
import HandS.Walk
import HandS.Zip
import HandS.Rev
import HandS.RevRange
import HandS.WordsExc
import HandS.ExcInit
import KE.KExcSuper
import HandS.ExcField
import HandS.TryOnly
import HandS.TryMany
import KE.KDictZip
import KE.GoesZip
import KE.GoesEnum
import KE.GoesMore
import HandS.EndTab
import PyProof.TupleOfSeq
import HandS.Style
import KE.KNest
import HandS.Conv
import PyProof.WalksMore
import PyProof.SumAny
import PySem.Challenge.RW_lifthall_k02_stairs_steps_and_rests
set_option Elab.async false
set_option linter.all false
set_option maxRecDepth 100000
set_option maxHeartbeats 4000000

namespace P5S
open PySem PySem.W PySem.Calls PyProof.Rows PySem.SeqAt
section
variable {prog : Program} {w : World} {A : Around} {E : Value → Shared → Prop} {s : Shared}
theorem call_tuple_lt {Q : Value → Shared → Prop} {l b : Addr} {items items2 : Array Value} {e r : Nat → Bool} (hl : s.heap.IsTuple l items) (hb : s.heap.IsTuple b items2)
    (he : ∀ j (h1 : j < items.size) (h2 : j < items2.size), EqAt A.in1 s items[j] items2[j] (e j)) (hr : ∀ j (h1 : j < items.size) (h2 : j < items2.size), e j = false → RcLt A.in1 s items[j] items2[j] (r j))
    (h : Q (.bool (firstLt e r (decide (items.size < items2.size)) (List.range (min items.size items2.size)))) s) : wpAny (model prog w) A (call (.builtin "tuple.__lt__") [.ref l, .ref b]) Q E s := by
  obtain ⟨⟨cls, dd, data, sl⟩, ho, hc, n, hd⟩ := id hl
  obtain ⟨⟨cls2, dd2, data2, sl2⟩, ho2, hc2, n2, hd2⟩ := id hb
  simp only at hc hd hc2 hd2
  subst hc hd hc2 hd2
  exact call_meets F.slot_tuple_lt ⟨_, ho, rfl⟩ F.entry_tuple_lt (F.args_tuple_lt_2 _ _) (tuple_ltAt l b items items2 n n2 dd dd2 sl sl2 e r) ⟨ho, ho2, he, hr, h⟩
theorem oneLt_tups {f : Bool} {xs ys : List PyData} {a b : Value} {as bs : List Addr} {Q : Bool → Shared → Prop} (ra : Reads s.heap a (.tuple xs) as) (rb : Reads s.heap b (.tuple ys) bs) (h : alike (.tuple xs) (.tuple ys) = true)
    (hu : A.units + min (PyData.tuple xs).depth (PyData.tuple ys).depth < cLine) (hq : Q (dataLt (.tuple xs) (.tuple ys)) s) : wpAny (model prog w) A (oneLt' f a b) Q E s := by
  cases f with
  | false => exact oneLt_alike (fun z => nomatch z) ra rb h (fun z => nomatch z) hu hq
  | true =>
    have hal : alikeAll xs ys = true := by simpa [alike] using h
    cases ra with
    | @tuple l o vs n _ as₁ h1 h2 h3 h4 =>
      cases rb with
      | @tuple l' o' vs' n' _ bs₁ k1 k2 k3 k4 =>
        have n1 : vs.size = xs.length := by simpa using ReadsAll.length _ _ _ h4
        have n2 : vs'.size = ys.length := by simpa using ReadsAll.length _ _ _ k4
        rw [dataLt_tuple, ← firstLt_toks xs ys hal, ← n1, ← n2] at hq
        rw [oneLt'_eq]
        simp only [if_true]
        refine wpAny_bind (wpAny_cRoomFor (room_here hu) ?_)
        refine wpAny_bind (wpAny_callSpecialIfBound?_slot (T := "tuple") ⟨_, h1, h2⟩ F.slot_tuple_lt (call_tuple_lt (e := pairEq xs ys) (r := fun j => dataLt (xs.getD j .none) (ys.getD j .none)) ⟨_, h1, h2, _, h3⟩ ⟨_, k1, k2, _, k3⟩ (fun j j1 j2 => ?_) (fun j j1 j2 hj => ?_) ?_))
        · have := eqAt_alikeAll xs ys A.in1 s vs.toList vs'.toList _ _ h4 k4 hal (room_in hu) j (by simpa using j1) (by simpa using j2)
          simpa using this
        · have := rcLt_alikeAll xs ys A.in1 s vs.toList vs'.toList _ _ h4 k4 hal (room_in hu) j (by simpa using j1) (by simpa using j2) hj
          simpa using this
        · exact wpAny_truthy_bool hq
end
def kdOf : Option Value → SortKind
  | none => oneType'
  | some _ => general'
def FirstIs (h : Heap) (v : Value) (f : Option Value) : Prop := ∃ a o xs n, v = .ref a ∧ h.get? a = some o ∧ o.cls = .type "tuple" ∧ o.data = .seq xs n ∧ xs[0]? = f
section
variable {M : Model} {A : Around} {E : Value → Shared → Prop} {s : Shared}
theorem tup_firsts : ∀ {vs : List Value} {fs : List (Option Value)} {Q : List (Option Value) → Shared → Prop}, EachIs (FirstIs s.heap) vs fs → Q fs s → wpAny M A (vs.mapM firstOfTuple') Q E s
  | _, _, _, .nil, h => by rw [List.mapM_nil]; exact wpAny_pure h
  | v :: vs, f :: fs, Q, .cons ⟨a, o, xs, n, e, ho, hc, hd, hf⟩ t, h => by
    subst e
    rw [List.mapM_cons]
    refine wpAny_bind ?_
    rw [kas_first_eq]
    refine wpAny_bind (Looks.here (show Looks M s.heap (typeOf (.ref a)) o.cls from (Looks.ld ho).andThen .now) ?_)
    rw [hc, if_neg (by first | decide | simp)]
    refine wpAny_bind (listItems_at ho hd (wpAny_pure ?_))
    rw [hf]
    exact wpAny_bind (tup_firsts (Q := fun bs s' => wpAny M A (pure (f :: bs)) Q E s') t (wpAny_pure h))
theorem tup_kind {vs : List Value} {f : Option Value} {fs : List (Option Value)} {Q : SortKind → Shared → Prop} (t : EachIs (FirstIs s.heap) vs (f :: fs)) (hN : none ∈ f :: fs)
    (h : Q (kdOf f) s) : wpAny M A (keyKind' vs.toArray) Q E s := by
  rw [kat_kind_eq, List.mapM_toArray, map_eq_pure_bind]
  refine wpAny_bind (wpAny_bind (tup_firsts t (wpAny_pure ?_)))
  have hall : ¬ ((f :: fs).toArray.all fun x => x.isSome) = true := by
    simp only [List.all_toArray, List.all_eq_true]
    intro z
    exact absurd (z _ hN) (by simp)
  rw [if_neg hall]
  cases f with
  | some f =>
    rw [if_pos (by simp)]
    exact wpAny_pure h
  | none =>
    rw [if_neg (by simp)]
    rw [oneTypeOnly'_eq, List.mapM_toArray, map_eq_pure_bind]
    obtain ⟨v, vr, rfl⟩ : ∃ v vr, vs = v :: vr := by cases t; exact ⟨_, _, rfl⟩
    have ht : ∀ u ∈ v :: vr, Looks M s.heap (typeOf u) (.type "tuple") := fun u hu => by
      obtain ⟨d, _, a, o, xs, n, e, ho, hc, _⟩ := t.left u hu
      subst e
      exact hc ▸ (Looks.ld ho).andThen .now
    refine wpAny_bind (wpAny_bind (wpAny_bind (kas_mapM (r := .type "tuple") _ (fun u hu Q' hq => (ht u hu).here hq) (wpAny_pure ?_))))
    have hall : ((List.map (fun _ => Value.type "tuple") (v :: vr)).toArray.all fun x => x == Value.type "tuple") = true := by
      simp only [List.all_toArray, List.all_map, List.all_eq_true]
      intro _ _
      exact beq_self_eq_true _
    have h0 : (List.map (fun _ => Value.type "tuple") (v :: vr)).toArray[0]? = some (Value.type "tuple") := by simp
    rw [h0]
    simp only [hall, if_true]
    exact wpAny_pure (wpAny_pure h)
end
section
variable {prog : Program} {w : World} {A : Around} {s : Shared}
theorem each_first {h : Heap} : ∀ {vs : List Value} {ds : List PyData}, EachIs (fun v d => ∃ as, Reads h v d as) vs ds → (∀ d, d ∈ ds → ∃ r, d = .tuple r) → ∃ fs, EachIs (FirstIs h) vs fs ∧ (PyData.tuple [] ∈ ds → none ∈ fs)
  | _, _, .nil, _ => ⟨[], .nil, fun z => nomatch z⟩
  | _, _, .cons (b := d) ⟨as, r⟩ t, ht => by
    obtain ⟨fs, h1, h2⟩ := each_first t fun d hd => ht d (List.mem_cons_of_mem _ hd)
    obtain ⟨rest, rfl⟩ := ht d (List.mem_cons_self ..)
    cases r with
    | @tuple a o xs n _ _ ho hc hd hr =>
      refine ⟨xs[0]? :: fs, .cons ⟨a, o, xs, n, rfl, ho, hc, hd, rfl⟩ h1, fun hm => ?_⟩
      rcases List.mem_cons.mp hm with e | hm
      · injection e with e
        subst e
        cases q : xs.toList with
        | nil =>
          have : xs[0]? = none := by rw [← Array.getElem?_toList, q]; rfl
          rw [this]
          exact List.mem_cons_self
        | cons f fr =>
          rw [q] at hr
          cases hr
      · exact List.mem_cons_of_mem _ (h2 hm)
def Sortable2 (ds : List PyData) : Prop := (∀ d, d ∈ ds → ∃ r, d = .tuple r) ∨ ∀ d, d ∈ ds → d ≠ .none ∧ ∀ xs, d ≠ .tuple xs
theorem sorts_data {vs : List Value} {ds : List PyData} (e : EachIs (fun v d => ∃ as, Reads s.heap v d as) vs ds) (hal : AllAlike ds) (hk : Sortable2 ds) (hu : ∀ d, d ∈ ds → A.units + d.depth < cLine) : SortsAt prog w A s (dataKind s.heap ds) vs := by
  rcases hk with ht | hn
  · by_cases hz : PyData.tuple [] ∈ ds
    · have room : ∀ {d d' : PyData}, d ∈ ds → A.units + min d.depth d'.depth < cLine := fun {d d'} hd => Nat.lt_of_le_of_lt (Nat.add_le_add_left (Nat.min_le_left _ _) _) (hu d hd)
      refine ⟨fun v hv => ?_, ?_⟩
      · obtain ⟨d, hd, as, r⟩ := e.left v hv
        exact ⟨_, dataKind_some hal hd r⟩
      · obtain ⟨fs, h1, h2⟩ := each_first e ht
        obtain ⟨f, fr, rfl⟩ : ∃ f fr, fs = f :: fr := by
          have := h2 hz
          cases fs with
          | nil => cases this
          | cons f fr => exact ⟨f, fr, rfl⟩
        refine ⟨kdOf f, ?_, fun _ E Q hq => tup_kind h1 (h2 hz) hq⟩
        intro E x y a b Q ha hb hq
        obtain ⟨d, as, hd, ra, rfl⟩ := dataKind_inv ha
        obtain ⟨d', as', hd', rb, rfl⟩ := dataKind_inv hb
        obtain ⟨r1, rfl⟩ := ht d hd
        obtain ⟨r2, rfl⟩ := ht d' hd'
        cases f with
        | none => exact oneLt_tups (f := true) ra rb (hal _ hd _ hd') (room hd) hq
        | some f => exact oneLt_tups (f := false) ra rb (hal _ hd _ hd') (room hd) hq
    · refine SortsAt.data e hal (.inl fun d hd => ?_) hu
      obtain ⟨r, rfl⟩ := ht d hd
      cases r with
      | nil => exact (hz hd).elim
      | cons x r => exact ⟨x, r, rfl⟩
  · exact SortsAt.data e hal (.inr hn) hu
variable {E : Value → Shared → Prop} {β : Type} {vs : List Value} {bs : List β} {enc : β → PyData} {R : Value → β → Prop}
theorem sorted_data2 {l : Addr} {Q : Value → Shared → Prop} (hl : s.heap.IsList l vs.toArray) (e : EachIs R vs bs) (er : EachIs (fun v b => ∃ as, Reads s.heap v (enc b) as) vs bs) (hal : AllAlike (bs.map enc)) (hk : Sortable2 (bs.map enc)) (hL : bs.length ≤ sizeLine)
    (hu : ∀ b, b ∈ bs → A.units + 2 + (enc b).depth < cLine) (h : ∀ out, out.length = bs.length → EachIs R out (bs.mergeSort (dataLe false enc)) → Q (.ref (s.heap.objs.size + 1)) { s with heap := sortedAll s.heap vs (List.toArray out) }) :
    wpAny (model prog w) A (call (.builtin "sorted") [.ref l]) Q E s := by
  have er' : EachIs (fun v b => ∃ as, Reads (sortingHeap (copyHeap s.heap vs) (s.heap.objs.size + 1) vs) v (enc b) as) vs bs := er.mono fun _ _ ⟨as, r⟩ => ⟨as, PyProof.Rows.Reads.keeps (fun _ _ => sorting_copy_old) r⟩
  exact sorted_vals hl (sorts_data (s := { s with heap := sortingHeap (copyHeap s.heap vs) (s.heap.objs.size + 1) vs }) (each_map (R := fun v d => ∃ as, Reads (sortingHeap (copyHeap s.heap vs) (s.heap.objs.size + 1) vs) v d as) enc er') hal hk (bound_map hu)) (by rw [e.length]; exact hL)
    (h _ (by rw [sortVals_length false rfl]; exact e.length) (sortVals_data false e er' hal))
end
end P5S

namespace P5
open PySem L2

inductive D where
  | non
  | bl (b : Bool)
  | int (i : Int)
  | str (x : Str)
  | tup (xs : List D)
  | ktup (xs : List D)
  | lst (xs : List D)
  | scr (ns : List Int)
  | dct (kind : Nat) (kvs : List (D × D))
  | fn (name : Str)
  | bag
    | exc (a d : Addr) (cls : Str) (names : List Str) (vals : List D)
    | lam (f : Addr)

structure Err where
  cls : Str
  args : List (Str × D)

structure MM (ε α : Type) where
  wp : (α → Prop) → (ε → Prop) → Prop
  mono : ∀ {Q Q' : α → Prop} {E E' : ε → Prop}, (∀ a, Q a → Q' a) → (∀ e, E e → E' e) → wp Q E → wp Q' E'
abbrev M := MM Err
section
variable {ε α β : Type}
@[ext] theorem MM.ext {m n : MM ε α} (h : ∀ Q E, m.wp Q E ↔ n.wp Q E) : m = n := by
  cases m with
  | mk f fm =>
    cases n with
    | mk g gm =>
      have e : f = g := by
        funext Q E
        exact propext (h Q E)
      subst e
      rfl
instance : Monad (MM ε) where
  pure a := ⟨fun Q _ => Q a, fun q _ h => q _ h⟩
  bind m k := ⟨fun Q E => m.wp (fun a => (k a).wp Q E) E, fun q e h => m.mono (fun a h' => (k a).mono q e h') e h⟩
@[simp] theorem wp_pure (a : α) (Q : α → Prop) (E : ε → Prop) : (pure a : MM ε α).wp Q E = Q a := rfl
@[simp] theorem wp_bind (m : MM ε α) (k : α → MM ε β) (Q : β → Prop) (E : ε → Prop) : (m >>= k).wp Q E = m.wp (fun a => (k a).wp Q E) E := rfl
instance : LawfulMonad (MM ε) := LawfulMonad.mk' (MM ε)
  (id_map := fun x => MM.ext fun Q E => Iff.rfl)
  (pure_bind := fun a f => MM.ext fun Q E => Iff.rfl)
  (bind_assoc := fun x f g => MM.ext fun Q E => Iff.rfl)
  (bind_pure_comp := fun f x => rfl)
def M.fail : MM ε α := ⟨fun _ _ => False, fun _ _ h => h⟩
def M.raise (e : ε) : MM ε α := ⟨fun _ E => E e, fun _ q h => q _ h⟩
def M.any (P : α → Prop) : MM ε α := ⟨fun Q _ => ∀ a, P a → Q a, fun q _ h a p => q _ (h a p)⟩
def M.opt : Option α → MM ε α
  | some a => pure a
  | none => M.fail
@[simp] theorem wp_fail (Q : α → Prop) (E : ε → Prop) : (M.fail : MM ε α).wp Q E = False := rfl
@[simp] theorem wp_raise (e : ε) (Q : α → Prop) (E : ε → Prop) : (M.raise e : MM ε α).wp Q E = E e := rfl
@[simp] theorem wp_any (P : α → Prop) (Q : α → Prop) (E : ε → Prop) : (M.any P : MM ε α).wp Q E = ∀ a, P a → Q a := rfl
@[simp] theorem M.opt_some (a : α) : (M.opt (some a) : MM ε α) = pure a := rfl
@[simp] theorem M.opt_none : (M.opt none : MM ε α) = M.fail := rfl
@[simp] theorem fail_bind (k : α → MM ε β) : (M.fail >>= k) = M.fail := MM.ext fun _ _ => Iff.rfl
@[simp] theorem raise_bind (e : ε) (k : α → MM ε β) : (M.raise e >>= k) = M.raise e := MM.ext fun _ _ => Iff.rfl
theorem wp_opt {o : Option α} {Q : α → Prop} {E : ε → Prop} (h : (M.opt o : MM ε α).wp Q E) : ∃ a, o = some a ∧ Q a := by
  cases o with
  | none => exact h.elim
  | some a => exact ⟨a, rfl, h⟩
end

abbrev K' := PySem.W.Frag
abbrev Mg := Str → Option Value
def bagObj (l a : Addr) (h : Heap) : Prop :=
  ∃ x y z t1 t2 t3 n1 : Nat, h.get? a = some { cls := .type "list", data := .seq #[.int x t1, .int y t2, .int z t3, .ref l] n1 }
mutual
inductive Rep (K : K') (mg : Mg) (F : Hp) : V → D → Prop
  | non : Rep K mg F .non .non
  | bl (b : Bool) : Rep K mg F (.bl b) (.bl b)
  | int (i : Int) : Rep K mg F (.int i) (.int i)
  | str (x : Str) : Rep K mg F (.str x) (.str x)
  | tup {a : Addr} {xs : List V} {ds : List D} : F a = some (.tup xs) → RepL K mg F xs ds → ds.length ≤ 16777216 → Rep K mg F (.ref a) (.tup ds)
  | ktup {a : Addr} {xs : List V} {ds : List D} : SqT K F a xs → RepL K mg F xs ds → ds.length ≤ 16777216 → Rep K mg F (.ref a) (.ktup ds)
  | lst {a : Addr} {xs : List V} {ds : List D} : F a = some (.lst xs) → RepL K mg F xs ds → ds.length ≤ 16777216 → Rep K mg F (.ref a) (.lst ds)
  | scr {a : Addr} {ns : List Int} : SqL K F a (ns.map V.int) → ns.length ≤ 16777216 → Rep K mg F (.ref a) (.scr ns)
  | dctK {a : Addr} {kvs : List (Key × V)} {ds : List (D × D)} : F a = some (.dK kvs) → RepK K mg F kvs ds → ds.length ≤ 16777216 → Rep K mg F (.ref a) (.dct 0 ds)
  | dctT {a : Addr} {kvs : List (List Key × V)} {ds : List (D × D)} : F a = some (.dT kvs) → RepT K mg F kvs ds → ds.length ≤ 16777216 → Rep K mg F (.ref a) (.dct 1 ds)
  | fn {f : Addr} {x : Str} : mg x = some (.ref f) → Rep K mg F (.ref f) (.fn x)
  | bag {a l : Addr} {φ : Heap → Prop} {ol : Obj} {ns : List Nat} : F a = some (.ext φ) → (∀ h, φ h ↔ bagObj l a h) → F l = some (.frz ol (.lst (ns.map fun n : Nat => V.int n))) → ns.length ≤ 63 → Rep K mg F (.ref a) .bag
  | exc {a d : Addr} {cls : Str} {names : List Str} {vals : List D} {fs : List (Str × V)} : F d = some (.xd fs) → fs.map (·.1) = names → RepL K mg F (fs.map (·.2)) vals → Rep K mg F (.ref a) (.exc a d cls names vals)
  | lam {f : Addr} : Rep K mg F (.ref f) (.lam f)
inductive RepL (K : K') (mg : Mg) (F : Hp) : List V → List D → Prop
  | nil : RepL K mg F [] []
  | cons {v : V} {vs : List V} {d : D} {ds : List D} : Rep K mg F v d → RepL K mg F vs ds → RepL K mg F (v :: vs) (d :: ds)
inductive RepK (K : K') (mg : Mg) (F : Hp) : List (Key × V) → List (D × D) → Prop
  | nil : RepK K mg F [] []
  | consI {i : Int} {v : V} {vs : List (Key × V)} {d : D} {ds : List (D × D)} : Rep K mg F v d → RepK K mg F vs ds → RepK K mg F ((.inl i, v) :: vs) ((.int i, d) :: ds)
  | consS {x : Str} {v : V} {vs : List (Key × V)} {d : D} {ds : List (D × D)} : Rep K mg F v d → RepK K mg F vs ds → RepK K mg F ((.inr x, v) :: vs) ((.str x, d) :: ds)
inductive RepT (K : K') (mg : Mg) (F : Hp) : List (List Key × V) → List (D × D) → Prop
  | nil : RepT K mg F [] []
  | cons {k : List Key} {v : V} {vs : List (List Key × V)} {kd : List D} {d : D} {ds : List (D × D)} : RepL K mg F (k.map kV) kd → Rep K mg F v d → RepT K mg F vs ds → RepT K mg F ((k, v) :: vs) ((.tup kd, d) :: ds)
end
section
variable {K : K'} {mg : Mg} {F F' : Hp}
theorem seqT (e : Same F F') {a : Addr} {xs : List V} (h : SqT K F a xs) : SqT K F' a xs := by
  rcases h with h | h
  · rcases h with h | ⟨o, h⟩
    · exact .inl (.inl (e _ _ h))
    · exact .inl (.inr ⟨o, e _ _ h⟩)
  · exact .inr h
mutual
theorem Rep.grow (e : Same F F') : ∀ {v : V} {d : D}, Rep K mg F v d → Rep K mg F' v d
  | _, _, .non => .non
  | _, _, .bl b => .bl b
  | _, _, .int i => .int i
  | _, _, .str x => .str x
  | _, _, .tup h r z => .tup (e _ _ h) (RepL.grow e r) z
  | _, _, .ktup h r z => .ktup (seqT e h) (RepL.grow e r) z
  | _, _, .lst h r z => .lst (e _ _ h) (RepL.grow e r) z
  | _, _, .scr h z => .scr (e.seq h) z
  | _, _, .dctK h r z => .dctK (e _ _ h) (RepK.grow e r) z
  | _, _, .dctT h r z => .dctT (e _ _ h) (RepT.grow e r) z
  | _, _, .fn h => .fn h
  | _, _, .bag h i j z => .bag (e _ _ h) i (e _ _ j) z
  | _, _, .exc h i r => .exc (e _ _ h) i (RepL.grow e r)
  | _, _, .lam => .lam
theorem RepL.grow (e : Same F F') : ∀ {v : List V} {d : List D}, RepL K mg F v d → RepL K mg F' v d
  | _, _, .nil => .nil
  | _, _, .cons h r => .cons (Rep.grow e h) (RepL.grow e r)
theorem RepK.grow (e : Same F F') : ∀ {v : List (Key × V)} {d : List (D × D)}, RepK K mg F v d → RepK K mg F' v d
  | _, _, .nil => .nil
  | _, _, .consI h r => .consI (Rep.grow e h) (RepK.grow e r)
  | _, _, .consS h r => .consS (Rep.grow e h) (RepK.grow e r)
theorem RepT.grow (e : Same F F') : ∀ {v : List (List Key × V)} {d : List (D × D)}, RepT K mg F v d → RepT K mg F' v d
  | _, _, .nil => .nil
  | _, _, .cons k h r => .cons (RepL.grow e k) (Rep.grow e h) (RepT.grow e r)
end
theorem RepL.length : ∀ {v : List V} {d : List D}, RepL K mg F v d → v.length = d.length
  | _, _, .nil => rfl
  | _, _, .cons _ r => by rw [List.length_cons, List.length_cons, RepL.length r]
theorem RepL.get : ∀ {vs : List V} {ds : List D} {i : Nat} {d : D}, RepL K mg F vs ds → ds[i]? = some d → ∃ v, vs[i]? = some v ∧ Rep K mg F v d
  | _, _, _, _, .nil, e => by simp at e
  | _, _, 0, _, .cons r _, e => by simp at e; subst e; exact ⟨_, rfl, r⟩
  | _, _, i + 1, x, .cons _ t, e => by
    obtain ⟨u, h1, h2⟩ := RepL.get (i := i) (d := x) t (by simpa using e)
    exact ⟨u, by simpa using h1, h2⟩
theorem RepL.append : ∀ {vs ws : List V} {ds es : List D}, RepL K mg F vs ds → RepL K mg F ws es → RepL K mg F (vs ++ ws) (ds ++ es)
  | _, _, _, _, .nil, s => s
  | _, _, _, _, .cons r t, s => .cons r (RepL.append t s)
theorem RepL.take : ∀ {vs : List V} {ds : List D} (n : Nat), RepL K mg F vs ds → RepL K mg F (vs.take n) (ds.take n)
  | _, _, 0, _ => .nil
  | _, _, _ + 1, .nil => .nil
  | _, _, n + 1, .cons r t => .cons r (RepL.take n t)
theorem RepL.drop : ∀ {vs : List V} {ds : List D} (n : Nat), RepL K mg F vs ds → RepL K mg F (vs.drop n) (ds.drop n)
  | _, _, 0, r => r
  | _, _, _ + 1, .nil => .nil
  | _, _, n + 1, .cons _ t => RepL.drop n t
theorem RepL.reverse : ∀ {vs : List V} {ds : List D}, RepL K mg F vs ds → RepL K mg F vs.reverse ds.reverse
  | _, _, .nil => .nil
  | _, _, .cons r t => by
    rw [List.reverse_cons, List.reverse_cons]
    exact RepL.append (RepL.reverse t) (.cons r .nil)
theorem RepL.of : ∀ {vs : List V} {ds : List D}, vs.length = ds.length → (∀ (i : Nat) (v : V) (d : D), vs[i]? = some v → ds[i]? = some d → Rep K mg F v d) → RepL K mg F vs ds
  | [], [], _, _ => .nil
  | v :: vs, d :: ds, e, h => .cons (h 0 v d rfl rfl) (RepL.of (by simpa using e) fun i v' d' h1 h2 => h (i + 1) v' d' (by simpa using h1) (by simpa using h2))
  | [], _ :: _, e, _ => by simp at e
  | _ :: _, [], e, _ => by simp at e
theorem RepL.ints : ∀ ns : List Int, RepL K mg F (ns.map V.int) (ns.map D.int)
  | [] => .nil
  | n :: ns => .cons (.int n) (RepL.ints ns)
end

class Tb where
  T : List (Addr × Str)
instance (priority := low) tb0 : Tb := ⟨[]⟩
variable [Tb]
def notT : HO → Bool
  | .tbl _ => false
  | _ => true
theorem notT_ne {o : HO} (h : notT o = true) (ps : Array Value) : o ≠ .tbl ps := fun z => by
  subst z
  cases h
theorem notT_of {o : HO} (h : ∀ ps, o ≠ .tbl ps) : notT o = true := by
  cases o <;> first | rfl | exact (h _ rfl).elim
structure Sub (F H : Hp) : Prop where
  s : Same F H
  n : ∀ b o, F b = some o → notT o = true
  t : LamX.Tabs Tb.T H
instance {F H : Hp} : CoeFun (Sub F H) (fun _ => ∀ b o, F b = some o → H b = some o) := ⟨fun x => x.s⟩
theorem Sub.free {F H : Hp} (x : Sub F H) {l : Addr} (h : H l = none) : F l = none := x.s.free h
theorem Sub.seq {K : K'} {F H : Hp} {a : Addr} {xs : List V} (x : Sub F H) (h : SqL K F a xs) : SqL K H a xs := x.s.seq h
structure SameN (H H' : Hp) : Prop where
  kp : ∀ b o, H b = some o → notT o = true → H' b = some o
  nn : ∀ b, H b ≠ none → H' b ≠ none
  ts : LamX.Tabs Tb.T H → LamX.Tabs Tb.T H'
theorem SameN.of {H H' : Hp} (s : Same H H') : SameN H H' := ⟨fun b o e _ => s b o e, fun b e z => e (s.free z), fun t => t.ext s⟩
theorem SameN.refl (H : Hp) : SameN H H := .of (Same.refl H)
theorem SameN.trans {H H1 H2 : Hp} (a : SameN H H1) (b : SameN H1 H2) : SameN H H2 := ⟨fun c o e n => b.kp c o (a.kp c o e n) n, fun c e => b.nn c (a.nn c e), fun t => b.ts (a.ts t)⟩
theorem SameN.at {H H' : Hp} (s : SameN H H') {b : Addr} {o : HO} (e : H b = some o) (n : notT o = true := by rfl) : H' b = some o := s.kp b o e n
theorem SameN.free {H H' : Hp} (s : SameN H H') {b : Addr} (e : H' b = none) : H b = none := by
  cases h : H b with
  | none => rfl
  | some o => exact (s.nn b (by rw [h]; exact fun z => nomatch z) e).elim
theorem Sub.trans {F H H' : Hp} (x : Sub F H) (s : SameN H H') : Sub F H' := ⟨fun b o e => s.kp b o (x.s b o e) (x.n b o e), x.n, s.ts x.t⟩
theorem Sub.lower {F F1 H : Hp} (e : Same F F1) (s : Sub F1 H) : Sub F H := ⟨e.trans s.s, fun b o z => s.n b o (e b o z), s.t⟩
def wrT : HO → Bool
  | .tbl _ => false
  | .ext _ => false
  | _ => true
theorem tabs_wr {T : List (Addr × Str)} {H : Hp} {a : Addr} {o o' : HO} (t : LamX.Tabs T H) (h : H a = some o) (w : wrT o = true) : LamX.Tabs T (upd H a o') := fun p hp => by
  obtain ⟨ps, h1, h2, h3⟩ := t p hp
  have n1 : p.1 ≠ a := fun z => by
    rw [z, h] at h1
    cases h1
    cases w
  refine ⟨ps, by rw [upd_ne n1]; exact h1, h2, fun pos cv hc => ?_⟩
  obtain ⟨c, e1, e2⟩ := h3 pos cv hc
  refine ⟨c, e1, ?_⟩
  rw [upd_ne]
  · exact e2
  · intro z
    rw [z, h] at e2
    cases e2
    cases w
theorem SameN.wr {H1 H : Hp} {a : Addr} {o o' : HO} (s : SameN H1 H) (h0 : H1 a = none) (h : H a = some o) (w : wrT o = true := by rfl) : SameN H1 (upd H a o') :=
  ⟨fun b u e n => by rw [upd_ne (ne_of_none e h0)]; exact s.kp b u e n, fun b e => by
    by_cases hb : b = a
    · subst hb
      exact (e h0).elim
    · rw [upd_ne hb]
      exact s.nn b e, fun t => tabs_wr (s.ts t) h w⟩
structure SameA (a : Addr) (H H' : Hp) : Prop where
  kp : ∀ b o, b ≠ a → H b = some o → notT o = true → H' b = some o
  nn : ∀ b, b ≠ a → H b ≠ none → H' b ≠ none
  ts : LamX.Tabs Tb.T H → LamX.Tabs Tb.T H'
theorem SameA.refl (a : Addr) (H : Hp) : SameA a H H := ⟨fun _ _ _ e _ => e, fun _ _ e => e, fun t => t⟩
theorem SameA.more {a : Addr} {H H1 H2 : Hp} (x : SameA a H H1) (s : SameN H1 H2) : SameA a H H2 := ⟨fun b o h e n => s.kp b o (x.kp b o h e n) n, fun b h e => s.nn b (x.nn b h e), fun t => s.ts (x.ts t)⟩
theorem SameA.write {a : Addr} {H H1 : Hp} {o o' : HO} (x : SameA a H H1) (h : H1 a = some o) (w : wrT o = true := by rfl) : SameA a H (upd H1 a o') :=
  ⟨fun b u hb e n => by rw [upd_ne hb]; exact x.kp b u hb e n, fun b hb e => by rw [upd_ne hb]; exact x.nn b hb e, fun t => tabs_wr (x.ts t) h w⟩
structure Grow (F H F' H' : Hp) : Prop where
  fs : Same F F'
  hs : SameN H H'
  sub : Sub F' H'
  new : ∀ a, F a = none → H a ≠ none → F' a = none
theorem Grow.refl {F H : Hp} (s : Sub F H) : Grow F H F H := ⟨Same.refl F, SameN.refl H, s, fun _ h _ => h⟩
theorem Grow.trans {F H F1 H1 F2 H2 : Hp} (a : Grow F H F1 H1) (b : Grow F1 H1 F2 H2) : Grow F H F2 H2 :=
  ⟨a.fs.trans b.fs, a.hs.trans b.hs, b.sub, fun x h1 h2 => b.new x (a.new x h1 h2) (a.hs.nn x h2)⟩
theorem same_upd {H : Hp} {p : Addr} {o : HO} (h : H p = none) : Same H (upd H p o) := fun b x e => by
  rw [upd_ne (ne_of_none e h)]
  exact e
theorem Grow.made {F H : Hp} {p : Addr} {o : HO} (s : Sub F H) (h : H p = none) (n : notT o = true := by rfl) : Grow F H (upd F p o) (upd H p o) := by
  have hF : F p = none := s.free h
  refine ⟨same_upd hF, .of (same_upd h), ⟨fun b x e => ?_, fun b x e => ?_, s.t.ext (same_upd h)⟩, fun a h1 h2 => ?_⟩
  · by_cases hb : b = p
    · subst hb
      rw [upd_same] at e
      rw [upd_same]
      exact e
    · rw [upd_ne hb] at e
      rw [upd_ne hb]
      exact s _ _ e
  · by_cases hb : b = p
    · subst hb
      rw [upd_same] at e
      cases e
      exact n
    · rw [upd_ne hb] at e
      exact s.n _ _ e
  · by_cases hb : a = p
    · subst hb
      exact (h2 h).elim
    · rw [upd_ne hb]
      exact h1
theorem Grow.wild {F H : Hp} {p : Addr} {o : HO} (s : Sub F H) (h : H p = none) : Grow F H F (upd H p o) :=
  ⟨Same.refl F, .of (same_upd h), s.trans (.of (same_upd h)), fun _ h1 _ => h1⟩

def RepF (K : K') (mg : Mg) (F : Hp) : List (Str × V) → List (Str × D) → Prop := fun fs ds => fs.map (·.1) = ds.map (·.1) ∧ RepL K mg F (fs.map (·.2)) (ds.map (·.2))
def ErrR (K : K') (mg : Mg) (F H : Hp) (e : Err) (c : Value) (dx : Option Addr) : Prop :=
  ∃ C, c = .ref C ∧ mg e.cls = some (.ref C) ∧ ((dx = none ∧ e.args = []) ∨ ∃ d fs, dx = some d ∧ F d = some (.xd fs) ∧ RepF K mg F fs e.args)

abbrev Env' := List (Option D)
def ER (K : K') (mg : Mg) (F : Hp) (σ : St) (ρ : Env') : Prop := σ.length = ρ.length ∧ ∀ (i : Nat) (d : D), ρ[i]? = some (some d) → ∃ v, σ[i]? = some (some v) ∧ Rep K mg F v d
theorem ER.grow {K : K'} {mg : Mg} {F F' : Hp} {σ : St} {ρ : Env'} (e : Same F F') (h : ER K mg F σ ρ) : ER K mg F' σ ρ :=
  ⟨h.1, fun i d q => let ⟨v, a, b⟩ := h.2 i d q; ⟨v, a, b.grow e⟩⟩
theorem ER.set {K : K'} {mg : Mg} {F : Hp} {σ : St} {ρ : Env'} {v : V} {d : D} (h : ER K mg F σ ρ) (i : Nat) (r : Rep K mg F v d) : ER K mg F (σ.set i (some v)) (ρ.set i (some d)) := by
  refine ⟨by rw [List.length_set, List.length_set, h.1], fun j e q => ?_⟩
  by_cases hj : i = j
  · subst hj
    by_cases hl : i < ρ.length
    · rw [List.getElem?_set_self hl] at q
      cases q
      exact ⟨v, by rw [List.getElem?_set_self (by rw [h.1]; exact hl)], r⟩
    · rw [List.getElem?_eq_none (by rw [List.length_set]; omega)] at q
      cases q
  · rw [List.getElem?_set_ne hj] at q
    rw [List.getElem?_set_ne hj]
    exact h.2 j e q
def EW (X : Cx) (W : WX) (F H : Hp) (σ : St) (e : Err) : Prop := ∀ F' H' c dx, Grow F H F' H' → ErrR X.K X.mg F' H' e c dx → W c dx σ H'
def VW (X : Cx) (F H : Hp) (Q : VK) (d : D) : Prop := ∀ v F' H', Grow F H F' H' → Rep X.K X.mg F' v d → Q v H'
theorem EW.grow {X : Cx} {W : WX} {F H F' H' : Hp} {σ : St} {e : Err} (g : Grow F H F' H') (h : EW X W F H σ e) : EW X W F' H' σ e := fun F2 H2 c dx g2 r => h F2 H2 c dx (g.trans g2) r
theorem VW.grow {X : Cx} {F H F' H' : Hp} {Q : VK} {d : D} (g : Grow F H F' H') (h : VW X F H Q d) : VW X F' H' Q d := fun v F2 H2 g2 r => h v F2 H2 (g.trans g2) r

abbrev EM := Env' → M D
def TEo (X : Cx) (W : WX) (f : EM) : TE := fun σ H Q => ∃ F ρ, Sub F H ∧ ER X.K X.mg F σ ρ ∧ (f ρ).wp (VW X F H Q) (EW X W F H σ)
def PuE (X : Cx) (W : WX) (e : Expr) (f : EM) : Prop := PE X e (TEo X W f)
def TTo (X : Cx) (W : WX) (f : Env' → M Bool) : TT := fun σ H Q => ∃ F ρ, Sub F H ∧ ER X.K X.mg F σ ρ ∧ (f ρ).wp (fun b => ∀ F' H', Grow F H F' H' → Q b H') (EW X W F H σ)
def PuT (X : Cx) (W : WX) (e : Expr) (f : Env' → M Bool) : Prop := PT X e (TTo X W f)
def TAo (X : Cx) (W : WX) (f : Env' → M (List D)) : TA := fun σ H Q => ∃ F ρ, Sub F H ∧ ER X.K X.mg F σ ρ ∧
  (f ρ).wp (fun ds => ∀ vs F' H', Grow F H F' H' → RepL X.K X.mg F' vs ds → Q vs H') (EW X W F H σ)
def PuA (X : Cx) (W : WX) (es : List Expr) (f : Env' → M (List D)) : Prop := PA X es (TAo X W f)

section
variable {X : Cx} {W : WX} {e : Expr} {pos : Pos}
theorem PE_imp {t t' : TE} (h : PE X e t) (i : ∀ σ H Q, t' σ H Q → t σ H Q) : PE X e t' := ⟨fun pins s σ H Q I q => h.run pins s σ H Q I (i σ H Q q)⟩
theorem PT_imp {t t' : TT} (h : PT X e t) (i : ∀ σ H Q, t' σ H Q → t σ H Q) : PT X e t' := ⟨fun pins s σ H Q I q => h.run pins s σ H Q I (i σ H Q q)⟩
theorem PA_imp {es : List Expr} {t t' : TA} (h : PA X es t) (i : ∀ σ H Q, t' σ H Q → t σ H Q) : PA X es t' := ⟨fun pos pins s σ H Q I q => h.run pos pins s σ H Q I (i σ H Q q)⟩

theorem TEo.bind {f : EM} {ρ : Env'} {F H : Hp} {σ : St} {Q : VK} {β : Type} {k : D → M β} {R : β → Prop} (sF : Sub F H) (er : ER X.K X.mg F σ ρ) (h : (f ρ >>= k).wp R (EW X W F H σ))
    (hq : ∀ d v F' H', Grow F H F' H' → Rep X.K X.mg F' v d → (k d).wp R (EW X W F H σ) → Q v H') : TEo X W f σ H Q :=
  ⟨F, ρ, sF, er, (f ρ).mono (fun d hd v F' H' g r => hq d v F' H' g r hd) (fun _ z => z) h⟩
theorem TAo.bind {f : Env' → M (List D)} {ρ : Env'} {F H : Hp} {σ : St} {Q : List V → Hp → Prop} {β : Type} {k : List D → M β} {R : β → Prop} (sF : Sub F H) (er : ER X.K X.mg F σ ρ) (h : (f ρ >>= k).wp R (EW X W F H σ))
    (hq : ∀ d v F' H', Grow F H F' H' → RepL X.K X.mg F' v d → (k d).wp R (EW X W F H σ) → Q v H') : TAo X W f σ H Q :=
  ⟨F, ρ, sF, er, (f ρ).mono (fun d hd v F' H' g r => hq d v F' H' g r hd) (fun _ z => z) h⟩
theorem TTo.bind {f : Env' → M Bool} {ρ : Env'} {F H : Hp} {σ : St} {Q : Bool → Hp → Prop} {β : Type} {k : Bool → M β} {R : β → Prop} (sF : Sub F H) (er : ER X.K X.mg F σ ρ) (h : (f ρ >>= k).wp R (EW X W F H σ))
    (hq : ∀ d F' H', Grow F H F' H' → (k d).wp R (EW X W F H σ) → Q d H') : TTo X W f σ H Q :=
  ⟨F, ρ, sF, er, (f ρ).mono (fun d hd F' H' g => hq d F' H' g hd) (fun _ z => z) h⟩

def dVar (i : Nat) : EM := fun ρ => match ρ[i]? with
  | some (some d) => pure d
  | _ => M.fail
theorem u_var {i : Nat} {x : Str} (hN : X.N[i]? = some x) (hv : Vis X.env.scope x) (hd : (x == ("__debug__" : Str)) = false := by decide) (hcd : (x == ("__classdict__" : Str)) = false := by decide) : PuE X W (.Name x pos) (dVar i) := by
  refine PE_imp (pe_var hN hv hd hcd) fun σ H Q h => ?_
  obtain ⟨F, ρ, sF, er, h⟩ := h
  unfold dVar at h
  cases q : ρ[i]? with
  | none =>
    rw [q] at h
    exact h.elim
  | some o =>
    rw [q] at h
    cases o with
    | none => exact h.elim
    | some d =>
      obtain ⟨v, e, r⟩ := er.2 i d q
      exact ⟨v, e, h v F H (Grow.refl sF) r⟩
def dCon (d : D) : EM := fun _ => pure d
theorem con_of {v : V} {d : D} (h : PE X e (tC v)) (r : ∀ F, Rep X.K X.mg F v d) : PuE X W e (dCon d) :=
  PE_imp h fun σ H Q ⟨F, ρ, sF, er, q⟩ => q v F H (Grow.refl sF) (r F)
theorem u_int {i : Int} {j : Nat} : PuE X W (.Constant (.int i) j pos) (dCon (.int i)) := con_of pe_int fun _ => .int i
theorem u_bl {b : Bool} {j : Nat} : PuE X W (.Constant (.bool b) j pos) (dCon (.bl b)) := con_of pe_bl fun _ => .bl b
theorem u_non {j : Nat} : PuE X W (.Constant .none j pos) (dCon .non) := con_of pe_non fun _ => .non
theorem u_str {x : Str} {j : Nat} : PuE X W (.Constant (.str x) j pos) (dCon (.str x)) := con_of pe_str fun _ => .str x
theorem u_fn {x : Str} {f : Addr} (hg : Gl X x) (hm : X.mg x = some (.ref f)) (hd : (x == ("__debug__" : Str)) = false := by decide) : PuE X W (.Name x pos) (dCon (.fn x)) :=
  con_of (pe_glob (v := .ref f) hg hm rfl hd) fun _ => .fn hm

def rOf (X : Cx) (op : D → D → Option D) : R2 := fun x y H Q => ∃ F d e r, Sub F H ∧ Rep X.K X.mg F x d ∧ Rep X.K X.mg F y e ∧ op d e = some r ∧ VW X F H Q r
def dBin (op : D → D → Option D) (f g : EM) : EM := fun ρ => f ρ >>= fun a => g ρ >>= fun b => M.opt (op a b)
variable {a b : Expr} {f g : EM}
theorem two_of {op : D → D → Option D} {σ : St} {H : Hp} {Q : VK} (h : TEo X W (dBin op f g) σ H Q) : tOp (rOf X op) (TEo X W f) (TEo X W g) σ H Q := by
  obtain ⟨F, ρ, sF, er, h⟩ := h
  refine TEo.bind sF er h fun d v F1 H1 g1 r1 h1 => ?_
  refine TEo.bind (k := fun b => M.opt (op d b)) (R := VW X F1 H1 Q) g1.sub (er.grow g1.fs) ?_ fun e w F2 H2 g2 r2 h2 => ?_
  · exact MM.mono _ (fun _ q => q.grow g1) (fun _ q => q.grow g1) h1
  · obtain ⟨r, e1, q⟩ := wp_opt h2
    exact ⟨F2, d, e, r, g2.sub, r1.grow g2.fs, r2, e1, q.grow g2⟩
theorem u_bin {o : Operator} {op : D → D → Option D} (ho : OpR X (binaryOp o) (rOf X op)) (ha : PuE X W a f) (hb : PuE X W b g) : PuE X W (.BinOp a o b pos) (dBin op f g) :=
  PE_imp (pe_op ho ha hb) fun _ _ _ h => two_of h
theorem u_cmp {o : CmpOp} {op : D → D → Option D} (ho : OpR X (compareOp o) (rOf X op)) (ha : PuE X W a f) (hb : PuE X W b g) (hm : behindInMarks o b = false := by first | exact nomark _ | rfl) : PuE X W (.Compare a [o] [b] pos) (dBin op f g) :=
  PE_imp (pe_cmpR ho ha hb hm) fun _ _ _ h => two_of h
def asB : D → Option Bool
  | .bl b => some b
  | _ => none
def dB (f : EM) : Env' → M Bool := fun ρ => f ρ >>= fun d => M.opt (asB d)
theorem Rep.bl_inv {K : K'} {mg : Mg} {F : Hp} {v : V} {b : Bool} (r : Rep K mg F v (.bl b)) : v = .bl b := by cases r; rfl
theorem tb_of {σ : St} {H : Hp} {Q : Bool → Hp → Prop} (h : TTo X W (dB f) σ H Q) : TEo X W f σ H fun x H' => ∃ k, x = .bl k ∧ Q k H' := by
  obtain ⟨F, ρ, sF, er, h⟩ := h
  refine TEo.bind sF er h fun d v F1 H1 g1 r1 h1 => ?_
  obtain ⟨k, e1, q⟩ := wp_opt h1
  cases d with
  | bl b =>
    cases e1
    exact ⟨_, r1.bl_inv, q F1 H1 g1⟩
  | _ => cases e1
theorem t_cmp {o : CmpOp} {op : D → D → Option D} (ho : OpR X (compareOp o) (rOf X op)) (ha : PuE X W a f) (hb : PuE X W b g) (hm : behindInMarks o b = false := by first | exact nomark _ | rfl) : PuT X W (.Compare a [o] [b] pos) (dB (dBin op f g)) := by
  refine PT_imp (pt_cmpR ho ha hb hm) fun σ H Q h => ?_
  obtain ⟨F, ρ, sF, er, q⟩ := tb_of h
  exact two_of ⟨F, ρ, sF, er, q⟩
end
end P5

namespace P5
open PySem L2 PyProof.Rows
variable [Tb]

mutual
def toPy : D → PyData
  | .non => .none
  | .bl b => .bool b
  | .int i => .int i
  | .str x => .str x
  | .tup xs => .tuple (toPyL xs)
  | .ktup xs => .tuple (toPyL xs)
  | .lst xs => .list (toPyL xs)
  | .scr ns => .list (ns.map .int)
  | .dct _ _ => .dict []
  | .fn _ => .dict []
  | .bag => .dict []
  | .exc _ _ _ _ _ => .dict []
  | .lam _ => .dict []
def toPyL : List D → List PyData
  | [] => []
  | x :: xs => toPy x :: toPyL xs
end
theorem toPyL_map : ∀ xs : List D, toPyL xs = xs.map toPy
  | [] => rfl
  | x :: xs => by rw [toPyL, List.map_cons, toPyL_map xs]
def okD (d : D) : Bool := SeqAt.shaped (toPy d)
def eqD (d e : D) : Bool := PyData.eqv (toPy d) (toPy e)
def ltD (d e : D) : Bool := PySem.W.dataLt (toPy d) (toPy e)
def alD (d e : D) : Bool := PySem.W.alike (toPy d) (toPy e) && okD d && okD e && !(match d with | .non => true | _ => false)
section
variable {K : K'} {mg : Mg} {F : Hp}
theorem dp_ints : ∀ ns : List Int, DpAll K F (ns.map V.int) (ns.map PyData.int)
  | [] => .nil
  | n :: r => .cons (.int n) (dp_ints r)
mutual
theorem Rep.dp : ∀ {v : V} {d : D}, Rep K mg F v d → (toPy d).canLay0 = true → Dp K F v (toPy d)
  | _, _, .non, _ => .non
  | _, _, .bl b, _ => .bl b
  | _, _, .int i, _ => .int i
  | _, _, .str x, _ => .str x
  | _, _, .tup h r _, q => .tup (SqT.of h) (RepL.dp r (by simpa [toPy, PyData.canLay0] using q))
  | _, _, .ktup h r _, q => .tup h (RepL.dp r (by simpa [toPy, PyData.canLay0] using q))
  | _, _, .lst h r _, q => .lst (SqL.of h) (RepL.dp r (by simpa [toPy, PyData.canLay0] using q))
  | _, _, .scr h _, _ => .lst h (dp_ints _)
  | _, _, .dctK _ _ _, q => by simp [toPy, PyData.canLay0] at q
  | _, _, .dctT _ _ _, q => by simp [toPy, PyData.canLay0] at q
  | _, _, .fn _, q => by simp [toPy, PyData.canLay0] at q
  | _, _, .bag _ _ _ _, q => by simp [toPy, PyData.canLay0] at q
  | _, _, .exc _ _ _, q => by simp [toPy, PyData.canLay0] at q
theorem RepL.dp : ∀ {v : List V} {d : List D}, RepL K mg F v d → PyData.canLayAll0 (toPyL d) = true → DpAll K F v (toPyL d)
  | _, _, .nil, _ => .nil
  | _, _, .cons h r, q => by
    rw [toPyL, PyData.canLayAll0, Bool.and_eq_true] at q
    exact .cons (Rep.dp h q.1) (RepL.dp r q.2)
end
theorem Rep.dpH {H : Hp} {v : V} {d : D} (r : Rep K mg F v d) (s : Sub F H) (o : okD d = true) : Dp K H v (toPy d) := (r.grow s.s).dp (SeqAt.canLay_of_shaped o)
theorem Rep.int_inv {v : V} {i : Int} (r : Rep K mg F v (.int i)) : v = .int i := by cases r; rfl
theorem Rep.str_inv {v : V} {x : Str} (r : Rep K mg F v (.str x)) : v = .str x := by cases r; rfl
theorem Rep.non_inv {v : V} (r : Rep K mg F v .non) : v = .non := by cases r; rfl
theorem Rep.tup_inv {v : V} {ds : List D} (r : Rep K mg F v (.tup ds)) : ∃ a xs, v = .ref a ∧ F a = some (.tup xs) ∧ RepL K mg F xs ds := by
  cases r with
  | tup h r _ => exact ⟨_, _, rfl, h, r⟩
theorem Rep.lst_inv {v : V} {ds : List D} (r : Rep K mg F v (.lst ds)) : ∃ a xs, v = .ref a ∧ F a = some (.lst xs) ∧ RepL K mg F xs ds := by
  cases r with
  | lst h r _ => exact ⟨_, _, rfl, h, r⟩
theorem Rep.scr_inv {v : V} {ns : List Int} (r : Rep K mg F v (.scr ns)) : ∃ a, v = .ref a ∧ SqL K F a (ns.map V.int) := by
  cases r with
  | scr h _ => exact ⟨_, rfl, h⟩
def lenD : D → Nat
  | .tup xs => xs.length
  | .ktup xs => xs.length
  | .lst xs => xs.length
  | .scr ns => ns.length
  | .dct _ kvs => kvs.length
  | _ => 0
theorem Rep.sz {v : V} {d : D} (r : Rep K mg F v d) : lenD d ≤ 16777216 := by
  cases r <;> first | exact Nat.zero_le _ | assumption
end

section
variable {X : Cx} {F H : Hp} {Q : VK}
theorem new_tup {xs : List V} {ds : List D} (sF : Sub F H) (r : RepL X.K X.mg F xs ds) (z : ds.length ≤ 16777216) (q : VW X F H Q (.tup ds)) : ∀ p, H p = none → Q (.ref p) (upd H p (.tup xs)) := fun p hp =>
  q _ _ _ (Grow.made sF hp) (.tup upd_same (r.grow (same_upd (sF.free hp))) z)
theorem new_lst {xs : List V} {ds : List D} (sF : Sub F H) (r : RepL X.K X.mg F xs ds) (z : ds.length ≤ 16777216) (q : VW X F H Q (.lst ds)) : ∀ p, H p = none → Q (.ref p) (upd H p (.lst xs)) := fun p hp =>
  q _ _ _ (Grow.made sF hp) (.lst upd_same (r.grow (same_upd (sF.free hp))) z)
theorem old_v {v : V} {d : D} (sF : Sub F H) (r : Rep X.K X.mg F v d) (q : VW X F H Q d) : Q v H := q v F H (Grow.refl sF) r
end
theorem szOk {n : Nat} (h : n ≤ 16777216) : n ≤ sizeLine := by rw [sizeLine_eq]; exact h
theorem szLt {n : Nat} (h : n < 16777216) : n < sizeLine := by rw [sizeLine_eq]; exact h
theorem ofSz {n : Nat} (h : n ≤ sizeLine) : n ≤ 16777216 := by rw [sizeLine_eq] at h; exact h

def opAdd : D → D → Option D
  | .int i, .int j => some (.int (i + j))
  | .str x, .str y => if x.length + y.length ≤ 16777216 then some (.str (x ++ y)) else none
  | .tup xs, .tup ys => if xs.length + ys.length ≤ 16777216 then some (.tup (xs ++ ys)) else none
  | .lst xs, .lst ys => if xs.length + ys.length ≤ 16777216 then some (.lst (xs ++ ys)) else none
  | _, _ => none
def opSub : D → D → Option D
  | .int i, .int j => some (.int (i - j))
  | _, _ => none
def mulOk (i j : Int) : Bool := decide (i.natAbs < 2 ^ 64) || decide (j.natAbs < 2 ^ 64) || decide (i.natAbs.log2 + j.natAbs.log2 < 1000000)
theorem mulOk_of {i j : Int} (h : mulOk i j = true) : CMul i j ∨ CMulW i j := by
  unfold mulOk at h
  rw [Bool.or_eq_true, Bool.or_eq_true] at h
  rcases h with (h | h) | h
  · have z := of_decide_eq_true h
    exact .inl (.inl (by omega))
  · have z := of_decide_eq_true h
    exact .inl (.inr (by omega))
  · have z : i.natAbs.log2 + j.natAbs.log2 < 1000000 := of_decide_eq_true h
    exact .inr z
def opMul : D → D → Option D
  | .int i, .int j => if mulOk i j then some (.int (i * j)) else none
  | .lst xs, .int k => if 0 ≤ k ∧ k < 16777217 ∧ xs.length * k.toNat ≤ 16777216 then some (.lst (List.replicate k.toNat xs).flatten) else none
  | .tup xs, .int k => if xs.length ≠ 0 ∧ 2 ≤ k ∧ k ≤ 1000 ∧ xs.length ≤ 1000 then some (.tup (List.replicate k.toNat xs).flatten) else none
  | _, _ => none
def divOk (j : Int) : Bool := decide ((j ≠ 0 ∧ j.natAbs < 1073741824) ∨ (0 < j ∧ j.natAbs.log2 < 9000))
def opDiv : D → D → Option D
  | .int i, .int j => if divOk j then some (.int (i.fdiv j)) else none
  | _, _ => none
def opMod : D → D → Option D
  | .int i, .int j => if j ≠ 0 then some (.int (i.fmod j)) else none
  | _, _ => none
def opPow : D → D → Option D
  | .int i, .int j => if 0 ≤ j ∧ j ≤ 1000000 ∧ i.natAbs < 2 ^ 64 then some (.int (i ^ j.toNat)) else none
  | _, _ => none
def strEq : D → D → Option Bool
  | .str x, .str y => some (decide (x = y))
  | _, _ => none
def opEq (d e : D) : Option D := if okD d && okD e then some (.bl (eqD d e)) else (strEq d e).map .bl
def opNe (d e : D) : Option D := if okD d && okD e then some (.bl (!eqD d e)) else (strEq d e).map fun b => .bl (!b)
def opLt (d e : D) : Option D := if alD d e then some (.bl (ltD d e)) else none
def opGt (d e : D) : Option D := if alD d e then some (.bl (ltD e d)) else none
def opLe (d e : D) : Option D := if alD d e then some (.bl (!ltD e d)) else none
def opGe (d e : D) : Option D := if alD d e then some (.bl (!ltD d e)) else none
def isNon : D → Bool
  | .non => true
  | _ => false
def opIsN (d e : D) : Option D := if isNon e then some (.bl (isNon d)) else none
def opNotN (d e : D) : Option D := if isNon e then some (.bl (!isNon d)) else none
section
variable {X : Cx}
theorem o_add : OpR X (binaryOp .Add) (rOf X opAdd) := by
  intro pins s σ H x y v u Q I rx ry h
  obtain ⟨F, d, e, r, sF, rd, re, eq, q⟩ := h
  unfold opAdd at eq
  split at eq
  · cases eq
    refine op_add pins s σ H x y v u Q I rx ry ⟨_, _, rd.int_inv, re.int_inv, old_v sF (.int _) q⟩
  · split at eq
    · cases eq
      rename_i hz
      exact op_add_str pins s σ H x y v u Q I rx ry ⟨_, _, rd.str_inv, re.str_inv, szOk hz, old_v sF (.str _) q⟩
    · cases eq
  · split at eq
    · cases eq
      rename_i hz
      obtain ⟨a, vs, rfl, ha, ra⟩ := rd.tup_inv
      obtain ⟨b, ws, rfl, hb, rb⟩ := re.tup_inv
      refine op_catA pins s σ H _ _ v u Q I rx ry ⟨a, b, vs, ws, rfl, rfl, SqT.of (sF _ _ ha), SqT.of (sF _ _ hb), ?_, fun z => ?_, fun _ z => ?_, fun _ _ => new_tup sF (ra.append rb) (by rw [List.length_append]; exact hz) q⟩
      · rw [ra.length, rb.length]; exact szOk hz
      · subst z
        cases ra
        exact old_v sF re q
      · subst z
        cases rb
        rw [List.append_nil] at q
        exact old_v sF rd q
    · cases eq
  · split at eq
    · cases eq
      rename_i hz
      obtain ⟨a, vs, rfl, ha, ra⟩ := rd.lst_inv
      obtain ⟨b, ws, rfl, hb, rb⟩ := re.lst_inv
      refine op_cat pins s σ H _ _ v u Q I rx ry ⟨a, b, vs, ws, rfl, rfl, sF _ _ ha, sF _ _ hb, ?_, new_lst sF (ra.append rb) (by rw [List.length_append]; exact hz) q⟩
      rw [ra.length, rb.length]; exact szOk hz
    · cases eq
  · cases eq
theorem o_sub : OpR X (binaryOp .Sub) (rOf X opSub) := by
  intro pins s σ H x y v u Q I rx ry h
  obtain ⟨F, d, e, r, sF, rd, re, eq, q⟩ := h
  unfold opSub at eq
  split at eq
  · cases eq
    exact op_sub pins s σ H x y v u Q I rx ry ⟨_, _, rd.int_inv, re.int_inv, old_v sF (.int _) q⟩
  · cases eq
theorem o_mul : OpR X (binaryOp .Mult) (rOf X opMul) := by
  intro pins s σ H x y v u Q I rx ry h
  obtain ⟨F, d, e, r, sF, rd, re, eq, q⟩ := h
  unfold opMul at eq
  split at eq
  · split at eq
    · cases eq
      rename_i hz
      rcases mulOk_of hz with hz | hz
      · exact op_mul pins s σ H x y v u Q I rx ry ⟨_, _, rd.int_inv, re.int_inv, hz, old_v sF (.int _) q⟩
      · exact op_mulW pins s σ H x y v u Q I rx ry ⟨_, _, rd.int_inv, re.int_inv, hz, old_v sF (.int _) q⟩
    · cases eq
  · rename_i xs k
    split at eq
    · cases eq
      rename_i hz
      obtain ⟨h0, h1, h2⟩ := hz
      obtain ⟨a, vs, rfl, ha, ra⟩ := rd.lst_inv
      refine op_rep pins s σ H _ y v u Q I rx ry ⟨a, k, vs, rfl, re.int_inv, sF _ _ ha, by omega, by omega, by rw [ra.length]; exact szOk h2, new_lst sF ?_ (by rw [List.length_flatten]; simpa [Nat.mul_comm] using h2) q⟩
      generalize k.toNat = n
      induction n with
      | zero => exact .nil
      | succ n ih =>
        rw [List.replicate_succ, List.replicate_succ, List.flatten_cons, List.flatten_cons]
        exact ra.append ih
    · cases eq
  · rename_i xs k
    split at eq
    · cases eq
      rename_i hz
      obtain ⟨h0, h1, h2, h3⟩ := hz
      obtain ⟨a, vs, rfl, ha, ra⟩ := rd.tup_inv
      have hl := ra.length
      refine op_repT pins s σ H _ y v u Q I rx ry ⟨a, k, vs, rfl, re.int_inv, .inl (.inl (sF _ _ ha)), fun z => h0 (by rw [z] at hl; exact hl.symm), h1, h2, by omega, new_tup sF ?_ (by
        rw [List.length_flatten]
        simp only [List.map_replicate, List.sum_replicate_nat]
        have : k.toNat ≤ 1000 := by omega
        exact Nat.le_trans (Nat.mul_le_mul this h3) (by decide)) q⟩
      generalize k.toNat = n
      induction n with
      | zero => exact .nil
      | succ n ih =>
        rw [List.replicate_succ, List.replicate_succ, List.flatten_cons, List.flatten_cons]
        exact ra.append ih
    · cases eq
  · cases eq
theorem o_div : OpR X (binaryOp .FloorDiv) (rOf X opDiv) := by
  intro pins s σ H x y v u Q I rx ry h
  obtain ⟨F, d, e, r, sF, rd, re, eq, q⟩ := h
  unfold opDiv at eq
  split at eq
  · rename_i i j
    split at eq
    · cases eq
      rename_i hz
      rcases of_decide_eq_true hz with h1 | h1
      · exact op_fdivN pins s σ H x y v u Q I rx ry ⟨_, _, rd.int_inv, re.int_inv, h1, old_v sF (.int _) q⟩
      · refine op_fdivW pins s σ H x y v u Q I rx ry ⟨_, _, rd.int_inv, re.int_inv, h1, ?_⟩
        rw [Int.fdiv_eq_ediv_of_nonneg i (by omega)] at q
        exact old_v sF (.int _) q
    · cases eq
  · cases eq
theorem o_mod : OpR X (binaryOp .Mod) (rOf X opMod) := by
  intro pins s σ H x y v u Q I rx ry h
  obtain ⟨F, d, e, r, sF, rd, re, eq, q⟩ := h
  unfold opMod at eq
  split at eq
  · split at eq
    · cases eq
      rename_i hz
      exact op_modN pins s σ H x y v u Q I rx ry ⟨_, _, rd.int_inv, re.int_inv, hz, old_v sF (.int _) q⟩
    · cases eq
  · cases eq
theorem o_pow : OpR X (binaryOp .Pow) (rOf X opPow) := by
  intro pins s σ H x y v u Q I rx ry h
  obtain ⟨F, d, e, r, sF, rd, re, eq, q⟩ := h
  unfold opPow at eq
  split at eq
  · split at eq
    · cases eq
      rename_i hz
      exact op_pow pins s σ H x y v u Q I rx ry ⟨_, _, rd.int_inv, re.int_inv, hz, old_v sF (.int _) q⟩
    · cases eq
  · cases eq
theorem dec_str' {x y : Str} : decide (V.str x = V.str y) = decide (x = y) := by
  rw [Bool.eq_iff_iff]
  simp
theorem o_eq (hu : X.A.units + 64 < cLine) : OpR X (compareOp .Eq) (rOf X opEq) := by
  intro pins s σ H x y v u Q I rx ry h
  obtain ⟨F, d, e, r, sF, rd, re, eq, q⟩ := h
  unfold opEq at eq
  split at eq
  · cases eq
    rename_i hz
    rw [Bool.and_eq_true] at hz
    exact op_eqD hu pins s σ H x y v u Q I rx ry ⟨_, _, rd.dpH sF hz.1, re.dpH sF hz.2, hz.1, hz.2, old_v sF (.bl _) q⟩
  · cases d <;> cases e <;> first | (cases eq; done) | skip
    cases eq
    obtain rfl := rd.str_inv
    obtain rfl := re.str_inv
    exact op_eq pins s σ H _ _ v u Q I rx ry ⟨rfl, by rw [dec_str']; exact old_v sF (.bl _) q⟩
theorem o_ne (hu : X.A.units + 64 < cLine) : OpR X (compareOp .NotEq) (rOf X opNe) := by
  intro pins s σ H x y v u Q I rx ry h
  obtain ⟨F, d, e, r, sF, rd, re, eq, q⟩ := h
  unfold opNe at eq
  split at eq
  · cases eq
    rename_i hz
    rw [Bool.and_eq_true] at hz
    exact op_neD hu pins s σ H x y v u Q I rx ry ⟨_, _, rd.dpH sF hz.1, re.dpH sF hz.2, hz.1, hz.2, old_v sF (.bl _) q⟩
  · cases d <;> cases e <;> first | (cases eq; done) | skip
    cases eq
    obtain rfl := rd.str_inv
    obtain rfl := re.str_inv
    exact op_ne pins s σ H _ _ v u Q I rx ry ⟨rfl, by rw [dec_str']; exact old_v sF (.bl _) q⟩
theorem al_facts {d e : D} (h : alD d e = true) : PySem.W.alike (toPy d) (toPy e) = true ∧ okD d = true ∧ okD e = true ∧ toPy d ≠ .none := by
  unfold alD at h
  rw [Bool.and_eq_true, Bool.and_eq_true, Bool.and_eq_true] at h
  obtain ⟨⟨⟨h1, h2⟩, h3⟩, h4⟩ := h
  refine ⟨h1, h2, h3, ?_⟩
  cases d <;> first | (simp at h4; done) | (simp [toPy]; done)
theorem al_room {A : Around} {d e : D} (h : okD d = true) (hu : A.units + 64 < cLine) : A.units + min (toPy d).depth (toPy e).depth < cLine := SeqAt.room_of_shaped h hu
theorem reads_of {pins : List (Addr × Obj)} {s : Shared} {σ : L2.St} {F H : Hp} {x : V} {v : Value} {d : D} (I : Inv X pins σ H s) (sF : Sub F H) (rd : Rep X.K X.mg F x d) (o : okD d = true) (rx : RelV x v) : ∃ as, Reads s.heap v (toPy d) as :=
  Dp.reads I (toPy d) x v (rd.dpH sF o) rx
theorem o_lt (hu : X.A.units + 64 < cLine) : OpR X (compareOp .Lt) (rOf X opLt) := by
  intro pins s σ H x y v u Q I rx ry h
  obtain ⟨F, d, e, r, sF, rd, re, eq, q⟩ := h
  unfold opLt at eq
  split at eq
  · cases eq
    rename_i hz
    obtain ⟨h1, h2, h3, h4⟩ := al_facts hz
    obtain ⟨as, ra⟩ := reads_of I sF rd h2 rx
    obtain ⟨bs, rb⟩ := reads_of I sF re h3 ry
    exact PySem.W.lt_data ra rb h1 h4 (al_room h2 hu) ⟨.bl _, H, I, rfl, old_v sF (.bl _) q⟩
  · cases eq
theorem o_gt (hu : X.A.units + 64 < cLine) : OpR X (compareOp .Gt) (rOf X opGt) := by
  intro pins s σ H x y v u Q I rx ry h
  obtain ⟨F, d, e, r, sF, rd, re, eq, q⟩ := h
  unfold opGt at eq
  split at eq
  · cases eq
    rename_i hz
    obtain ⟨h1, h2, h3, h4⟩ := al_facts hz
    obtain ⟨as, ra⟩ := reads_of I sF rd h2 rx
    obtain ⟨bs, rb⟩ := reads_of I sF re h3 ry
    exact PySem.W.gt_data ra rb h1 h4 (al_room h2 hu) ⟨.bl _, H, I, rfl, old_v sF (.bl _) q⟩
  · cases eq
theorem o_le (hu : X.A.units + 64 < cLine) : OpR X (compareOp .LtE) (rOf X opLe) := by
  intro pins s σ H x y v u Q I rx ry h
  obtain ⟨F, d, e, r, sF, rd, re, eq, q⟩ := h
  unfold opLe at eq
  split at eq
  · cases eq
    rename_i hz
    obtain ⟨h1, h2, h3, h4⟩ := al_facts hz
    obtain ⟨as, ra⟩ := reads_of I sF rd h2 rx
    obtain ⟨bs, rb⟩ := reads_of I sF re h3 ry
    exact PySem.W.le_data ra rb h1 h4 (al_room h2 hu) ⟨.bl _, H, I, rfl, old_v sF (.bl _) q⟩
  · cases eq
theorem o_ge (hu : X.A.units + 64 < cLine) : OpR X (compareOp .GtE) (rOf X opGe) := by
  intro pins s σ H x y v u Q I rx ry h
  obtain ⟨F, d, e, r, sF, rd, re, eq, q⟩ := h
  unfold opGe at eq
  split at eq
  · cases eq
    rename_i hz
    obtain ⟨h1, h2, h3, h4⟩ := al_facts hz
    obtain ⟨as, ra⟩ := reads_of I sF rd h2 rx
    obtain ⟨bs, rb⟩ := reads_of I sF re h3 ry
    exact PySem.W.ge_data ra rb h1 h4 (al_room h2 hu) ⟨.bl _, H, I, rfl, old_v sF (.bl _) q⟩
  · cases eq
theorem Rep.isNon {K : K'} {mg : Mg} {F : Hp} {v : V} {d : D} (r : Rep K mg F v d) : decide (v = V.non) = P5.isNon d := by
  cases r <;> first | rfl | (simp [P5.isNon])
theorem o_isN : OpR X (compareOp .Is) (rOf X opIsN) := by
  intro pins s σ H x y v u Q I rx ry h
  obtain ⟨F, d, e, r, sF, rd, re, eq, q⟩ := h
  have e1 : e = .non := by
    cases e <;> first | rfl | (simp [opIsN, isNon] at eq; done)
  subst e1
  cases eq
  refine op_isN pins s σ H x y v u Q I rx ry ⟨re.non_inv, ?_⟩
  rw [rd.isNon]
  exact old_v sF (.bl _) q
theorem o_notN : OpR X (compareOp .IsNot) (rOf X opNotN) := by
  intro pins s σ H x y v u Q I rx ry h
  obtain ⟨F, d, e, r, sF, rd, re, eq, q⟩ := h
  have e1 : e = .non := by
    cases e <;> first | rfl | (simp [opNotN, isNon] at eq; done)
  subst e1
  cases eq
  refine op_notN pins s σ H x y v u Q I rx ry ⟨re.non_inv, ?_⟩
  rw [rd.isNon]
  exact old_v sF (.bl _) q
end
end P5

namespace P5
open PySem L2 PyProof.Rows
variable [Tb]

mutual
def keyEq : D → D → Bool
  | .int i, .int j => decide (i = j)
  | .str x, .str y => decide (x = y)
  | .tup xs, .tup ys => keyEqL xs ys
  | _, _ => false
def keyEqL : List D → List D → Bool
  | [], [] => true
  | x :: xs, y :: ys => keyEq x y && keyEqL xs ys
  | _, _ => false
end
def lookD (kvs : List (D × D)) (k : D) : Option D := (kvs.find? fun p => keyEq p.1 k).map (·.2)
def flatKey : D → Bool
  | .int _ => true
  | .str _ => true
  | _ => false
def keyOk : Nat → D → Bool
  | 0, d => flatKey d
  | 1, .tup ds => ds.all flatKey
  | _, _ => false
def keyD : L2.Key → D
  | .inl i => .int i
  | .inr x => .str x
section
variable {K : K'} {mg : Mg} {F : Hp}
theorem keyD_inv {k : L2.Key} {d : D} (r : Rep K mg F (kV k) d) : d = keyD k := by
  cases k with
  | inl i => cases r; rfl
  | inr x => cases r; rfl
theorem keysD_inv : ∀ {k : List L2.Key} {d : List D}, RepL K mg F (k.map kV) d → d = k.map keyD
  | [], _, .nil => rfl
  | k :: ks, _, .cons h r => by rw [keyD_inv h, keysD_inv r]; rfl
theorem keyD_of {v : V} {d : D} (r : Rep K mg F v d) (h : flatKey d = true) : ∃ k, v = kV k ∧ d = keyD k := by
  cases r <;> first | (simp [flatKey] at h; done) | skip
  · exact ⟨.inl _, rfl, rfl⟩
  · exact ⟨.inr _, rfl, rfl⟩
theorem keysD_of : ∀ {vs : List V} {ds : List D}, RepL K mg F vs ds → ds.all flatKey = true → ∃ k : List L2.Key, vs = k.map kV ∧ ds = k.map keyD
  | _, _, .nil, _ => ⟨[], rfl, rfl⟩
  | _, _, .cons h r, q => by
    rw [List.all_cons, Bool.and_eq_true] at q
    obtain ⟨k, e1, e2⟩ := keyD_of h q.1
    obtain ⟨ks, e3, e4⟩ := keysD_of r q.2
    exact ⟨k :: ks, by rw [e1, e3]; rfl, by rw [e2, e4]; rfl⟩
theorem keyEq_key (a b : L2.Key) : keyEq (keyD a) (keyD b) = decide (a = b) := by
  cases a <;> cases b <;> simp [keyD, keyEq]
theorem keyEq_keys : ∀ a b : List L2.Key, keyEqL (a.map keyD) (b.map keyD) = decide (a = b)
  | [], [] => by simp [keyEqL]
  | [], _ :: _ => by simp [keyEqL]
  | _ :: _, [] => by simp [keyEqL]
  | x :: xs, y :: ys => by
    rw [List.map_cons, List.map_cons, keyEqL, keyEq_key, keyEq_keys xs ys]
    simp
theorem RepK.look (k : L2.Key) : ∀ {kvs : List (L2.Key × V)} {ds : List (D × D)}, RepK K mg F kvs ds → (valV kvs k = none ∧ lookD ds (keyD k) = none) ∨ ∃ v d, valV kvs k = some v ∧ lookD ds (keyD k) = some d ∧ Rep K mg F v d
  | _, _, .nil => .inl ⟨rfl, rfl⟩
  | _, _, .consI (i := i) (v := v) (d := d) h r => by
    have e := keyEq_key (.inl i) k
    by_cases c : (Sum.inl i : L2.Key) = k
    · rw [decide_eq_true c] at e
      refine .inr ⟨v, d, valV_pos c, ?_, h⟩
      unfold lookD
      rw [List.find?_cons, show keyEq (.int i) (keyD k) = true from e]
      rfl
    · rw [decide_eq_false c] at e
      rw [valV_neg c]
      have e2 : ∀ l : List (D × D), lookD ((.int i, d) :: l) (keyD k) = lookD l (keyD k) := fun l => by
        unfold lookD
        rw [List.find?_cons, show keyEq (.int i) (keyD k) = false from e]
      rw [e2]
      exact RepK.look k r
  | _, _, .consS (x := x) (v := v) (d := d) h r => by
    have e := keyEq_key (.inr x) k
    by_cases c : (Sum.inr x : L2.Key) = k
    · rw [decide_eq_true c] at e
      refine .inr ⟨v, d, valV_pos c, ?_, h⟩
      unfold lookD
      rw [List.find?_cons, show keyEq (.str x) (keyD k) = true from e]
      rfl
    · rw [decide_eq_false c] at e
      rw [valV_neg c]
      have e2 : ∀ l : List (D × D), lookD ((.str x, d) :: l) (keyD k) = lookD l (keyD k) := fun l => by
        unfold lookD
        rw [List.find?_cons, show keyEq (.str x) (keyD k) = false from e]
      rw [e2]
      exact RepK.look k r
theorem RepT.look (k : List L2.Key) : ∀ {kvs : List (List L2.Key × V)} {ds : List (D × D)}, RepT K mg F kvs ds → (valV kvs k = none ∧ lookD ds (.tup (k.map keyD)) = none) ∨ ∃ v d, valV kvs k = some v ∧ lookD ds (.tup (k.map keyD)) = some d ∧ Rep K mg F v d
  | _, _, .nil => .inl ⟨rfl, rfl⟩
  | _, _, .cons (k := j) (kd := kd) (v := v) (d := d) hk h r => by
    have ek := keysD_inv hk
    subst ek
    have e := keyEq_keys j k
    by_cases c : j = k
    · rw [decide_eq_true c] at e
      refine .inr ⟨v, d, valV_pos c, ?_, h⟩
      unfold lookD
      rw [List.find?_cons, show keyEq (.tup (j.map keyD)) (.tup (k.map keyD)) = true from e]
      rfl
    · rw [decide_eq_false c] at e
      rw [valV_neg c]
      have e2 : ∀ l : List (D × D), lookD ((.tup (j.map keyD), d) :: l) (.tup (k.map keyD)) = lookD l (.tup (k.map keyD)) := fun l => by
        unfold lookD
        rw [List.find?_cons, show keyEq (.tup (j.map keyD)) (.tup (k.map keyD)) = false from e]
      rw [e2]
      exact RepT.look k r
theorem Rep.dget {H : Hp} {x y : V} {n : Nat} {kvs : List (D × D)} {k : D} (sF : Sub F H) (rd : Rep K mg F x (.dct n kvs)) (rk : Rep K mg F y k) (ok : keyOk n k = true) :
    ∃ a, x = .ref a ∧ ((lookD kvs k = none ∧ DGet H a y none) ∨ ∃ v d, lookD kvs k = some d ∧ DGet H a y (some v) ∧ Rep K mg F v d) := by
  cases rd with
  | dctK ha r _ =>
    obtain ⟨j, e1, e2⟩ := keyD_of rk ok
    subst e1 e2
    refine ⟨_, rfl, ?_⟩
    have g := DGet.k (k := j) (sF _ _ ha)
    rcases r.look j with ⟨h1, h2⟩ | ⟨v, d, h1, h2, h3⟩
    · rw [h1] at g
      exact .inl ⟨h2, g⟩
    · rw [h1] at g
      exact .inr ⟨v, d, h2, g, h3⟩
  | dctT ha r _ =>
    cases rk with
    | tup hb rb _ =>
      obtain ⟨j, e1, e2⟩ := keysD_of rb ok
      subst e1 e2
      refine ⟨_, rfl, ?_⟩
      have g := DGet.t (k := j) (sF _ _ ha) (sF _ _ hb)
      rcases r.look j with ⟨h1, h2⟩ | ⟨v, d, h1, h2, h3⟩
      · rw [h1] at g
        exact .inl ⟨h2, g⟩
      · rw [h1] at g
        exact .inr ⟨v, d, h2, g, h3⟩
    | _ => simp [keyOk] at ok
end

def opIx : D → D → Option D
  | .tup xs, .int i => atI xs i
  | .ktup xs, .int i => atI xs i
  | .lst xs, .int i => atI xs i
  | .scr ns, .int i => (atI ns i).map D.int
  | .str z, .int i => if z.length ≤ 16777216 then (atI z.cps.toList i).map (fun c => D.str ⟨#[c]⟩) else none
  | .dct n kvs, k => if keyOk n k then lookD kvs k else none
  | _, _ => none
theorem RepL.atI {K : K'} {mg : Mg} {F : Hp} {vs : List V} {ds : List D} {i : Int} {d : D} (r : RepL K mg F vs ds) (h : L2.atI ds i = some d) : ∃ v, L2.atI vs i = some v ∧ Rep K mg F v d := by
  unfold L2.atI at h ⊢
  rw [r.length]
  cases e : ixN ds.length i with
  | none =>
    rw [e] at h
    cases h
  | some j =>
    rw [e] at h
    exact r.get h
section
variable {X : Cx} {W : WX} {a b : Expr} {f g : EM} {pos : Pos}
theorem IxR_list {x y : V} {H : Hp} {Q : VK} (h : rIxL X.K x y H Q ∨ rIxT X.K x y H Q ∨ rIxS x y H Q) : rIx X.K x y H Q := h
theorem i_ix (hu : X.A.units + 1 < cLine) : IxR X (rOf X opIx) := by
  intro value slice pins s σ H x y v u Q I rx ry h hs
  obtain ⟨F, d, e, r, sF, rd, re, eq, q⟩ := h
  unfold opIx at eq
  split at eq
  · obtain ⟨p, vs, rfl, hp, rp⟩ := rd.tup_inv
    obtain ⟨z, hz, rz⟩ := rp.atI eq
    exact ix_seq value slice pins s σ H _ y v u Q I rx ry (.inr (.inl ⟨p, vs, _, z, rfl, re.int_inv, SqT.of (sF _ _ hp), hz, old_v sF rz q⟩)) hs
  · cases rd with
    | ktup hp rp _ =>
      obtain ⟨z, hz, rz⟩ := rp.atI eq
      exact ix_seq value slice pins s σ H _ y v u Q I rx ry (.inr (.inl ⟨_, _, _, z, rfl, re.int_inv, seqT sF.s hp, hz, old_v sF rz q⟩)) hs
  · obtain ⟨p, vs, rfl, hp, rp⟩ := rd.lst_inv
    obtain ⟨z, hz, rz⟩ := rp.atI eq
    exact ix_seq value slice pins s σ H _ y v u Q I rx ry (.inl ⟨p, vs, _, z, rfl, re.int_inv, SqL.of (sF _ _ hp), hz, old_v sF rz q⟩) hs
  · rename_i ns i
    obtain ⟨p, rfl, hp⟩ := rd.scr_inv
    cases ei : L2.atI ns i with
    | none =>
      rw [ei] at eq
      cases eq
    | some n =>
      rw [ei] at eq
      cases eq
      have e2 : L2.atI (ns.map V.int) i = some (.int n) := by
        unfold L2.atI at ei ⊢
        rw [List.length_map]
        cases e : ixN ns.length i with
        | none =>
          rw [e] at ei
          cases ei
        | some j =>
          rw [e] at ei
          show (ns.map V.int)[j]? = _
          rw [List.getElem?_map, show ns[j]? = some n from ei]
          rfl
      exact ix_seq value slice pins s σ H _ y v u Q I rx ry (.inl ⟨p, _, _, _, rfl, re.int_inv, sF.seq hp, e2, old_v sF (.int n) q⟩) hs
  · rename_i z i
    split at eq
    · rename_i hz
      cases ei : L2.atI z.cps.toList i with
      | none =>
        rw [ei] at eq
        cases eq
      | some c =>
        rw [ei] at eq
        cases eq
        exact ix_seq value slice pins s σ H x y v u Q I rx ry (.inr (.inr ⟨z, i, c, rd.str_inv, re.int_inv, szOk hz, ei, old_v sF (.str _) q⟩)) hs
    · cases eq
  · rename_i n kvs
    split at eq
    · rename_i ok
      obtain ⟨p, rfl, g⟩ := rd.dget sF re ok
      rcases g with ⟨e1, _⟩ | ⟨w, d, e1, g, rw'⟩
      · rw [e1] at eq
        cases eq
      · rw [e1] at eq
        cases eq
        cases rx
        exact tail_any (dict_typeIs I g) PySem.F.slot_dict_getitem.lookup (d_getItem hu I g ry fun w' s3 I3 r3 => ⟨w, H, I3, r3, old_v sF rw' q⟩) hs
    · cases eq
  · cases eq
theorem u_ix (hu : X.A.units + 1 < cLine) (ha : PuE X W a f) (hb : PuE X W b g) (hs : PlainIx b := by exact fun _ _ => rfl) : PuE X W (.Subscript a b pos) (dBin opIx f g) :=
  PE_imp (pe_ix (i_ix hu) ha hb hs) fun _ _ _ h => two_of h
end

def cutD {α : Type} (xs : List α) (lo hi : Option Int) : List α := (xs.drop (HT.sIx xs.length 0 lo)).take (HT.sIx xs.length xs.length hi - HT.sIx xs.length 0 lo)
theorem cutD_V (xs : List V) (lo hi : Option Int) : cutV xs lo hi = cutD xs lo hi := rfl
theorem RepL.cut {K : K'} {mg : Mg} {F : Hp} {vs : List V} {ds : List D} (r : RepL K mg F vs ds) (lo hi : Option Int) : RepL K mg F (cutD vs lo hi) (cutD ds lo hi) := by
  unfold cutD
  rw [r.length]
  exact (r.drop _).take _
def opSl (d : D) (lo hi : Option Int) : Option D := match d with
  | .tup xs => some (.tup (cutD xs lo hi))
  | .lst xs => some (.lst (cutD xs lo hi))
  | .scr ns => some (.lst ((cutD ns lo hi).map D.int))
  | .str z => if z.length ≤ 16777216 then some (.str (cutS z lo hi)) else none
  | _ => none
def rSlO (X : Cx) : V → Option Int → Option Int → Hp → VK → Prop := fun x lo hi H Q => ∃ F d r, Sub F H ∧ Rep X.K X.mg F x d ∧ opSl d lo hi = some r ∧ VW X F H Q r
theorem cutD_map {α β : Type} (f : α → β) (xs : List α) (lo hi : Option Int) : cutD (xs.map f) lo hi = (cutD xs lo hi).map f := by
  unfold cutD
  rw [List.length_map, List.map_take, List.map_drop]
theorem cutD_all {α : Type} {xs : List α} {lo hi : Option Int} (h : HT.sIx xs.length 0 lo = 0 ∧ HT.sIx xs.length xs.length hi = xs.length) : cutD xs lo hi = xs := by
  unfold cutD
  rw [h.1, h.2, List.drop_zero, Nat.sub_zero, List.take_length]
theorem cutD_le {α : Type} {xs : List α} {lo hi : Option Int} {n : Nat} (h : xs.length ≤ n) : (cutD xs lo hi).length ≤ n := by
  unfold cutD
  rw [List.length_take, List.length_drop]
  omega
section
variable {X : Cx} {W : WX} {e : Expr} {f : EM} {pos p2 : Pos}
theorem SlR_imp {r r' : V → Option Int → Option Int → Hp → VK → Prop} (h : SlR X r) (i : ∀ x lo hi H Q, r' x lo hi H Q → r x lo hi H Q) : SlR X r' :=
  fun pins s σ H x v vl vu lo hi sl Q I rx hs pl pu q => h pins s σ H x v vl vu lo hi sl Q I rx hs pl pu (i x lo hi H Q q)
theorem s_sl : SlR X (rSlO X) := by
  refine SlR_imp ((sl_tupA (X := X)).or (sl_list.or sl_str)) fun x lo hi H Q h => ?_
  obtain ⟨F, d, r, sF, rd, eq, q⟩ := h
  unfold opSl at eq
  split at eq
  · cases eq
    obtain ⟨p, vs, rfl, hp, rp⟩ := rd.tup_inv
    refine .inl ⟨p, vs, rfl, SqT.of (sF _ _ hp), fun z => ?_, fun _ => new_tup sF (rp.cut lo hi) (cutD_le rd.sz) q⟩
    rw [rp.length] at z
    rw [cutD_all z] at q
    exact old_v sF rd q
  · cases eq
    obtain ⟨p, vs, rfl, hp, rp⟩ := rd.lst_inv
    exact .inr (.inl ⟨p, vs, rfl, SqL.of (sF _ _ hp), new_lst sF (rp.cut lo hi) (cutD_le rd.sz) q⟩)
  · cases eq
    obtain ⟨p, rfl, hp⟩ := rd.scr_inv
    refine .inr (.inl ⟨p, _, rfl, sF.seq hp, ?_⟩)
    rw [cutD_V, cutD_map]
    exact new_lst sF (RepL.ints _) (by rw [List.length_map]; exact cutD_le rd.sz) q
  · split at eq
    · rename_i hz
      cases eq
      exact .inr (.inr ⟨_, rd.str_inv, szOk hz, old_v sF (.str _) q⟩)
    · cases eq
  · cases eq
def TOo (X : Cx) (W : WX) (f : Env' → M (Option Int)) : L2.St → Hp → (Option Int → Hp → Prop) → Prop := fun σ H Q => ∃ F ρ, Sub F H ∧ ER X.K X.mg F σ ρ ∧
  (f ρ).wp (fun o => ∀ F' H', Grow F H F' H' → Q o H') (EW X W F H σ)
def PuO (X : Cx) (W : WX) (e : Option Expr) (f : Env' → M (Option Int)) : Prop := PO X e (TOo X W f)
theorem PO_imp {e : Option Expr} {t t' : L2.St → Hp → (Option Int → Hp → Prop) → Prop} (h : PO X e t) (i : ∀ σ H Q, t' σ H Q → t σ H Q) : PO X e t' := ⟨fun pins s σ H Q I q => h.run pins s σ H Q I (i σ H Q q)⟩
def dNone : Env' → M (Option Int) := fun _ => pure none
def asI : D → Option Int
  | .int i => some i
  | _ => none
def dSome (f : EM) : Env' → M (Option Int) := fun ρ => f ρ >>= fun d => M.opt (asI d) >>= fun i => pure (some i)
theorem so_none : PuO X W none dNone := PO_imp po_none fun σ H Q ⟨F, ρ, sF, er, h⟩ => h F H (Grow.refl sF)
theorem so_some (he : PuE X W e f) : PuO X W (some e) (dSome f) := PO_imp (po_some he) fun σ H Q ⟨F, ρ, sF, er, h⟩ => by
  refine TEo.bind sF er h fun d v F' H' g r h' => ?_
  obtain ⟨i, e1, q⟩ := wp_opt h'
  cases d with
  | int j =>
    cases e1
    exact ⟨_, r.int_inv, q F' H' g⟩
  | _ => cases e1
def dSl (f : EM) (lo hi : Env' → M (Option Int)) : EM := fun ρ => f ρ >>= fun d => lo ρ >>= fun l => hi ρ >>= fun h => M.opt (opSl d l h)
theorem u_sl {lo hi : Option Expr} {fl fh : Env' → M (Option Int)} (he : PuE X W e f) (hl : PuO X W lo fl) (hh : PuO X W hi fh) : PuE X W (.Subscript e (.Slice lo hi none p2) pos) (dSl f fl fh) := by
  refine PE_imp (pe_slice s_sl he hl hh) fun σ H Q ⟨F, ρ, sF, er, h⟩ => ?_
  refine TEo.bind sF er h fun d v F1 H1 g1 r1 h1 => ?_
  refine ⟨F1, ρ, g1.sub, er.grow g1.fs, (fl ρ).mono (fun l h2 F2 H2 g2 => ?_) (fun _ z => z.grow g1) h1⟩
  refine ⟨F2, ρ, g2.sub, er.grow (g1.trans g2).fs, (fh ρ).mono (fun u h3 F3 H3 g3 => ?_) (fun _ z => z.grow (g1.trans g2)) h2⟩
  obtain ⟨r, e1, q⟩ := wp_opt h3
  exact ⟨F3, d, r, g3.sub, r1.grow (g2.trans g3).fs, e1, q.grow ((g1.trans g2).trans g3)⟩
end

def itemsD : D → Option (List D)
  | .tup xs => some xs
  | .ktup xs => some xs
  | .lst xs => some xs
  | .scr ns => some (ns.map D.int)
  | _ => none
def dNil : Env' → M (List D) := fun _ => pure []
def dCons (f : EM) (g : Env' → M (List D)) : Env' → M (List D) := fun ρ => f ρ >>= fun d => g ρ >>= fun ds => pure (d :: ds)
def dStar (f : EM) (g : Env' → M (List D)) : Env' → M (List D) := fun ρ => f ρ >>= fun d => M.opt (itemsD d) >>= fun xs => g ρ >>= fun ds => pure (xs ++ ds)
def mkTup (ds : List D) : Option D := if ds.length ≤ 16777216 then some (.tup ds) else none
def mkLst (ds : List D) : Option D := if ds.length ≤ 16777216 then some (.lst ds) else none
def dTup (g : Env' → M (List D)) : EM := fun ρ => g ρ >>= fun ds => M.opt (mkTup ds)
def dLst (g : Env' → M (List D)) : EM := fun ρ => g ρ >>= fun ds => M.opt (mkLst ds)
section
variable {X : Cx} {W : WX} {e : Expr} {es : List Expr} {f : EM} {g : Env' → M (List D)} {pos p : Pos}
theorem a_nil : PuA X W [] dNil := PA_imp pa_nil fun σ H Q ⟨F, ρ, sF, er, h⟩ => h [] F H (Grow.refl sF) .nil
theorem a_cons (he : PuE X W e f) (hr : PuA X W es g) (hs : starEach (e :: es) X.env = (false, eval e X.env) :: starEach es X.env := by rfl) : PuA X W (e :: es) (dCons f g) := by
  refine PA_imp (pa_cons he hr hs) fun σ H Q ⟨F, ρ, sF, er, h⟩ => ?_
  refine TEo.bind sF er h fun d v F1 H1 g1 r1 h1 => ?_
  refine ⟨F1, ρ, g1.sub, er.grow g1.fs, (g ρ).mono (fun ds h2 vs F2 H2 g2 r2 => ?_) (fun _ z => z.grow g1) h1⟩
  exact h2 _ F2 H2 (g1.trans g2) (.cons (r1.grow g2.fs) r2)
theorem Rep.items {K : K'} {mg : Mg} {F H : Hp} {v : V} {d : D} {xs : List D} (sF : Sub F H) (r : Rep K mg F v d) (h : itemsD d = some xs) : ∃ a vs, v = .ref a ∧ (SqT K H a vs ∨ SqL K H a vs) ∧ RepL K mg F vs xs := by
  cases r <;> first | (cases h; done) | skip
  · cases h
    rename_i ha ra _
    exact ⟨_, _, rfl, .inl (SqT.of (sF _ _ ha)), ra⟩
  · cases h
    rename_i ha ra _
    exact ⟨_, _, rfl, .inl (seqT sF.s ha), ra⟩
  · cases h
    rename_i ha ra _
    exact ⟨_, _, rfl, .inr (SqL.of (sF _ _ ha)), ra⟩
  · cases h
    rename_i ha _
    exact ⟨_, _, rfl, .inr (sF.seq ha), RepL.ints _⟩
theorem a_star (he : PuE X W e f) (hr : PuA X W es g) (hs : starEach (.Starred e p :: es) X.env = (true, eval e X.env) :: starEach es X.env := by rfl) : PuA X W (.Starred e p :: es) (dStar f g) := by
  refine PA_imp (StX.pa_star he hr hs) fun σ H Q ⟨F, ρ, sF, er, h⟩ => ?_
  refine TEo.bind sF er h fun d v F1 H1 g1 r1 h1 => ?_
  obtain ⟨xs, e1, h1⟩ := wp_opt h1
  obtain ⟨a, vs, rfl, ha, ra⟩ := r1.items g1.sub e1
  refine ⟨a, vs, rfl, ha, F1, ρ, g1.sub, er.grow g1.fs, (g ρ).mono (fun ds h2 ws F2 H2 g2 r2 => ?_) (fun _ z => z.grow g1) h1⟩
  exact h2 _ F2 H2 (g1.trans g2) ((ra.grow g2.fs).append r2)
theorem u_tup {k} (h : PuA X W es g) : PuE X W (.Tuple es k pos) (dTup g) := by
  refine PE_imp (pe_tup h) fun σ H Q ⟨F, ρ, sF, er, h⟩ => ?_
  refine TAo.bind sF er h fun ds vs F1 H1 g1 r1 h1 => ?_
  obtain ⟨r, e1, q⟩ := wp_opt h1
  unfold mkTup at e1
  split at e1
  · cases e1
    rename_i hz
    exact ⟨by rw [r1.length]; exact szOk hz, new_tup g1.sub r1 hz (q.grow g1)⟩
  · cases e1
theorem u_lst (h : PuA X W es g) : PuE X W (.List es pos) (dLst g) := by
  refine PE_imp (pe_lst h) fun σ H Q ⟨F, ρ, sF, er, h⟩ => ?_
  refine TAo.bind sF er h fun ds vs F1 H1 g1 r1 h1 => ?_
  obtain ⟨r, e1, q⟩ := wp_opt h1
  unfold mkLst at e1
  split at e1
  · cases e1
    rename_i hz
    exact ⟨by rw [r1.length]; exact szOk hz, new_lst g1.sub r1 hz (q.grow g1)⟩
  · cases e1
end

def cOf (X : Cx) (op : List D → Option D) : List V → Hp → VK → Prop := fun vs H Q => ∃ F ds r, Sub F H ∧ RepL X.K X.mg F vs ds ∧ op ds = some r ∧ VW X F H Q r
def dCall (op : List D → Option D) (g : Env' → M (List D)) : EM := fun ρ => g ρ >>= fun ds => M.opt (op ds)
section
variable {X : Cx} {W : WX} {e : Expr} {es : List Expr} {g : Env' → M (List D)} {pos p : Pos} {op : List D → Option D} {x : Str}
theorem call_of {σ : L2.St} {H : Hp} {Q : VK} (h : TEo X W (dCall op g) σ H Q) : tCB (cOf X op) (TAo X W g) σ H Q := by
  obtain ⟨F, ρ, sF, er, h⟩ := h
  refine TAo.bind sF er h fun ds vs F1 H1 g1 r1 h1 => ?_
  obtain ⟨r, e1, q⟩ := wp_opt h1
  exact ⟨F1, ds, r, g1.sub, r1, e1, q.grow g1⟩
theorem u_callB {id : String} (hc : CallR X (.builtin id) (cOf X op)) (hg : Gl X x) (hm : X.mg x = none) (hv : bootBuiltins x = some (.builtin id)) (ha : PuA X W (e :: es) g) (hn : x ≠ "__name__" := by decide) (hdb : (x == ("__debug__" : Str)) = false := by decide)
    (he : starEach (e :: es) X.env = (false, eval e X.env) :: starEach es X.env := by rfl) (hpl : (backTo pos (starEach es X.env)).any (·.1) = false := by rfl) : PuE X W (.Call (.Name x p) (e :: es) [] pos) (dCall op g) :=
  PE_imp (pe_callB hc hg hm hv ha hn hdb he hpl) fun _ _ _ h => call_of h
theorem u_callTy {T : String} (hc : CallR X (.type T) (cOf X op)) (hg : Gl X x) (hm : X.mg x = none) (hv : bootBuiltins x = some (.type T)) (ha : PuA X W (e :: es) g) (hn : x ≠ "__name__" := by decide) (hdb : (x == ("__debug__" : Str)) = false := by decide)
    (he : starEach (e :: es) X.env = (false, eval e X.env) :: starEach es X.env := by rfl) (hpl : (backTo pos (starEach es X.env)).any (·.1) = false := by rfl) : PuE X W (.Call (.Name x p) (e :: es) [] pos) (dCall op g) :=
  PE_imp (pe_callTy hc hg hm hv ha hn hdb he hpl) fun _ _ _ h => call_of h
end
end P5

namespace P5
open PySem L2 PyProof.Rows
variable [Tb]

def opLen : List D → Option D
  | [.tup xs] => some (.int xs.length)
  | [.ktup xs] => some (.int xs.length)
  | [.lst xs] => some (.int xs.length)
  | [.scr ns] => some (.int ns.length)
  | [.str x] => if x.length ≤ 16777216 then some (.int x.length) else none
  | [.dct _ kvs] => some (.int kvs.length)
  | _ => none
def opInt : List D → Option D
  | [.int i] => some (.int i)
  | [.bl b] => some (.int (if b then 1 else 0))
  | _ => none
def opAbs : List D → Option D
  | [.int i] => some (.int (if i < 0 then -i else i))
  | _ => none
def opTuple : List D → Option D
  | [.tup xs] => some (.tup xs)
  | [.ktup xs] => some (.ktup xs)
  | [.lst xs] => some (.tup xs)
  | [.scr ns] => some (.tup (ns.map D.int))
  | _ => none
def opList : List D → Option D
  | [.tup xs] => some (.lst xs)
  | [.ktup xs] => some (.lst xs)
  | [.lst xs] => some (.lst xs)
  | [.scr ns] => some (.lst (ns.map D.int))
  | _ => none
def asInts : List D → Option (List Int)
  | [] => some []
  | .int i :: r => (asInts r).map (i :: ·)
  | _ :: _ => none
def asBools : List D → Option (List Bool)
  | [] => some []
  | .bl i :: r => (asBools r).map (i :: ·)
  | _ :: _ => none
def opSum : List D → Option D
  | [.lst xs] => (asInts xs).map fun ns => .int ns.sum
  | _ => none
def opAll : List D → Option D
  | [.lst xs] => (asBools xs).map fun ns => .bl (ns.all id)
  | _ => none
def opAny : List D → Option D
  | [.lst xs] => (asBools xs).map fun ns => .bl (ns.any id)
  | _ => none
def opMin2 : List D → Option D
  | [.int i, .int j] => some (.int (if j < i then j else i))
  | _ => none
def opMax2 : List D → Option D
  | [.int i, .int j] => some (.int (if j > i then j else i))
  | _ => none
theorem asInts_of {K : K'} {mg : Mg} {F : Hp} : ∀ {vs : List V} {ds : List D} {ns : List Int}, RepL K mg F vs ds → asInts ds = some ns → vs = ns.map V.int
  | _, _, _, .nil, h => by
    cases h
    rfl
  | _, d :: ds, ns, .cons r rs, h => by
    cases d <;> first | (cases h; done) | skip
    rename_i i
    rw [asInts] at h
    cases e : asInts ds with
    | none =>
      rw [e] at h
      cases h
    | some ms =>
      rw [e] at h
      cases h
      rw [r.int_inv, asInts_of rs e]
      rfl
theorem asBools_of {K : K'} {mg : Mg} {F : Hp} : ∀ {vs : List V} {ds : List D} {ns : List Bool}, RepL K mg F vs ds → asBools ds = some ns → vs = ns.map V.bl
  | _, _, _, .nil, h => by
    cases h
    rfl
  | _, d :: ds, ns, .cons r rs, h => by
    cases d <;> first | (cases h; done) | skip
    rename_i i
    rw [asBools] at h
    cases e : asBools ds with
    | none =>
      rw [e] at h
      cases h
    | some ms =>
      rw [e] at h
      cases h
      rw [r.bl_inv, asBools_of rs e]
      rfl
theorem RepL.one {K : K'} {mg : Mg} {F : Hp} {vs : List V} {d : D} (r : RepL K mg F vs [d]) : ∃ v, vs = [v] ∧ Rep K mg F v d := by
  cases r with
  | cons h t =>
    cases t
    exact ⟨_, rfl, h⟩
theorem RepL.two {K : K'} {mg : Mg} {F : Hp} {vs : List V} {d e : D} (r : RepL K mg F vs [d, e]) : ∃ v w, vs = [v, w] ∧ Rep K mg F v d ∧ Rep K mg F w e := by
  cases r with
  | cons h t =>
    obtain ⟨w, rfl, h2⟩ := t.one
    exact ⟨_, w, rfl, h, h2⟩
section
variable {X : Cx}
theorem CallR_imp {f : Value} {r r' : List V → Hp → VK → Prop} (h : CallR X f r) (i : ∀ vs H Q, r' vs H Q → r vs H Q) : CallR X f r' := fun pins s σ H vs us Q I rv q => h pins s σ H vs us Q I rv (i vs H Q q)
theorem CallR_or {f : Value} {r r' : List V → Hp → VK → Prop} (h : CallR X f r) (h' : CallR X f r') : CallR X f (fun vs H Q => r vs H Q ∨ r' vs H Q) := fun pins s σ H vs us Q I rv q => by
  rcases q with q | q
  · exact h pins s σ H vs us Q I rv q
  · exact h' pins s σ H vs us Q I rv q
theorem RepK.length {K : K'} {mg : Mg} {F : Hp} : ∀ {kvs : List (L2.Key × V)} {ds : List (D × D)}, RepK K mg F kvs ds → kvs.length = ds.length
  | _, _, .nil => rfl
  | _, _, .consI _ r => by rw [List.length_cons, List.length_cons, RepK.length r]
  | _, _, .consS _ r => by rw [List.length_cons, List.length_cons, RepK.length r]
theorem RepT.length {K : K'} {mg : Mg} {F : Hp} : ∀ {kvs : List (List L2.Key × V)} {ds : List (D × D)}, RepT K mg F kvs ds → kvs.length = ds.length
  | _, _, .nil => rfl
  | _, _, .cons _ _ r => by rw [List.length_cons, List.length_cons, RepT.length r]
theorem c_len : CallR X (.builtin "len") (cOf X opLen) := by
  refine CallR_imp (CallR_or call_len_seq (CallR_or call_len_str (CallR_or call_lenD call_len_dT))) fun vs H Q h => ?_
  obtain ⟨F, ds, r, sF, rd, eq, q⟩ := h
  unfold opLen at eq
  split at eq
  · cases eq
    obtain ⟨v, rfl, rv⟩ := rd.one
    obtain ⟨a, xs, rfl, ha, ra⟩ := rv.tup_inv
    refine .inl ⟨a, xs, rfl, .inr (SqT.of (sF _ _ ha)), ?_⟩
    rw [ra.length]
    exact old_v sF (.int _) q
  · cases eq
    obtain ⟨v, rfl, rv⟩ := rd.one
    cases rv with
    | ktup ha ra _ =>
      refine .inl ⟨_, _, rfl, .inr (seqT sF.s ha), ?_⟩
      rw [ra.length]
      exact old_v sF (.int _) q
  · cases eq
    obtain ⟨v, rfl, rv⟩ := rd.one
    obtain ⟨a, xs, rfl, ha, ra⟩ := rv.lst_inv
    refine .inl ⟨a, xs, rfl, .inl (SqL.of (sF _ _ ha)), ?_⟩
    rw [ra.length]
    exact old_v sF (.int _) q
  · cases eq
    obtain ⟨v, rfl, rv⟩ := rd.one
    obtain ⟨a, rfl, ha⟩ := rv.scr_inv
    refine .inl ⟨a, _, rfl, .inl (sF.seq ha), ?_⟩
    rw [List.length_map]
    exact old_v sF (.int _) q
  · split at eq
    · rename_i hz
      cases eq
      obtain ⟨v, rfl, rv⟩ := rd.one
      refine .inr (.inl ⟨_, by rw [rv.str_inv], szOk hz, old_v sF (.int _) q⟩)
    · cases eq
  · cases eq
    obtain ⟨v, rfl, rv⟩ := rd.one
    cases rv with
    | dctK ha ra _ =>
      refine .inr (.inr (.inl ⟨_, _, rfl, sF _ _ ha, ?_⟩))
      rw [ra.length]
      exact old_v sF (.int _) q
    | dctT ha ra _ =>
      refine .inr (.inr (.inr ⟨_, _, rfl, sF _ _ ha, ?_⟩))
      rw [ra.length]
      exact old_v sF (.int _) q
  · cases eq
theorem c_int : CallR X (.type "int") (cOf X opInt) := by
  refine CallR_imp call_int1 fun vs H Q h => ?_
  obtain ⟨F, ds, r, sF, rd, eq, q⟩ := h
  unfold opInt at eq
  split at eq
  · cases eq
    obtain ⟨v, rfl, rv⟩ := rd.one
    exact .inl ⟨_, by rw [rv.int_inv], old_v sF (.int _) q⟩
  · cases eq
    obtain ⟨v, rfl, rv⟩ := rd.one
    exact .inr ⟨_, by rw [rv.bl_inv], old_v sF (.int _) q⟩
  · cases eq
theorem c_abs : CallR X (.builtin "abs") (cOf X opAbs) := by
  refine CallR_imp call_abs fun vs H Q h => ?_
  obtain ⟨F, ds, r, sF, rd, eq, q⟩ := h
  unfold opAbs at eq
  split at eq
  · cases eq
    obtain ⟨v, rfl, rv⟩ := rd.one
    exact ⟨_, by rw [rv.int_inv], old_v sF (.int _) q⟩
  · cases eq
theorem c_tuple : CallR X (.type "tuple") (cOf X opTuple) := by
  refine CallR_imp call_tuple_of fun vs H Q h => ?_
  obtain ⟨F, ds, r, sF, rd, eq, q⟩ := h
  unfold opTuple at eq
  split at eq
  · cases eq
    obtain ⟨v, rfl, rv⟩ := rd.one
    obtain ⟨a, xs, rfl, ha, ra⟩ := rv.tup_inv
    exact ⟨a, xs, rfl, .inr ⟨SqT.of (sF _ _ ha), old_v sF rv q⟩⟩
  · cases eq
    obtain ⟨v, rfl, rv⟩ := rd.one
    have rv' := rv
    cases rv with
    | ktup ha ra _ => exact ⟨_, _, rfl, .inr ⟨seqT sF.s ha, old_v sF rv' q⟩⟩
  · cases eq
    obtain ⟨v, rfl, rv⟩ := rd.one
    obtain ⟨a, xs, rfl, ha, ra⟩ := rv.lst_inv
    exact ⟨a, xs, rfl, .inl ⟨SqL.of (sF _ _ ha), new_tup sF ra rv.sz q⟩⟩
  · cases eq
    obtain ⟨v, rfl, rv⟩ := rd.one
    obtain ⟨a, rfl, ha⟩ := rv.scr_inv
    exact ⟨a, _, rfl, .inl ⟨sF.seq ha, new_tup sF (RepL.ints _) (by rw [List.length_map]; exact rv.sz) q⟩⟩
  · cases eq
theorem c_list : CallR X (.type "list") (cOf X opList) := by
  refine CallR_imp call_list_of fun vs H Q h => ?_
  obtain ⟨F, ds, r, sF, rd, eq, q⟩ := h
  unfold opList at eq
  split at eq
  · cases eq
    obtain ⟨v, rfl, rv⟩ := rd.one
    obtain ⟨a, xs, rfl, ha, ra⟩ := rv.tup_inv
    exact ⟨a, xs, rfl, .inr (SqT.of (sF _ _ ha)), new_lst sF ra rv.sz q⟩
  · cases eq
    obtain ⟨v, rfl, rv⟩ := rd.one
    have z := rv.sz
    cases rv with
    | ktup ha ra _ => exact ⟨_, _, rfl, .inr (seqT sF.s ha), new_lst sF ra z q⟩
  · cases eq
    obtain ⟨v, rfl, rv⟩ := rd.one
    obtain ⟨a, xs, rfl, ha, ra⟩ := rv.lst_inv
    exact ⟨a, xs, rfl, .inl (SqL.of (sF _ _ ha)), new_lst sF ra rv.sz q⟩
  · cases eq
    obtain ⟨v, rfl, rv⟩ := rd.one
    obtain ⟨a, rfl, ha⟩ := rv.scr_inv
    exact ⟨a, _, rfl, .inl (sF.seq ha), new_lst sF (RepL.ints _) (by rw [List.length_map]; exact rv.sz) q⟩
  · cases eq
theorem map_some {α β : Type} {o : Option α} {f : α → β} {b : β} (h : o.map f = some b) : ∃ a, o = some a ∧ f a = b := by
  cases o with
  | none => cases h
  | some a => exact ⟨a, rfl, Option.some.inj h⟩
theorem c_sum (hc : X.calm = true) : CallR X (.builtin "sum") (cOf X opSum) := by
  refine CallR_imp (cr_sum hc) fun vs H Q h => ?_
  obtain ⟨F, ds, r, sF, rd, eq, q⟩ := h
  unfold opSum at eq
  split at eq
  · obtain ⟨ns, e1, e2⟩ := map_some eq
    subst e2
    obtain ⟨v, rfl, rv⟩ := rd.one
    obtain ⟨a, xs, rfl, ha, ra⟩ := rv.lst_inv
    have e := asInts_of ra e1
    subst e
    exact ⟨a, ns, rfl, SqL.of (sF _ _ ha), old_v sF (.int _) q⟩
  · cases eq
theorem c_all (hc : X.calm = true) : CallR X (.builtin "all") (cOf X opAll) := by
  refine CallR_imp (cr_all hc) fun vs H Q h => ?_
  obtain ⟨F, ds, r, sF, rd, eq, q⟩ := h
  unfold opAll at eq
  split at eq
  · obtain ⟨ns, e1, e2⟩ := map_some eq
    subst e2
    obtain ⟨v, rfl, rv⟩ := rd.one
    obtain ⟨a, xs, rfl, ha, ra⟩ := rv.lst_inv
    have e := asBools_of ra e1
    subst e
    exact ⟨a, ns, rfl, SqL.of (sF _ _ ha), old_v sF (.bl _) q⟩
  · cases eq
theorem c_any (hc : X.calm = true) : CallR X (.builtin "any") (cOf X opAny) := by
  refine CallR_imp (cr_any hc) fun vs H Q h => ?_
  obtain ⟨F, ds, r, sF, rd, eq, q⟩ := h
  unfold opAny at eq
  split at eq
  · obtain ⟨ns, e1, e2⟩ := map_some eq
    subst e2
    obtain ⟨v, rfl, rv⟩ := rd.one
    obtain ⟨a, xs, rfl, ha, ra⟩ := rv.lst_inv
    have e := asBools_of ra e1
    subst e
    exact ⟨a, ns, rfl, SqL.of (sF _ _ ha), old_v sF (.bl _) q⟩
  · cases eq
theorem c_min2 (hc : X.calm = true) : CallR X (.builtin "min") (cOf X opMin2) := by
  refine CallR_imp (call_min2 hc) fun vs H Q h => ?_
  obtain ⟨F, ds, r, sF, rd, eq, q⟩ := h
  unfold opMin2 at eq
  split at eq
  · cases eq
    obtain ⟨v, w', rfl, r1, r2⟩ := rd.two
    exact ⟨_, _, by rw [r1.int_inv, r2.int_inv], old_v sF (.int _) q⟩
  · cases eq
theorem c_max2 (hc : X.calm = true) : CallR X (.builtin "max") (cOf X opMax2) := by
  refine CallR_imp (call_max2 hc) fun vs H Q h => ?_
  obtain ⟨F, ds, r, sF, rd, eq, q⟩ := h
  unfold opMax2 at eq
  split at eq
  · cases eq
    obtain ⟨v, w', rfl, r1, r2⟩ := rd.two
    exact ⟨_, _, by rw [r1.int_inv, r2.int_inv], old_v sF (.int _) q⟩
  · cases eq

mutual
def freeD : D → Bool
  | .ktup _ => false
  | .scr _ => false
  | .tup xs => freeL xs
  | .lst xs => freeL xs
  | _ => true
def freeL : List D → Bool
  | [] => true
  | x :: xs => freeD x && freeL xs
end
mutual
theorem toPy_inj : ∀ {d e : D}, freeD d = true → freeD e = true → (toPy d).canLay0 = true → toPy d = toPy e → d = e
  | .non, e, _, fe, _, h => by cases e <;> first | rfl | (simp [toPy] at h; done)
  | .bl b, e, _, fe, _, h => by cases e <;> first | (simp [toPy] at h; done) | (simp only [toPy, PyData.bool.injEq] at h; rw [h])
  | .int i, e, _, fe, _, h => by cases e <;> first | (simp [toPy] at h; done) | (simp only [toPy, PyData.int.injEq] at h; rw [h])
  | .str x, e, _, fe, _, h => by cases e <;> first | (simp [toPy] at h; done) | (simp only [toPy, PyData.str.injEq] at h; rw [h])
  | .tup xs, e, fd, fe, c, h => by
    cases e <;> first | (simp [toPy] at h; done) | (simp [freeD] at fe; done) | skip
    simp only [toPy, PyData.tuple.injEq] at h
    rw [toPyL_inj (by simpa [freeD] using fd) (by simpa [freeD] using fe) (by simpa [toPy, PyData.canLay0] using c) h]
  | .lst xs, e, fd, fe, c, h => by
    cases e <;> first | (simp [toPy] at h; done) | (simp [freeD] at fe; done) | skip
    simp only [toPy, PyData.list.injEq] at h
    rw [toPyL_inj (by simpa [freeD] using fd) (by simpa [freeD] using fe) (by simpa [toPy, PyData.canLay0] using c) h]
  | .ktup _, _, fd, _, _, _ => by simp [freeD] at fd
  | .scr _, _, fd, _, _, _ => by simp [freeD] at fd
  | .dct _ _, _, _, _, c, _ => by simp [toPy, PyData.canLay0] at c
  | .fn _, _, _, _, c, _ => by simp [toPy, PyData.canLay0] at c
  | .bag, _, _, _, c, _ => by simp [toPy, PyData.canLay0] at c
theorem toPyL_inj : ∀ {d e : List D}, freeL d = true → freeL e = true → PyData.canLayAll0 (toPyL d) = true → toPyL d = toPyL e → d = e
  | [], e, _, _, _, h => by cases e <;> first | rfl | (simp [toPyL] at h; done)
  | x :: xs, e, fd, fe, c, h => by
    cases e with
    | nil => simp [toPyL] at h
    | cons y ys =>
      simp only [toPyL, List.cons.injEq] at h
      rw [freeL, Bool.and_eq_true] at fd fe
      rw [toPyL, PyData.canLayAll0, Bool.and_eq_true] at c
      rw [toPy_inj fd.1 fe.1 c.1 h.1, toPyL_inj fd.2 fe.2 c.2 h.2]
end
def minD (d : D) (ds : List D) : D := ds.foldl (fun a y => if ltD y a = true then y else a) d
def maxD (d : D) (ds : List D) : D := ds.foldl (fun a y => if ltD a y = true then y else a) d
def alAll (ds : List D) : Bool := ds.all fun a => freeD a && ds.all fun b => alD a b
theorem alAll_mem {ds : List D} (h : alAll ds = true) {a b : D} (ha : a ∈ ds) (hb : b ∈ ds) : freeD a = true ∧ alD a b = true := by
  unfold alAll at h
  have h1 := List.all_eq_true.mp h a ha
  rw [Bool.and_eq_true] at h1
  exact ⟨h1.1, List.all_eq_true.mp h1.2 b hb⟩
theorem minD_py : ∀ (ds : List D) (d : D), toPy (minD d ds) = PySem.W.minD (toPy d) (toPyL ds)
  | [], _ => rfl
  | x :: xs, d => by
    unfold minD PySem.W.minD
    rw [toPyL, List.foldl_cons, List.foldl_cons]
    have ih := minD_py xs (if ltD x d = true then x else d)
    unfold minD PySem.W.minD at ih
    rw [ih]
    congr 1
    unfold ltD
    split <;> rfl
theorem maxD_py : ∀ (ds : List D) (d : D), toPy (maxD d ds) = PySem.W.maxD (toPy d) (toPyL ds)
  | [], _ => rfl
  | x :: xs, d => by
    unfold maxD PySem.W.maxD
    rw [toPyL, List.foldl_cons, List.foldl_cons]
    have ih := maxD_py xs (if ltD d x = true then x else d)
    unfold maxD PySem.W.maxD at ih
    rw [ih]
    congr 1
    unfold ltD
    split <;> rfl
theorem fold_mem {p : D → D → Bool} : ∀ (ds : List D) (d : D), ds.foldl (fun a y => if p y a = true then y else a) d ∈ d :: ds
  | [], d => by simp
  | x :: xs, d => by
    rw [List.foldl_cons]
    have ih := fold_mem (p := p) xs (if p x d = true then x else d)
    rcases List.mem_cons.mp ih with e | e
    · rw [e]
      split <;> simp
    · simp [e]
theorem minD_mem (d : D) (ds : List D) : minD d ds ∈ d :: ds := fold_mem (p := fun y a => ltD y a) ds d
theorem maxD_mem (d : D) (ds : List D) : maxD d ds ∈ d :: ds := fold_mem (p := fun y a => ltD a y) ds d
def opMin : List D → Option D
  | [.lst (d :: ds)] => if alAll (d :: ds) then some (minD d ds) else none
  | _ => none
def opMax : List D → Option D
  | [.lst (d :: ds)] => if alAll (d :: ds) then some (maxD d ds) else none
  | _ => none
theorem depthAll_le : ∀ {ds : List D} {n : Nat}, (∀ d ∈ ds, (toPy d).depth ≤ n) → PyData.depthAll (toPyL ds) ≤ n
  | [], _, _ => by simp [toPyL, PyData.depthAll]
  | x :: xs, n, h => by
    rw [toPyL, PyData.depthAll]
    have h1 := h x (by simp)
    have h2 := depthAll_le (ds := xs) (n := n) fun d hd => h d (by simp [hd])
    omega
theorem readsL {pins : List (Addr × Obj)} {s : Shared} {σ : L2.St} {F H : Hp} (I : Inv X pins σ H s) (sF : Sub F H) : ∀ {vs : List V} {us : List Value} {ds : List D}, RepL X.K X.mg F vs ds → Vals vs us → (∀ d ∈ ds, okD d = true) → ∃ as, ReadsAll s.heap us (toPyL ds) as
  | _, _, _, .nil, .nil, _ => ⟨_, ReadsAll.nil⟩
  | _, _, _, .cons r rs, .cons q qs, h => by
    obtain ⟨a, h1⟩ := reads_of I sF r (h _ (by simp)) q
    obtain ⟨b, h2⟩ := readsL I sF rs qs fun d hd => h d (by simp [hd])
    exact ⟨_, ReadsAll.cons h1 h2⟩
theorem al_all {d : D} {ds : List D} (h : alAll (d :: ds) = true) : PySem.W.AlikeAll (toPyL (d :: ds)) ∧ (∀ e ∈ d :: ds, okD e = true) ∧ (∀ e ∈ d :: ds, freeD e = true) ∧ PyData.depthAll (toPyL (d :: ds)) ≤ 64 := by
  have ok : ∀ e ∈ d :: ds, okD e = true := fun e he => (al_facts (alAll_mem h he he).2).2.1
  refine ⟨⟨fun x hx y hy => ?_, fun x hx => ?_⟩, ok, fun e he => (alAll_mem h he he).1, depthAll_le fun e he => SeqAt.depth_of_shaped (ok e he)⟩
  · rw [toPyL_map] at hx hy
    obtain ⟨a, ha, rfl⟩ := List.mem_map.mp hx
    obtain ⟨b, hb, rfl⟩ := List.mem_map.mp hy
    exact (al_facts (alAll_mem h ha hb).2).1
  · rw [toPyL_map] at hx
    obtain ⟨a, ha, rfl⟩ := List.mem_map.mp hx
    exact (al_facts (alAll_mem h ha ha).2).2.2.2
theorem the_one {pins : List (Addr × Obj)} {s : Shared} {σ : L2.St} {F H : Hp} {h' : Heap} {xs : List V} {its : List Value} {ds : List D} {m : D} {i : Nat} {v : Value} {bs : List Addr} (I : Inv X pins σ H s) (sF : Sub F H)
    (ra : RepL X.K X.mg F xs ds) (rv : Vals xs its) (ok : ∀ e ∈ ds, okD e = true) (fr : ∀ e ∈ ds, freeD e = true) (hm : m ∈ ds) (hi : its[i]? = some v) (rb : Reads h' v (toPy m) bs)
    (hk : ∀ b o, s.heap.get? b = some o → h'.get? b = some o) : ∃ z, RelV z v ∧ Rep X.K X.mg F z m := by
  have hl : i < ds.length := by
    have := (List.getElem?_eq_some_iff.mp hi).1
    rw [← rv.length, ra.length] at this
    exact this
  obtain ⟨z, hz, rz⟩ := ra.get (List.getElem?_eq_getElem hl)
  obtain ⟨u, hu, ru⟩ := rv.get hz
  rw [hi] at hu
  cases hu
  have okd := ok _ (List.getElem_mem hl)
  obtain ⟨as, r1⟩ := reads_of I sF rz okd ru
  have e := (Reads.unique (PySem.W.reads_keeps hk r1) _ _ rb).1
  have e2 := toPy_inj (fr _ (List.getElem_mem hl)) (fr _ hm) (SeqAt.canLay_of_shaped okd) e
  exact ⟨z, ru, e2 ▸ rz⟩
theorem c_min (hc : X.calm = true) (hu : X.A.units + 66 < cLine) : CallR X (.builtin "min") (cOf X opMin) := by
  intro pins s σ H vs us Q I r h
  obtain ⟨F, ds, r', sF, rd, eq, q⟩ := h
  unfold opMin at eq
  split at eq
  · rename_i d ds
    split at eq
    · rename_i hz
      cases eq
      obtain ⟨v, rfl, rv⟩ := rd.one
      obtain ⟨a, xs, rfl, ha, ra⟩ := rv.lst_inv
      obtain ⟨al, ok, fr, dp⟩ := al_all hz
      obtain ⟨its, rvs, hl, _⟩ := I.list (SqL.of (sF _ _ ha))
      rw [Vals.ref1 r]
      obtain ⟨as, rs⟩ := readsL I sF ra rvs ok
      rw [toPyL] at rs al dp
      refine PySem.W.min_list_data (I.ok.hd hc) hl.isList rs al (by omega) fun i v h' tk bs hi rb hk => ?_
      rw [← minD_py] at rb
      obtain ⟨z, rz, zz⟩ := the_one I sF ra rvs ok fr (minD_mem d ds) (by simpa using hi) rb hk
      exact ⟨z, H, I.kept hk, rz, old_v sF zz q⟩
    · cases eq
  · cases eq
theorem c_max (hc : X.calm = true) (hu : X.A.units + 66 < cLine) : CallR X (.builtin "max") (cOf X opMax) := by
  intro pins s σ H vs us Q I r h
  obtain ⟨F, ds, r', sF, rd, eq, q⟩ := h
  unfold opMax at eq
  split at eq
  · rename_i d ds
    split at eq
    · rename_i hz
      cases eq
      obtain ⟨v, rfl, rv⟩ := rd.one
      obtain ⟨a, xs, rfl, ha, ra⟩ := rv.lst_inv
      obtain ⟨al, ok, fr, dp⟩ := al_all hz
      obtain ⟨its, rvs, hl, _⟩ := I.list (SqL.of (sF _ _ ha))
      rw [Vals.ref1 r]
      obtain ⟨as, rs⟩ := readsL I sF ra rvs ok
      rw [toPyL] at rs al dp
      refine PySem.W.max_list_data (I.ok.hd hc) hl.isList rs al (by omega) fun i v h' tk bs hi rb hk => ?_
      rw [← maxD_py] at rb
      obtain ⟨z, rz, zz⟩ := the_one I sF ra rvs ok fr (maxD_mem d ds) (by simpa using hi) rb hk
      exact ⟨z, H, I.kept hk, rz, old_v sF zz q⟩
    · cases eq
  · cases eq
end
end P5

namespace P5
open PySem L2 PyProof.Rows
variable [Tb]

def truD : D → Option Bool
  | .non => some false
  | .bl b => some b
  | .int i => some (i != 0)
  | .str x => if x.length ≤ 16777216 then some ((x.length : Int) != 0) else none
  | .tup xs => some (!xs.isEmpty)
  | .ktup xs => some (!xs.isEmpty)
  | .lst xs => some (!xs.isEmpty)
  | .dct 0 kvs => some (!kvs.isEmpty)
  | _ => none
section
variable {X : Cx} {W : WX} {a b c e : Expr} {es rest : List Expr} {f g h : EM} {p q : Env' → M Bool} {pos : Pos}
theorem RepL.isEmpty {K : K'} {mg : Mg} {F : Hp} {vs : List V} {ds : List D} (r : RepL K mg F vs ds) : vs.isEmpty = ds.isEmpty := by cases r <;> rfl
theorem Rep.tru {K : K'} {mg : Mg} {F H : Hp} {v : V} {d : D} {k : Bool} (sF : Sub F H) (r : Rep K mg F v d) (t : truD d = some k) : TruV K v H k := by
  cases r <;> first | (cases t; done) | skip
  · cases t; rfl
  · cases t; rfl
  · cases t; rfl
  · simp only [truD] at t
    split at t
    · rename_i hz
      cases t
      exact ⟨szOk hz, rfl⟩
    · cases t
  · rename_i ha ra _
    cases t
    exact .inr (.inl ⟨_, SqT.of (sF _ _ ha), by rw [ra.isEmpty]⟩)
  · rename_i ha ra _
    cases t
    exact .inr (.inl ⟨_, seqT sF.s ha, by rw [ra.isEmpty]⟩)
  · rename_i ha ra _
    cases t
    exact .inl ⟨_, SqL.of (sF _ _ ha), by rw [ra.isEmpty]⟩
  · rename_i ha ra _
    cases t
    refine .inr (.inr ⟨_, sF _ _ ha, ?_⟩)
    cases ra <;> rfl
def dT (f : EM) : Env' → M Bool := fun ρ => f ρ >>= fun d => M.opt (truD d)
theorem t_tru (ha : PuE X W a f) (he : ∀ whole, isTrue a X.env whole = (do let v ← whole; standAt a.pos; holding [v] (truthy v)) := by intro _; rfl) : PuT X W a (dT f) := by
  refine PT_imp (pt_truth ha he) fun σ H Q ⟨F, ρ, sF, er, h⟩ => ?_
  refine TEo.bind sF er h fun d v F1 H1 g1 r1 h1 => ?_
  obtain ⟨k, e1, q⟩ := wp_opt h1
  exact ⟨k, r1.tru g1.sub e1, q F1 H1 g1⟩
def dNotT (p : Env' → M Bool) : Env' → M Bool := fun ρ => p ρ >>= fun b => pure (!b)
def dAndT (p q : Env' → M Bool) : Env' → M Bool := fun ρ => p ρ >>= fun b => if b = true then q ρ else pure false
def dOrT (p q : Env' → M Bool) : Env' → M Bool := fun ρ => p ρ >>= fun b => if b = true then pure true else q ρ
theorem t_not (ha : PuT X W a p) : PuT X W (.UnaryOp .Not a pos) (dNotT p) := by
  refine PT_imp (pt_not ha) fun σ H Q ⟨F, ρ, sF, er, h⟩ => ?_
  exact TTo.bind sF er h fun d F1 H1 g1 h1 => h1 F1 H1 g1
def PuW (X : Cx) (W : WX) (e : Expr) (f : Env' → M Bool) : Prop := PW X e (TTo X W f)
theorem PW_imp {t t' : TT} (h : PW X e t) (i : ∀ σ H Q, t' σ H Q → t σ H Q) : PW X e t' := ⟨fun wh pins s σ H Q I q => h.run wh pins s σ H Q I (i σ H Q q)⟩
theorem w_and1 (ha : PuT X W a p) : PuW X W (.BoolOp .And [a] pos) p := pw_and1 ha
theorem w_or1 (ha : PuT X W a p) : PuW X W (.BoolOp .Or [a] pos) p := pw_or1 ha
theorem w_and (ha : PuT X W a p) (hb : PuW X W (.BoolOp .And (b :: rest) pos) q) : PuW X W (.BoolOp .And (a :: b :: rest) pos) (dAndT p q) := by
  refine PW_imp (pw_and ha hb) fun σ H Q ⟨F, ρ, sF, er, h⟩ => ?_
  refine TTo.bind sF er h fun d F1 H1 g1 h1 => ?_
  cases d with
  | true => exact ⟨F1, ρ, g1.sub, er.grow g1.fs, (q ρ).mono (fun k z F2 H2 g2 => z F2 H2 (g1.trans g2)) (fun _ z => z.grow g1) h1⟩
  | false => exact h1 F1 H1 g1
theorem w_or (ha : PuT X W a p) (hb : PuW X W (.BoolOp .Or (b :: rest) pos) q) : PuW X W (.BoolOp .Or (a :: b :: rest) pos) (dOrT p q) := by
  refine PW_imp (pw_or ha hb) fun σ H Q ⟨F, ρ, sF, er, h⟩ => ?_
  refine TTo.bind sF er h fun d F1 H1 g1 h1 => ?_
  cases d with
  | false => exact ⟨F1, ρ, g1.sub, er.grow g1.fs, (q ρ).mono (fun k z F2 H2 g2 => z F2 H2 (g1.trans g2)) (fun _ z => z.grow g1) h1⟩
  | true => exact h1 F1 H1 g1
theorem t_w (h : PuW X W e p) : PuT X W e p := PW.pt h
def dNot (f : EM) : EM := fun ρ => f ρ >>= fun d => M.opt (truD d) >>= fun b => pure (.bl (!b))
def dAnd (f g : EM) : EM := fun ρ => f ρ >>= fun d => M.opt (truD d) >>= fun b => if b = true then g ρ else pure d
def dOr (f g : EM) : EM := fun ρ => f ρ >>= fun d => M.opt (truD d) >>= fun b => if b = true then pure d else g ρ
theorem u_not (ha : PuE X W a f) : PuE X W (.UnaryOp .Not a pos) (dNot f) := by
  refine PE_imp (pe_notT ha) fun σ H Q ⟨F, ρ, sF, er, h⟩ => ?_
  refine TEo.bind sF er h fun d v F1 H1 g1 r1 h1 => ?_
  obtain ⟨k, e1, q⟩ := wp_opt h1
  exact ⟨k, r1.tru g1.sub e1, q _ F1 H1 g1 (.bl _)⟩
theorem u_one {op} (ha : PuE X W a f) : PuE X W (.BoolOp op [a] pos) f := pe_one ha
theorem u_and (ha : PuE X W a f) (hb : PuE X W (.BoolOp .And (b :: rest) pos) g) : PuE X W (.BoolOp .And (a :: b :: rest) pos) (dAnd f g) := by
  refine PE_imp (pe_andT ha hb) fun σ H Q ⟨F, ρ, sF, er, h⟩ => ?_
  refine TEo.bind sF er h fun d v F1 H1 g1 r1 h1 => ?_
  obtain ⟨k, e1, q⟩ := wp_opt h1
  refine ⟨k, r1.tru g1.sub e1, ?_⟩
  cases k with
  | true => exact ⟨F1, ρ, g1.sub, er.grow g1.fs, (g ρ).mono (fun _ z => z.grow g1) (fun _ z => z.grow g1) q⟩
  | false => exact q v F1 H1 g1 r1
theorem u_or (ha : PuE X W a f) (hb : PuE X W (.BoolOp .Or (b :: rest) pos) g) : PuE X W (.BoolOp .Or (a :: b :: rest) pos) (dOr f g) := by
  refine PE_imp (pe_orT ha hb) fun σ H Q ⟨F, ρ, sF, er, h⟩ => ?_
  refine TEo.bind sF er h fun d v F1 H1 g1 r1 h1 => ?_
  obtain ⟨k, e1, q⟩ := wp_opt h1
  refine ⟨k, r1.tru g1.sub e1, ?_⟩
  cases k with
  | false => exact ⟨F1, ρ, g1.sub, er.grow g1.fs, (g ρ).mono (fun _ z => z.grow g1) (fun _ z => z.grow g1) q⟩
  | true => exact q v F1 H1 g1 r1
def dIf (p : Env' → M Bool) (f g : EM) : EM := fun ρ => p ρ >>= fun b => if b = true then f ρ else g ρ
theorem u_if (hc : PuT X W c p) (ha : PuE X W a f) (hb : PuE X W b g) : PuE X W (.IfExp c a b pos) (dIf p f g) := by
  refine PE_imp (pe_ifExp hc ha hb) fun σ H Q ⟨F, ρ, sF, er, h⟩ => ?_
  show tIf (TTo X W p) (TEo X W f) (TEo X W g) σ H Q
  unfold tIf
  refine TTo.bind sF er h fun d F1 H1 g1 h1 => ?_
  cases d with
  | true => exact ⟨F1, ρ, g1.sub, er.grow g1.fs, (f ρ).mono (fun _ z => z.grow g1) (fun _ z => z.grow g1) h1⟩
  | false => exact ⟨F1, ρ, g1.sub, er.grow g1.fs, (g ρ).mono (fun _ z => z.grow g1) (fun _ z => z.grow g1) h1⟩
def dChain (o o' : D → D → Option D) (f g h : EM) : EM := fun ρ => f ρ >>= fun x => g ρ >>= fun y => M.opt (o x y) >>= fun z => M.opt (asB z) >>= fun k => if k = true then h ρ >>= fun w => M.opt (o' y w) else pure (.bl false)
theorem chain_of {o o' : D → D → Option D} {σ : L2.St} {H : Hp} {Q : VK} (hh : TEo X W (dChain o o' f g h) σ H Q) : tChain (rOf X o) (rOf X o') (TEo X W f) (TEo X W g) (TEo X W h) σ H Q := by
  obtain ⟨F, ρ, sF, er, hh⟩ := hh
  refine TEo.bind sF er hh fun d v F1 H1 g1 r1 h1 => ?_
  refine ⟨F1, ρ, g1.sub, er.grow g1.fs, (g ρ).mono (fun e h2 u F2 H2 g2 r2 => ?_) (fun _ z => z.grow g1) h1⟩
  obtain ⟨z, e1, h3⟩ := wp_opt h2
  obtain ⟨k, e2, h4⟩ := wp_opt h3
  refine ⟨F2, d, e, z, g2.sub, r1.grow g2.fs, r2, e1, fun vz F3 H3 g3 r3 => ?_⟩
  cases z with
  | bl b =>
    cases e2
    refine ⟨_, r3.bl_inv, ?_⟩
    have g13 := (g1.trans g2).trans g3
    cases k with
    | true =>
      dsimp only at h4 ⊢
      rw [if_pos rfl] at h4 ⊢
      refine ⟨F3, ρ, g3.sub, er.grow g13.fs, (h ρ).mono (fun w h5 u' F4 H4 g4 r4 => ?_) (fun _ z => z.grow g13) h4⟩
      obtain ⟨r, e5, q⟩ := wp_opt h5
      exact ⟨F4, e, w, r, g4.sub, r2.grow (g3.trans g4).fs, r4, e5, q.grow (g13.trans g4)⟩
    | false =>
      dsimp only at h4 ⊢
      rw [if_neg Bool.false_ne_true] at h4 ⊢
      exact h4 _ F3 H3 g13 (.bl false)
  | _ => cases e2
theorem u_chain {op op' : CmpOp} {o o' : D → D → Option D} (ho : OpR X (compareOp op) (rOf X o)) (ho' : OpR X (compareOp op') (rOf X o')) (ha : PuE X W a f) (hb : PuE X W b g) (hc : PuE X W c h)
    (hm : lastMarks [op, op'] [b, c] = false := by with_unfolding_all rfl) : PuE X W (.Compare a [op, op'] [b, c] pos) (dChain o o' f g h) := PE_imp (pe_chain ho ho' ha hb hc hm) fun _ _ _ q => chain_of q
theorem t_chain {op op' : CmpOp} {o o' : D → D → Option D} (ho : OpR X (compareOp op) (rOf X o)) (ho' : OpR X (compareOp op') (rOf X o')) (ha : PuE X W a f) (hb : PuE X W b g) (hc : PuE X W c h)
    (hm : lastMarks [op, op'] [b, c] = false := by with_unfolding_all rfl) : PuT X W (.Compare a [op, op'] [b, c] pos) (dB (dChain o o' f g h)) := by
  refine PT_imp (pt_chain ho ho' ha hb hc hm) fun σ H Q q => ?_
  obtain ⟨F, ρ, sF, er, z⟩ := tb_of q
  exact chain_of ⟨F, ρ, sF, er, z⟩
def opNeg : D → Option D
  | .int i => some (.int (-i))
  | _ => none
def dUn (op : D → Option D) (f : EM) : EM := fun ρ => f ρ >>= fun d => M.opt (op d)
theorem u_neg (ha : PuE X W a f) : PuE X W (.UnaryOp .USub a pos) (dUn opNeg f) := by
  refine PE_imp (pe_un un_neg ha) fun σ H Q ⟨F, ρ, sF, er, h⟩ => ?_
  refine TEo.bind sF er h fun d v F1 H1 g1 r1 h1 => ?_
  obtain ⟨k, e1, q⟩ := wp_opt h1
  cases d with
  | int i =>
    cases e1
    exact ⟨i, r1.int_inv, q _ F1 H1 g1 (.int _)⟩
  | _ => cases e1

def opIn : D → D → Option D
  | d, .tup xs => if okD d && okD (.tup xs) then some (.bl (xs.any fun y => eqD y d)) else none
  | d, .ktup xs => if okD d && okD (.ktup xs) then some (.bl (xs.any fun y => eqD y d)) else none
  | d, .lst xs => if okD d && okD (.lst xs) then some (.bl (xs.any fun y => eqD y d)) else none
  | .str c, .str z => if c.cps.size = 1 then some (.bl (decide (c.cps.getD 0 0 ∈ z.cps.toList))) else none
  | k, .dct n kvs => if keyOk n k then some (.bl (lookD kvs k).isSome) else none
  | _, _ => none
def opNotIn (d e : D) : Option D := (opIn d e).bind fun r => match r with
  | .bl b => some (.bl (!b))
  | _ => none
theorem any_py (d : D) : ∀ xs : List D, (toPyL xs).any (fun y => PyData.eqv y (toPy d)) = xs.any fun y => eqD y d
  | [] => rfl
  | x :: xs => by
    rw [toPyL, List.any_cons, List.any_cons, any_py d xs]
    rfl
theorem in_room {A : Around} {ds : List D} {d : D} (hd : okD d = true) (hu : A.units + 65 < cLine) : A.units + 1 + min (PyData.depthAll (toPyL ds)) (toPy d).depth < cLine := by
  have h1 := SeqAt.depth_of_shaped hd
  have h2 : min (PyData.depthAll (toPyL ds)) (toPy d).depth ≤ (toPy d).depth := Nat.min_le_right _ _
  omega
theorem one_sign {c : Str} (h : c.cps.size = 1) : c = ⟨#[c.cps.getD 0 0]⟩ := by
  cases c with
  | mk a =>
    have h' : a.size = 1 := h
    congr 1
    apply Array.ext
    · simp [h']
    · intro i h1 h2
      have e : i = 0 := by omega
      subst e
      simp [Array.getD, h']
theorem in_of {neg : Bool} (hu : X.A.units + 65 < cLine) (pins : List (Addr × Obj)) (s : Shared) (σ : L2.St) (H F : Hp) (x y : V) (v u : Value) (Q : VK) (d e : D) (b : Bool) (I : Inv X pins σ H s) (rx : RelV x v) (ry : RelV y u) (sF : Sub F H)
    (rd : Rep X.K X.mg F x d) (re : Rep X.K X.mg F y e) (eq : opIn d e = some (.bl b)) (q : Q (.bl (if neg then !b else b)) H) :
    wpAny (model X.prog X.w) X.A (compareOp (if neg then .NotIn else .In) v u) (EP X pins σ Q) X.xe s := by
  unfold opIn at eq
  split at eq
  · split at eq
    · rename_i d' xs hz
      rw [Bool.and_eq_true] at hz
      cases eq
      obtain ⟨as, r1⟩ := reads_of I sF rd hz.1 rx
      obtain ⟨bs, r2⟩ := reads_of I sF re hz.2 ry
      rw [toPy] at r2
      rw [← any_py] at q
      cases neg
      · exact SeqAt.in_tuple_reads r2 r1 (by simpa [okD, toPy, PyData.canLay0] using SeqAt.canLay_of_shaped hz.2) (SeqAt.canLay_of_shaped hz.1) (in_room hz.1 hu) ⟨.bl _, H, I, rfl, q⟩
      · exact SeqAt.notIn_tuple_reads r2 r1 (by simpa [okD, toPy, PyData.canLay0] using SeqAt.canLay_of_shaped hz.2) (SeqAt.canLay_of_shaped hz.1) (in_room hz.1 hu) ⟨.bl _, H, I, rfl, q⟩
    · cases eq
  · split at eq
    · rename_i d' xs hz
      rw [Bool.and_eq_true] at hz
      cases eq
      obtain ⟨as, r1⟩ := reads_of I sF rd hz.1 rx
      obtain ⟨bs, r2⟩ := reads_of I sF re hz.2 ry
      rw [toPy] at r2
      rw [← any_py] at q
      cases neg
      · exact SeqAt.in_tuple_reads r2 r1 (by simpa [okD, toPy, PyData.canLay0] using SeqAt.canLay_of_shaped hz.2) (SeqAt.canLay_of_shaped hz.1) (in_room hz.1 hu) ⟨.bl _, H, I, rfl, q⟩
      · exact SeqAt.notIn_tuple_reads r2 r1 (by simpa [okD, toPy, PyData.canLay0] using SeqAt.canLay_of_shaped hz.2) (SeqAt.canLay_of_shaped hz.1) (in_room hz.1 hu) ⟨.bl _, H, I, rfl, q⟩
    · cases eq
  · split at eq
    · rename_i d' xs hz
      rw [Bool.and_eq_true] at hz
      cases eq
      obtain ⟨as, r1⟩ := reads_of I sF rd hz.1 rx
      obtain ⟨bs, r2⟩ := reads_of I sF re hz.2 ry
      rw [toPy] at r2
      rw [← any_py] at q
      cases neg
      · exact SeqAt.in_list_reads r2 r1 (by simpa [okD, toPy, PyData.canLay0] using SeqAt.canLay_of_shaped hz.2) (SeqAt.canLay_of_shaped hz.1) (in_room hz.1 hu) ⟨.bl _, H, I, rfl, q⟩
      · exact SeqAt.notIn_list_reads r2 r1 (by simpa [okD, toPy, PyData.canLay0] using SeqAt.canLay_of_shaped hz.2) (SeqAt.canLay_of_shaped hz.1) (in_room hz.1 hu) ⟨.bl _, H, I, rfl, q⟩
    · cases eq
  · split at eq
    · rename_i c z hz
      cases eq
      have ec := one_sign hz
      have ex := rd.str_inv
      rw [ec] at ex
      cases neg
      · exact op_in_sign pins s σ H x y v u Q I rx ry ⟨_, z, ex, re.str_inv, q⟩
      · exact op_notIn_sign pins s σ H x y v u Q I rx ry ⟨_, z, ex, re.str_inv, q⟩
    · cases eq
  · split at eq
    · rename_i k n kvs hk hz
      cases eq
      obtain ⟨a, rfl, g⟩ := re.dget sF rd hz
      cases ry
      have hu1 : X.A.units + 1 < cLine := by omega
      rcases g with ⟨e1, g⟩ | ⟨w', d', e1, g, _⟩
      · rw [e1] at q
        cases neg
        · exact d_in hu1 I g rx fun s3 I3 => ⟨.bl _, H, I3, rfl, q⟩
        · exact d_notIn hu1 I g rx fun s3 I3 => ⟨.bl _, H, I3, rfl, q⟩
      · rw [e1] at q
        cases neg
        · exact d_in hu1 I g rx fun s3 I3 => ⟨.bl _, H, I3, rfl, q⟩
        · exact d_notIn hu1 I g rx fun s3 I3 => ⟨.bl _, H, I3, rfl, q⟩
    · cases eq
  · cases eq
theorem opIn_bl {d e r : D} (h : opIn d e = some r) : ∃ b, r = .bl b := by
  unfold opIn at h
  split at h <;> first | (cases h; done) | (split at h <;> first | (cases h; done) | (cases h; exact ⟨_, rfl⟩))
theorem o_in (hu : X.A.units + 65 < cLine) : OpR X (compareOp .In) (rOf X opIn) := by
  intro pins s σ H x y v u Q I rx ry h
  obtain ⟨F, d, e, r, sF, rd, re, eq, q⟩ := h
  obtain ⟨b, rfl⟩ := opIn_bl eq
  exact in_of (neg := false) hu pins s σ H F x y v u Q d e b I rx ry sF rd re eq (old_v sF (.bl _) q)
theorem o_notIn (hu : X.A.units + 65 < cLine) : OpR X (compareOp .NotIn) (rOf X opNotIn) := by
  intro pins s σ H x y v u Q I rx ry h
  obtain ⟨F, d, e, r, sF, rd, re, eq, q⟩ := h
  unfold opNotIn at eq
  cases e1 : opIn d e with
  | none =>
    rw [e1] at eq
    cases eq
  | some z =>
    obtain ⟨b, rfl⟩ := opIn_bl e1
    rw [e1] at eq
    cases eq
    exact in_of (neg := true) hu pins s σ H F x y v u Q d e b I rx ry sF rd re e1 (old_v sF (.bl _) q)
end
end P5

namespace P5
open PySem L2 PyProof.Rows
variable [Tb]

def VWk (K : K') (mg : Mg) (F H : Hp) (Q : VK) (d : D) : Prop := ∀ v F' H', Grow F H F' H' → Rep K mg F' v d → Q v H'
def spOf (K : K') (mg : Mg) (n : Nat) (fM : List D → M D) : Sp := fun vs H Q E => ∃ F ds, Sub F H ∧ RepL K mg F vs ds ∧ ds.length = n ∧
  (fM ds).wp (VWk K mg F H Q) (fun err => ∀ F' H' c dx, Grow F H F' H' → ErrR K mg F' H' err c dx → E c dx H')
theorem spOf.len {K : K'} {mg : Mg} {n : Nat} {fM : List D → M D} {vs : List V} {H : Hp} {Q : VK} {E : XK} (h : spOf K mg n fM vs H Q E) : vs.length = n := by
  obtain ⟨F, ds, _, r, e, _⟩ := h
  rw [r.length, e]
def Keeps (P : Program) (w : World) (K : K') (mg : Mg) (base : Heap) (k : Nat) (f : Addr) (fd : FuncData) (ps : List Str) (fM : List D → M D) : Prop :=
  FnOk P w K mg base (L2.CX P w) k f fd ps (spOf K mg ps.length fM)
def callM (n : Nat) (fM : List D → M D) (ds : List D) : M D := if ds.length = n then fM ds else M.fail
def dCallM (n : Nat) (fM : List D → M D) (g : Env' → M (List D)) : EM := fun ρ => g ρ >>= callM n fM
section
variable {X : Cx} {W : WX} {e : Expr} {es : List Expr} {g : Env' → M (List D)} {pos p : Pos} {x : Str} {k : Nat} {f : Addr} {fd : FuncData} {ps : List Str} {fM : List D → M D}
theorem u_call (F : Keeps X.prog X.w X.K X.mg X.base k f fd ps fM) (tk : Takes X W) (hr : Room k X.A) (hg : Gl X x) (hm : X.mg x = some (.ref f)) (hk : PySem.W.keepIn X.K (.ref f) = true) (hb : Binds X.K fd ps [])
    (ha : PuA X W (e :: es) g) (hdb : (x == ("__debug__" : Str)) = false := by decide) (he : starEach (e :: es) X.env = (false, eval e X.env) :: starEach es X.env := by rfl) (hpl : (backTo pos (starEach es X.env)).any (·.1) = false := by rfl) :
    PuE X W (.Call (.Name x p) (e :: es) [] pos) (dCallM ps.length fM g) := by
  refine PE_imp (pe_callS F hr hg hm hk hb (fun σ => passAt tk σ) ha hdb he hpl) fun σ H Q ⟨F0, ρ, sF, er, h⟩ => ?_
  refine TAo.bind sF er h fun ds vs F1 H1 g1 r1 h1 => ?_
  unfold callM at h1
  split at h1
  · rename_i hl
    exact ⟨F1, ds, g1.sub, r1, hl, (fM ds).mono (fun d z => z.grow g1) (fun er z F2 H2 c dx g2 r2 => z F2 H2 c dx (g1.trans g2) r2) h1⟩
  · exact h1.elim

def quiet {α : Type} (m : M α) : M α := ⟨fun Q _ => m.wp Q (fun _ => False), fun q _ h => m.mono q (fun _ z => z) h⟩
@[simp] theorem quiet_pure {α : Type} (d : α) : quiet (pure d : M α) = pure d := rfl
abbrev Tab := Str → Option (Nat × (List D → M D))
structure TabOk (P : Program) (w : World) (K : K') (mg : Mg) (base : Heap) (k : Nat) (T : Tab) : Prop where
  ok : ∀ x n fM, T x = some (n, fM) → ∃ f fd ps, mg x = some (.ref f) ∧ ps.length = n ∧ Keeps P w K mg base k f fd ps fM ∧ PySem.W.keepIn K (.ref f) = true ∧ Binds K fd ps []
  inj : ∀ x y f, (T x).isSome = true → (T y).isSome = true → mg x = some (.ref f) → mg y = some (.ref f) → x = y
def dCallT (i : Nat) (T : Tab) (g : Env' → M (List D)) : EM := fun ρ => match ρ[i]? with
  | some (some (.fn x)) => (match T x with
    | some (n, fM) => g ρ >>= fun ds => quiet (callM n fM ds)
    | none => M.fail)
  | _ => M.fail
open Classical in
noncomputable def tabS (K : K') (mg : Mg) (T : Tab) (f : Addr) : Option Sp :=
  if h : ∃ p : Str × Nat × (List D → M D), mg p.1 = some (.ref f) ∧ T p.1 = some p.2 then some (spOf K mg h.choose.2.1 h.choose.2.2) else none
theorem tabS_of {P : Program} {w : World} {K : K'} {mg : Mg} {base : Heap} {T : Tab} (O : TabOk P w K mg base k T) {n : Nat} (hx : mg x = some (.ref f)) (ht : T x = some (n, fM)) : tabS K mg T f = some (spOf K mg n fM) := by
  have h : ∃ p : Str × Nat × (List D → M D), mg p.1 = some (.ref f) ∧ T p.1 = some p.2 := ⟨(x, n, fM), hx, ht⟩
  unfold tabS
  rw [dif_pos h]
  have c := h.choose_spec
  have e : h.choose.1 = x := O.inj _ _ f (by rw [c.2]; rfl) (by rw [ht]; rfl) c.1 hx
  have e2 := c.2
  rw [e, ht] at e2
  have e3 := Option.some.inj e2
  rw [← e3]
theorem quietFn {P : Program} {w : World} {K : K'} {mg : Mg} {base : Heap} {sp : Sp} (F : FnOk P w K mg base (L2.CX P w) k f fd ps sp) : FnOk P w K mg base (fun _ _ _ _ _ _ => False) k f fd ps (fun vs H Q _ => sp vs H Q fun _ _ _ => False) :=
  ⟨fun vs H Q E h => F.len vs H Q _ h, fun A outer s H args us vs Q E hr he hb hv hs => codeAny_mono (F.run A outer s H args us vs Q _ hr he hb hv hs) fun r s' q => by
    cases r with
    | ok fl => cases fl <;> exact q
    | error e =>
      obtain ⟨_, _, _, _, _, _, _, _, _, _, _, _, z⟩ := q
      exact z.elim⟩
theorem u_callT {T : Tab} {i : Nat} (O : TabOk X.prog X.w X.K X.mg X.base k T) (hr : Room k X.A) (hN : X.N[i]? = some x) (hv : Vis X.env.scope x) (ha : PuA X W (e :: es) g)
    (hdb : (x == ("__debug__" : Str)) = false := by decide) (hcd : (x == ("__classdict__" : Str)) = false := by decide)
    (he : starEach (e :: es) X.env = (false, eval e X.env) :: starEach es X.env := by rfl) (hpl : (backTo pos (starEach es X.env)).any (·.1) = false := by rfl) : PuE X W (.Call (.Name x p) (e :: es) [] pos) (dCallT i T g) := by
  refine PE_imp (pe_callA (i := i) (S := fun f => (tabS X.K X.mg T f).map fun sp vs H Q _ => sp vs H Q fun _ _ _ => False) (fun f sp hs => ?_) hr hN hv ha hdb hcd he hpl) fun σ H Q ⟨F0, ρ, sF, er, h⟩ => ?_
  · obtain ⟨sp', e1, e2⟩ := map_some hs
    subst e2
    unfold tabS at e1
    split at e1
    · rename_i hh
      cases e1
      have c := hh.choose_spec
      obtain ⟨f', fd, ps, h1, h2, h3, h4, h5⟩ := O.ok _ _ _ c.2
      rw [c.1] at h1
      cases h1
      rw [← h2]
      exact ⟨fd, ps, quietFn h3, h4, h5⟩
    · cases e1
  · unfold dCallT at h
    split at h
    · rename_i y hy
      obtain ⟨v, hv', rv⟩ := er.2 i _ hy
      cases rv with
      | fn hm =>
        split at h
        · rename_i n fM ht
          refine ⟨_, _, hv', by dsimp only; rw [tabS_of O hm ht]; rfl, ?_⟩
          refine TAo.bind sF er h fun ds vs F1 H1 g1 r1 h1 => ?_
          have h1' : (callM n fM ds).wp (VW X F0 H Q) (fun _ => False) := h1
          unfold callM at h1'
          split at h1'
          · rename_i hl
            exact ⟨F1, ds, g1.sub, r1, hl, (fM ds).mono (fun d z => z.grow g1) (fun _ z => z.elim) h1'⟩
          · exact h1'.elim
        · exact h.elim
    · exact h.elim
end
def tyD : D → Option String
  | .non => some "NoneType"
  | .bl _ => some "bool"
  | .int _ => some "int"
  | .str _ => some "str"
  | .tup _ => some "tuple"
  | .ktup _ => some "tuple"
  | .lst _ => some "list"
  | .dct _ _ => some "dict"
  | _ => none
def isB (a b : String) : Bool := a == b || (a == "bool" && b == "int")
def opIsi (T : String) (d : D) : Option D := (tyD d).map fun t => .bl (isB t T)
def opIsi2 (T U : String) (d : D) : Option D := (tyD d).map fun t => .bl (isB t T || isB t U)
section
variable {X : Cx} {W : WX} {e : Expr} {f : EM} {pos p p2 p3 p4 p5 : Pos} {k : Nat}
theorem Rep.ty {K : K'} {mg : Mg} {F H : Hp} {v : V} {d : D} {t : String} (sF : Sub F H) (r : Rep K mg F v d) (h : tyD d = some t) : TyX K H v (.type t) := by
  cases r <;> first | (cases h; done) | skip
  · cases h; exact .base .non
  · cases h; exact .base (.bl _)
  · cases h; exact .base (.int _)
  · cases h; exact .base (.str _)
  · rename_i ha ra _
    cases h
    exact .base (.tup (sF _ _ ha))
  · rename_i ha ra _
    cases h
    rcases ha with (ha | ⟨o, ha⟩) | ⟨o, its, n, hk, hc, _⟩
    · exact .base (.tup (sF _ _ ha))
    · exact .fTuple (sF _ _ ha)
    · exact .kTuple hk hc
  · rename_i ha ra _
    cases h
    exact .base (.lst (sF _ _ ha))
  · rename_i ha ra _
    cases h
    exact .base (.dK (sF _ _ ha))
  · rename_i ha ra _
    cases h
    exact .base (.dT (sF _ _ ha))
def kitsOf (T : String) : Prop := kitB "NoneType" T = some (isB "NoneType" T) ∧ kitB "bool" T = some (isB "bool" T) ∧ kitB "int" T = some (isB "int" T) ∧ kitB "str" T = some (isB "str" T) ∧
  kitB "tuple" T = some (isB "tuple" T) ∧ kitB "list" T = some (isB "list" T) ∧ kitB "dict" T = some (isB "dict" T)
theorem kits_int : kitsOf "int" := by refine ⟨?_, ?_, ?_, ?_, ?_, ?_, ?_⟩ <;> decide +kernel
theorem kits_bool : kitsOf "bool" := by refine ⟨?_, ?_, ?_, ?_, ?_, ?_, ?_⟩ <;> decide +kernel
theorem kits_str : kitsOf "str" := by refine ⟨?_, ?_, ?_, ?_, ?_, ?_, ?_⟩ <;> decide +kernel
theorem kits_tuple : kitsOf "tuple" := by refine ⟨?_, ?_, ?_, ?_, ?_, ?_, ?_⟩ <;> decide +kernel
theorem kits_list : kitsOf "list" := by refine ⟨?_, ?_, ?_, ?_, ?_, ?_, ?_⟩ <;> decide +kernel
theorem kits_dict : kitsOf "dict" := by refine ⟨?_, ?_, ?_, ?_, ?_, ?_, ?_⟩ <;> decide +kernel
theorem kit_at {T t : String} {d : D} (h : kitsOf T) (e : tyD d = some t) : kitB t T = some (isB t T) := by
  obtain ⟨h1, h2, h3, h4, h5, h6, h7⟩ := h
  cases d <;> first | (cases e; done) | (cases e; assumption)
theorem u_ty {x : Str} {T : String} (hg : Gl X x) (hm : X.mg x = none) (hv : bootBuiltins x = some (.type T)) (hn : x ≠ "__name__" := by decide) (hdb : (x == ("__debug__" : Str)) = false := by decide) : PE X (.Name x pos) (tC (.ty T)) := pe_bltn hg hm hv rfl hn hdb
theorem u_isi {x : Str} {T : String} (hg1 : Gl X "isinstance") (hm1 : X.mg "isinstance" = none) (hb1 : bootBuiltins "isinstance" = some (.builtin "isinstance")) (hg : Gl X x) (hm : X.mg x = none) (hv : bootBuiltins x = some (.type T)) (kT : kitsOf T)
    (ha : PuE X W e f) (hn : x ≠ "__name__" := by decide) (hdb : (x == ("__debug__" : Str)) = false := by decide)
    (he : starEach [e, .Name x p2] X.env = (false, eval e X.env) :: starEach [.Name x p2] X.env := by rfl) (hpl : (backTo pos (starEach [.Name x p2] X.env)).any (·.1) = false := by rfl) :
    PuE X W (.Call (.Name "isinstance" p) [e, .Name x p2] [] pos) (dUn (opIsi T) f) := by
  refine PE_imp (pe_callB call_isi hg1 hm1 hb1 (pa_cons ha (pa_cons (u_ty hg hm hv hn hdb) pa_nil) he) (by decide) (by decide) he hpl) fun σ H Q ⟨F, ρ, sF, er, h⟩ => ?_
  refine TEo.bind sF er h fun d v F1 H1 g1 r1 h1 => ?_
  obtain ⟨r, e1, q⟩ := wp_opt h1
  unfold opIsi at e1
  obtain ⟨t, e2, e3⟩ := map_some e1
  subst e3
  exact ⟨v, .ty T, .type t, .type T, isB t T, rfl, .ty T, r1.ty g1.sub e2, kit_ty (kit_at kT e2), q _ F1 H1 g1 (.bl _)⟩
theorem u_isi2 {x y : Str} {T U : String} {kk : Nat} (hg1 : Gl X "isinstance") (hm1 : X.mg "isinstance" = none) (hb1 : bootBuiltins "isinstance" = some (.builtin "isinstance"))
    (hg : Gl X x) (hm : X.mg x = none) (hv : bootBuiltins x = some (.type T)) (kT : kitsOf T) (hg' : Gl X y) (hm' : X.mg y = none) (hv' : bootBuiltins y = some (.type U)) (kU : kitsOf U)
    (ha : PuE X W e f) (hn : x ≠ "__name__" := by decide) (hdb : (x == ("__debug__" : Str)) = false := by decide) (hn' : y ≠ "__name__" := by decide) (hdb' : (y == ("__debug__" : Str)) = false := by decide)
    (he : starEach [e, .Tuple [.Name x p2, .Name y p3] kk p4] X.env = (false, eval e X.env) :: starEach [.Tuple [.Name x p2, .Name y p3] kk p4] X.env := by rfl) (hpl : (backTo pos (starEach [.Tuple [.Name x p2, .Name y p3] kk p4] X.env)).any (·.1) = false := by rfl) :
    PuE X W (.Call (.Name "isinstance" p) [e, .Tuple [.Name x p2, .Name y p3] kk p4] [] pos) (dUn (opIsi2 T U) f) := by
  refine PE_imp (pe_callB call_isiT hg1 hm1 hb1 (pa_cons ha (pa_cons (pe_tup (pa_cons (u_ty hg hm hv hn hdb) (pa_cons (u_ty hg' hm' hv' hn' hdb') pa_nil))) pa_nil) he) (by decide) (by decide) he hpl) fun σ H Q ⟨F, ρ, sF, er, h⟩ => ?_
  refine TEo.bind sF er h fun d v F1 H1 g1 r1 h1 => ?_
  obtain ⟨r, e1, q⟩ := wp_opt h1
  unfold opIsi2 at e1
  obtain ⟨t, e2, e3⟩ := map_some e1
  subst e3
  refine ⟨szOk (by show 2 ≤ 16777216; decide), fun tp htp => ?_⟩
  have s1 : Same H1 (upd H1 tp (.tup [.ty T, .ty U])) := same_upd htp
  refine ⟨v, tp, [.ty T, .ty U], .type t, [.type T, .type U], isB t T || isB t U, rfl, upd_same, .cons (.ty T) (.cons (.ty U) .nil), r1.ty (g1.sub.trans (.of s1)) e2, ?_, ?_⟩
  · refine kitAny_cons (kit_ty (kit_at kT e2)) (fun z => ?_) (fun z => by rw [z]; rfl)
    refine kitAny_cons (kit_ty (kit_at kU e2)) (fun z' => ?_) (fun z' => by rw [z', Bool.or_true])
    rw [z, z']
    rfl
  · exact q _ F1 _ (g1.trans (Grow.wild g1.sub htp)) (.bl _)
end
end P5

namespace P5
open PySem L2 PyProof.Rows
variable [Tb]

def isMut : D → Bool
  | .lst _ => true
  | .dct 0 _ => true
  | .dct 1 _ => true
  | _ => false
inductive OwnR (K : K') (mg : Mg) (F H : Hp) : Addr → D → Prop
  | lst {a : Addr} {xs : List V} {ds : List D} : H a = some (.lst xs) → RepL K mg F xs ds → ds.length ≤ 16777216 → OwnR K mg F H a (.lst ds)
  | dK {a : Addr} {kvs : List (L2.Key × V)} {ds : List (D × D)} : H a = some (.dK kvs) → RepK K mg F kvs ds → ds.length ≤ 16777216 → OwnR K mg F H a (.dct 0 ds)
  | dT {a : Addr} {kvs : List (List L2.Key × V)} {ds : List (D × D)} : H a = some (.dT kvs) → RepT K mg F kvs ds → ds.length ≤ 16777216 → OwnR K mg F H a (.dct 1 ds)
theorem OwnR.mut {K : K'} {mg : Mg} {F H : Hp} {a : Addr} {d : D} (h : OwnR K mg F H a d) : isMut d = true := by cases h <;> rfl
theorem OwnR.grow {K : K'} {mg : Mg} {F H F' H' : Hp} {a : Addr} {d : D} (h : OwnR K mg F H a d) (s : Same F F') (e : H' a = H a) : OwnR K mg F' H' a d := by
  cases h with
  | lst h r z => exact .lst (e.trans h) (r.grow s) z
  | dK h r z => exact .dK (e.trans h) (r.grow s) z
  | dT h r z => exact .dT (e.trans h) (r.grow s) z
theorem OwnR.rep {K : K'} {mg : Mg} {F H : Hp} {a : Addr} {d : D} (h : OwnR K mg F H a d) {F2 : Hp} (s : Same F F2) (e : F2 a = H a) : Rep K mg F2 (.ref a) d := by
  cases h with
  | lst h r z => exact .lst (e.trans h) (r.grow s) z
  | dK h r z => exact .dctK (e.trans h) (r.grow s) z
  | dT h r z => exact .dctT (e.trans h) (r.grow s) z
theorem OwnR.some {K : K'} {mg : Mg} {F H : Hp} {a : Addr} {d : D} (h : OwnR K mg F H a d) : H a ≠ none := by
  cases h with
  | lst h r _ => rw [h]; exact fun z => nomatch z
  | dK h r _ => rw [h]; exact fun z => nomatch z
  | dT h r _ => rw [h]; exact fun z => nomatch z
def mutHO : Option HO → Bool
  | some (.lst _) => true
  | some (.dK _) => true
  | some (.dT _) => true
  | _ => false
theorem OwnR.ho {K : K'} {mg : Mg} {F H : Hp} {a : Addr} {d : D} (h : OwnR K mg F H a d) : mutHO (H a) = true := by
  cases h with
  | lst h r _ => rw [h]; rfl
  | dK h r _ => rw [h]; rfl
  | dT h r _ => rw [h]; rfl

theorem mut_notT {u : HO} (h : mutHO (some u) = true) : notT u = true := by cases u <;> first | rfl | (cases h; done)
theorem hs_own {K : K'} {mg : Mg} {F H H' : Hp} {a : Addr} {d : D} (o : OwnR K mg F H a d) (s : SameN H H') : H' a = H a := by
  cases e : H a with
  | none => exact (o.some e).elim
  | some u => exact s.kp a u e (mut_notT (by rw [← e]; exact o.ho))
structure SR (K : K') (mg : Mg) (mu : List Nat) (F0 H0 Fb F H : Hp) (σ : L2.St) (ρ : Env') : Prop where
  sub : Sub F H
  fs0 : Same F0 F
  fb : Same Fb F
  hs0 : SameN H0 H
  new : ∀ a, F0 a = none → H0 a ≠ none → F a = none
  len : σ.length = ρ.length
  val : ∀ (i : Nat) (d : D), ρ[i]? = some (some d) → (i ∈ mu → isMut d = false) → ∃ v, σ[i]? = some (some v) ∧ Rep K mg F v d
  own : ∀ (i : Nat) (d : D), ρ[i]? = some (some d) → i ∈ mu → isMut d = true → ∃ a, σ[i]? = some (some (.ref a)) ∧ F a = none ∧ H0 a = none ∧ OwnR K mg F H a d
  sep : ∀ (i j : Nat) (d e : D) (a b : Addr), i ∈ mu → j ∈ mu → i ≠ j → ρ[i]? = some (some d) → isMut d = true → ρ[j]? = some (some e) → isMut e = true → σ[i]? = some (some (.ref a)) → σ[j]? = some (some (.ref b)) → a ≠ b
def Owned (mu : List Nat) (σ : L2.St) (ρ : Env') (a : Addr) : Prop := ∃ i d, i ∈ mu ∧ ρ[i]? = some (some d) ∧ isMut d = true ∧ σ[i]? = some (some (.ref a))
def hide (mu : List Nat) (ρ : Env') : Env' := ρ.mapIdx fun i o => if mu.contains i then none else o
theorem hide_get {mu : List Nat} {ρ : Env'} {i : Nat} {d : D} (h : (hide mu ρ)[i]? = some (some d)) : ρ[i]? = some (some d) ∧ i ∉ mu := by
  unfold hide at h
  rw [List.getElem?_mapIdx] at h
  obtain ⟨o, e1, e2⟩ := map_some h
  split at e2
  · cases e2
  · rename_i hc
    refine ⟨by rw [e1, e2], fun hm => hc (by simpa using hm)⟩
def immD : D → Bool
  | .non => true
  | .bl _ => true
  | .int _ => true
  | .str _ => true
  | .tup xs => immL xs
  | .ktup xs => immL xs
  | .fn _ => true
  | .bag => true
  | _ => false
where immL : List D → Bool
  | [] => true
  | x :: xs => immD x && immL xs
section
variable {K : K'} {mg : Mg} {F F' : Hp}
mutual
theorem Rep.imm (e : ∀ b o, F b = some o → mutHO (some o) = false → F' b = some o) (ef : ∀ b o u, F b = some (.frz o u) → F' b = some (.frz o u)) : ∀ {v : V} {d : D}, Rep K mg F v d → immD d = true → Rep K mg F' v d
  | _, _, .non, _ => .non
  | _, _, .bl b, _ => .bl b
  | _, _, .int i, _ => .int i
  | _, _, .str x, _ => .str x
  | _, _, .tup h r z, q => .tup (e _ _ h rfl) (RepL.imm e ef r (by simpa [immD] using q)) z
  | _, _, .ktup h r z, q => by
    refine .ktup ?_ (RepL.imm e ef r (by simpa [immD] using q)) z
    rcases h with (h | ⟨o, h⟩) | h
    · exact .inl (.inl (e _ _ h rfl))
    · exact .inl (.inr ⟨o, ef _ _ _ h⟩)
    · exact .inr h
  | _, _, .fn h, _ => .fn h
  | _, _, .bag h i j z, _ => .bag (e _ _ h rfl) i (ef _ _ _ j) z
  | _, _, .exc _ _ _, q => by simp [immD] at q
  | _, _, .lam, q => by simp [immD] at q
  | _, _, .lst _ _ _, q => by simp [immD] at q
  | _, _, .scr _ _, q => by simp [immD] at q
  | _, _, .dctK _ _ _, q => by simp [immD] at q
  | _, _, .dctT _ _ _, q => by simp [immD] at q
theorem RepL.imm (e : ∀ b o, F b = some o → mutHO (some o) = false → F' b = some o) (ef : ∀ b o u, F b = some (.frz o u) → F' b = some (.frz o u)) : ∀ {v : List V} {d : List D}, RepL K mg F v d → immD.immL d = true → RepL K mg F' v d
  | _, _, .nil, _ => .nil
  | _, _, .cons h r, q => by
    rw [immD.immL, Bool.and_eq_true] at q
    exact .cons (Rep.imm e ef h q.1) (RepL.imm e ef r q.2)
end
end
section
variable {K : K'} {mg : Mg} {mu : List Nat} {F0 H0 Fb F H F' H' : Hp} {σ : L2.St} {ρ : Env'}
theorem SR.grows (s : SR K mg mu F0 H0 Fb F H σ ρ) : Grow F0 H0 F H := ⟨s.fs0, s.hs0, s.sub, s.new⟩
theorem SR.bound {Fc : Hp} (s : SR K mg mu F0 H0 Fb F H σ ρ) (e : Same Fc F) : SR K mg mu F0 H0 Fc F H σ ρ := ⟨s.sub, s.fs0, e, s.hs0, s.new, s.len, s.val, s.own, s.sep⟩
theorem SR.hid (s : SR K mg mu F0 H0 Fb F H σ ρ) : ER K mg F σ (hide mu ρ) :=
  ⟨by unfold hide; rw [List.length_mapIdx]; exact s.len, fun i d h => let ⟨h1, h2⟩ := hide_get h; s.val i d h1 fun z => (h2 z).elim⟩
theorem SR.grow (s : SR K mg mu F0 H0 Fb F H σ ρ) (g : Grow F H F' H') : SR K mg mu F0 H0 Fb F' H' σ ρ where
  sub := g.sub
  fs0 := s.fs0.trans g.fs
  fb := s.fb.trans g.fs
  hs0 := s.hs0.trans g.hs
  new := fun a h1 h2 => g.new a (s.new a h1 h2) (by
    exact s.hs0.nn a h2)
  len := s.len
  val := fun i d h1 h2 => let ⟨v, e, r⟩ := s.val i d h1 h2; ⟨v, e, r.grow g.fs⟩
  own := fun i d h1 h2 h3 => by
    obtain ⟨a, e1, e2, e3, o⟩ := s.own i d h1 h2 h3
    exact ⟨a, e1, g.new a e2 o.some, e3, o.grow g.fs (hs_own o g.hs)⟩
  sep := s.sep
open Classical in
noncomputable def full (mu : List Nat) (σ : L2.St) (ρ : Env') (F H : Hp) : Hp := fun b => if Owned mu σ ρ b then H b else F b
open Classical in
noncomputable def back (mu : List Nat) (σ : L2.St) (ρ : Env') (F2 : Hp) : Hp := fun b => if Owned mu σ ρ b then none else F2 b
theorem SR.notOwned (s : SR K mg mu F0 H0 Fb F H σ ρ) {b : Addr} (h : F b ≠ none) : ¬ Owned mu σ ρ b := fun ⟨i, d, h1, h2, h3, h4⟩ => by
  obtain ⟨a, e1, e2, _⟩ := s.own i d h2 h1 h3
  rw [h4] at e1
  cases e1
  exact h e2
theorem SR.ownedHO (s : SR K mg mu F0 H0 Fb F H σ ρ) {b : Addr} (h : Owned mu σ ρ b) : mutHO (H b) = true ∧ H0 b = none ∧ F b = none := by
  obtain ⟨i, d, h1, h2, h3, h4⟩ := h
  obtain ⟨a, e1, e2, e3, o⟩ := s.own i d h2 h1 h3
  rw [h4] at e1
  cases e1
  exact ⟨o.ho, e3, e2⟩
theorem SR.toFull (s : SR K mg mu F0 H0 Fb F H σ ρ) : Same F (full mu σ ρ F H) := fun b o e => by
  unfold full
  rw [if_neg (s.notOwned (by rw [e]; exact fun z => nomatch z))]
  exact e
theorem SR.fullSub (s : SR K mg mu F0 H0 Fb F H σ ρ) : Sub (full mu σ ρ F H) H := by
  refine ⟨fun b o e => ?_, fun b o e => ?_, s.sub.t⟩
  · unfold full at e
    split at e
    · exact e
    · exact s.sub _ _ e
  · unfold full at e
    split at e
    · rename_i w
      exact mut_notT (by rw [← e]; exact (s.ownedHO w).1)
    · exact s.sub.n _ _ e
theorem SR.vis (s : SR K mg mu F0 H0 Fb F H σ ρ) : ER K mg (full mu σ ρ F H) σ ρ := by
  refine ⟨s.len, fun i d h => ?_⟩
  by_cases hm : i ∈ mu ∧ isMut d = true
  · obtain ⟨a, e1, e2, e3, o⟩ := s.own i d h hm.1 hm.2
    refine ⟨_, e1, o.rep s.toFull ?_⟩
    unfold full
    rw [if_pos ⟨i, d, hm.1, h, hm.2, e1⟩]
  · obtain ⟨v, e, r⟩ := s.val i d h fun z => by
      cases q : isMut d with
      | false => rfl
      | true => exact (hm ⟨z, q⟩).elim
    exact ⟨v, e, r.grow s.toFull⟩
theorem SR.fullGrow (s : SR K mg mu F0 H0 Fb F H σ ρ) (g : Grow (full mu σ ρ F H) H F' H') : Grow F0 H0 F' H' where
  fs := (s.fs0.trans s.toFull).trans g.fs
  hs := s.hs0.trans g.hs
  sub := g.sub
  new := fun a h1 h2 => by
    have h3 : H a ≠ none := s.hs0.nn a h2
    refine g.new a ?_ h3
    unfold full
    rw [if_neg (fun z => h2 (s.ownedHO z).2.1)]
    exact s.new a h1 h2
theorem SR.bak (s : SR K mg mu F0 H0 Fb F H σ ρ) (g : Grow (full mu σ ρ F H) H F' H') : SR K mg mu F0 H0 Fb (back mu σ ρ F') H' σ ρ := by
  have fb : Same F (back mu σ ρ F') := fun b o e => by
    have nb : ¬ Owned mu σ ρ b := s.notOwned (by rw [e]; exact fun z => nomatch z)
    unfold back
    rw [if_neg nb]
    exact g.fs _ _ (s.toFull _ _ e)
  have g0 := s.fullGrow g
  refine ⟨⟨fun b o e => ?_, fun b o e => ?_, g.sub.t⟩, s.fs0.trans fb, s.fb.trans fb, g0.hs, fun a h1 h2 => ?_, s.len, fun i d h1 h2 => ?_, fun i d h1 h2 h3 => ?_, s.sep⟩
  · unfold back at e
    split at e
    · cases e
    · exact g.sub _ _ e
  · unfold back at e
    split at e
    · cases e
    · exact g.sub.n _ _ e
  · unfold back
    split
    · rfl
    · exact g0.new a h1 h2
  · obtain ⟨v, e, r⟩ := s.val i d h1 h2
    exact ⟨v, e, r.grow fb⟩
  · obtain ⟨a, e1, e2, e3, o⟩ := s.own i d h1 h2 h3
    refine ⟨a, e1, ?_, e3, o.grow fb ?_⟩
    · unfold back
      rw [if_pos ⟨i, d, h2, h1, h3, e1⟩]
    · exact hs_own o g.hs
theorem SR.bakImm (s : SR K mg mu F0 H0 Fb F H σ ρ) (g : Grow (full mu σ ρ F H) H F' H') : (∀ b o, F' b = some o → mutHO (some o) = false → back mu σ ρ F' b = some o) ∧ ∀ b o u, F' b = some (.frz o u) → back mu σ ρ F' b = some (.frz o u) := by
  have no : ∀ b o, F' b = some o → mutHO (some o) = false → ¬ Owned mu σ ρ b := fun b o e m z => by
    have h1 := (s.ownedHO z).1
    have h2 := g.sub _ _ e
    cases q : H b with
    | none =>
      rw [q] at h1
      cases h1
    | some u =>
      have h3 := g.hs.kp _ _ q (mut_notT (by rw [← q]; exact h1))
      rw [h2] at h3
      cases h3
      rw [q, m] at h1
      cases h1
  refine ⟨fun b o e m => ?_, fun b o u e => ?_⟩
  · unfold back
    rw [if_neg (no b o e m)]
    exact e
  · unfold back
    rw [if_neg (no b _ e rfl)]
    exact e
theorem SR.set (s : SR K mg mu F0 H0 Fb F H σ ρ) (i : Nat) {v : V} {d : D} (hi : i ∈ mu → isMut d = false) (r : Rep K mg F v d) : SR K mg mu F0 H0 Fb F H (σ.set i (some v)) (ρ.set i (some d)) := by
  have hl := s.len
  refine ⟨s.sub, s.fs0, s.fb, s.hs0, s.new, by simpa using s.len, fun j e h1 h2 => ?_, fun j e h1 h2 h3 => ?_, fun j k e e' a b h1 h2 h3 h4 h5 h6 h7 h8 h9 => ?_⟩
  · by_cases hj : i = j
    · subst hj
      have hb : i < ρ.length := by
        have := (List.getElem?_eq_some_iff.mp h1).1
        simpa using this
      rw [List.getElem?_set_self hb] at h1
      cases h1
      exact ⟨v, by rw [List.getElem?_set_self (by omega)], r⟩
    · rw [List.getElem?_set_ne hj] at h1 ⊢
      exact s.val j e h1 h2
  · by_cases hj : i = j
    · subst hj
      have hb : i < ρ.length := by
        have := (List.getElem?_eq_some_iff.mp h1).1
        simpa using this
      rw [List.getElem?_set_self hb] at h1
      cases h1
      rw [hi h2] at h3
      cases h3
    · rw [List.getElem?_set_ne hj] at h1 ⊢
      exact s.own j e h1 h2 h3
  · have nj : ∀ (j : Nat) (e : D), j ∈ mu → (ρ.set i (some d))[j]? = some (some e) → isMut e = true → i ≠ j := fun j e h1 h2 h3 hj => by
      subst hj
      have hb : i < ρ.length := by
        have := (List.getElem?_eq_some_iff.mp h2).1
        simpa using this
      rw [List.getElem?_set_self hb] at h2
      cases h2
      rw [hi h1] at h3
      cases h3
    have n1 := nj j e h1 h4 h5
    have n2 := nj k e' h2 h6 h7
    rw [List.getElem?_set_ne n1] at h4 h8
    rw [List.getElem?_set_ne n2] at h6 h9
    exact s.sep j k e e' a b h1 h2 h3 h4 h5 h6 h7 h8 h9
theorem SR.setOwn (s : SR K mg mu F0 H0 Fb F H σ ρ) (i : Nat) {a : Addr} {d : D} (hF : F a = none) (h0 : H0 a = none) (hno : ∀ (j : Nat) (e : D), j ∈ mu → j ≠ i → ρ[j]? = some (some e) → isMut e = true → σ[j]? ≠ some (some (.ref a))) (o : OwnR K mg F H a d) :
    SR K mg mu F0 H0 Fb F H (σ.set i (some (.ref a))) (ρ.set i (some d)) ∨ i ∉ mu := by
  by_cases him : i ∈ mu
  · refine .inl ?_
    have hl := s.len
    refine ⟨s.sub, s.fs0, s.fb, s.hs0, s.new, by simpa using s.len, fun j e h1 h2 => ?_, fun j e h1 h2 h3 => ?_, fun j k e e' x y h1 h2 h3 h4 h5 h6 h7 h8 h9 => ?_⟩
    · by_cases hj : i = j
      · subst hj
        have hb : i < ρ.length := by
          have := (List.getElem?_eq_some_iff.mp h1).1
          simpa using this
        rw [List.getElem?_set_self hb] at h1
        cases h1
        have z := h2 him
        rw [o.mut] at z
        cases z
      · rw [List.getElem?_set_ne hj] at h1 ⊢
        exact s.val j e h1 h2
    · by_cases hj : i = j
      · subst hj
        have hb : i < ρ.length := by
          have := (List.getElem?_eq_some_iff.mp h1).1
          simpa using this
        rw [List.getElem?_set_self hb] at h1
        cases h1
        exact ⟨a, by rw [List.getElem?_set_self (by omega)], hF, h0, o⟩
      · rw [List.getElem?_set_ne hj] at h1 ⊢
        exact s.own j e h1 h2 h3
    · have at' : ∀ (j : Nat) (e : D) (z : Addr), (ρ.set i (some d))[j]? = some (some e) → (σ.set i (some (.ref a)))[j]? = some (some (.ref z)) → i = j → z = a := fun j e z h2 h3 hj => by
        subst hj
        have hb : i < ρ.length := by
          have := (List.getElem?_eq_some_iff.mp h2).1
          simpa using this
        rw [List.getElem?_set_self (by omega)] at h3
        cases h3
        rfl
      by_cases n1 : i = j
      · have e1 := at' j e x h4 h8 n1
        subst e1
        have n2 : i ≠ k := fun z => h3 (n1.symm.trans z)
        rw [List.getElem?_set_ne n2] at h6 h9
        exact fun z => hno k e' h2 (fun q => n2 q.symm) h6 h7 (by rw [z]; exact h9)
      · rw [List.getElem?_set_ne n1] at h4 h8
        by_cases n2 : i = k
        · have e2 := at' k e' y h6 h9 n2
          subst e2
          exact fun z => hno j e h1 (fun q => n1 q.symm) h4 h5 (by rw [← z]; exact h8)
        · rw [List.getElem?_set_ne n2] at h6 h9
          exact s.sep j k e e' x y h1 h2 h3 h4 h5 h6 h7 h8 h9
  · exact .inr him
end
end P5

namespace P5
open PySem L2 PyProof.Rows
variable [Tb]

inductive Fl where
  | nx (ρ : Env')
  | rt (d : D)
  | bk (ρ : Env')
  | ct (ρ : Env')
abbrev MS := MM (Err × Env')
abbrev SM := Env' → MS Fl
def immE (e : Err) : Bool := immD.immL (e.args.map (·.2))
def liftI {α : Type} (ρ : Env') (m : M α) : MS α := ⟨fun Q E => m.wp Q (fun e => immE e = true ∧ E (e, ρ)), fun q e h => m.mono q (fun _ z => ⟨z.1, e _ z.2⟩) h⟩
def liftF {α : Type} (ρ : Env') (m : M α) : MS α := ⟨fun Q E => m.wp Q (fun e => E (e, ρ)), fun q e h => m.mono q (fun _ z => e _ z) h⟩
@[simp] theorem liftI_pure {α : Type} (ρ : Env') (a : α) : liftI ρ (pure a) = pure a := rfl
@[simp] theorem liftF_pure {α : Type} (ρ : Env') (a : α) : liftF ρ (pure a) = pure a := rfl
@[simp] theorem liftI_fail {α : Type} (ρ : Env') : liftI ρ (M.fail : M α) = M.fail := rfl
@[simp] theorem liftF_fail {α : Type} (ρ : Env') : liftF ρ (M.fail : M α) = M.fail := rfl
theorem liftI_bind {α β : Type} (ρ : Env') (m : M α) (k : α → M β) : liftI ρ (m >>= k) = liftI ρ m >>= fun a => liftI ρ (k a) := rfl
theorem liftF_bind {α β : Type} (ρ : Env') (m : M α) (k : α → M β) : liftF ρ (m >>= k) = liftF ρ m >>= fun a => liftF ρ (k a) := rfl
@[simp] theorem liftI_raise {α : Type} (ρ : Env') (e : Err) : liftI ρ (M.raise e : M α) = if immE e = true then M.raise (e, ρ) else M.fail := by
  split
  · rename_i h
    exact MM.ext fun Q E => ⟨fun z => z.2, fun z => ⟨h, z⟩⟩
  · rename_i h
    exact MM.ext fun Q E => ⟨fun z => h z.1, fun z => z.elim⟩
@[simp] theorem liftF_raise {α : Type} (ρ : Env') (e : Err) : liftF ρ (M.raise e : M α) = M.raise (e, ρ) := rfl
@[simp] theorem liftI_any {α : Type} (ρ : Env') (P : α → Prop) : liftI ρ (M.any P : M α) = M.any P := rfl
@[simp] theorem liftF_any {α : Type} (ρ : Env') (P : α → Prop) : liftF ρ (M.any P : M α) = M.any P := rfl
section
variable (X : Cx) (W : WX) (mu : List Nat) (F0 H0 Fb : Hp)
def SQ (D' : Ends) : Fl → Prop
  | .nx ρ' => ∀ F' H' σ', SR X.K X.mg mu F0 H0 Fb F' H' σ' ρ' → D'.nx σ' H'
  | .bk ρ' => ∀ F' H' σ', SR X.K X.mg mu F0 H0 Fb F' H' σ' ρ' → D'.bk σ' H'
  | .ct ρ' => ∀ F' H' σ', SR X.K X.mg mu F0 H0 Fb F' H' σ' ρ' → D'.ct σ' H'
  | .rt d => ∀ F' H' v, Grow F0 H0 F' H' → Rep X.K X.mg F' v d → D'.rt v H'
def SE : Err × Env' → Prop := fun p => ∀ F' H' σ' c dx, SR X.K X.mg mu F0 H0 Fb F' H' σ' p.2 → ErrR X.K X.mg F' H' p.1 c dx → W c dx σ' H'
def TSo (g : SM) : TS := fun D' σ H => ∃ F ρ, SR X.K X.mg mu F0 H0 Fb F H σ ρ ∧ (g ρ).wp (SQ X mu F0 H0 Fb D') (SE X W mu F0 H0 Fb)
end
def PuS (X : Cx) (W : WX) (mu : List Nat) (F0 H0 : Hp) (st : Stmt) (g : SM) : Prop := ∀ Fb, PS X st (TSo X W mu F0 H0 Fb g)
def PuB (X : Cx) (W : WX) (mu : List Nat) (F0 H0 : Hp) (sts : List Stmt) (g : SM) : Prop := ∀ Fb, PSs X sts (TSo X W mu F0 H0 Fb g)
section
variable {X : Cx} {W : WX} {mu : List Nat} {F0 H0 Fb : Hp} {st : Stmt} {sts : List Stmt} {g g' : SM} {pos p2 p3 p4 : Pos} {e c : Expr} {f : EM} {p : Env' → M Bool}
theorem PS_imp {t t' : TS} (h : PS X st t) (i : ∀ D σ H, t' D σ H → t D σ H) : PS X st t' := ⟨fun pins s σ H D I q => h.run pins s σ H D I (i D σ H q)⟩
theorem PSs_imp {t t' : TS} (h : PSs X sts t) (i : ∀ D σ H, t' D σ H → t D σ H) : PSs X sts t' := ⟨fun pins s σ H D I q => h.run pins s σ H D I (i D σ H q)⟩
theorem ErrR.imm {K : K'} {mg : Mg} {F F' H : Hp} {er : Err} {cv : Value} {dx : Option Addr} (e : ∀ b o, F b = some o → mutHO (some o) = false → F' b = some o) (ef : ∀ b o u, F b = some (.frz o u) → F' b = some (.frz o u)) (h : ErrR K mg F H er cv dx) (i : immE er = true) : ErrR K mg F' H er cv dx := by
  obtain ⟨C, h1, h2, h3⟩ := h
  refine ⟨C, h1, h2, ?_⟩
  rcases h3 with h3 | ⟨d, fs, h3, h4, h5⟩
  · exact .inl h3
  · exact .inr ⟨d, fs, h3, e _ _ h4 rfl, h5.1, RepL.imm e ef h5.2 i⟩
theorem see_all {α : Type} {σ : L2.St} {F H : Hp} {ρ : Env'} {m : Env' → M α} {Q : α → Prop} (s : SR X.K X.mg mu F0 H0 Fb F H σ ρ) (h : (liftI ρ (m ρ)).wp Q (SE X W mu F0 H0 Fb)) :
    ER X.K X.mg (full mu σ ρ F H) σ ρ ∧ Sub (full mu σ ρ F H) H ∧ (m ρ).wp Q (EW X W (full mu σ ρ F H) H σ) :=
  ⟨s.vis, s.fullSub, (m ρ).mono (fun _ z => z) (fun er z F' H' cv dx g r => z.2 _ _ _ _ _ (s.bak g) (r.imm (s.bakImm g).1 (s.bakImm g).2 z.1)) h⟩
theorem see_hid {α : Type} {σ : L2.St} {F H : Hp} {ρ : Env'} {m : Env' → M α} {Q : α → Prop} (s : SR X.K X.mg mu F0 H0 Fb F H σ ρ) (h : (liftF ρ (m (hide mu ρ))).wp Q (SE X W mu F0 H0 Fb)) :
    ER X.K X.mg F σ (hide mu ρ) ∧ Sub F H ∧ (m (hide mu ρ)).wp Q (EW X W F H σ) :=
  ⟨s.hid, s.sub, MM.mono _ (fun _ z => z) (fun er z F' H' cv dx g r => z _ _ _ _ _ (s.grow g) r) h⟩
theorem SR.behind {σ : L2.St} {F H F' H' : Hp} {ρ : Env'} {v : V} {d : D} (s : SR X.K X.mg mu F0 H0 Fb F H σ ρ) (g : Grow (full mu σ ρ F H) H F' H') (r : Rep X.K X.mg F' v d) (i : immD d = true) :
    SR X.K X.mg mu F0 H0 Fb (back mu σ ρ F') H' σ ρ ∧ Rep X.K X.mg (back mu σ ρ F') v d := ⟨s.bak g, r.imm (s.bakImm g).1 (s.bakImm g).2 i⟩

def sNil : SM := fun ρ => pure (.nx ρ)
def sSeq (g g' : SM) : SM := fun ρ => g ρ >>= fun r => match r with
  | .nx ρ' => g' ρ'
  | o => pure o
theorem b_nil : PuB X W mu F0 H0 [] sNil := fun Fb => PSs_imp pss_nil fun D' σ H ⟨F, ρ, s, h⟩ => h F H σ s
theorem b_cons (h1 : PuS X W mu F0 H0 st g) (h2 : PuB X W mu F0 H0 sts g') : PuB X W mu F0 H0 (st :: sts) (sSeq g g') := by
  intro Fb
  refine PSs_imp (pss_cons (h1 Fb) (h2 Fb)) fun D' σ H ⟨F, ρ, s, h⟩ => ?_
  refine ⟨F, ρ, s, (g ρ).mono (fun r z => ?_) (fun _ z => z) h⟩
  cases r with
  | nx ρ' => exact fun F' H' σ' s' => ⟨F', ρ', s', z⟩
  | rt d => exact z
  | bk ρ' => exact z
  | ct ρ' => exact z
theorem b_one (h1 : PuS X W mu F0 H0 st g) : PuB X W mu F0 H0 [st] g := fun Fb => pss_one (h1 Fb)
theorem s_pass : PuS X W mu F0 H0 (.Pass pos) sNil := fun Fb => PS_imp ps_pass fun D' σ H ⟨F, ρ, s, h⟩ => h F H σ s
theorem s_break : PuS X W mu F0 H0 (.Break pos) (fun ρ => pure (.bk ρ)) := fun Fb => PS_imp ps_break fun D' σ H ⟨F, ρ, s, h⟩ => h F H σ s
theorem s_cont : PuS X W mu F0 H0 (.Continue pos) (fun ρ => pure (.ct ρ)) := fun Fb => PS_imp ps_continue fun D' σ H ⟨F, ρ, s, h⟩ => h F H σ s
theorem s_doc {x j} : PuS X W mu F0 H0 (.Expr (.Constant (.str x) j pos) p2) sNil := fun Fb => PS_imp ps_doc fun D' σ H ⟨F, ρ, s, h⟩ => h F H σ s
def sRet (f : EM) : SM := fun ρ => liftI ρ (f ρ) >>= fun d => pure (.rt d)
theorem s_ret (he : PuE X W e f) : PuS X W mu F0 H0 (.Return (some e) pos) (sRet f) := by
  intro Fb
  refine PS_imp (ps_ret he) fun D' σ H ⟨F, ρ, s, h⟩ => ?_
  obtain ⟨h1, h2, h3⟩ := see_all (m := f) s h
  exact ⟨_, ρ, h2, h1, (f ρ).mono (fun d z v F' H' g r => z F' H' v (s.fullGrow g) r) (fun _ z => z) h3⟩
theorem s_retN : PuS X W mu F0 H0 (.Return none pos) (fun _ => pure (.rt .non)) := fun Fb => PS_imp ps_retN fun D' σ H ⟨F, ρ, s, h⟩ => h F H _ s.grows .non
def sDrop (f : EM) : SM := fun ρ => liftI ρ (f ρ) >>= fun _ => pure (.nx ρ)
theorem s_expr (he : PuE X W e f) (hs : swapsWith e none pos.line X.env = pure false := by rfl) : PuS X W mu F0 H0 (.Expr e pos) (sDrop f) := by
  intro Fb
  refine PS_imp (ps_expr he hs) fun D' σ H ⟨F, ρ, s, h⟩ => ?_
  obtain ⟨h1, h2, h3⟩ := see_all (m := f) s h
  exact ⟨_, ρ, h2, h1, (f ρ).mono (fun d z v F' H' g r => z _ H' σ (s.bak g)) (fun _ z => z) h3⟩
def sIf (p : Env' → M Bool) (g g' : SM) : SM := fun ρ => liftI ρ (p ρ) >>= fun b => if b = true then g ρ else g' ρ
theorem s_if {a b : List Stmt} (hc : PuT X W c p) (ha : PuB X W mu F0 H0 a g) (hb : PuB X W mu F0 H0 b g') : PuS X W mu F0 H0 (.If c a b pos) (sIf p g g') := by
  intro Fb
  refine PS_imp (ps_if hc (ha Fb) (hb Fb)) fun D' σ H ⟨F, ρ, s, h⟩ => ?_
  obtain ⟨h1, h2, h3⟩ := see_all (m := p) s h
  refine ⟨_, ρ, h2, h1, (p ρ).mono (fun b z F' H' gr => ?_) (fun _ z => z) h3⟩
  cases b with
  | true => exact ⟨_, ρ, s.bak gr, z⟩
  | false => exact ⟨_, ρ, s.bak gr, z⟩

def setsD (ρ : Env') (l : List (Nat × D)) : Env' := l.foldl (fun ρ p => ρ.set p.1 (some p.2)) ρ
def setsV (σ : L2.St) (l : List (Nat × V)) : L2.St := l.foldl (fun σ p => σ.set p.1 (some p.2)) σ
abbrev GD := D → Option (List (Nat × D))
inductive SetsR (K : K') (mg : Mg) (F : Hp) : List (Nat × V) → List (Nat × D) → Prop
  | nil : SetsR K mg F [] []
  | cons {i : Nat} {v : V} {d : D} {vs : List (Nat × V)} {ds : List (Nat × D)} : Rep K mg F v d → SetsR K mg F vs ds → SetsR K mg F ((i, v) :: vs) ((i, d) :: ds)
theorem SetsR.append {K : K'} {mg : Mg} {F : Hp} : ∀ {vs ws : List (Nat × V)} {ds es : List (Nat × D)}, SetsR K mg F vs ds → SetsR K mg F ws es → SetsR K mg F (vs ++ ws) (ds ++ es)
  | _, _, _, _, .nil, s => s
  | _, _, _, _, .cons r t, s => .cons r (SetsR.append t s)
def TGo (X : Cx) (gd : GD) : TG := fun v σ H Q => ∃ F d l, Sub F H ∧ Rep X.K X.mg F v d ∧ gd d = some l ∧ ∀ vs, SetsR X.K X.mg F vs l → Q (setsV σ vs) H
def PuG (X : Cx) (tg : Expr) (gd : GD) : Prop := PG X tg (TGo X gd)
def TGso (X : Cx) (gs : List D → Option (List (Nat × D))) : TGs := fun vs σ H Q => ∃ F ds l, Sub F H ∧ RepL X.K X.mg F vs ds ∧ gs ds = some l ∧ ∀ ws, SetsR X.K X.mg F ws l → Q (setsV σ ws) H
def PuGs (X : Cx) (ts : List Expr) (gs : List D → Option (List (Nat × D))) : Prop := PGs X ts (TGso X gs)
theorem PG_imp {tg : Expr} {t t' : TG} (h : PG X tg t) (i : ∀ v σ H Q, t' v σ H Q → t v σ H Q) : PG X tg t' := ⟨fun pins s σ H v u Q I r q => h.run pins s σ H v u Q I r (i v σ H Q q)⟩
theorem PGs_imp {ts : List Expr} {t t' : TGs} (h : PGs X ts t) (i : ∀ v σ H Q, t' v σ H Q → t v σ H Q) : PGs X ts t' := ⟨fun pins s σ H v u Q I r q => h.run pins s σ H v u Q I r (i v σ H Q q)⟩
def gdName (i : Nat) : GD := fun d => some [(i, d)]
theorem g_name {i : Nat} {x : Str} (hN : X.N.Nodup) (hi : X.N[i]? = some x) (hx : Loc X.env.scope x) (hf : X.fn x = true ∨ X.env.scope.names.lookup x = some .local := by first | exact .inl rfl | exact .inr rfl | assumption) : PuG X (.Name x pos) (gdName i) :=
  PG_imp (pg_name hN hi hx hf) fun v σ H Q ⟨F, d, l, sF, r, e, q⟩ => by
    cases e
    exact q [(i, v)] (.cons r .nil)
theorem RepL.cons_inv {K : K'} {mg : Mg} {F : Hp} {vs : List V} {d : D} {ds : List D} (r : RepL K mg F vs (d :: ds)) : ∃ v vs', vs = v :: vs' ∧ Rep K mg F v d ∧ RepL K mg F vs' ds := by
  cases r with
  | cons h t => exact ⟨_, _, rfl, h, t⟩
def gsNil : List D → Option (List (Nat × D))
  | [] => some []
  | _ => none
def gsCons (gd : GD) (gs : List D → Option (List (Nat × D))) : List D → Option (List (Nat × D))
  | d :: ds => (gd d).bind fun l => (gs ds).map fun m => l ++ m
  | [] => none
theorem gs_nil : PuGs X [] gsNil := PGs_imp pgs_nil fun vs σ H Q ⟨F, ds, l, sF, r, e, q⟩ => by
  unfold gsNil at e
  split at e
  · cases e
    cases r
    exact ⟨rfl, q [] .nil⟩
  · cases e
theorem gs_cons {t : Expr} {ts : List Expr} {gd : GD} {gs : List D → Option (List (Nat × D))} (h1 : PuG X t gd) (h2 : PuGs X ts gs)
    (hs : (assignEach (t :: ts) X.env).map (·.2) = assign t X.env :: (assignEach ts X.env).map (·.2) := by rfl) : PuGs X (t :: ts) (gsCons gd gs) := by
  refine PGs_imp (pgs_cons h1 h2 hs) fun vs σ H Q ⟨F, ds, l, sF, r, e, q⟩ => ?_
  cases ds with
  | nil => cases e
  | cons d ds =>
    obtain ⟨v, vs', rfl, r, rr⟩ := r.cons_inv
    have e' : (gd d).bind (fun l => (gs ds).map fun m => l ++ m) = some l := e
    cases e1 : gd d with
    | none =>
      rw [e1] at e'
      cases e'
    | some l1 =>
      rw [e1] at e'
      obtain ⟨m, e2, e3⟩ := map_some e'
      subst e3
      refine ⟨v, vs', rfl, F, d, l1, sF, r, e1, fun w1 s1 => ⟨F, ds, m, sF, rr, e2, fun w2 s2 => ?_⟩⟩
      have z := q (w1 ++ w2) (s1.append s2)
      unfold setsV at z ⊢
      rw [List.foldl_append] at z
      exact z
def tupItems : D → Option (List D)
  | .tup xs => some xs
  | .ktup xs => some xs
  | _ => none
def gdTup (n : Nat) (gs : List D → Option (List (Nat × D))) : GD := fun d => (tupItems d).bind fun xs => if xs.length = n then gs xs else none
theorem g_tup {ts : List Expr} {k : Nat} {gs : List D → Option (List (Nat × D))} {n : Nat} (hc : X.calm = true) (h : PuGs X ts gs)
    (hn : (assignEach ts X.env).length = n := by rfl) (hst : (assignEach ts X.env).findIdx? (·.1) = none := by rfl) : PuG X (.Tuple ts k pos) (gdTup n gs) := by
  refine PG_imp (pg_tup hc h hn hst) fun v σ H Q ⟨F, d, l, sF, r, e, q⟩ => ?_
  unfold gdTup at e
  cases e1 : tupItems d with
  | none =>
    rw [e1] at e
    cases e
  | some xs =>
    rw [e1] at e
    have e' : (if xs.length = n then gs xs else none) = some l := e
    split at e'
    · rename_i hl
      cases d <;> first | (cases e1; done) | skip
      · cases e1
        obtain ⟨a, ys, rfl, ha, ra⟩ := r.tup_inv
        exact ⟨a, ys, rfl, SqT.of (sF _ _ ha), by rw [ra.length]; exact hl, F, _, l, sF, ra, e', q⟩
      · cases e1
        cases r with
        | ktup ha ra _ => exact ⟨_, _, rfl, seqT sF.s ha, by rw [ra.length]; exact hl, F, _, l, sF, ra, e', q⟩
    · cases e'
theorem ER.sets {K : K'} {mg : Mg} {F : Hp} : ∀ {ws : List (Nat × V)} {l : List (Nat × D)} {σ : L2.St} {ρ : Env'}, SetsR K mg F ws l → ER K mg F σ ρ → ER K mg F (setsV σ ws) (setsD ρ l)
  | _, _, _, _, .nil, h => h
  | _, _, _, _, .cons (i := i) r t, h => by
    unfold setsV setsD
    rw [List.foldl_cons, List.foldl_cons]
    exact ER.sets t (h.set i r)
def okSets (mu : List Nat) (l : List (Nat × D)) : Bool := l.all fun p => !(mu.contains p.1 && isMut p.2)
theorem SR.sets {F H : Hp} : ∀ {ws : List (Nat × V)} {l : List (Nat × D)} {σ : L2.St} {ρ : Env'}, SetsR X.K X.mg F ws l → okSets mu l = true → SR X.K X.mg mu F0 H0 Fb F H σ ρ → SR X.K X.mg mu F0 H0 Fb F H (setsV σ ws) (setsD ρ l)
  | _, _, _, _, .nil, _, h => h
  | _, _, _, _, .cons (i := i) (d := d) r t, ok, h => by
    unfold setsV setsD
    rw [List.foldl_cons, List.foldl_cons]
    unfold okSets at ok
    rw [List.all_cons, Bool.and_eq_true] at ok
    refine SR.sets t ok.2 (h.set i (fun hm => ?_) r)
    have z := ok.1
    cases q : isMut d with
    | false => rfl
    | true =>
      rw [show mu.contains i = true by simpa using hm, q] at z
      cases z
def sSetI (mu : List Nat) (f : EM) (gd : GD) : SM := fun ρ => liftI ρ (f ρ) >>= fun d => if immD d = true then M.opt (gd d) >>= fun l => if okSets mu l = true then pure (.nx (setsD ρ l)) else M.fail else M.fail
def sSetF (mu : List Nat) (f : EM) (gd : GD) : SM := fun ρ => liftF ρ (f (hide mu ρ)) >>= fun d => M.opt (gd d) >>= fun l => if okSets mu l = true then pure (.nx (setsD ρ l)) else M.fail
theorem s_asgI {tg : Expr} {gd : GD} (he : PuE X W e f) (hg : PuG X tg gd) (hs : swapsWithSole [tg] e pos.line X.env = pure false := by rfl) (hw : swappedStores [tg] e X.env = pure none := by rfl)
    (h1 : (assignEach [tg] X.env).map (·.2) = [assign tg X.env] := by rfl) : PuS X W mu F0 H0 (.Assign [tg] e pos) (sSetI mu f gd) := by
  intro Fb
  refine PS_imp (ps_asg he hg hs hw h1) fun D' σ H ⟨F, ρ, s, h⟩ => ?_
  obtain ⟨h1, h2, h3⟩ := see_all (m := f) s h
  refine ⟨_, ρ, h2, h1, (f ρ).mono (fun d z v F' H' gr r => ?_) (fun _ z => z) h3⟩
  dsimp only at z
  split at z
  · rename_i hi
    obtain ⟨l, e1, z⟩ := wp_opt z
    obtain ⟨s1, r1⟩ := s.behind gr r hi
    dsimp only at z
    split at z
    · rename_i ok
      exact ⟨_, d, l, s1.sub, r1, e1, fun ws sw => z _ _ _ (SR.sets sw ok s1)⟩
    · exact z.elim
  · exact z.elim
theorem s_asgF {tg : Expr} {gd : GD} (he : PuE X W e f) (hg : PuG X tg gd) (hs : swapsWithSole [tg] e pos.line X.env = pure false := by rfl) (hw : swappedStores [tg] e X.env = pure none := by rfl)
    (h1 : (assignEach [tg] X.env).map (·.2) = [assign tg X.env] := by rfl) : PuS X W mu F0 H0 (.Assign [tg] e pos) (sSetF mu f gd) := by
  intro Fb
  refine PS_imp (ps_asg he hg hs hw h1) fun D' σ H ⟨F, ρ, s, h⟩ => ?_
  obtain ⟨h1, h2, h3⟩ := see_hid (m := f) s h
  refine ⟨F, _, h2, h1, MM.mono _ (fun d z v F' H' gr r => ?_) (fun _ z => z) h3⟩
  obtain ⟨l, e1, z⟩ := wp_opt z
  dsimp only at z
  split at z
  · rename_i ok
    exact ⟨F', d, l, gr.sub, r, e1, fun ws sw => z _ _ _ (SR.sets sw ok (s.grow gr))⟩
  · exact z.elim
end
end P5

namespace P5
open PySem L2 PyProof.Rows
variable [Tb]

structure Wlk (K : K') (mg : Mg) (J : It) (F : Hp) (ds : List D) : Prop where
  sz : ds.length ≤ 16777216
  go : ∀ i H, Sub F H → i < ds.length → J.go i H
  stop : ∀ H, Sub F H → J.stop ds.length H
  yld : ∀ i F1 H1 x H2, Same F F1 → Sub F1 H1 → i < ds.length → J.yld i H1 x H2 → ∃ F2 d, Grow F1 H1 F2 H2 ∧ ds[i]? = some d ∧ Rep K mg F2 x d
def TIo (X : Cx) (W : WX) (f : Env' → M (List D)) : TI := fun σ H R => ∃ F ρ, Sub F H ∧ ER X.K X.mg F σ ρ ∧
  (f ρ).wp (fun ds => ∀ J F' H', Grow F H F' H' → Wlk X.K X.mg J F' ds → R J H') (EW X W F H σ)
def PuI (X : Cx) (W : WX) (tg iter : Expr) (f : Env' → M (List D)) : Prop := PI X tg iter (TIo X W f)
section
variable {K : K'} {mg : Mg} {F : Hp} {a b : Addr} {ds es : List D} {xs ys : List V}
theorem wlk_of {J : It} {n : Nat} {G : Hp → Prop} (w : Walk J n G (YAt xs)) (hG : ∀ H, Sub F H → G H) (hn : n = ds.length) (r : RepL K mg F xs ds) (z : ds.length ≤ 16777216) : Wlk K mg J F ds where
  sz := z
  go := fun i H s hi => w.goes i H (by omega) (hG H s)
  stop := fun H s => hn ▸ w.stops H (hG H s)
  yld := fun i F1 H1 x H2 s1 s2 hi y => by
    obtain ⟨e1, e2⟩ := w.yields i H1 x H2 (by omega) (hG H1 (.lower s1 s2)) y
    subst e1
    obtain ⟨v, h1, h2⟩ := r.get (List.getElem?_eq_getElem hi)
    rw [e2] at h1
    cases h1
    exact ⟨F1, _, Grow.refl s2, List.getElem?_eq_getElem hi, h2.grow s1⟩
theorem wlk_list (h : SqL K F a xs) (r : RepL K mg F xs ds) (z : ds.length ≤ 16777216) : Wlk K mg (Itl K a) F ds := wlk_of walk_list (fun H s => s.seq h) r.length r z
theorem wlk_tup (h : SqT K F a xs) (r : RepL K mg F xs ds) (z : ds.length ≤ 16777216) : Wlk K mg (Itt K a) F ds := wlk_of walk_tup (fun H s => seqT s.s h) r.length r z
theorem wlk_fn {J : It} {n : Nat} {g : Nat → Int} (w : Walk J n (fun _ => True) (YFn fun i => .int (g i))) (z : n ≤ 16777216) : Wlk K mg J F ((List.range n).map fun i => .int (g i)) where
  sz := by simpa using z
  go := fun i H s hi => w.goes i H (by simpa using hi) trivial
  stop := fun H s => by simpa using w.stops H trivial
  yld := fun i F1 H1 x H2 s1 s2 hi y => by
    have hi' : i < n := by simpa using hi
    obtain ⟨e1, e2⟩ := w.yields i H1 x H2 hi' trivial y
    subst e1 e2
    exact ⟨F1, _, Grow.refl s2, by rw [List.getElem?_map, List.getElem?_range hi']; rfl, .int _⟩
theorem wlk_pair {J : It} {n : Nat} {G : Hp → Prop} {fx fy : Nat → Option V} {ps : List (D × D)} (w : Walk J n G (YPair fx fy)) (hG : ∀ H, Sub F H → G H) (hn : n = ps.length)
    (hp : ∀ i x y, fx i = some x → fy i = some y → ∃ p, ps[i]? = some p ∧ Rep K mg F x p.1 ∧ Rep K mg F y p.2) (z : ps.length ≤ 16777216) : Wlk K mg J F (ps.map fun p => .tup [p.1, p.2]) where
  sz := by simpa using z
  go := fun i H s hi => w.goes i H (by rw [hn]; simpa using hi) (hG H s)
  stop := fun H s => by
    rw [List.length_map, ← hn]
    exact w.stops H (hG H s)
  yld := fun i F1 H1 x H2 s1 s2 hi y => by
    obtain ⟨T, u, v, rfl, hT, rfl, e1, e2⟩ := w.yields i H1 x H2 (by rw [hn]; simpa using hi) (hG H1 (.lower s1 s2)) y
    obtain ⟨p, e3, r1, r2⟩ := hp i u v e1 e2
    have g := Grow.made (o := .tup [u, v]) s2 hT
    exact ⟨_, _, g, by rw [List.getElem?_map, e3]; rfl, .tup upd_same (.cons ((r1.grow s1).grow g.fs) (.cons ((r2.grow s1).grow g.fs) .nil)) (by show 2 ≤ 16777216; decide)⟩
end

def seqD : D → Option (List D)
  | .tup xs => some xs
  | .ktup xs => some xs
  | .lst xs => some xs
  | .scr ns => some (ns.map D.int)
  | .str z => if z.cps.size ≤ 16777216 then some (z.cps.toList.map fun c => D.str ⟨#[c]⟩) else none
  | _ => none
def iSeq (f : EM) : Env' → M (List D) := fun ρ => f ρ >>= fun d => M.opt (seqD d)
section
variable {X : Cx} {W : WX} {e : Expr} {f : EM} {tg : Expr} {pos p tpos : Pos}
theorem PI_imp {t t' : TI} (h : PI X tg e t) (i : ∀ σ H R, t' σ H R → t σ H R) : PI X tg e t' := ⟨fun pins s σ H R I q => h.run pins s σ H R I (i σ H R q)⟩
theorem it_list {pins : List (Addr × Obj)} {s : Shared} {σ : L2.St} {H : Hp} {R : It → Hp → Prop} {a : Addr} {xs : List V} (I : Inv X pins σ H s) (hq : SqL X.K H a xs) (q : R (Itl X.K a) H) :
    wpAny (model X.prog X.w) X.A (pyIter (.ref a)) (PIE X pins σ tg R) X.xe s := by
  obtain ⟨its, rv, pl, _⟩ := I.list hq
  exact wpAny_pyIter_list pl.isList (pi_one (tk := s.toks) I _ (turn_list a _) ⟨_, Heap.get?_push_size _ rfl, rfl, rfl⟩ q)
theorem it_tup {pins : List (Addr × Obj)} {s : Shared} {σ : L2.St} {H : Hp} {R : It → Hp → Prop} {a : Addr} {xs : List V} (I : Inv X pins σ H s) (hq : SqT X.K H a xs) (q : R (Itt X.K a) H) :
    wpAny (model X.prog X.w) X.A (pyIter (.ref a)) (PIE X pins σ tg R) X.xe s := by
  obtain ⟨its, rv, pl, _⟩ := I.tuple hq
  exact wpAny_pyIter_tuple (show s.heap.IsTuple a its.toArray from pl) (pi_one (tk := s.toks) I _ (turn_tuple a _) ⟨_, Heap.get?_push_size _ rfl, rfl, rfl⟩ q)
theorem it_str {pins : List (Addr × Obj)} {s : Shared} {σ : L2.St} {H : Hp} {R : It → Hp → Prop} {x : Str} {t : Tok} (I : Inv X pins σ H s) (q : R (Its x) H) :
    wpAny (model X.prog X.w) X.A (pyIter (.str x t)) (PIE X pins σ tg R) X.xe s := by
  by_cases ha : x.cps.all (· < 128) = true
  · exact wpAny_pyIter_ascii ha (pi_one (tk := s.toks) I _ (turn_str _ x t "str_ascii_iterator" (Or.inl rfl)) ⟨_, Heap.get?_push_size _ rfl, rfl, rfl⟩ q)
  · exact wpAny_pyIter_wide (by simpa using ha) (pi_one (tk := s.toks) I _ (turn_str _ x t "str_iterator" (Or.inr rfl)) ⟨_, Heap.get?_push_size _ rfl, rfl, rfl⟩ q)
theorem wlk_str {K : K'} {mg : Mg} {F : Hp} {z : Str} (hz : z.cps.size ≤ 16777216) : Wlk K mg (Its z) F (z.cps.toList.map fun c => D.str ⟨#[c]⟩) where
  sz := by simpa using hz
  go := fun i H s hi => walk_str.goes i H (by simpa using hi) trivial
  stop := fun H s => by simpa using (walk_str (z := z)).stops H trivial
  yld := fun i F1 H1 x H2 s1 s2 hi y => by
    have hi' : i < z.cps.size := by simpa using hi
    obtain ⟨e1, c, e2, e3⟩ := walk_str.yields i H1 x H2 hi' trivial y
    subst e1 e3
    refine ⟨F1, _, Grow.refl s2, ?_, .str _⟩
    rw [List.getElem?_map, Array.getElem?_toList, e2]
    rfl
theorem i_seq (he : PuE X W e f) : PuI X W tg e (iSeq f) := by
  refine ⟨fun pins s σ H R I h => ?_⟩
  obtain ⟨F, ρ, sF, er, h⟩ := h
  have h' : TEo X W f σ H (fun v H' => ∃ F' d ds, Sub F' H' ∧ Rep X.K X.mg F' v d ∧ seqD d = some ds ∧ ∀ J, Wlk X.K X.mg J F' ds → R J H') := TEo.bind sF er h fun d v F1 H1 g1 r1 h1 => by
    obtain ⟨ds, e1, q⟩ := wp_opt h1
    exact ⟨F1, d, ds, g1.sub, r1, e1, fun J w => q J F1 H1 g1 w⟩
  refine thn (he.run pins s σ H _ I h') fun u s1 ⟨v, H1, I1, r1, F', d, ds, sF', rd, e1, q⟩ => ?_
  have hsz := rd.sz
  cases rd <;> first | (cases e1; done) | skip
  · simp only [seqD] at e1
    split at e1
    · rename_i hz
      cases e1
      obtain ⟨t, rfl⟩ := r1
      exact it_str I1 (q _ (wlk_str hz))
    · cases e1
  · rename_i ha ra _
    cases e1
    cases r1
    exact it_tup I1 (SqT.of (sF' _ _ ha)) (q _ (wlk_tup (SqT.of ha) ra hsz))
  · rename_i ha ra _
    cases e1
    cases r1
    exact it_tup I1 (seqT sF'.s ha) (q _ (wlk_tup ha ra hsz))
  · rename_i ha ra _
    cases e1
    cases r1
    exact it_list I1 (SqL.of (sF' _ _ ha)) (q _ (wlk_list (SqL.of ha) ra hsz))
  · rename_i ha _
    cases e1
    cases r1
    exact it_list I1 (sF'.seq ha) (q _ (wlk_list ha (RepL.ints _) (by rw [List.length_map]; exact hsz)))

def rangeD (lo hi : Int) : List D := (List.range (hi - lo).toNat).map fun i => D.int (lo + (i : Nat))
def rngOk (i j : Int) : Bool := decide (-(2 ^ 62) ≤ i ∧ i < 2 ^ 62 ∧ -(2 ^ 62) ≤ j ∧ j < 2 ^ 62 ∧ j - i ≤ 16777216)
def opRng1 : List D → Option (List D)
  | [.int j] => if rngOk 0 j then some (rangeD 0 j) else none
  | _ => none
def opRng2 : List D → Option (List D)
  | [.int i, .int j] => if rngOk i j then some (rangeD i j) else none
  | _ => none
def iArgs (op : List D → Option (List D)) (g : Env' → M (List D)) : Env' → M (List D) := fun ρ => g ρ >>= fun ds => M.opt (op ds)
variable {g : Env' → M (List D)} {a b : Expr}
theorem wlk_range {K : K'} {mg : Mg} {F : Hp} {lo hi : Int} (z : hi - lo ≤ 16777216) : Wlk K mg (Itr lo (hi - lo).toNat) F (rangeD lo hi) := wlk_fn walk_range (by omega)
theorem i_range1 (hg : Gl X "range") (hm : X.mg "range" = none) (ha : PuA X W [a] g) (hs : starEach [a] X.env = [(false, eval a X.env)] := by rfl) : PuI X W tg (.Call (.Name "range" p) [a] [] pos) (iArgs opRng1 g) := by
  refine PI_imp (pi_range1 hg hm ha hs) fun σ H R ⟨F, ρ, sF, er, h⟩ => ?_
  refine TAo.bind sF er h fun ds vs F1 H1 g1 r1 h1 => ?_
  obtain ⟨r, e1, q⟩ := wp_opt h1
  unfold opRng1 at e1
  split at e1
  · split at e1
    · rename_i j hz
      cases e1
      obtain ⟨v, rfl, rv⟩ := r1.one
      have hj := of_decide_eq_true hz
      have q' := q (Itr 0 (j - 0).toNat) F1 H1 g1 (wlk_range hj.2.2.2.2)
      rw [Int.sub_zero] at q'
      exact ⟨j, by rw [rv.int_inv], hj.2.2.1, hj.2.2.2.1, q'⟩
    · cases e1
  · cases e1
theorem i_range2 (hg : Gl X "range") (hm : X.mg "range" = none) (ha : PuA X W [a, b] g) (hs : starEach [a, b] X.env = [(false, eval a X.env), (false, eval b X.env)] := by rfl) (hs2 : starEach [b] X.env = [(false, eval b X.env)] := by rfl) :
    PuI X W tg (.Call (.Name "range" p) [a, b] [] pos) (iArgs opRng2 g) := by
  refine PI_imp (pi_range2 hg hm ha hs hs2) fun σ H R ⟨F, ρ, sF, er, h⟩ => ?_
  refine TAo.bind sF er h fun ds vs F1 H1 g1 r1 h1 => ?_
  obtain ⟨r, e1, q⟩ := wp_opt h1
  unfold opRng2 at e1
  split at e1
  · split at e1
    · rename_i i j hz
      cases e1
      obtain ⟨v, w', rfl, rv, rw'⟩ := r1.two
      have hj := of_decide_eq_true hz
      exact ⟨i, j, by rw [rv.int_inv, rw'.int_inv], ⟨hj.1, hj.2.1, hj.2.2.1, hj.2.2.2.1⟩, q _ F1 H1 g1 (wlk_range hj.2.2.2.2)⟩
    · cases e1
  · cases e1

def pairsD (ps : List (D × D)) : List D := ps.map fun p => .tup [p.1, p.2]
def numD (xs : List D) : List (D × D) := xs.mapIdx fun i x => (.int i, x)
def opEnum : List D → Option (List D)
  | [.lst xs] => some (pairsD (numD xs))
  | _ => none
theorem wlk_enum {K : K'} {mg : Mg} {F : Hp} {a : Addr} {xs : List V} {ds : List D} (h : SqL K F a xs) (r : RepL K mg F xs ds) (z : ds.length ≤ 16777216) : Wlk K mg (Ite K a) F (pairsD (numD ds)) := by
  refine wlk_pair walk_enum (fun H s => s.seq h) (by unfold numD; rw [List.length_mapIdx, r.length]) (fun i x y e1 e2 => ?_) (by unfold numD; rw [List.length_mapIdx]; exact z)
  have hi : i < ds.length := by
    have := (List.getElem?_eq_some_iff.mp e2).1
    rw [r.length] at this
    exact this
  obtain ⟨v, h1, h2⟩ := r.get (List.getElem?_eq_getElem hi)
  rw [e2] at h1
  cases h1
  cases e1
  exact ⟨(.int i, ds[i]), by unfold numD; rw [List.getElem?_mapIdx, List.getElem?_eq_getElem hi]; rfl, .int _, h2⟩
theorem i_enumL {elts : List Expr} {kk : Nat} (hg : Gl X "enumerate") (hm : X.mg "enumerate" = none) (ha : PuA X W [e] g) (hs : starEach [e] X.env = [(false, eval e X.env)] := by rfl) :
    PuI X W (.Tuple elts kk tpos) (.Call (.Name "enumerate" p) [e] [] pos) (iArgs opEnum g) := by
  refine PI_imp (pi_enum hg hm ha hs) fun σ H R ⟨F, ρ, sF, er, h⟩ => ?_
  refine TAo.bind sF er h fun ds vs F1 H1 g1 r1 h1 => ?_
  obtain ⟨r, e1, q⟩ := wp_opt h1
  unfold opEnum at e1
  split at e1
  · cases e1
    obtain ⟨v, rfl, rv⟩ := r1.one
    obtain ⟨a, xs, rfl, ha, ra⟩ := rv.lst_inv
    exact ⟨a, xs, rfl, SqL.of (g1.sub _ _ ha), q _ F1 H1 g1 (wlk_enum (SqL.of ha) ra rv.sz)⟩
  · cases e1
def opZip : List D → Option (List D)
  | [.lst xs, .lst ys] => some (pairsD (xs.zip ys))
  | [.tup xs, .tup ys] => some (pairsD (xs.zip ys))
  | _ => none
theorem zip_at {K : K'} {mg : Mg} {F : Hp} {xs ys : List V} {ds es : List D} (r : RepL K mg F xs ds) (r' : RepL K mg F ys es) {i : Nat} {x y : V} (e1 : xs[i]? = some x) (e2 : ys[i]? = some y) : ∃ p, (ds.zip es)[i]? = some p ∧ Rep K mg F x p.1 ∧ Rep K mg F y p.2 := by
  have h1 : i < ds.length := by
    have := (List.getElem?_eq_some_iff.mp e1).1
    rw [r.length] at this
    exact this
  have h2 : i < es.length := by
    have := (List.getElem?_eq_some_iff.mp e2).1
    rw [r'.length] at this
    exact this
  obtain ⟨v, a1, a2⟩ := r.get (List.getElem?_eq_getElem h1)
  obtain ⟨u, b1, b2⟩ := r'.get (List.getElem?_eq_getElem h2)
  rw [e1] at a1
  rw [e2] at b1
  cases a1
  cases b1
  exact ⟨(ds[i], es[i]), by rw [List.getElem?_zip_eq_some]; exact ⟨List.getElem?_eq_getElem h1, List.getElem?_eq_getElem h2⟩, a2, b2⟩
end
end P5

namespace P5
open PySem L2 PyProof.Rows
variable [Tb]

theorem walk_zipTup {K : K'} {a b : Addr} {xs ys : List V} {n : Nat} (hn : n = min xs.length ys.length) : Walk (RZ.ItzT K a b) n (fun H => SqT K H a xs ∧ SqT K H b ys) (YPair (fun i => xs[i]?) (fun i => ys[i]?)) where
  goes := fun i H hi h => ⟨xs, ys, xs[i]'(by omega), ys[i]'(by omega), h.1, h.2, List.getElem?_eq_getElem _, List.getElem?_eq_getElem _⟩
  stops := fun H h => ⟨xs, ys, h.1, h.2, by omega⟩
  yields := fun i H v H' hi h ⟨T, x, y, e1, e2, e3, e4, e5⟩ => ⟨T, x, y, e1, e2, e3, e4 xs h.1, e5 ys h.2⟩
section
variable {X : Cx} {W : WX} {e e2 : Expr} {g : Env' → M (List D)} {p pos tpos : Pos}
theorem i_zip {elts : List Expr} {kk : Nat} (hg : Gl X "zip") (hm : X.mg "zip" = none) (ha : PuA X W [e, e2] g)
    (hs : starEach [e, e2] X.env = (false, eval e X.env) :: starEach [e2] X.env := by rfl) (hpl : (backTo pos (starEach [e2] X.env)).any (·.1) = false := by rfl) :
    PuI X W (.Tuple elts kk tpos) (.Call (.Name "zip" p) [e, e2] [] pos) (iArgs opZip g) := by
  refine PI_imp (RZ.pi_zipA hg hm ha hs hpl) fun σ H R ⟨F, ρ, sF, er, h⟩ => ?_
  refine TAo.bind sF er h fun ds vs F1 H1 g1 r1 h1 => ?_
  obtain ⟨r, e1, q⟩ := wp_opt h1
  unfold opZip at e1
  split at e1
  · rename_i xs ys
    cases e1
    obtain ⟨v, w', rfl, rv, rw'⟩ := r1.two
    obtain ⟨a, us, rfl, ha, ra⟩ := rv.lst_inv
    obtain ⟨b, ws, rfl, hb, rb⟩ := rw'.lst_inv
    refine ⟨a, b, us, ws, rfl, .inl ⟨SqL.of (g1.sub _ _ ha), SqL.of (g1.sub _ _ hb), q _ F1 H1 g1 ?_⟩⟩
    have hz : (xs.zip ys).length ≤ 16777216 := by
      have := rv.sz
      rw [List.length_zip]
      exact Nat.le_trans (Nat.min_le_left _ _) this
    exact wlk_pair (walk_zip rfl) (fun H s => ⟨s.seq (SqL.of ha), s.seq (SqL.of hb)⟩) (by rw [List.length_zip, ra.length, rb.length]) (fun i x y e1 e2 => zip_at ra rb e1 e2) hz
  · rename_i xs ys
    cases e1
    obtain ⟨v, w', rfl, rv, rw'⟩ := r1.two
    obtain ⟨a, us, rfl, ha, ra⟩ := rv.tup_inv
    obtain ⟨b, ws, rfl, hb, rb⟩ := rw'.tup_inv
    refine ⟨a, b, us, ws, rfl, .inr ⟨SqT.of (g1.sub _ _ ha), SqT.of (g1.sub _ _ hb), q _ F1 H1 g1 ?_⟩⟩
    have hz : (xs.zip ys).length ≤ 16777216 := by
      have := rv.sz
      rw [List.length_zip]
      exact Nat.le_trans (Nat.min_le_left _ _) this
    exact wlk_pair (walk_zipTup rfl) (fun H s => ⟨seqT s.s (SqT.of ha), seqT s.s (SqT.of hb)⟩) (by rw [List.length_zip, ra.length, rb.length]) (fun i x y e1 e2 => zip_at ra rb e1 e2) hz
  · cases e1
end

def whileN (p : Env' → M Bool) (g : SM) : Nat → SM
  | 0, _ => M.fail
  | n + 1, ρ => liftI ρ (p ρ) >>= fun b => if b = true then (g ρ >>= fun r => match r with
      | .nx ρ' => whileN p g n ρ'
      | .ct ρ' => whileN p g n ρ'
      | .bk ρ' => pure (.nx ρ')
      | .rt d => pure (.rt d)) else pure (.nx ρ)
def sWhile (p : Env' → M Bool) (g : SM) : SM := fun ρ => ⟨fun Q E => ∃ n, (whileN p g n ρ).wp Q E, fun q e ⟨n, h⟩ => ⟨n, MM.mono _ q e h⟩⟩
theorem wp_while (p : Env' → M Bool) (g : SM) (ρ : Env') (Q : Fl → Prop) (E : Err × Env' → Prop) : (sWhile p g ρ).wp Q E = ∃ n, (whileN p g n ρ).wp Q E := rfl
section
variable {X : Cx} {W : WX} {mu : List Nat} {F0 H0 : Hp} {g : SM} {pos : Pos} {c : Expr} {p : Env' → M Bool}
theorem s_while {body : List Stmt} (hp : PassesOwn (model X.prog X.w) X.A X.env X.xe) (hc : PuT X W c p) (hb : PuB X W mu F0 H0 body g) : PuS X W mu F0 H0 (.While c body [] pos) (sWhile p g) := by
  intro Fb
  refine PS_imp (ps_while hp hc (hb Fb)) fun D' σ H ⟨F, ρ, s, n0, h⟩ => ?_
  refine ⟨fun m σ H => ∃ F ρ, SR X.K X.mg mu F0 H0 Fb F H σ ρ ∧ (whileN p g m ρ).wp (SQ X mu F0 H0 Fb D') (SE X W mu F0 H0 Fb), ⟨n0, F, ρ, s, h⟩, ?_⟩
  rintro m σ H ⟨F, ρ, s, h⟩
  cases m with
  | zero => exact h.elim
  | succ m =>
    obtain ⟨h1, h2, h3⟩ := see_all (m := p) s h
    refine ⟨_, ρ, h2, h1, (p ρ).mono (fun b z F' H' gr => ?_) (fun _ z => z) h3⟩
    have s' := s.bak gr
    cases b with
    | true =>
      refine ⟨fun σ' H' => ∃ F ρ, SR X.K X.mg mu F0 H0 Fb F H' σ' ρ ∧ (whileN p g m ρ).wp (SQ X mu F0 H0 Fb D') (SE X W mu F0 H0 Fb), fun σ' H' h => ⟨m, Nat.lt_succ_self m, h⟩, _, ρ, s', (g ρ).mono (fun r z => ?_) (fun _ z => z) z⟩
      cases r with
      | nx ρ' => exact fun F2 H2 σ2 s2 => ⟨F2, ρ', s2, z⟩
      | ct ρ' => exact fun F2 H2 σ2 s2 => ⟨F2, ρ', s2, z⟩
      | bk ρ' => exact z
      | rt d => exact z
    | false => exact z _ _ _ s'

def forL (mu : List Nat) (gd : GD) (g : SM) : List D → SM
  | [], ρ => pure (.nx ρ)
  | x :: xs, ρ => M.opt (gd x) >>= fun l => if okSets mu l = true then (g (setsD ρ l) >>= fun r => match r with
      | .nx ρ' => forL mu gd g xs ρ'
      | .ct ρ' => forL mu gd g xs ρ'
      | .bk ρ' => pure (.nx ρ')
      | .rt d => pure (.rt d)) else M.fail
def sFor (mu : List Nat) (fi : Env' → M (List D)) (gd : GD) (g : SM) : SM := fun ρ => liftF ρ (fi (hide mu ρ)) >>= fun ds => forL mu gd g ds ρ
theorem s_for {tg iter : Expr} {body : List Stmt} {fi : Env' → M (List D)} {gd : GD} (hp : PassesOwn (model X.prog X.w) X.A X.env X.xe) (hc : X.calm = true) (hi : PuI X W tg iter fi) (hg : PuG X tg gd) (hb : PuB X W mu F0 H0 body g)
    (hs : ∀ x, foldedSetIterable iter X.env x = pure x := by intro _; rfl) : PuS X W mu F0 H0 (.For tg iter body [] pos) (sFor mu fi gd g) := by
  intro Fb
  have hb' : PSs X body (fun D σ H => ∃ Fc, TSo X W mu F0 H0 Fc g D σ H) := ⟨fun pins sh σ H D' I ⟨Fc, z⟩ => (hb Fc).run pins sh σ H D' I z⟩
  refine PS_imp (ps_for hp hc hi hg hb' hs) fun D' σ H ⟨F, ρ, s, h⟩ => ?_
  obtain ⟨h1, h2, h3⟩ := see_hid (m := fi) s h
  refine ⟨F, _, h2, h1, MM.mono _ (fun ds z J F1 H1 g1 w => ?_) (fun _ z => z) h3⟩
  have s1 := s.grow g1
  refine ⟨fun i m σ H => m = ds.length - i ∧ i ≤ ds.length ∧ ∃ F ρ, Same F1 F ∧ SR X.K X.mg mu F0 H0 Fb F H σ ρ ∧ (forL mu gd g (ds.drop i) ρ).wp (SQ X mu F0 H0 Fb D') (SE X W mu F0 H0 Fb),
    ⟨ds.length, by simp, Nat.zero_le _, F1, ρ, Same.refl _, s1, by rw [List.drop_zero]; exact z⟩, ?_⟩
  rintro i m σ H ⟨rfl, hi, F2, ρ2, e2, s2, z2⟩
  by_cases hlt : i < ds.length
  · refine .inr ⟨w.go i H (.lower e2 s2.sub) hlt, fun σ' H' => ∃ F ρ, Same F1 F ∧ SR X.K X.mg mu F0 H0 Fb F H' σ' ρ ∧ (forL mu gd g (ds.drop (i + 1)) ρ).wp (SQ X mu F0 H0 Fb D') (SE X W mu F0 H0 Fb),
      fun σ' H' h => ⟨ds.length - (i + 1), by omega, rfl, hlt, h⟩, fun x H3 y => ?_⟩
    obtain ⟨F3, d, g3, e3, r3⟩ := w.yld i F2 H x H3 e2 s2.sub hlt y
    have ed : ds.drop i = d :: ds.drop (i + 1) := by
      rw [List.drop_eq_getElem_cons hlt]
      congr 1
      rw [List.getElem?_eq_getElem hlt] at e3
      exact Option.some.inj e3
    rw [ed, forL] at z2
    obtain ⟨l, e4, z3⟩ := wp_opt z2
    dsimp only at z3
    split at z3
    · rename_i ok
      have s3 := s2.grow g3
      refine ⟨F3, d, l, s3.sub, r3, e4, fun ws sw => ?_⟩
      have s4 := (SR.sets sw ok s3).bound (Fc := F1) (e2.trans g3.fs)
      have b1 : Same Fb F1 := s1.fb
      refine ⟨F1, F3, _, s4, (g (setsD ρ2 l)).mono (fun r z => ?_) (fun _ z F4 H4 σ4 c dx s5 er => z F4 H4 σ4 c dx (s5.bound (b1.trans s5.fb)) er) z3⟩
      cases r with
      | nx ρ' => exact fun F4 H4 σ4 s5 => ⟨F4, ρ', s5.fb, s5.bound (b1.trans s5.fb), z⟩
      | ct ρ' => exact fun F4 H4 σ4 s5 => ⟨F4, ρ', s5.fb, s5.bound (b1.trans s5.fb), z⟩
      | bk ρ' => exact fun F4 H4 σ4 s5 => z F4 H4 σ4 (s5.bound (b1.trans s5.fb))
      | rt d => exact z
    · exact z3.elim
  · have e : i = ds.length := by omega
    subst e
    rw [List.drop_length, forL] at z2
    exact .inl ⟨w.stop H (.lower e2 s2.sub), z2 _ _ _ s2⟩
end
end P5

namespace P5
open PySem L2 PyProof.Rows
variable [Tb]

def wipeD (ρ : Env') : List Nat → Env'
  | [] => ρ
  | v :: vs => (wipeD ρ vs).set v none
theorem ER.unset {K : K'} {mg : Mg} {F : Hp} {σ : L2.St} {ρ : Env'} (h : ER K mg F σ ρ) (i : Nat) : ER K mg F (σ.set i none) (ρ.set i none) := by
  refine ⟨by rw [List.length_set, List.length_set, h.1], fun j e q => ?_⟩
  by_cases hj : i = j
  · subst hj
    by_cases hl : i < ρ.length
    · rw [List.getElem?_set_self hl] at q
      cases q
    · rw [List.getElem?_eq_none (by rw [List.length_set]; omega)] at q
      cases q
  · rw [List.getElem?_set_ne hj] at q
    rw [List.getElem?_set_ne hj]
    exact h.2 j e q
theorem ER.wipe {K : K'} {mg : Mg} {F : Hp} {σ : L2.St} {ρ : Env'} (h : ER K mg F σ ρ) : ∀ vs : List Nat, ER K mg F (L2.wipe σ vs) (wipeD ρ vs)
  | [] => h
  | v :: vs => (ER.wipe h vs).unset v
theorem wipe_set {σ : L2.St} {i : Nat} {x : Option V} : ∀ {vs : List Nat}, i ∈ vs → L2.wipe (σ.set i x) vs = L2.wipe σ vs
  | v :: vs, h => by
    by_cases hm : i ∈ vs
    · show (L2.wipe (σ.set i x) vs).set v none = (L2.wipe σ vs).set v none
      rw [wipe_set hm]
    · have e : i = v := by
        rcases List.mem_cons.mp h with e | e
        · exact e
        · exact (hm e).elim
      subst e
      have go : ∀ ws : List Nat, i ∉ ws → L2.wipe (σ.set i x) ws = (L2.wipe σ ws).set i x := by
        intro ws
        induction ws with
        | nil => intro _; rfl
        | cons w ws ih =>
          intro hw
          have h1 : i ≠ w := fun z => hw (by simp [z])
          have h2 : i ∉ ws := fun z => hw (by simp [z])
          show (L2.wipe (σ.set i x) ws).set w none = ((L2.wipe σ ws).set w none).set i x
          rw [ih h2, List.set_comm _ _ h1]
      show (L2.wipe (σ.set i x) vs).set i none = (L2.wipe σ vs).set i none
      rw [go vs hm, List.set_set]
theorem wipe_sets {vs : List Nat} : ∀ {ws : List (Nat × V)} {σ : L2.St}, (∀ p ∈ ws, p.1 ∈ vs) → L2.wipe (setsV σ ws) vs = L2.wipe σ vs
  | [], _, _ => rfl
  | p :: ws, σ, h => by
    unfold setsV
    rw [List.foldl_cons]
    have ih := wipe_sets (vs := vs) (ws := ws) (σ := σ.set p.1 (some p.2)) fun q hq => h q (by simp [hq])
    unfold setsV at ih
    rw [ih, wipe_set (h p (by simp))]
theorem wipe_wipe {σ : L2.St} : ∀ vs : List Nat, L2.wipe (L2.wipe σ vs) vs = L2.wipe σ vs := by
  have go : ∀ (ws vs : List Nat) (σ : L2.St), (∀ i ∈ ws, i ∈ vs) → L2.wipe (L2.wipe σ ws) vs = L2.wipe σ vs := by
    intro ws
    induction ws with
    | nil => intro vs σ _; rfl
    | cons w ws ih =>
      intro vs σ h
      show L2.wipe ((L2.wipe σ ws).set w none) vs = L2.wipe σ vs
      rw [wipe_set (h w (by simp))]
      exact ih vs σ fun i hi => h i (by simp [hi])
  exact fun vs => go vs vs σ fun _ h => h
theorem SetsR.ix {K : K'} {mg : Mg} {F : Hp} {vs : List Nat} : ∀ {ws : List (Nat × V)} {l : List (Nat × D)}, SetsR K mg F ws l → (l.all fun p => vs.contains p.1) = true → ∀ p ∈ ws, p.1 ∈ vs
  | _, _, .nil, _ => fun _ h => by cases h
  | _, _, .cons r t, h => fun p hp => by
    rw [List.all_cons, Bool.and_eq_true] at h
    rcases List.mem_cons.mp hp with e | e
    · rw [e]
      simpa using h.1
    · exact SetsR.ix t h.2 p e
def lcL (vs : List Nat) (gd : GD) (tt : Env' → M Bool) (fe : EM) (ρ : Env') : List D → M (List D)
  | [] => pure []
  | x :: xs => M.opt (gd x) >>= fun l => if (l.all fun p => vs.contains p.1) = true then
      (quiet (tt (setsD (wipeD ρ vs) l)) >>= fun b => if b = true then (quiet (fe (setsD (wipeD ρ vs) l)) >>= fun y => lcL vs gd tt fe ρ xs >>= fun r => pure (y :: r)) else lcL vs gd tt fe ρ xs) else M.fail
def dLc (vs : List Nat) (fi : Env' → M (List D)) (gd : GD) (tt : Env' → M Bool) (fe : EM) : EM := fun ρ => fi ρ >>= fun ds => lcL vs gd tt fe ρ ds >>= fun r => pure (.lst r)
def dYes : Env' → M Bool := fun _ => pure true
def WF : WX := fun _ _ _ _ => False
def PuTs (X : Cx) (W : WX) (ifs : List Expr) (f : Env' → M Bool) : Prop := PTs X ifs (TTo X W f)
section
variable {X : Cx} {W : WX} {p : Env' → M Bool} {c : Expr}
theorem PTs_imp {ifs : List Expr} {t t' : TT} (h : PTs X ifs t) (i : ∀ σ H Q, t' σ H Q → t σ H Q) : PTs X ifs t' := ⟨fun pins s σ H Q I q => h.run pins s σ H Q I (i σ H Q q)⟩
theorem ts_nil : PuTs X W [] dYes := PTs_imp pts_nil fun σ H Q ⟨F, ρ, sF, er, h⟩ => h F H (Grow.refl sF)
theorem ts_one (h : PuT X W c p) : PuTs X W [c] p := pts_one h
end
structure LcSt (X : Cx) (F1 H1 : Hp) (a : Addr) (F H : Hp) (ys : List D) : Prop where
  grow : Grow F1 H1 F H
  off : F a = none
  at_ : ∃ acc, H a = some (.lst acc) ∧ RepL X.K X.mg F acc ys
theorem LcSt.step {X : Cx} {F1 H1 F H F2 H2 : Hp} {a : Addr} {ys : List D} (s : LcSt X F1 H1 a F H ys) (g : Grow F H F2 H2) : LcSt X F1 H1 a F2 H2 ys := by
  obtain ⟨acc, h1, h2⟩ := s.at_
  exact ⟨s.grow.trans g, g.new a s.off (by rw [h1]; exact fun z => nomatch z), acc, g.hs.at h1, h2.grow g.fs⟩
theorem LcSt.add {X : Cx} {F1 H1 F H : Hp} {a : Addr} {ys : List D} {v : V} {y : D} (s : LcSt X F1 H1 a F H ys) (h0 : H1 a = none) (r : Rep X.K X.mg F v y) :
    ∃ acc, H a = some (.lst acc) ∧ acc.length = ys.length ∧ LcSt X F1 H1 a F (upd H a (.lst (acc ++ [v]))) (ys ++ [y]) := by
  obtain ⟨acc, h1, h2⟩ := s.at_
  refine ⟨acc, h1, h2.length, ⟨s.grow.fs, s.grow.hs.wr h0 h1, ⟨fun b o e => ?_, s.grow.sub.n, tabs_wr s.grow.sub.t h1 rfl⟩, s.grow.new⟩, s.off, acc ++ [v], upd_same, h2.append (.cons r .nil)⟩
  rw [upd_ne (ne_of_none e s.off)]
  exact s.grow.sub _ _ e
theorem LcSt.done {X : Cx} {F1 H1 F H : Hp} {a : Addr} {ys : List D} {Q : VK} (s : LcSt X F1 H1 a F H ys) (h0 : H1 a = none) (z : ys.length ≤ 16777216) (q : VW X F1 H1 Q (.lst ys)) : Q (.ref a) H := by
  obtain ⟨acc, h1, h2⟩ := s.at_
  have hF : Same F (upd F a (.lst acc)) := same_upd s.off
  refine q _ (upd F a (.lst acc)) H ⟨s.grow.fs.trans hF, s.grow.hs, ⟨fun b o e => ?_, fun b o e => ?_, s.grow.sub.t⟩, fun b e1 e2 => ?_⟩ (.lst upd_same (h2.grow hF) z)
  · by_cases hb : b = a
    · subst hb
      rw [upd_same] at e
      cases e
      exact h1
    · rw [upd_ne hb] at e
      exact s.grow.sub _ _ e
  · by_cases hb : b = a
    · subst hb
      rw [upd_same] at e
      cases e
      rfl
    · rw [upd_ne hb] at e
      exact s.grow.sub.n _ _ e
  · by_cases hb : b = a
    · subst hb
      exact (e2 h0).elim
    · rw [upd_ne hb]
      exact s.grow.new b e1 e2
theorem LcSt.start {X : Cx} {F1 H1 : Hp} {a : Addr} (sF : Sub F1 H1) (h0 : H1 a = none) : LcSt X F1 H1 a F1 (upd H1 a (.lst [])) [] :=
  ⟨Grow.wild sF h0, sF.free h0, [], upd_same, .nil⟩
section
variable {X : Cx} {W : WX} {elt tg iter : Expr} {ifs : List Expr} {scope : Scope} {own : List (Str × Nat)} {pos : Pos} {fi : Env' → M (List D)} {gd : GD} {tt : Env' → M Bool} {fe : EM}
theorem lc_of {σ : L2.St} {H : Hp} {Q : VK} {vs : List Nat} (hh : TEo X W (dLc vs fi gd tt fe) σ H Q) : tLc (TIo X W fi) (TGo X gd) (TTo X WF tt) (TEo X WF fe) vs σ H Q := by
  obtain ⟨F, ρ, sF, er, h⟩ := hh
  refine ⟨F, ρ, sF, er, (fi ρ).mono (fun ds z J F1 H1 g1 w a ha => ?_) (fun _ z => z) h⟩
  have er1 := er.grow g1.fs
  refine ⟨fun i m H => m = ds.length - i ∧ i ≤ ds.length ∧ ∃ F ys, LcSt X F1 H1 a F H ys ∧ ys.length ≤ i ∧ (lcL vs gd tt fe ρ (ds.drop i)).wp (fun r => VW X F1 H1 Q (.lst (ys ++ r))) (fun _ => True),
    ⟨ds.length, by simp, Nat.zero_le _, F1, [], LcSt.start g1.sub ha, Nat.le_refl _, ?_⟩, ?_⟩
  · rw [List.drop_zero]
    exact MM.mono _ (fun r z => z.grow g1) (fun _ _ => trivial) z
  rintro i m H ⟨rfl, hi, F2, ys, s2, hy, z2⟩
  by_cases hlt : i < ds.length
  · refine .inr ⟨w.go i H (.lower s2.grow.fs s2.grow.sub) hlt, fun H' => ∃ F ys, LcSt X F1 H1 a F H' ys ∧ ys.length ≤ i + 1 ∧ (lcL vs gd tt fe ρ (ds.drop (i + 1))).wp (fun r => VW X F1 H1 Q (.lst (ys ++ r))) (fun _ => True),
      fun H' h => ⟨ds.length - (i + 1), by omega, rfl, hlt, h⟩, fun x H3 y => ?_⟩
    obtain ⟨F3, d, g3, e3, r3⟩ := w.yld i F2 H x H3 s2.grow.fs s2.grow.sub hlt y
    have ed : ds.drop i = d :: ds.drop (i + 1) := by
      rw [List.drop_eq_getElem_cons hlt]
      congr 1
      rw [List.getElem?_eq_getElem hlt] at e3
      exact Option.some.inj e3
    rw [ed, lcL] at z2
    obtain ⟨l, e4, z3⟩ := wp_opt z2
    dsimp only at z3
    split at z3
    · rename_i ok
      have s3 := s2.step g3
      refine ⟨F3, d, l, s3.grow.sub, r3, e4, fun ws sw => ⟨?_, ?_⟩⟩
      · rw [wipe_sets (sw.ix ok), wipe_wipe]
      · have er4 : ER X.K X.mg F3 (setsV (L2.wipe σ vs) ws) (setsD (wipeD ρ vs) l) := ER.sets sw ((er1.grow s3.grow.fs).wipe vs)
        have z4 : (tt (setsD (wipeD ρ vs) l)).wp _ (fun _ => False) := z3
        refine ⟨F3, _, s3.grow.sub, er4, MM.mono _ (fun b z F4 H4 g4 => ?_) (fun _ z => z.elim) z4⟩
        have s4 := s3.step g4
        cases b with
        | true =>
          have z5 : (fe (setsD (wipeD ρ vs) l)).wp _ (fun _ => False) := z
          refine ⟨F4, _, s4.grow.sub, er4.grow g4.fs, MM.mono _ (fun y z v F5 H5 g5 r5 => ?_) (fun _ z => z.elim) z5⟩
          have s5 := s4.step g5
          obtain ⟨acc, h1, h2, s6⟩ := s5.add ha r5
          refine ⟨acc, h1, ?_, F5, _, s6, ?_, ?_⟩
          · have := w.sz
            rw [h2]
            exact szLt (by omega)
          · rw [List.length_append]
            simpa using hy
          · refine MM.mono _ (fun r z => ?_) (fun _ z => z) z
            rw [List.append_assoc]
            exact z
        | false => exact ⟨F4, ys, s4, by omega, z⟩
    · exact z3.elim
  · have e : i = ds.length := by omega
    subst e
    rw [List.drop_length, lcL] at z2
    refine .inl ⟨w.stop H (.lower s2.grow.fs s2.grow.sub), ?_⟩
    have z3 : VW X F1 H1 Q (.lst (ys ++ [])) := z2
    rw [List.append_nil] at z3
    exact s2.done ha (Nat.le_trans hy w.sz) z3
end
end P5

namespace P5
open PySem L2 PyProof.Rows
variable [Tb]

def TEf (X : Cx) (W : WX) (f : EM) : TE := fun σ H Q => ∃ F ρ, Sub F H ∧ ER X.K X.mg F σ ρ ∧
  (f ρ).wp (fun d => ∀ a F' H', Grow F H F' H' → F' a = none → H a = none → OwnR X.K X.mg F' H' a d → Q (.ref a) H') (EW X W F H σ)
def PuFr (X : Cx) (W : WX) (e : Expr) (f : EM) : Prop := PE X e (TEf X W f)
theorem OwnR.freeze {K : K'} {mg : Mg} {F0 H0 F H : Hp} {a : Addr} {d : D} (o : OwnR K mg F H a d) (g : Grow F0 H0 F H) (hF : F a = none) (h0 : H0 a = none) : ∃ F', Grow F0 H0 F' H ∧ Rep K mg F' (.ref a) d := by
  cases e : H a with
  | none => exact (o.some e).elim
  | some u =>
    have hs : Same F (upd F a u) := same_upd hF
    refine ⟨upd F a u, ⟨g.fs.trans hs, g.hs, ⟨fun b x q => ?_, fun b x q => ?_, g.sub.t⟩, fun b q1 q2 => ?_⟩, o.rep hs (by rw [upd_same, e])⟩
    · by_cases hb : b = a
      · subst hb
        rw [upd_same] at q
        cases q
        exact e
      · rw [upd_ne hb] at q
        exact g.sub _ _ q
    · by_cases hb : b = a
      · subst hb
        rw [upd_same] at q
        cases q
        exact mut_notT (by rw [← e]; exact o.ho)
      · rw [upd_ne hb] at q
        exact g.sub.n _ _ q
    · by_cases hb : b = a
      · subst hb
        exact (q2 h0).elim
      · rw [upd_ne hb]
        exact g.new b q1 q2
section
variable {X : Cx} {W : WX} {e elt tg iter : Expr} {es ifs : List Expr} {f fe : EM} {g fi : Env' → M (List D)} {tt : Env' → M Bool} {gd : GD} {scope : Scope} {own : List (Str × Nat)} {pos p : Pos}
theorem PuFr.frz (h : PuFr X W e f) : PuE X W e f := PE_imp h fun σ H Q ⟨F, ρ, sF, er, q⟩ =>
  ⟨F, ρ, sF, er, (f ρ).mono (fun d z a F' H' gr hF h0 o => by
    obtain ⟨F2, g2, r2⟩ := o.freeze gr hF h0
    exact z _ F2 H' g2 r2) (fun _ z => z) q⟩
theorem fr_lst (h : PuA X W es g) : PuFr X W (.List es pos) (dLst g) := by
  refine PE_imp (pe_lst h) fun σ H Q ⟨F, ρ, sF, er, h⟩ => ?_
  refine TAo.bind sF er h fun ds vs F1 H1 g1 r1 h1 => ?_
  obtain ⟨r, e1, q⟩ := wp_opt h1
  unfold mkLst at e1
  split at e1
  · cases e1
    rename_i hz
    exact ⟨by rw [r1.length]; exact szOk hz, fun a ha => q a F1 _ (g1.trans (Grow.wild g1.sub ha)) (g1.sub.free ha) (g1.hs.free ha) (.lst upd_same r1 hz)⟩
  · cases e1
theorem fr_dnewK : PuFr X W (.Dict [] [] pos) (dCon (.dct 0 [])) := PE_imp pe_dnewK fun σ H Q ⟨F, ρ, sF, er, h⟩ => fun a ha => h a F _ (Grow.wild sF ha) (sF.free ha) ha (.dK upd_same .nil (Nat.zero_le _))
theorem fr_dnewT : PuFr X W (.Dict [] [] pos) (dCon (.dct 1 [])) := PE_imp pe_dnewT fun σ H Q ⟨F, ρ, sF, er, h⟩ => fun a ha => h a F _ (Grow.wild sF ha) (sF.free ha) ha (.dT upd_same .nil (Nat.zero_le _))
theorem fr_list {x : Str} (hg : Gl X x) (hm : X.mg x = none) (hv : bootBuiltins x = some (.type "list")) (ha : PuA X W [e] g) (hn : x ≠ "__name__" := by decide) (hdb : (x == ("__debug__" : Str)) = false := by decide)
    (he : starEach [e] X.env = (false, eval e X.env) :: starEach [] X.env := by rfl) (hpl : (backTo pos (starEach [] X.env)).any (·.1) = false := by rfl) : PuFr X W (.Call (.Name x p) [e] [] pos) (dCall opList g) := by
  refine PE_imp (pe_callTy call_list_of hg hm hv ha hn hdb he hpl) fun σ H Q ⟨F, ρ, sF, er, h⟩ => ?_
  refine TAo.bind sF er h fun ds vs F1 H1 g1 r1 h1 => ?_
  obtain ⟨r, e1, q⟩ := wp_opt h1
  have fin : ∀ (a : Addr) (ys : List V) (zs : List D), RepL X.K X.mg F1 ys zs → zs.length ≤ 16777216 → r = .lst zs → H1 a = none → Q (.ref a) (upd H1 a (.lst ys)) := fun a ys zs rr hz er ha => by
    subst er
    exact q a F1 _ (g1.trans (Grow.wild g1.sub ha)) (g1.sub.free ha) (g1.hs.free ha) (.lst upd_same rr hz)
  unfold opList at e1
  split at e1
  · cases e1
    obtain ⟨v, rfl, rv⟩ := r1.one
    obtain ⟨a, xs, rfl, ha, ra⟩ := rv.tup_inv
    exact ⟨a, xs, rfl, .inr (SqT.of (g1.sub _ _ ha)), fun b hb => fin b xs _ ra rv.sz rfl hb⟩
  · cases e1
    obtain ⟨v, rfl, rv⟩ := r1.one
    have z := rv.sz
    cases rv with
    | ktup ha ra _ => exact ⟨_, _, rfl, .inr (seqT g1.sub.s ha), fun b hb => fin b _ _ ra z rfl hb⟩
  · cases e1
    obtain ⟨v, rfl, rv⟩ := r1.one
    obtain ⟨a, xs, rfl, ha, ra⟩ := rv.lst_inv
    exact ⟨a, xs, rfl, .inl (SqL.of (g1.sub _ _ ha)), fun b hb => fin b xs _ ra rv.sz rfl hb⟩
  · cases e1
    obtain ⟨v, rfl, rv⟩ := r1.one
    obtain ⟨a, rfl, ha⟩ := rv.scr_inv
    exact ⟨a, _, rfl, .inl (g1.sub.seq ha), fun b hb => fin b _ _ (RepL.ints _) (by rw [List.length_map]; exact rv.sz) rfl hb⟩
  · cases e1
theorem LcSt.doneF {F1 H1 F H : Hp} {a : Addr} {ys : List D} {Q : VK} (s : LcSt X F1 H1 a F H ys) (h0 : H1 a = none) (z : ys.length ≤ 16777216) (q : ∀ b F' H', Grow F1 H1 F' H' → F' b = none → H1 b = none → OwnR X.K X.mg F' H' b (.lst ys) → Q (.ref b) H') : Q (.ref a) H := by
  obtain ⟨acc, h1, h2⟩ := s.at_
  exact q a F H s.grow s.off h0 (.lst h1 h2 z)
theorem lcF_of {σ : L2.St} {H : Hp} {Q : VK} {vs : List Nat} (hh : TEf X W (dLc vs fi gd tt fe) σ H Q) : tLc (TIo X W fi) (TGo X gd) (TTo X WF tt) (TEo X WF fe) vs σ H Q := by
  obtain ⟨F, ρ, sF, er, h⟩ := hh
  refine ⟨F, ρ, sF, er, (fi ρ).mono (fun ds z J F1 H1 g1 w a ha => ?_) (fun _ z => z) h⟩
  have er1 := er.grow g1.fs
  have QF : List D → Prop := fun ys => ∀ b F' H', Grow F1 H1 F' H' → F' b = none → H1 b = none → OwnR X.K X.mg F' H' b (.lst ys) → Q (.ref b) H'
  refine ⟨fun i m H => m = ds.length - i ∧ i ≤ ds.length ∧ ∃ F ys, LcSt X F1 H1 a F H ys ∧ ys.length ≤ i ∧
      (lcL vs gd tt fe ρ (ds.drop i)).wp (fun r => ∀ b F' H', Grow F1 H1 F' H' → F' b = none → H1 b = none → OwnR X.K X.mg F' H' b (.lst (ys ++ r)) → Q (.ref b) H') (fun _ => True),
    ⟨ds.length, by simp, Nat.zero_le _, F1, [], LcSt.start g1.sub ha, Nat.le_refl _, ?_⟩, ?_⟩
  · rw [List.drop_zero]
    exact MM.mono _ (fun r z b F' H' g2 e1 e2 o => z b F' H' (g1.trans g2) e1 (g1.hs.free e2) o) (fun _ _ => trivial) z
  rintro i m H ⟨rfl, hi, F2, ys, s2, hy, z2⟩
  by_cases hlt : i < ds.length
  · refine .inr ⟨w.go i H (.lower s2.grow.fs s2.grow.sub) hlt, fun H' => ∃ F ys, LcSt X F1 H1 a F H' ys ∧ ys.length ≤ i + 1 ∧
        (lcL vs gd tt fe ρ (ds.drop (i + 1))).wp (fun r => ∀ b F' H', Grow F1 H1 F' H' → F' b = none → H1 b = none → OwnR X.K X.mg F' H' b (.lst (ys ++ r)) → Q (.ref b) H') (fun _ => True),
      fun H' h => ⟨ds.length - (i + 1), by omega, rfl, hlt, h⟩, fun x H3 y => ?_⟩
    obtain ⟨F3, d, g3, e3, r3⟩ := w.yld i F2 H x H3 s2.grow.fs s2.grow.sub hlt y
    have ed : ds.drop i = d :: ds.drop (i + 1) := by
      rw [List.drop_eq_getElem_cons hlt]
      congr 1
      rw [List.getElem?_eq_getElem hlt] at e3
      exact Option.some.inj e3
    rw [ed, lcL] at z2
    obtain ⟨l, e4, z3⟩ := wp_opt z2
    dsimp only at z3
    split at z3
    · rename_i ok
      have s3 := s2.step g3
      refine ⟨F3, d, l, s3.grow.sub, r3, e4, fun ws sw => ⟨?_, ?_⟩⟩
      · rw [wipe_sets (sw.ix ok), wipe_wipe]
      · have er4 : ER X.K X.mg F3 (setsV (L2.wipe σ vs) ws) (setsD (wipeD ρ vs) l) := ER.sets sw ((er1.grow s3.grow.fs).wipe vs)
        have z4 : (tt (setsD (wipeD ρ vs) l)).wp _ (fun _ => False) := z3
        refine ⟨F3, _, s3.grow.sub, er4, MM.mono _ (fun b z F4 H4 g4 => ?_) (fun _ z => z.elim) z4⟩
        have s4 := s3.step g4
        cases b with
        | true =>
          have z5 : (fe (setsD (wipeD ρ vs) l)).wp _ (fun _ => False) := z
          refine ⟨F4, _, s4.grow.sub, er4.grow g4.fs, MM.mono _ (fun y z v F5 H5 g5 r5 => ?_) (fun _ z => z.elim) z5⟩
          have s5 := s4.step g5
          obtain ⟨acc, h1, h2, s6⟩ := s5.add ha r5
          refine ⟨acc, h1, ?_, F5, _, s6, ?_, ?_⟩
          · have := w.sz
            rw [h2]
            exact szLt (by omega)
          · rw [List.length_append]
            simpa using hy
          · refine MM.mono _ (fun r z => ?_) (fun _ z => z) z
            rw [List.append_assoc]
            exact z
        | false => exact ⟨F4, ys, s4, by omega, z⟩
    · exact z3.elim
  · have e : i = ds.length := by omega
    subst e
    rw [List.drop_length, lcL] at z2
    refine .inl ⟨w.stop H (.lower s2.grow.fs s2.grow.sub), ?_⟩
    have z3 : ∀ b F' H', Grow F1 H1 F' H' → F' b = none → H1 b = none → OwnR X.K X.mg F' H' b (.lst (ys ++ [])) → Q (.ref b) H' := z2
    rw [List.append_nil] at z3
    exact s2.doneF ha (Nat.le_trans hy w.sz) z3
structure Blk (X : Cx) (elt tg : Expr) (ifs : List Expr) (scope : Scope) (gd : GD) (tt : Env' → M Bool) (fe : EM) : Prop where
  g : ∀ (s : Shared) (H : Hp) (C : Addr) (cl : List (Str × Addr)) (fp : List Addr), PuG (X.blk s H scope (compEnvC scope cl C X.env) fp) tg gd
  t : ∀ (s : Shared) (H : Hp) (C : Addr) (cl : List (Str × Addr)) (fp : List Addr), PuTs (X.blk s H scope (compEnvC scope cl C X.env) fp) WF ifs tt
  e : ∀ (s : Shared) (H : Hp) (C : Addr) (cl : List (Str × Addr)) (fp : List Addr), PuE (X.blk s H scope (compEnvC scope cl C X.env) fp) WF elt fe
theorem fr_lc (hc : X.calm = true) (hN : X.N.Nodup) (hi : PuI X W tg iter fi) (ok : BlkOk X.N X.env.scope scope own) (b : Blk X elt tg ifs scope gd tt fe)
    (hs : ∀ x, foldedSetIterable iter X.env x = pure x := by intro _; rfl) : PuFr X W (.ListComp elt [⟨tg, iter, ifs, 0⟩] scope pos) (dLc (own.map (·.2)) fi gd tt fe) :=
  PE_imp (pe_lc (wi := TIo X W fi) (g := TGo X gd) (tt := TTo X WF tt) (te := TEo X WF fe) hc hN hi ok b.g b.t b.e hs) fun _ _ _ h => lcF_of h
theorem u_lc (hc : X.calm = true) (hN : X.N.Nodup) (hi : PuI X W tg iter fi) (ok : BlkOk X.N X.env.scope scope own) (b : Blk X elt tg ifs scope gd tt fe)
    (hs : ∀ x, foldedSetIterable iter X.env x = pure x := by intro _; rfl) : PuE X W (.ListComp elt [⟨tg, iter, ifs, 0⟩] scope pos) (dLc (own.map (·.2)) fi gd tt fe) :=
  PE_imp (pe_lc (wi := TIo X W fi) (g := TGo X gd) (tt := TTo X WF tt) (te := TEo X WF fe) hc hN hi ok b.g b.t b.e hs) fun _ _ _ h => lc_of h
end

def immIn : D → Bool
  | .lst xs => immD.immL xs
  | .dct _ kvs => kvs.all fun p => immD p.1 && immD p.2
  | _ => false
section
variable {X : Cx} {W : WX} {mu : List Nat} {F0 H0 Fb : Hp} {e : Expr} {f : EM} {g : Env' → M (List D)} {pos p p2 : Pos} {i : Nat} {x : Str}
theorem RepK.imm {K : K'} {mg : Mg} {F F' : Hp} (e : ∀ b o, F b = some o → mutHO (some o) = false → F' b = some o) (ef : ∀ b o u, F b = some (.frz o u) → F' b = some (.frz o u)) : ∀ {v : List (L2.Key × V)} {d : List (D × D)}, RepK K mg F v d → (d.all fun p => immD p.1 && immD p.2) = true → RepK K mg F' v d
  | _, _, .nil, _ => .nil
  | _, _, .consI h r, q => by
    rw [List.all_cons, Bool.and_eq_true, Bool.and_eq_true] at q
    exact .consI (Rep.imm e ef h q.1.2) (RepK.imm e ef r q.2)
  | _, _, .consS h r, q => by
    rw [List.all_cons, Bool.and_eq_true, Bool.and_eq_true] at q
    exact .consS (Rep.imm e ef h q.1.2) (RepK.imm e ef r q.2)
theorem RepT.imm {K : K'} {mg : Mg} {F F' : Hp} (e : ∀ b o, F b = some o → mutHO (some o) = false → F' b = some o) (ef : ∀ b o u, F b = some (.frz o u) → F' b = some (.frz o u)) : ∀ {v : List (List L2.Key × V)} {d : List (D × D)}, RepT K mg F v d → (d.all fun p => immD p.1 && immD p.2) = true → RepT K mg F' v d
  | _, _, .nil, _ => .nil
  | _, _, .cons k h r, q => by
    rw [List.all_cons, Bool.and_eq_true, Bool.and_eq_true] at q
    exact .cons (RepL.imm e ef k (by simpa [immD] using q.1.1)) (Rep.imm e ef h q.1.2) (RepT.imm e ef r q.2)
theorem own_imm {K : K'} {mg : Mg} {F F' H : Hp} {a : Addr} {d : D} (e : ∀ b o, F b = some o → mutHO (some o) = false → F' b = some o) (ef : ∀ b o u, F b = some (.frz o u) → F' b = some (.frz o u)) (o : OwnR K mg F H a d) (q : immIn d = true) : OwnR K mg F' H a d := by
  cases o with
  | lst h r z => exact .lst h (RepL.imm e ef r q) z
  | dK h r z => exact .dK h (RepK.imm e ef r q) z
  | dT h r z => exact .dT h (RepT.imm e ef r q) z
theorem SR.own_set {σ : L2.St} {F H : Hp} {ρ : Env'} {a : Addr} {d : D} (s : SR X.K X.mg mu F0 H0 Fb F H σ ρ) (hi : i ∈ mu) {Hx : Hp} (hx : SameN H0 Hx) (ha : Hx a = none) (ho : ∀ b, Owned mu σ ρ b → Hx b ≠ none) (hF : F a = none) (o : OwnR X.K X.mg F H a d) :
    SR X.K X.mg mu F0 H0 Fb F H (σ.set i (some (.ref a))) (ρ.set i (some d)) := by
  refine (s.setOwn i hF (hx.free ha) (fun j e h1 h2 h3 h4 h5 => ?_) o).resolve_right fun z => z hi
  exact ho a ⟨j, e, h1, h3, h4, h5⟩ ha
def sOwnF (mu : List Nat) (i : Nat) (f : EM) : SM := fun ρ => liftF ρ (f (hide mu ρ)) >>= fun d => pure (.nx (ρ.set i (some d)))
def sOwnI (mu : List Nat) (i : Nat) (f : EM) : SM := fun ρ => liftI ρ (f ρ) >>= fun d => if immIn d = true then pure (.nx (ρ.set i (some d))) else M.fail
theorem SR.ownedSome {σ : L2.St} {F H : Hp} {ρ : Env'} (s : SR X.K X.mg mu F0 H0 Fb F H σ ρ) : ∀ b, Owned mu σ ρ b → H b ≠ none := fun b z e => by
  have h1 := (s.ownedHO z).1
  rw [e] at h1
  cases h1
theorem s_ownF (hi : i ∈ mu) (hN : X.N.Nodup) (hx : X.N[i]? = some x) (hl : Loc X.env.scope x) (he : PuFr X W e f) (hs : swapsWith e (some (.Name x p2)) pos.line X.env = pure false := by rfl)
    (hf : X.fn x = true ∨ X.env.scope.names.lookup x = some .local := by first | exact .inl rfl | exact .inr rfl | assumption) : PuS X W mu F0 H0 (.Assign [.Name x p2] e pos) (sOwnF mu i f) := by
  intro Fb
  refine PS_imp (ps_set hN hx hl he hs hf) fun D' σ H ⟨F, ρ, s, h⟩ => ?_
  obtain ⟨h1, h2, h3⟩ := see_hid (m := f) s h
  exact ⟨F, _, h2, h1, MM.mono _ (fun d z a F' H' g hF h0 o => z F' H' _ ((s.grow g).own_set hi s.hs0 h0 s.ownedSome hF o)) (fun _ z => z) h3⟩
theorem s_ownI (hi : i ∈ mu) (hN : X.N.Nodup) (hx : X.N[i]? = some x) (hl : Loc X.env.scope x) (he : PuFr X W e f) (hs : swapsWith e (some (.Name x p2)) pos.line X.env = pure false := by rfl)
    (hf : X.fn x = true ∨ X.env.scope.names.lookup x = some .local := by first | exact .inl rfl | exact .inr rfl | assumption) : PuS X W mu F0 H0 (.Assign [.Name x p2] e pos) (sOwnI mu i f) := by
  intro Fb
  refine PS_imp (ps_set hN hx hl he hs hf) fun D' σ H ⟨F, ρ, s, h⟩ => ?_
  obtain ⟨h1, h2, h3⟩ := see_all (m := f) s h
  refine ⟨_, ρ, h2, h1, MM.mono _ (fun d z a F' H' g hF h0 o => ?_) (fun _ z => z) h3⟩
  dsimp only at z
  split at z
  · rename_i im
    refine z _ H' _ ((s.bak g).own_set hi s.hs0 h0 s.ownedSome ?_ (own_imm (s.bakImm g).1 (s.bakImm g).2 o im))
    unfold back
    split
    · rfl
    · exact hF
  · exact z.elim
end
end P5

namespace P5
open PySem L2 PyProof.Rows
variable [Tb]

section
variable {X : Cx} {W : WX} {mu : List Nat} {F0 H0 Fb : Hp} {e k : Expr} {f fk : EM} {g : Env' → M (List D)} {pos p p2 p3 p4 : Pos} {i j : Nat} {x y : Str}
theorem SR.write {σ : L2.St} {F H : Hp} {ρ : Env'} {a : Addr} {d0 d : D} {o : HO} (s : SR X.K X.mg mu F0 H0 Fb F H σ ρ) (hi : i ∈ mu) (h1 : ρ[i]? = some (some d0)) (hm : isMut d0 = true) (h2 : σ[i]? = some (some (.ref a))) (n : OwnR X.K X.mg F (upd H a o) a d) :
    SR X.K X.mg mu F0 H0 Fb F (upd H a o) σ (ρ.set i (some d)) := by
  obtain ⟨a', e1, e2, e3, o'⟩ := s.own i d0 h1 hi hm
  rw [h2] at e1
  cases e1
  have hb : i < ρ.length := (List.getElem?_eq_some_iff.mp h1).1
  have ww : ∃ u, H a = some u ∧ wrT u = true := by
    cases q : H a with
    | none => exact (o'.some q).elim
    | some u =>
      refine ⟨u, rfl, ?_⟩
      have z := o'.ho
      rw [q] at z
      cases u <;> first | rfl | (cases z; done)
  obtain ⟨u0, hu0, wu0⟩ := ww
  refine ⟨⟨fun b u q => ?_, s.sub.n, tabs_wr s.sub.t hu0 wu0⟩, s.fs0, s.fb, s.hs0.wr e3 hu0 wu0, s.new, by rw [List.length_set]; exact s.len, fun j e q1 q2 => ?_, fun j e q1 q2 q3 => ?_, fun j l e e' u v h1' h2' h3' h4' h5' h6' h7' h8' h9' => ?_⟩
  · rw [upd_ne (ne_of_none q e2)]
    exact s.sub _ _ q
  · by_cases hj : i = j
    · subst hj
      rw [List.getElem?_set_self hb] at q1
      cases q1
      have z := q2 hi
      rw [n.mut] at z
      cases z
    · rw [List.getElem?_set_ne hj] at q1
      exact s.val j e q1 q2
  · by_cases hj : i = j
    · subst hj
      rw [List.getElem?_set_self hb] at q1
      cases q1
      exact ⟨a, h2, e2, e3, n⟩
    · rw [List.getElem?_set_ne hj] at q1
      obtain ⟨b, f1, f2, f3, ob⟩ := s.own j e q1 q2 q3
      refine ⟨b, f1, f2, f3, ob.grow (Same.refl _) (upd_ne ?_)⟩
      exact s.sep j i e d0 b a q2 hi (Ne.symm hj) q1 q3 h1 hm f1 h2
  · have back : ∀ (j : Nat) (e : D), (ρ.set i (some d))[j]? = some (some e) → isMut e = true → ∃ e2, ρ[j]? = some (some e2) ∧ isMut e2 = true := fun j e q1 q2 => by
      by_cases hj : i = j
      · subst hj
        exact ⟨d0, h1, hm⟩
      · rw [List.getElem?_set_ne hj] at q1
        exact ⟨e, q1, q2⟩
    obtain ⟨e2, b1, b2⟩ := back j e h4' h5'
    obtain ⟨e3, b3, b4⟩ := back l e' h6' h7'
    exact s.sep j l e2 e3 u v h1' h2' h3' b1 b2 b3 b4 h8' h9'
def lstAt (ρ : Env') (i : Nat) : Option (List D) := match ρ[i]? with
  | some (some (.lst xs)) => some xs
  | _ => none
def dctAt (ρ : Env') (i : Nat) : Option (Nat × List (D × D)) := match ρ[i]? with
  | some (some (.dct n kvs)) => some (n, kvs)
  | _ => none
theorem lstAt_of {ρ : Env'} {xs : List D} (h : lstAt ρ i = some xs) : ρ[i]? = some (some (.lst xs)) := by
  unfold lstAt at h
  split at h
  · cases h
    assumption
  · cases h
theorem dctAt_of {ρ : Env'} {n : Nat} {kvs : List (D × D)} (h : dctAt ρ i = some (n, kvs)) : ρ[i]? = some (some (.dct n kvs)) := by
  unfold dctAt at h
  split at h
  · cases h
    assumption
  · cases h
theorem SR.lst_at {σ : L2.St} {F H : Hp} {ρ : Env'} {xs : List D} (s : SR X.K X.mg mu F0 H0 Fb F H σ ρ) (hi : i ∈ mu) (h : lstAt ρ i = some xs) :
    ∃ a vs, σ[i]? = some (some (.ref a)) ∧ H a = some (.lst vs) ∧ RepL X.K X.mg F vs xs ∧ F a = none := by
  obtain ⟨a, e1, e2, e3, o⟩ := s.own i _ (lstAt_of h) hi rfl
  cases o with
  | lst h r z => exact ⟨a, _, e1, h, r, e2⟩
def sAppI (i : Nat) (f : EM) : SM := fun ρ => M.opt (lstAt ρ i) >>= fun xs => liftI ρ (f ρ) >>= fun d => if immD d = true ∧ xs.length < 16777216 then pure (.nx (ρ.set i (some (.lst (xs ++ [d]))))) else M.fail
def sAppF (mu : List Nat) (i : Nat) (f : EM) : SM := fun ρ => M.opt (lstAt ρ i) >>= fun xs => liftF ρ (f (hide mu ρ)) >>= fun d => if xs.length < 16777216 then pure (.nx (ρ.set i (some (.lst (xs ++ [d]))))) else M.fail
theorem app_rd {te : TE} {apos cpos : Pos} (hN : X.N[i]? = some x) (hv : Vis X.env.scope x) (he : PE X e te) (hd : (x == ("__debug__" : Str)) = false := by decide) (hcd : (x == ("__classdict__" : Str)) = false := by decide)
    (hbase : attributeBase (.Name x p) "append" X.env (eval (.Name x p) X.env) = eval (.Name x p) X.env := by rfl) (hline : (apos.endLine == cpos.line) = true := by rfl) (hst : starEach [e] X.env = (false, eval e X.env) :: starEach [] X.env := by rfl)
    (hfew : ((backTo cpos (starEach [e] X.env)).all (fun x => !x.1) && (backToKw cpos (keywordEach [] X.env)).all (fun x => x.1.isSome)
      && decide (([e] : List Expr).length + ([] : List Keyword).length + (if ([] : List Keyword).isEmpty then 0 else 1) < 30)) = true := by rfl) (hplain : (backTo cpos (starEach [] X.env)).any (·.1) = false := by rfl) :
    PE X (.Call (.Attribute (.Name x p) "append" apos) [e] [] cpos) (tBM X.K "list" rAppend (tVar i) (tCons te tNil)) :=
  pe_bm PySem.F.plainAttrs_list PySem.F.slot_list_append PySem.F.type_list_append mt_append (pe_var hN hv hd hcd) (pa_cons he pa_nil hst) hbase hfew hline hst hplain
theorem s_appI {apos cpos : Pos} (hi : i ∈ mu) (hN : X.N[i]? = some x) (hv : Vis X.env.scope x) (he : PuE X W e f) (hd : (x == ("__debug__" : Str)) = false := by decide) (hcd : (x == ("__classdict__" : Str)) = false := by decide)
    (hbase : attributeBase (.Name x p) "append" X.env (eval (.Name x p) X.env) = eval (.Name x p) X.env := by rfl) (hline : (apos.endLine == cpos.line) = true := by rfl) (hst : starEach [e] X.env = (false, eval e X.env) :: starEach [] X.env := by rfl)
    (hfew : ((backTo cpos (starEach [e] X.env)).all (fun x => !x.1) && (backToKw cpos (keywordEach [] X.env)).all (fun x => x.1.isSome)
      && decide (([e] : List Expr).length + ([] : List Keyword).length + (if ([] : List Keyword).isEmpty then 0 else 1) < 30)) = true := by rfl) (hplain : (backTo cpos (starEach [] X.env)).any (·.1) = false := by rfl)
    (hs : swapsWith (.Call (.Attribute (.Name x p) "append" apos) [e] [] cpos) none pos.line X.env = pure false := by rfl) :
    PuS X W mu F0 H0 (.Expr (.Call (.Attribute (.Name x p) "append" apos) [e] [] cpos) pos) (sAppI i f) := by
  intro Fb
  refine PS_imp (ps_expr (app_rd hN hv he hd hcd hbase hline hst hfew hplain) hs) fun D' σ H ⟨F, ρ, s, h⟩ => ?_
  obtain ⟨xs, e1, h⟩ := wp_opt h
  obtain ⟨a, vs, q1, q2, q3, q4⟩ := s.lst_at hi e1
  obtain ⟨h1, h2, h3⟩ := see_all (m := f) s h
  refine ⟨.ref a, q1, .inl ⟨rfl, vs, SqL.of q2⟩, _, ρ, h2, h1, (f ρ).mono (fun d z v F' H' g r => ?_) (fun _ z => z) h3⟩
  dsimp only at z
  split at z
  · rename_i hz
    obtain ⟨s1, r1⟩ := s.behind g r hz.1
    obtain ⟨a', vs', q1', q2', q3', q4'⟩ := s1.lst_at hi e1
    rw [q1] at q1'
    cases q1'
    refine ⟨a, vs', v, rfl, rfl, q2', by rw [q3'.length]; exact szLt hz.2, z _ _ _ (s1.write hi (lstAt_of e1) rfl q1 (.lst upd_same (q3'.append (.cons r1 .nil)) (by rw [List.length_append, List.length_singleton]; omega)))⟩
  · exact z.elim
theorem s_appF {apos cpos : Pos} (hi : i ∈ mu) (hN : X.N[i]? = some x) (hv : Vis X.env.scope x) (he : PuE X W e f) (hd : (x == ("__debug__" : Str)) = false := by decide) (hcd : (x == ("__classdict__" : Str)) = false := by decide)
    (hbase : attributeBase (.Name x p) "append" X.env (eval (.Name x p) X.env) = eval (.Name x p) X.env := by rfl) (hline : (apos.endLine == cpos.line) = true := by rfl) (hst : starEach [e] X.env = (false, eval e X.env) :: starEach [] X.env := by rfl)
    (hfew : ((backTo cpos (starEach [e] X.env)).all (fun x => !x.1) && (backToKw cpos (keywordEach [] X.env)).all (fun x => x.1.isSome)
      && decide (([e] : List Expr).length + ([] : List Keyword).length + (if ([] : List Keyword).isEmpty then 0 else 1) < 30)) = true := by rfl) (hplain : (backTo cpos (starEach [] X.env)).any (·.1) = false := by rfl)
    (hs : swapsWith (.Call (.Attribute (.Name x p) "append" apos) [e] [] cpos) none pos.line X.env = pure false := by rfl) :
    PuS X W mu F0 H0 (.Expr (.Call (.Attribute (.Name x p) "append" apos) [e] [] cpos) pos) (sAppF mu i f) := by
  intro Fb
  refine PS_imp (ps_expr (app_rd hN hv he hd hcd hbase hline hst hfew hplain) hs) fun D' σ H ⟨F, ρ, s, h⟩ => ?_
  obtain ⟨xs, e1, h⟩ := wp_opt h
  obtain ⟨a, vs, q1, q2, q3, q4⟩ := s.lst_at hi e1
  obtain ⟨h1, h2, h3⟩ := see_hid (m := f) s h
  refine ⟨.ref a, q1, .inl ⟨rfl, vs, SqL.of q2⟩, F, _, h2, h1, MM.mono _ (fun d z v F' H' g r => ?_) (fun _ z => z) h3⟩
  dsimp only at z
  split at z
  · rename_i hz
    have s1 := s.grow g
    obtain ⟨a', vs', q1', q2', q3', q4'⟩ := s1.lst_at hi e1
    rw [q1] at q1'
    cases q1'
    refine ⟨a, vs', v, rfl, rfl, q2', by rw [q3'.length]; exact szLt hz, z _ _ _ (s1.write hi (lstAt_of e1) rfl q1 (.lst upd_same (q3'.append (.cons r .nil)) (by rw [List.length_append, List.length_singleton]; omega)))⟩
  · exact z.elim

def putD (kvs : List (D × D)) (k v : D) : List (D × D) := if (kvs.any fun p => keyEq p.1 k) = true then kvs.map (fun p => if keyEq p.1 k = true then (p.1, v) else p) else kvs ++ [(k, v)]
section
variable {K : K'} {mg : Mg} {F : Hp}
theorem RepK.keys (q : L2.Key) : ∀ {kvs : List (L2.Key × V)} {ds : List (D × D)}, RepK K mg F kvs ds → (kvs.any fun kv => decide (kv.1 = q)) = ds.any fun p => keyEq p.1 (keyD q)
  | _, _, .nil => rfl
  | _, _, .consI (i := i) h r => by
    rw [List.any_cons, List.any_cons, RepK.keys q r]
    show (decide ((Sum.inl i : L2.Key) = q) || _) = (keyEq (keyD (.inl i)) (keyD q) || _)
    rw [keyEq_key]
  | _, _, .consS (x := x) h r => by
    rw [List.any_cons, List.any_cons, RepK.keys q r]
    show (decide ((Sum.inr x : L2.Key) = q) || _) = (keyEq (keyD (.inr x)) (keyD q) || _)
    rw [keyEq_key]
theorem RepK.app : ∀ {kvs ls : List (L2.Key × V)} {ds es : List (D × D)}, RepK K mg F kvs ds → RepK K mg F ls es → RepK K mg F (kvs ++ ls) (ds ++ es)
  | _, _, _, _, .nil, s => s
  | _, _, _, _, .consI h r, s => .consI h (RepK.app r s)
  | _, _, _, _, .consS h r, s => .consS h (RepK.app r s)
theorem RepK.one (q : L2.Key) {v : V} {d : D} (h : Rep K mg F v d) : RepK K mg F [(q, v)] [(keyD q, d)] := by
  cases q with
  | inl i => exact .consI h .nil
  | inr x => exact .consS h .nil
theorem RepK.over (q : L2.Key) {v : V} {d : D} (hv : Rep K mg F v d) : ∀ {kvs : List (L2.Key × V)} {ds : List (D × D)}, RepK K mg F kvs ds →
    RepK K mg F (kvs.map fun kv => if kv.1 = q then (kv.1, v) else kv) (ds.map fun p => if keyEq p.1 (keyD q) = true then (p.1, d) else p)
  | _, _, .nil => .nil
  | _, _, .consI (i := i) h r => by
    have ih := RepK.over q hv r
    have e := keyEq_key (.inl i) q
    rw [List.map_cons, List.map_cons]
    by_cases c : (Sum.inl i : L2.Key) = q
    · rw [decide_eq_true c] at e
      dsimp only
      rw [if_pos c, if_pos (show keyEq (.int i) (keyD q) = true from e)]
      exact .consI hv ih
    · rw [decide_eq_false c] at e
      dsimp only
      rw [if_neg c, if_neg (show ¬ keyEq (.int i) (keyD q) = true by rw [show keyEq (.int i) (keyD q) = false from e]; simp)]
      exact .consI h ih
  | _, _, .consS (x := x) h r => by
    have ih := RepK.over q hv r
    have e := keyEq_key (.inr x) q
    rw [List.map_cons, List.map_cons]
    by_cases c : (Sum.inr x : L2.Key) = q
    · rw [decide_eq_true c] at e
      dsimp only
      rw [if_pos c, if_pos (show keyEq (.str x) (keyD q) = true from e)]
      exact .consS hv ih
    · rw [decide_eq_false c] at e
      dsimp only
      rw [if_neg c, if_neg (show ¬ keyEq (.str x) (keyD q) = true by rw [show keyEq (.str x) (keyD q) = false from e]; simp)]
      exact .consS h ih
theorem RepK.put (q : L2.Key) {v : V} {d : D} (hv : Rep K mg F v d) {kvs : List (L2.Key × V)} {ds : List (D × D)} (r : RepK K mg F kvs ds) : RepK K mg F (putK kvs q v) (putD ds (keyD q) d) := by
  unfold putK putD
  rw [r.keys q]
  split
  · exact r.over q hv
  · exact r.app (RepK.one q hv)
theorem RepT.keys (q : List L2.Key) : ∀ {kvs : List (List L2.Key × V)} {ds : List (D × D)}, RepT K mg F kvs ds → (kvs.any fun kv => decide (kv.1 = q)) = ds.any fun p => keyEq p.1 (.tup (q.map keyD))
  | _, _, .nil => rfl
  | _, _, .cons (k := j) hk h r => by
    have ek := keysD_inv hk
    subst ek
    rw [List.any_cons, List.any_cons, RepT.keys q r]
    show (decide (j = q) || _) = (keyEqL (j.map keyD) (q.map keyD) || _)
    rw [keyEq_keys]
theorem RepT.app : ∀ {kvs ls : List (List L2.Key × V)} {ds es : List (D × D)}, RepT K mg F kvs ds → RepT K mg F ls es → RepT K mg F (kvs ++ ls) (ds ++ es)
  | _, _, _, _, .nil, s => s
  | _, _, _, _, .cons k h r, s => .cons k h (RepT.app r s)
theorem keys_rep : ∀ q : List L2.Key, RepL K mg F (q.map kV) (q.map keyD)
  | [] => .nil
  | .inl i :: r => .cons (.int i) (keys_rep r)
  | .inr x :: r => .cons (.str x) (keys_rep r)
theorem RepT.over (q : List L2.Key) {v : V} {d : D} (hv : Rep K mg F v d) : ∀ {kvs : List (List L2.Key × V)} {ds : List (D × D)}, RepT K mg F kvs ds →
    RepT K mg F (kvs.map fun kv => if kv.1 = q then (kv.1, v) else kv) (ds.map fun p => if keyEq p.1 (.tup (q.map keyD)) = true then (p.1, d) else p)
  | _, _, .nil => .nil
  | _, _, .cons (k := j) hk h r => by
    have ih := RepT.over q hv r
    have ek := keysD_inv hk
    subst ek
    have e := keyEq_keys j q
    rw [List.map_cons, List.map_cons]
    by_cases c : j = q
    · rw [decide_eq_true c] at e
      dsimp only
      rw [if_pos c, if_pos (show keyEq (.tup (j.map keyD)) (.tup (q.map keyD)) = true from e)]
      exact .cons hk hv ih
    · rw [decide_eq_false c] at e
      dsimp only
      rw [if_neg c, if_neg (show ¬ keyEq (.tup (j.map keyD)) (.tup (q.map keyD)) = true by rw [show keyEq (.tup (j.map keyD)) (.tup (q.map keyD)) = false from e]; simp)]
      exact .cons hk h ih
theorem RepT.put (q : List L2.Key) {v : V} {d : D} (hv : Rep K mg F v d) {kvs : List (List L2.Key × V)} {ds : List (D × D)} (r : RepT K mg F kvs ds) : RepT K mg F (putK kvs q v) (putD ds (.tup (q.map keyD)) d) := by
  unfold putK putD
  rw [r.keys q]
  split
  · exact r.over q hv
  · exact r.app (.cons (keys_rep q) hv .nil)
theorem putD_len {ds : List (D × D)} {k v : D} : (putD ds k v).length ≤ ds.length + 1 := by
  unfold putD
  split
  · rw [List.length_map]; omega
  · rw [List.length_append, List.length_singleton]; omega
end
theorem SR.put {σ : L2.St} {F H : Hp} {ρ : Env'} {n : Nat} {kvs : List (D × D)} {vk vv : V} {dk dv : D} (s : SR X.K X.mg mu F0 H0 Fb F H σ ρ) (hi : i ∈ mu) (h : dctAt ρ i = some (n, kvs)) (rk : Rep X.K X.mg F vk dk) (rv : Rep X.K X.mg F vv dv) (ok : keyOk n dk = true) (hz : kvs.length < 16777216) :
    ∃ a H', σ[i]? = some (some (.ref a)) ∧ DPut H a vk vv H' ∧ SR X.K X.mg mu F0 H0 Fb F H' σ (ρ.set i (some (.dct n (putD kvs dk dv)))) := by
  have hm : isMut (.dct n kvs) = true := by
    match n, ok with
    | 0, _ => rfl
    | 1, _ => rfl
    | n + 2, h => cases dk <;> simp [keyOk] at h
  obtain ⟨a, e1, e2, e3, o⟩ := s.own i _ (dctAt_of h) hi hm
  have hl : (putD kvs dk dv).length ≤ 16777216 := Nat.le_trans putD_len (by omega)
  cases o with
  | dK h' r z =>
    obtain ⟨q, rfl, rfl⟩ := keyD_of rk ok
    exact ⟨a, _, e1, DPut.k h' (by rw [r.length]; exact szLt hz), s.write hi (dctAt_of h) hm e1 (.dK upd_same (r.put q rv) hl)⟩
  | dT h' r z =>
    cases rk with
    | tup hb rb _ =>
      obtain ⟨q, rfl, rfl⟩ := keysD_of rb ok
      exact ⟨a, _, e1, DPut.t h' (s.sub _ _ hb) (by rw [r.length]; exact szLt hz), s.write hi (dctAt_of h) hm e1 (.dT upd_same (r.put q rv) hl)⟩
    | _ => simp [keyOk] at ok
def sPutI (i : Nat) (fk f : EM) : SM := fun ρ => M.opt (dctAt ρ i) >>= fun c => liftI ρ (f ρ) >>= fun v => liftI ρ (fk ρ) >>= fun k =>
  if immD v = true ∧ immD k = true ∧ keyOk c.1 k = true ∧ c.2.length < 16777216 then pure (.nx (ρ.set i (some (.dct c.1 (putD c.2 k v))))) else M.fail
theorem s_putI (hu : X.A.units + 1 < cLine) (hi : i ∈ mu) (hN : X.N[i]? = some x) (hv : Vis X.env.scope x) (hk : PuE X W k fk) (he : PuE X W e f) (hs : swapsWith e (some (.Subscript (.Name x p) k p2)) pos.line X.env = pure false := by rfl)
    (hd : (x == ("__debug__" : Str)) = false := by decide) (hcd : (x == ("__classdict__" : Str)) = false := by decide) : PuS X W mu F0 H0 (.Assign [.Subscript (.Name x p) k p2] e pos) (sPutI i fk f) := by
  intro Fb
  refine PS_imp (ps_dput hu (pe_var hN hv hd hcd) hk he hs) fun D' σ H ⟨F, ρ, s, h⟩ => ?_
  obtain ⟨⟨n, kvs⟩, e1, h⟩ := wp_opt h
  obtain ⟨h1, h2, h3⟩ := see_all (m := f) s h
  refine ⟨_, ρ, h2, h1, (f ρ).mono (fun dv z v F' H' g r => ?_) (fun _ z => z) h3⟩
  have hp := z
  obtain ⟨w1, w2, w3⟩ := see_all (m := fk) (s.bak g) hp
  have hpos : ∃ a, σ[i]? = some (some (.ref a)) := by
    obtain ⟨v', e2, rv⟩ := s.vis.2 i _ (dctAt_of e1)
    cases rv with
    | dctK _ _ _ => exact ⟨_, e2⟩
    | dctT _ _ _ => exact ⟨_, e2⟩
  obtain ⟨a, ha⟩ := hpos
  refine ⟨.ref a, ha, _, ρ, w2, w1, (fk ρ).mono (fun dk z vk F2 H2 g2 r2 => ?_) (fun _ z => z) w3⟩
  dsimp only at z
  split at z
  · rename_i hc
    obtain ⟨s1, r1⟩ := s.behind g r hc.1
    obtain ⟨s2, r2'⟩ := s1.behind g2 r2 hc.2.1
    have r1' : Rep X.K X.mg (back mu σ ρ F2) v dv := by
      have hg : Same (back mu σ ρ F') F2 := s1.toFull.trans g2.fs
      exact (r1.grow hg).imm (s1.bakImm g2).1 (s1.bakImm g2).2 hc.1
    obtain ⟨a', H', q1, q2, q3⟩ := s2.put hi e1 r2' r1' hc.2.2.1 hc.2.2.2
    rw [ha] at q1
    cases q1
    exact ⟨a, H', rfl, q2, z _ _ _ q3⟩
  · exact z.elim

def sAug (mu : List Nat) (i : Nat) (op : D → D → Option D) (f : EM) : SM := fun ρ => liftI ρ (dVar i ρ) >>= fun a => liftI ρ (f ρ) >>= fun b => M.opt (op a b) >>= fun r => if immD r = true then pure (.nx (ρ.set i (some r))) else M.fail
def opAddI : D → D → Option D
  | .int i, .int j => some (.int (i + j))
  | _, _ => none
theorem aug_int {op : Operator} {f2 : Int → Int → Int} {o2 : D → D → Option D} (ho : PIp X op (ipI f2)) (h2 : ∀ a b r, o2 a b = some r → ∃ i j, a = .int i ∧ b = .int j ∧ r = .int (f2 i j)) (hN : X.N.Nodup) (hx : X.N[i]? = some x) (hl : Loc X.env.scope x) (he : PuE X W e f)
    (hf : X.fn x = true ∨ X.env.scope.names.lookup x = some .local := by first | exact .inl rfl | exact .inr rfl | assumption) : PuS X W mu F0 H0 (.AugAssign (.Name x p2) op e pos) (sAug mu i o2 f) := by
  intro Fb
  refine PS_imp (ps_aug hN hx hl he ho hf) fun D' σ H ⟨F, ρ, s, h⟩ => ?_
  have h' : (liftI ρ (dVar i ρ)).wp _ (SE X W mu F0 H0 Fb) := h
  unfold dVar at h'
  cases q : ρ[i]? with
  | none =>
    rw [q] at h'
    exact h'.elim
  | some o =>
    rw [q] at h'
    cases o with
    | none => exact h'.elim
    | some d =>
      obtain ⟨v, e1, r1⟩ := s.vis.2 i d q
      obtain ⟨h1, h2', h3⟩ := see_all (m := f) s h'
      refine ⟨v, e1, _, ρ, h2', h1, (f ρ).mono (fun d2 z w F' H' g r => ?_) (fun _ z => z) h3⟩
      obtain ⟨rr, e2, z⟩ := wp_opt z
      obtain ⟨m, n, rfl, rfl, rfl⟩ := h2 _ _ _ e2
      refine ⟨m, n, r1.int_inv, r.int_inv, ?_⟩
      exact z _ _ _ ((s.bak g).set i (fun _ => rfl) (.int _))
theorem s_augAdd (hN : X.N.Nodup) (hx : X.N[i]? = some x) (hl : Loc X.env.scope x) (he : PuE X W e f)
    (hf : X.fn x = true ∨ X.env.scope.names.lookup x = some .local := by first | exact .inl rfl | exact .inr rfl | assumption) : PuS X W mu F0 H0 (.AugAssign (.Name x p2) .Add e pos) (sAug mu i opAddI f) :=
  aug_int ip_add (fun a b r h => by
    unfold opAddI at h
    split at h
    · cases h
      exact ⟨_, _, rfl, rfl, rfl⟩
    · cases h) hN hx hl he hf
theorem s_augSub (hN : X.N.Nodup) (hx : X.N[i]? = some x) (hl : Loc X.env.scope x) (he : PuE X W e f)
    (hf : X.fn x = true ∨ X.env.scope.names.lookup x = some .local := by first | exact .inl rfl | exact .inr rfl | assumption) : PuS X W mu F0 H0 (.AugAssign (.Name x p2) .Sub e pos) (sAug mu i opSub f) :=
  aug_int ip_sub (fun a b r h => by
    unfold opSub at h
    split at h
    · cases h
      exact ⟨_, _, rfl, rfl, rfl⟩
    · cases h) hN hx hl he hf

def sPar (mu : List Nat) (i j : Nat) (g : Env' → M (List D)) : SM := fun ρ => liftI ρ (g ρ) >>= fun ds => match ds with
  | [a, b] => if immD a = true ∧ immD b = true then pure (.nx ((ρ.set i (some a)).set j (some b))) else M.fail
  | _ => M.fail
def sParF (mu : List Nat) (i j : Nat) (g : Env' → M (List D)) : SM := fun ρ => liftF ρ (g (hide mu ρ)) >>= fun ds => match ds with
  | [a, b] => if okSets mu [(i, a), (j, b)] = true then pure (.nx ((ρ.set i (some a)).set j (some b))) else M.fail
  | _ => M.fail
theorem imm_mut {d : D} (h : immD d = true) : isMut d = false := by
  cases d <;> first | rfl | (simp [immD] at h; done)
theorem s_par {a b : Expr} {px py pt : Pos} {kt k2 pt2} (hc : X.calm = true) (hN : X.N.Nodup) (hi : X.N[i]? = some x) (hj : X.N[j]? = some y) (hij : i ≠ j)
    (hx : X.env.scope.names.lookup x = some .local) (hy : X.env.scope.names.lookup y = some .local) (ha : PuA X W [a, b] g)
    (hw : swappedStores [.Tuple [.Name x px, .Name y py] kt pt] (.Tuple [a, b] k2 pt2) X.env = pure (some [x, y]) := by rfl) (hs : swapsWithSole [.Tuple [.Name x px, .Name y py] kt pt] (.Tuple [a, b] k2 pt2) pos.line X.env = pure false := by rfl) :
    PuS X W mu F0 H0 (.Assign [.Tuple [.Name x px, .Name y py] kt pt] (.Tuple [a, b] k2 pt2) pos) (sPar mu i j g) := by
  intro Fb
  refine PS_imp (ps_par hc hN hi hj hij hx hy ha hw hs) fun D' σ H ⟨F, ρ, s, h⟩ => ?_
  obtain ⟨h1, h2, h3⟩ := see_all (m := g) s h
  refine ⟨_, ρ, h2, h1, (g ρ).mono (fun ds z vs F' H' gr r => ?_) (fun _ z => z) h3⟩
  dsimp only at z
  split at z
  · rename_i da db
    split at z
    · rename_i hm
      obtain ⟨v, w, rfl, r1, r2⟩ := r.two
      refine ⟨v, w, rfl, z _ H' _ (((s.bak gr).set i (fun _ => imm_mut hm.1) (r1.imm (s.bakImm gr).1 (s.bakImm gr).2 hm.1)).set j (fun _ => imm_mut hm.2) (r2.imm (s.bakImm gr).1 (s.bakImm gr).2 hm.2))⟩
    · exact z.elim
  · exact z.elim
theorem s_parF {a b : Expr} {px py pt : Pos} {kt k2 pt2} (hc : X.calm = true) (hN : X.N.Nodup) (hi : X.N[i]? = some x) (hj : X.N[j]? = some y) (hij : i ≠ j)
    (hx : X.env.scope.names.lookup x = some .local) (hy : X.env.scope.names.lookup y = some .local) (ha : PuA X W [a, b] g)
    (hw : swappedStores [.Tuple [.Name x px, .Name y py] kt pt] (.Tuple [a, b] k2 pt2) X.env = pure (some [x, y]) := by rfl) (hs : swapsWithSole [.Tuple [.Name x px, .Name y py] kt pt] (.Tuple [a, b] k2 pt2) pos.line X.env = pure false := by rfl) :
    PuS X W mu F0 H0 (.Assign [.Tuple [.Name x px, .Name y py] kt pt] (.Tuple [a, b] k2 pt2) pos) (sParF mu i j g) := by
  intro Fb
  refine PS_imp (ps_par hc hN hi hj hij hx hy ha hw hs) fun D' σ H ⟨F, ρ, s, h⟩ => ?_
  obtain ⟨h1, h2, h3⟩ := see_hid (m := g) s h
  refine ⟨F, _, h2, h1, MM.mono _ (fun ds z vs F' H' gr r => ?_) (fun _ z => z) h3⟩
  dsimp only at z
  split at z
  · rename_i da db
    split at z
    · rename_i hm
      obtain ⟨v, w, rfl, r1, r2⟩ := r.two
      have s2 := SR.sets (ws := [(i, v), (j, w)]) (l := [(i, da), (j, db)]) (.cons r1 (.cons r2 .nil)) hm (s.grow gr)
      exact ⟨v, w, rfl, z _ H' _ s2⟩
    · exact z.elim
  · exact z.elim

theorem s_setLc {elt tg iter : Expr} {ifs : List Expr} {scope : Scope} {own : List (Str × Nat)} {fi : Env' → M (List D)} {gd : GD} {tt : Env' → M Bool} {fe : EM} {py : Pos} (hc : X.calm = true) (hN : X.N.Nodup) (hy : X.N[i]? = some y) (hyl : X.env.scope.names.lookup y = some .local)
    (hsw : swapsWith (.ListComp elt [⟨tg, iter, ifs, 0⟩] scope pos) (some (.Name y py)) p.line X.env = pure true) (hi : PuI X W tg iter fi) (ok : BlkOk X.N X.env.scope scope own) (b : Blk X elt tg ifs scope gd tt fe)
    (hs : ∀ x, foldedSetIterable iter X.env x = pure x := by intro _; rfl) : PuS X W mu F0 H0 (.Assign [.Name y py] (.ListComp elt [⟨tg, iter, ifs, 0⟩] scope pos) p) (sSetF mu (dLc (own.map (·.2)) fi gd tt fe) (gdName i)) := by
  intro Fb
  refine PS_imp (ps_setLc (wi := TIo X W fi) (g := TGo X gd) (tt := TTo X WF tt) (te := TEo X WF fe) hc hN hy hyl hsw hi ok b.g b.t b.e hs) fun D' σ H ⟨F, ρ, s, h⟩ => ?_
  obtain ⟨h1, h2, h3⟩ := see_hid (m := dLc (List.map (fun q : Str × Nat => q.2) own) fi gd tt fe) s h
  refine lc_of (X := X) (W := W) ⟨F, _, h2, h1, MM.mono _ (fun d z v F' H' gr r => ?_) (fun _ z => z) h3⟩
  have z' : (if okSets mu [(i, d)] = true then (pure (.nx (setsD ρ [(i, d)])) : MS Fl) else M.fail).wp (SQ X mu F0 H0 Fb D') (SE X W mu F0 H0 Fb) := z
  split at z'
  · rename_i hm
    exact z' _ H' _ (SR.sets (ws := [(i, v)]) (l := [(i, d)]) (.cons r .nil) hm (s.grow gr))
  · exact z'.elim
theorem s_ownLc {elt tg iter : Expr} {ifs : List Expr} {scope : Scope} {own : List (Str × Nat)} {fi : Env' → M (List D)} {gd : GD} {tt : Env' → M Bool} {fe : EM} {py : Pos} (him : i ∈ mu) (hc : X.calm = true) (hN : X.N.Nodup) (hy : X.N[i]? = some y) (hyl : X.env.scope.names.lookup y = some .local)
    (hsw : swapsWith (.ListComp elt [⟨tg, iter, ifs, 0⟩] scope pos) (some (.Name y py)) p.line X.env = pure true) (hi : PuI X W tg iter fi) (ok : BlkOk X.N X.env.scope scope own) (b : Blk X elt tg ifs scope gd tt fe)
    (hs : ∀ x, foldedSetIterable iter X.env x = pure x := by intro _; rfl) : PuS X W mu F0 H0 (.Assign [.Name y py] (.ListComp elt [⟨tg, iter, ifs, 0⟩] scope pos) p) (sOwnF mu i (dLc (own.map (·.2)) fi gd tt fe)) := by
  intro Fb
  refine PS_imp (ps_setLc (wi := TIo X W fi) (g := TGo X gd) (tt := TTo X WF tt) (te := TEo X WF fe) hc hN hy hyl hsw hi ok b.g b.t b.e hs) fun D' σ H ⟨F, ρ, s, h⟩ => ?_
  obtain ⟨h1, h2, h3⟩ := see_hid (m := dLc (List.map (fun q : Str × Nat => q.2) own) fi gd tt fe) s h
  exact lcF_of (X := X) (W := W) ⟨F, _, h2, h1, MM.mono _ (fun d z a F' H' gr hF h0 o => z F' H' _ ((s.grow gr).own_set him s.hs0 h0 s.ownedSome hF o)) (fun _ z => z) h3⟩
end

def startD (n : Nat) (ds : List D) : Env' := ds.map some ++ List.replicate (n - ds.length) none
def runFn (n : Nat) (g : SM) (ds : List D) : M D := ⟨fun Q E => (g (startD n ds)).wp (fun r => match r with
  | .rt d => Q d
  | .nx _ => Q .non
  | _ => False) (fun e => E e.1), fun q e h => MM.mono _ (fun r z => by
    cases r with
    | rt d => exact q _ z
    | nx ρ => exact q _ z
    | bk ρ => exact z
    | ct ρ => exact z) (fun _ z => e _ z) h⟩
theorem wp_run (n : Nat) (g : SM) (ds : List D) (Q : D → Prop) (E : Err → Prop) : (runFn n g ds).wp Q E = (g (startD n ds)).wp (fun r => match r with
  | .rt d => Q d
  | .nx _ => Q .non
  | _ => False) (fun e => E e.1) := rfl
abbrev cxD (P : Program) (w : World) (K : K') (mg : Mg) (base : Heap) (N : List Str) (qual : Str) (st : Stmt) (f : Addr) (cdv : Value) (A : Around) (outer : List Env) (s : Shared) (H : Hp) (E : XK) : Cx := cxOf (L2.CX P w) P w K mg base N qual (defScope st) f cdv A outer s H E
theorem start_get {K : K'} {mg : Mg} {F : Hp} {vs : List V} {ds : List D} (r : RepL K mg F vs ds) (n : Nat) : ∀ (i : Nat) (d : D), (startD n ds)[i]? = some (some d) → ∃ v, (vs.map some ++ List.replicate (n - vs.length) none)[i]? = some (some v) ∧ Rep K mg F v d := fun i d h => by
  unfold startD at h
  have hl := r.length
  by_cases hi : i < ds.length
  · rw [List.getElem?_append_left (by simpa using hi), List.getElem?_map] at h
    obtain ⟨d', e1, e2⟩ := map_some h
    cases e2
    obtain ⟨v, h1, h2⟩ := r.get e1
    exact ⟨v, by rw [List.getElem?_append_left (by simpa [hl] using hi), List.getElem?_map, h1]; rfl, h2⟩
  · rw [List.getElem?_append_right (by simpa using hi), List.getElem?_replicate] at h
    split at h <;> cases h
theorem keeps_of {P : Program} {w : World} {K : K'} {mg : Mg} {base : Heap} {x qual : Str} {st : Stmt} {f : Addr} {fd : FuncData} {N ps : List Str} {k : Nat} {g : SM} {mu : List Nat} (Fn : Fun K x qual st f fd) (S : FnScope N ps (defScope st)) (hps : ∀ i ∈ mu, ps.length ≤ i)
    (hb : ∀ (cdv : Value) (A : Around) (outer : List Env) (s : Shared) (H F0 : Hp) (E : XK), Room k (A.deeper (envOfC qual (defScope st) s.heap.objs.size f cdv)) →
      PuB (cxD P w K mg base N qual st f cdv A outer s H E) (fun cls d _ H' => E cls d H') mu F0 H (defBody st) g) : Keeps P w K mg base (k + 1) f fd ps (runFn N.length g) := by
  refine Fn.okX S (fun vs H Q E h => h.len) fun cdv A outer s H vs Q E hr hsp => ?_
  obtain ⟨F0, ds, sF, r, hl, h⟩ := hsp
  refine ⟨_, hb cdv A outer s H F0 E hr F0, F0, startD N.length ds, ?_, ?_⟩
  · have hlen : vs.length = ds.length := r.length
    have hst : ∀ i ∈ mu, ∀ d, (startD N.length ds)[i]? ≠ some (some d) := fun i hi d z => by
      unfold startD at z
      have hpi := hps i hi
      rw [List.getElem?_append_right (by simpa [hl] using hpi), List.getElem?_replicate] at z
      split at z <;> cases z
    refine ⟨sF, Same.refl _, Same.refl _, SameN.refl _, fun a h1 _ => h1, ?_, fun i d h1 _ => start_get r _ i d h1, fun i d h1 h2 _ => (hst i h2 d h1).elim, fun i j d e a b h1 _ _ h4 _ _ _ _ _ => (hst i h1 d h4).elim⟩
    unfold L2.start startD
    simp [hlen]
  · refine MM.mono _ (fun r z => ?_) (fun e z F' H' σ' c dx s' er => z F' H' c dx s'.grows er) h
    cases r with
    | rt d => exact fun F' H' v g r => z v F' H' g r
    | nx ρ => exact fun F' H' σ' s' => z .non F' H' s'.grows .non
    | bk ρ => exact z.elim
    | ct ρ => exact z.elim
end P5

namespace P5
namespace Err
open PySem PySem.W PySem.Calls PyProof.Rows PySem.HandSPX

def scopeOf (ns : List Str) : Scope :=
  { kind := .function, names := ((("self" : Str), NameKind.local) :: ns.map fun n => (n, NameKind.local)) ++ [(("__class__" : Str), NameKind.free), (("super" : Str), NameKind.globalImplicit)],
    isGenerator := false, isCoroutine := false, more := [] }
def args1 (n : Str) (p1 p2 : Pos) : Arguments :=
  { posonlyargs := [], args := [{ arg := "self", annotation := none, pos := p1 }, { arg := n, annotation := none, pos := p2 }], vararg := none, kwonlyargs := [], kw_defaults := [], kwarg := none, defaults := [] }
def args2 (n m : Str) (p1 p2 p3 : Pos) : Arguments :=
  { posonlyargs := [], args := [{ arg := "self", annotation := none, pos := p1 }, { arg := n, annotation := none, pos := p2 }, { arg := m, annotation := none, pos := p3 }], vararg := none, kwonlyargs := [], kw_defaults := [], kwarg := none, defaults := [] }
def supSt (a b c e e' : Pos) (xs : List Expr) : Stmt := .Expr (.Call (.Attribute (.Call (.Name "super" a) [] [] b) "__init__" c) xs [] e) e'
def setSt (n : Str) (f g h i : Pos) : Stmt := .Assign [.Attribute (.Name "self" f) n g] (.Name n h) i
def body1 (n : Str) (a b c d e e' f g h i : Pos) : List Stmt := [supSt a b c e e' [.Name n d], setSt n f g h i]
def body2 (n m : Str) (a b c d d2 e e' f g h i f2 g2 h2 i2 : Pos) : List Stmt := [supSt a b c e e' [.Name n d, .Name m d2], setSt n f g h i, setSt m f2 g2 h2 i2]

abbrev veL : List Value := [.type "ValueError", .type "Exception", .type "BaseException", .type "object"]

structure Cls (prog : Program) (K : Frag) (mg : Str → Option Value) (nm : Str) (C fI : Addr) (ns : List Str) : Prop where
  gC : mg nm = some (.ref C)
  cls : ∃ nm q N bs bm sn sub ab col dd k0 k1 k2 k3 k5, K.lookup C = some (excClassObj nm q C N bs bm true sn sub ab col dd k0 k1 k2 k3 k5 "ValueError.__new__") ∧ refsVE bm = true
  xin : excInitIn K C veL "ValueError.__new__" = true
  sa : findIn K (.ref C) "__setattr__" = some (some (.builtin "object.__setattr__"))
  ga : findIn K (.ref C) "__getattribute__" = some (some (.builtin "BaseException.__getattribute__"))
  gg : findIn K (.ref C) "__getattr__" = some none
  noN : ∀ n ∈ ns, findIn K (.ref C) n = some none
  iC : findIn K (.ref C) "__init__" = some (some (.ref fI))
  tC : typeIn K (.ref fI) = some (.type "function")
  kC : keepIn K (.ref C) = true
  exC : subIn K (.ref C) (.type "BaseException") = some true
  veC : subIn K (.ref C) (.type "ValueError") = some true
  tyC : typeIn K (.ref C) = some (.type "type")
  hdC : hasDictIn K C = true
  mro : mroIn K C (.ref C) = some true
  sup : ks_superIn K C C "__init__" = some (some (.builtin "ValueError.__init__"))
  tp : nsIn K cStatics "thirdparty.any" = some none
  ms : mg "super" = none
  top : (prog.main.scope.names.lookup ("super" : Str)).isSome = false

def FnAt (prog : Program) (K : Frag) (C fI : Addr) (ps : Arguments) (bd : List Stmt) (sc : Scope) : Prop :=
  ∃ (oc : Value) (od : Option Addr) (osl : Array (Option Value)) (qual : Str) (doc pm ct : Value) (an : Option Addr) (cda cc : Addr)
    (ccl : Value) (cdd : Option Addr) (vs : Array Value) (ccs : Array (Option Value)) (file : Str) (tf : Tok) (cl : Value) (cld : Option Addr) (csl : Array (Option Value)),
    K.lookup fI = some ⟨oc, od, .func (ksFn "__init__" qual ps bd sc .none .none doc pm an (.ref cda) ct cc), osl⟩ ∧ codeIn K (.ref cda) qual = true ∧
    K.lookup cda = some ⟨ccl, cdd, .fields vs, ccs⟩ ∧ vs[2]? = some (.str file tf) ∧ ((prog.main.file : Str) == file) = true ∧
    K.lookup cc = some ⟨cl, cld, .cell (some (.ref C)), csl⟩

structure NmOk (n : Str) : Prop where
  s : (n == ("self" : Str)) = false
  c : (n == ("__class__" : Str)) = false
  u : (n == ("super" : Str)) = false
  d : (n == ("__debug__" : Str)) = false

section
variable {prog : Program} {w : World} {A : Around} {s : Shared} {K : Frag} {mg : Str → Option Value} {C fI x L cda cc : Addr} {nm : Str} {ns : List Str} {h0 : Heap} {m : Str → Option Value} {E : Value → Shared → Prop}

theorem cls_at (T : Cls prog K mg nm C fI ns) : ∃ cd : ClassData, clsIn K C = some cd ∧ refsVE cd.mro = true ∧ cd.hasDict = true := by
  obtain ⟨n, q, N, bs, bm, sn, sub, ab, col, dd, k0, k1, k2, k3, k5, hC, hbm⟩ := T.cls
  exact ⟨_, by unfold clsIn; rw [hC] <;> rfl, show refsVE (.ref C :: bm) = true from hbm, rfl⟩

theorem sup_node {bd : List Stmt} {q : Str} {sc : Scope} {p0 p1 : Pos} {whole : Sem Value} {fd : FuncData} {ar : Arg} {vs : Array Value} {file : Str} {tf : Tok} {oc ccl cl : Value} {od cdd cld : Option Addr} {osl ccs csl : Array (Option Value)} {ox : Obj} {odx : Option Obj} {news : List (Addr × Obj)} {Q : Value → Shared → Prop}
    (T : Cls prog K mg nm C fI ns) (Md : L2.Mod K mg h0) (F : Fr h0 L s.heap m) (N : News h0 L s.heap news)
    (hf : K.lookup fI = some ⟨oc, od, .func fd, osl⟩) (hp : (fd.params.posonlyargs ++ fd.params.args).head? = some ar) (ha : ar.arg = "self") (hv : m "self" = some (.ref x)) (I : InstAt s.heap x ox C odx)
    (hcode : K.lookup cda = some ⟨ccl, cdd, .fields vs, ccs⟩) (hvs : vs[2]? = some (.str file tf)) (hfile : ((prog.main.file : Str) == file) = true)
    (hcell : K.lookup cc = some ⟨cl, cld, .cell (some (.ref C)), csl⟩)
    (hks : sc.names.lookup ("super" : Str) = some .globalImplicit) (hkc : sc.names.lookup ("__class__" : Str) = some .free) (hka : sc.names.lookup ("self" : Str) = some .local) (hk : sc.kind = .function)
    (h : ∀ so h', Fr h0 L h' m → News h0 L h' ((so, ks_superObj C x C) :: news) → (∀ p ∈ news, p.1 < so) → Q (.ref so) { s with heap := h' }) :
    _root_.PySem.wpAt (model prog w) A (.func bd (ksEnv q sc L fI (.ref cda) cc)) (attributeBase (.Call (.Name "super" p0) [] [] p1) "__init__" (ksEnv q sc L fI (.ref cda) cc) whole) Q E s := by
  have X : K.In s.heap := Md.kin.keeps F.keep
  obtain ⟨hh, g, d, t, os⟩ := s
  obtain ⟨nm', q', N', bs, bm, sn, sub, ab, col, dd, k0, k1, k2, k3, k5, hC, hbm⟩ := T.cls
  obtain ⟨mb, hb1, hb2⟩ := Md.blt
  have hCh := X _ _ hC
  refine ks_wpAt_super_base (env := ksEnv q sc L fI (.ref cda) cc) hks hkc (by decide) rfl (X _ _ hf) rfl hp rfl (X _ _ hcode) rfl hvs hfile T.top ?_
  refine ks_loadName_global hk hks ?_
  refine loadGlobal_builtin (env := ksEnv q sc L fI (.ref cda) cc) (Md.glob.keeps F.keep) T.ms (hb1.keeps F.keep) ((hb2 "super" (by decide)).trans ?_) ⟨rfl, ?_⟩
  · first | exact PyProof.Rows.Boot.«super» | boot_by_name | kernel_rfl
  refine wpAny_loadName_free hk hkc rfl ⟨_, X _ _ hcell, rfl⟩ ?_
  rw [ha]
  refine wpAny_loadName_local hk hka F.ns hv ?_
  refine ks_wpAny_isType_cls hCh rfl ⟨rfl, ?_⟩
  refine ks_wpAny_call_super hCh rfl I.at_ I.cls (fun c e => ?_) (looks_mroIn X T.mro) (fun h' e k => ?_)
  · have := I.no
    unfold notCls at this
    rw [e] at this
    exact Bool.noConfusion this
  · obtain ⟨F', N', l'⟩ := ks_newsPush (s := ⟨hh, g, d, t, os⟩) F N rfl e k
    exact h _ _ F' N' l'

theorem rd {n : Str} {q : Str} {sc : Scope} {pos : Pos} {v : Value} {Q : Value → Shared → Prop} (F : Fr h0 L s.heap m) (hv : m n = some v) (hd : (n == ("__debug__" : Str)) = false) (hl : sc.names.lookup n = some .local) (hk : sc.kind = .function) (h : Q v s) :
    wpAny (model prog w) A (eval (.Name n pos) (ksEnv q sc L fI (.ref cda) cc)) Q E s :=
  wpAny_Name (wpAny_loadName_local (env := ksEnv q sc L fI (.ref cda) cc) hk hl F.ns hv h) hd

theorem sup_run {bd : List Stmt} {q : Str} {sc : Scope} {a b c e e' : Pos} {xs : List Expr} {x0 : Expr} {ws : List Value} {fd : FuncData} {ar : Arg} {vs : Array Value} {file : Str} {tf : Tok} {oc ccl cl : Value} {od cdd cld : Option Addr} {osl ccs csl : Array (Option Value)} {t0 : Addr} {pl : Sem Bool} {Q : Flow → Shared → Prop}
    (T : Cls prog K mg nm C fI ns) (Md : L2.Mod K mg h0) (F : Fr h0 L s.heap m) (N : News h0 L s.heap [(x, excObj C t0 none .none)])
    (hf : K.lookup fI = some ⟨oc, od, .func fd, osl⟩) (hp : (fd.params.posonlyargs ++ fd.params.args).head? = some ar) (ha : ar.arg = "self") (hv : m "self" = some (.ref x))
    (hcode : K.lookup cda = some ⟨ccl, cdd, .fields vs, ccs⟩) (hvs : vs[2]? = some (.str file tf)) (hfile : ((prog.main.file : Str) == file) = true)
    (hcell : K.lookup cc = some ⟨cl, cld, .cell (some (.ref C)), csl⟩)
    (hks : sc.names.lookup ("super" : Str) = some .globalImplicit) (hkc : sc.names.lookup ("__class__" : Str) = some .free) (hka : sc.names.lookup ("self" : Str) = some .local) (hk : sc.kind = .function)
    (hws : ws.length ≤ sizeLine)
    (hargs : ∀ (s1 : Shared) (R : List Value → Shared → Prop), Fr h0 L s1.heap m → (R ws s1) → wpAny (model prog w) A (spliced (backTo e (starEach (x0 :: xs) (ksEnv q sc L fI (.ref cda) cc)))) R E s1)
    (he : starEach (x0 :: xs) (ksEnv q sc L fI (.ref cda) cc) = (false, eval x0 (ksEnv q sc L fI (.ref cda) cc)) :: starEach xs (ksEnv q sc L fI (.ref cda) cc))
    (hpl : (backTo e (starEach xs (ksEnv q sc L fI (.ref cda) cc))).any (·.1) = false)
    (hev : eval (.Call (.Attribute (.Call (.Name "super" a) [] [] b) "__init__" c) (x0 :: xs) [] e) (ksEnv q sc L fI (.ref cda) cc) = (do
      let ov ← attributeBase (.Call (.Name "super" a) [] [] b) "__init__" (ksEnv q sc L fI (.ref cda) cc) (eval (.Call (.Name "super" a) [] [] b) (ksEnv q sc L fI (.ref cda) cc))
      standAt c.atName
      let (f, first) ← holding [ov] (getMethod ov "__init__" pl)
      callWith e f first (backTo e (starEach (x0 :: xs) (ksEnv q sc L fI (.ref cda) cc))) []))
    (hin : interactive (ksEnv q sc L fI (.ref cda) cc) = false)
    (h : ∀ h' tk t1, Fr h0 L h' m → h'.get? x = some (excObj C t1 none .none) → Q .next { s with heap := h', toks := tk }) :
    _root_.PySem.wpAt (model prog w) A (.func bd (ksEnv q sc L fI (.ref cda) cc)) (exec (supSt a b c e e' (x0 :: xs)) (ksEnv q sc L fI (.ref cda) cc)) Q E s := by
  have hx := (N _ (List.mem_cons_self ..)).1
  refine ks_wpAt_Expr_any ?_ hin rfl
  refine ks_wpAt_MethodCall ?_ hev
  refine sup_node (ox := excObj C t0 none .none) (odx := none) T Md F N hf hp ha hv ⟨hx, rfl, rfl, trivial⟩ hcode hvs hfile hcell hks hkc hka hk fun so h1 F1 N1 l1 => ?_
  refine kxs_method kxs_ValueError F1 Md.kin N1 (List.mem_cons_self ..) (ox := excObj C t0 none .none) (odx := none) ⟨(N1 _ (List.mem_cons_of_mem _ (List.mem_cons_self ..))).1, rfl, rfl, trivial⟩ T.tp T.sup T.veC (by decide) fun u h2 F2 N2 l2 => ?_
  refine kxs_callWith1 N2 (List.mem_cons_self ..) ?_ he hpl
  refine hargs _ _ F2 ⟨kxs_at N2 (List.mem_cons_self ..), ?_⟩
  have xso : x < so := l1 _ (List.mem_cons_self ..)
  have sou : so < u := l2 _ (List.mem_cons_self ..)
  have xu : x < u := l2 _ (List.mem_cons_of_mem _ (List.mem_cons_self ..))
  refine kxs_call (t := t0) (dv := none) (c2 := .none) F2 Md.kin N2 PySem.F.excBase_ValueError T.xin (List.mem_cons_self ..)
    (.tail (Nat.ne_of_gt xu) (.tail (Nat.ne_of_gt xso) (.head fun p hp => nomatch hp))) hws fun t' h3 F3 N3 l3 => ?_
  refine h _ _ t' F3 (N3 _ (.tail _ (.tail _ (.tail _ (.head _))))).1

theorem mod_keeps {h0 h1 : Heap} (Md : L2.Mod K mg h0) (k : ∀ b o, h0.get? b = some o → h1.get? b = some o) : L2.Mod K mg h1 := by
  obtain ⟨mb, hb1, hb2⟩ := Md.blt
  exact ⟨Md.kin.keeps k, Md.glob.keeps k, ⟨mb, hb1.keeps k, hb2⟩, Md.nolimit.keeps k⟩

structure Done (h0 h' : Heap) (x C dx : Addr) (f : Str → Option Value) : Prop where
  keep : ∀ b o, h0.get? b = some o → h'.get? b = some o
  obj : ∃ t1 : Addr, h'.get? x = some { cls := .ref C, dict := some dx, data := .fields #[.ref t1, .none, .none, .none, .bool false, .none] }
  dbig : h0.objs.size ≤ dx
  dne : dx ≠ x
  ns : h'.Ns1 dx f

theorem kind_l {n : Str} {q : Str} {sc : Scope} (hl : sc.names.lookup n = some .local) : (ksEnv q sc L fI (.ref cda) cc).kindOf n = some .local := hl

theorem set_first {bd : List Stmt} {n : Str} {q : Str} {sc : Scope} {f g h i : Pos} {v : Value} {t1 : Addr} {Q : Flow → Shared → Prop} (T : Cls prog K mg nm C fI ns) (hn : n ∈ ns) (Md : L2.Mod K mg h0) (F : Fr h0 L s.heap m) (hx : s.heap.get? x = some (excObj C t1 none .none)) (hx0 : h0.get? x = none)
    (hs : m "self" = some (.ref x)) (hv : m n = some v) (hd : (n == ("__debug__" : Str)) = false) (hl : sc.names.lookup n = some .local) (hls : sc.names.lookup ("self" : Str) = some .local) (hk : sc.kind = .function)
    (hq : ∀ h' tk dx, Fr h0 L h' m → Done h0 h' x C dx (fun y => if y = n then some v else none) → Q .next { s with heap := h', toks := tk }) :
    wpAny (model prog w) A (exec (setSt n f g h i) (ksEnv q sc L fI (.ref cda) cc)) Q E s := by
  obtain ⟨cd, hcd, hm, hh⟩ := cls_at T
  have X : K.In s.heap := Md.kin.keeps F.keep
  obtain ⟨hp, gg, dr, tk, os⟩ := s
  refine plainObj_wpAny_Assign_Attribute ?_
  refine rd F hv hd hl hk (rd F hs (by decide) hls hk ?_)
  refine set_plain X (ox := excObj C t1 none .none) (od := none) ⟨hx, rfl, rfl, trivial⟩ T.sa ?_
  refine exc_osa X hx hcd hm hh (T.noN n hn) fun h' tk' dx k dn dne hx' hn' => ?_
  have hLx : L ≠ x := fun z => by
    obtain ⟨oL, es, ep, hL, hLd, _⟩ := F.ns
    rw [z] at hL
    have e1 := hL.symm.trans hx
    cases e1
    cases hLd
  have K0 : ∀ b o, h0.get? b = some o → h'.get? b = some o := fun b o e => k b o (fun z => by rw [z, hx0] at e; cases e) (F.keep b o e)
  refine hq h' tk' dx ⟨?_, K0, F.above⟩ ⟨K0, ⟨t1, hx'⟩, Nat.le_trans F.above (Nat.le_trans (Nat.le_of_lt F.ns.lt) dn), dne, hn'⟩
  obtain ⟨oL, es, ep, hL, r⟩ := F.ns
  exact ⟨oL, es, ep, k _ _ hLx hL, r⟩

theorem set_next {bd : List Stmt} {n n1 : Str} {q : Str} {sc : Scope} {f g h i : Pos} {v v1 : Value} {dx : Addr} {Q : Flow → Shared → Prop} (T : Cls prog K mg nm C fI ns) (hn : n ∈ ns) (Md : L2.Mod K mg h0) (F : Fr h0 L s.heap m) (hx0 : h0.get? x = none)
    (D : Done h0 s.heap x C dx (fun y => if y = n1 then some v1 else none))
    (hs : m "self" = some (.ref x)) (hv : m n = some v) (hd : (n == ("__debug__" : Str)) = false) (hl : sc.names.lookup n = some .local) (hls : sc.names.lookup ("self" : Str) = some .local) (hk : sc.kind = .function)
    (hq : ∀ h' tk, Done h0 h' x C dx (fun y => if y = n then some v else if y = n1 then some v1 else none) → Q .next { s with heap := h', toks := tk }) :
    wpAny (model prog w) A (exec (setSt n f g h i) (ksEnv q sc L fI (.ref cda) cc)) Q E s := by
  obtain ⟨cd, hcd, hm, hh⟩ := cls_at T
  have X : K.In s.heap := Md.kin.keeps F.keep
  obtain ⟨t1, hx⟩ := D.obj
  obtain ⟨oD, es, ep, hoD, hdD, r⟩ := D.ns
  obtain ⟨hp, gg, dr, tk, os⟩ := s
  refine plainObj_wpAny_Assign_Attribute ?_
  refine rd F hv hd hl hk (rd F hs (by decide) hls hk ?_)
  refine set_plain X (ox := excObj C t1 (some dx) .none) (od := some oD) ⟨hx, rfl, rfl, hoD⟩ T.sa ?_
  refine PySem.OEX.osa_old X hx D.ns (nl := [n1]) (fun y hy => ?_) (Nat.le_of_ble_eq_true rfl) hcd hm hh (T.noN n hn) fun h' tk' k hn' => ?_
  · by_cases e : y = n1
    · rw [e]; exact List.mem_singleton.mpr rfl
    · exact absurd (if_neg e) hy
  · have dn : ∀ b o, h0.get? b = some o → b ≠ dx := fun b o e z => Nat.lt_irrefl _ (Nat.lt_of_lt_of_le (Heap.lt_size (z ▸ e)) D.dbig)
    exact hq h' tk' ⟨fun b o e => k b o (dn b o e) (F.keep b o e), ⟨t1, k _ _ (Ne.symm D.dne) hx⟩, D.dbig, D.dne, hn'⟩

theorem look_n {n : Str} (O : NmOk n) {ns : List Str} : (scopeOf (n :: ns)).names.lookup n = some .local := by
  show List.lookup n ((("self" : Str), NameKind.local) :: (n, NameKind.local) :: _) = _
  rw [List.lookup_cons, O.s]
  simp [List.lookup]
theorem look_self {ns : List Str} : (scopeOf ns).names.lookup ("self" : Str) = some .local := by
  show List.lookup ("self" : Str) ((("self" : Str), NameKind.local) :: _) = _
  simp [List.lookup]
theorem swap_beq {a b : Str} (h : (a == b) = false) : (b == a) = false := by
  simp only [beq_eq_false_iff_ne, ne_eq] at h ⊢
  exact fun z => h z.symm


abbrev Takes1 (n : Str) (ps : Arguments) (bd : List Stmt) : Prop := ∀ (qual : Str) (doc pm cd ct : Value) (an : Option Addr) (cc : Addr) (x v : Value),
  bindArgs (ksFn "__init__" qual ps bd (scopeOf [n]) .none .none doc pm an cd ct cc) ⟨[x, v], []⟩ = pure [(("self" : Str), x), (n, v)]
abbrev Takes2 (n n' : Str) (ps : Arguments) (bd : List Stmt) : Prop := ∀ (qual : Str) (doc pm cd ct : Value) (an : Option Addr) (cc : Addr) (x v v' : Value),
  bindArgs (ksFn "__init__" qual ps bd (scopeOf [n, n']) .none .none doc pm an cd ct cc) ⟨[x, v, v'], []⟩ = pure [(("self" : Str), x), (n, v), (n', v')]
abbrev Arm (ns : List Str) (a b c e : Pos) (xs : List Expr) : Prop := ∀ (q : Str) (L fI cda cc : Addr), ∃ pl : Sem Bool,
  eval (.Call (.Attribute (.Call (.Name "super" a) [] [] b) "__init__" c) xs [] e) (ksEnv q (scopeOf ns) L fI (.ref cda) cc) = (do
      let ov ← attributeBase (.Call (.Name "super" a) [] [] b) "__init__" (ksEnv q (scopeOf ns) L fI (.ref cda) cc) (eval (.Call (.Name "super" a) [] [] b) (ksEnv q (scopeOf ns) L fI (.ref cda) cc))
      standAt c.atName
      let (f, first) ← holding [ov] (getMethod ov "__init__" pl)
      callWith e f first (backTo e (starEach xs (ksEnv q (scopeOf ns) L fI (.ref cda) cc))) [])
theorem no_cell {ns : List Str} : ∀ y ∈ (scopeOf ns).names, y.2 ≠ .cell := by
  intro y hy
  simp only [scopeOf, List.cons_append, List.mem_cons, List.mem_append, List.mem_map, List.not_mem_nil, or_false] at hy
  rcases hy with rfl | ⟨n, _, rfl⟩ | rfl | rfl <;> exact fun z => by cases z

theorem look_2 {n n' : Str} (O : NmOk n') : (scopeOf [n, n']).names.lookup n' = some .local := by
  show List.lookup n' [(("self" : Str), NameKind.local), (n, NameKind.local), (n', NameKind.local), _, _] = _
  rw [List.lookup_cons, O.s]
  by_cases e : n' == n
  · simp only [List.lookup_cons, e]
  · simp only [Bool.not_eq_true] at e
    simp [List.lookup_cons, e]
theorem look_sup {ns : List Str} (O : ∀ n ∈ ns, NmOk n) : (scopeOf ns).names.lookup ("super" : Str) = some .globalImplicit ∧ (scopeOf ns).names.lookup ("__class__" : Str) = some .free := by
  have key : ∀ (r : List (Str × NameKind)) (x : Str), (∀ n ∈ ns, (x == n) = false) → (ns.map (fun n => (n, NameKind.local)) ++ r).lookup x = r.lookup x := by
    intro r x hx
    clear O
    induction ns with
    | nil => rfl
    | cons n ns ih =>
      rw [List.map_cons, List.cons_append, List.lookup_cons, hx n (List.mem_cons_self ..)]
      exact ih fun m hm => hx m (List.mem_cons_of_mem _ hm)
  constructor
  · show List.lookup ("super" : Str) ((("self" : Str), NameKind.local) :: (ns.map (fun n => (n, NameKind.local)) ++ _)) = _
    rw [List.lookup_cons, show ((("super" : Str) == ("self" : Str)) = false) by decide]
    exact (key _ _ fun n hn => swap_beq (O n hn).u).trans (by decide)
  · show List.lookup ("__class__" : Str) ((("self" : Str), NameKind.local) :: (ns.map (fun n => (n, NameKind.local)) ++ _)) = _
    rw [List.lookup_cons, show ((("__class__" : Str) == ("self" : Str)) = false) by decide]
    exact (key _ _ fun n hn => swap_beq (O n hn).c).trans (by decide)

theorem init1 {n : Str} {p1 p2 a b c d e e' f g h i : Pos} {t0 : Addr} {v : Value} {R : Result → Shared → Prop} (T : Cls prog K mg nm C fI [n]) (B : FnAt prog K C fI (args1 n p1 p2) (body1 n a b c d e e' f g h i) (scopeOf [n])) (O : NmOk n)
    (hb : Takes1 n (args1 n p1 p2) (body1 n a b c d e e' f g h i)) (harm : Arm [n] a b c e [.Name n d]) (Md : L2.Mod K mg h0)
    (k0 : ∀ b o, h0.get? b = some o → s.heap.get? b = some o) (hz : h0.objs.size ≤ s.heap.objs.size) (hx : s.heap.get? x = some (excO C t0)) (hx0 : h0.get? x = none) (hroom : A.depth < recursionLimit)
    (hq : ∀ h' tk dx, Done h0 h' x C dx (fun y => if y = n then some v else none) → R (.ok (.ret .none)) { s with heap := h', toks := tk }) :
    codeAny (model prog w) A (.call (.ref fI) ⟨[.ref x, v], []⟩) R s := by
  obtain ⟨oc, od, osl, qual, doc, pm, ct, an, cda, cc, ccl, cdd, vs, ccs, file, tf, cl, cld, csl, ho, hcd, hcode, hvs, hfile, hcell⟩ := B
  have X : K.In s.heap := Md.kin.keeps k0
  have O' := swap_beq O.s
  have OO : ∀ y ∈ [n], NmOk y := fun y hy => by rw [List.mem_singleton.mp hy]; exact O
  have ln : (scopeOf [n]).names.lookup n = some .local := look_n O
  refine ks_codeAny_call_defAt (binds := [("self", .ref x), (n, v)]) hroom (X _ _ ho) rfl (Md.nolimit.keeps k0) (codeRec_of X hcd) rfl (BindsTo.of_eq (hb ..)) no_cell ?_ (fun h₁ hns hk₁ => ?_) rfl rfl rfl
  · intro y hy
    rcases List.mem_cons.mp hy with rfl | hy
    · exact look_self
    · rw [List.mem_singleton.mp hy]; exact ln
  have hm1 : (fun y => List.lookup y [(("self" : Str), Value.ref x), (n, v)].reverse) "self" = some (.ref x) := by
    show List.lookup ("self" : Str) [(n, v), (("self" : Str), Value.ref x)] = _
    rw [List.lookup_cons, O']; simp [List.lookup]
  have hm2 : (fun y => List.lookup y [(("self" : Str), Value.ref x), (n, v)].reverse) n = some v := by
    show List.lookup n [(n, v), (("self" : Str), Value.ref x)] = _
    simp [List.lookup]
  have F1 : Fr h0 s.heap.objs.size h₁ (fun y => List.lookup y [(("self" : Str), Value.ref x), (n, v)].reverse) := ⟨hns, fun b o e => hk₁ b o (k0 b o e), hz⟩
  have N1 : News h0 s.heap.objs.size h₁ [(x, excObj C t0 none .none)] := fun p hp => by
    rw [List.mem_singleton.mp hp]
    exact ⟨hk₁ _ _ hx, Nat.ne_of_lt (Heap.lt_size hx), hx0⟩
  refine ks_wpAt_execs_cons ?_
  obtain ⟨pl, hpl⟩ := harm qual s.heap.objs.size fI cda cc
  refine sup_run (s := { s with heap := h₁, toks := s.toks + 2 }) (ws := [v]) T Md F1 N1 ho rfl rfl hm1 hcode hvs hfile hcell (look_sup OO).1 (look_sup OO).2 look_self rfl (by rw [sizeLine_eq]; exact Nat.le_of_ble_eq_true rfl) ?_ rfl rfl hpl rfl ?_
  · intro s1 R' F' h'
    refine spliced_more ?_ rfl
    exact rd F' hm2 O.d ln rfl (spliced_none h')
  intro h2 tk t1 F2 hx2
  refine ks_wpAt_execs_cons (wpAt_of_wpAny ?_)
  refine set_first (s := { s with heap := h2, toks := tk }) (bd := []) T (List.mem_cons_self ..) Md F2 hx2 hx0 hm1 hm2 O.d ln look_self rfl fun h' tk' dx F' D => ?_
  exact wpAt_of_wpAny (wpAny_execs_nil (hq h' tk' dx D))

theorem init2 {n n' : Str} {p1 p2 p3 a b c d d2 e e' f g h i f2 g2 h2 i2 : Pos} {t0 : Addr} {v v' : Value} {R : Result → Shared → Prop} (T : Cls prog K mg nm C fI [n, n']) (B : FnAt prog K C fI (args2 n n' p1 p2 p3) (body2 n n' a b c d d2 e e' f g h i f2 g2 h2 i2) (scopeOf [n, n'])) (O : NmOk n) (O2 : NmOk n') (ne : (n == n') = false)
    (hb : Takes2 n n' (args2 n n' p1 p2 p3) (body2 n n' a b c d d2 e e' f g h i f2 g2 h2 i2)) (harm : Arm [n, n'] a b c e [.Name n d, .Name n' d2]) (Md : L2.Mod K mg h0)
    (k0 : ∀ b o, h0.get? b = some o → s.heap.get? b = some o) (hz : h0.objs.size ≤ s.heap.objs.size) (hx : s.heap.get? x = some (excO C t0)) (hx0 : h0.get? x = none) (hroom : A.depth < recursionLimit)
    (hq : ∀ h' tk dx, Done h0 h' x C dx (fun y => if y = n' then some v' else if y = n then some v else none) → R (.ok (.ret .none)) { s with heap := h', toks := tk }) :
    codeAny (model prog w) A (.call (.ref fI) ⟨[.ref x, v, v'], []⟩) R s := by
  obtain ⟨oc, od, osl, qual, doc, pm, ct, an, cda, cc, ccl, cdd, vs, ccs, file, tf, cl, cld, csl, ho, hcd, hcode, hvs, hfile, hcell⟩ := B
  have X : K.In s.heap := Md.kin.keeps k0
  have O' := swap_beq O.s
  have O2' := swap_beq O2.s
  have ne' := swap_beq ne
  have OO : ∀ y ∈ [n, n'], NmOk y := fun y hy => by
    rcases List.mem_cons.mp hy with rfl | hy
    · exact O
    · rw [List.mem_singleton.mp hy]; exact O2
  have ln : (scopeOf [n, n']).names.lookup n = some .local := look_n O
  have ln2 : (scopeOf [n, n']).names.lookup n' = some .local := look_2 O2
  refine ks_codeAny_call_defAt (binds := [("self", .ref x), (n, v), (n', v')]) hroom (X _ _ ho) rfl (Md.nolimit.keeps k0) (codeRec_of X hcd) rfl (BindsTo.of_eq (hb ..)) no_cell ?_ (fun h₁ hns hk₁ => ?_) rfl rfl rfl
  · intro y hy
    rcases List.mem_cons.mp hy with rfl | hy
    · exact look_self
    rcases List.mem_cons.mp hy with rfl | hy
    · exact ln
    · rw [List.mem_singleton.mp hy]; exact ln2
  have hm1 : (fun y => List.lookup y [(("self" : Str), Value.ref x), (n, v), (n', v')].reverse) "self" = some (.ref x) := by
    show List.lookup ("self" : Str) [(n', v'), (n, v), (("self" : Str), Value.ref x)] = _
    rw [List.lookup_cons, O2', List.lookup_cons, O']; simp [List.lookup]
  have hm2 : (fun y => List.lookup y [(("self" : Str), Value.ref x), (n, v), (n', v')].reverse) n = some v := by
    show List.lookup n [(n', v'), (n, v), (("self" : Str), Value.ref x)] = _
    simp [List.lookup, ne]
  have hm3 : (fun y => List.lookup y [(("self" : Str), Value.ref x), (n, v), (n', v')].reverse) n' = some v' := by
    show List.lookup n' [(n', v'), (n, v), (("self" : Str), Value.ref x)] = _
    simp [List.lookup]
  have F1 : Fr h0 s.heap.objs.size h₁ (fun y => List.lookup y [(("self" : Str), Value.ref x), (n, v), (n', v')].reverse) := ⟨hns, fun b o e => hk₁ b o (k0 b o e), hz⟩
  have N1 : News h0 s.heap.objs.size h₁ [(x, excObj C t0 none .none)] := fun p hp => by
    rw [List.mem_singleton.mp hp]
    exact ⟨hk₁ _ _ hx, Nat.ne_of_lt (Heap.lt_size hx), hx0⟩
  refine ks_wpAt_execs_cons ?_
  obtain ⟨pl, hpl⟩ := harm qual s.heap.objs.size fI cda cc
  refine sup_run (s := { s with heap := h₁, toks := s.toks + 3 }) (ws := [v, v']) T Md F1 N1 ho rfl rfl hm1 hcode hvs hfile hcell (look_sup OO).1 (look_sup OO).2 look_self rfl (by rw [sizeLine_eq]; exact Nat.le_of_ble_eq_true rfl) ?_ rfl rfl hpl rfl ?_
  · intro s1 R' F' h'
    refine spliced_more ?_ rfl
    exact rd F' hm2 O.d ln rfl (spliced_more (rd F' hm3 O2.d ln2 rfl (spliced_none h')) rfl)
  intro h3 tk t1 F2 hx2
  refine ks_wpAt_execs_cons (wpAt_of_wpAny ?_)
  refine set_first (s := { s with heap := h3, toks := tk }) (bd := []) T (List.mem_cons_self ..) Md F2 hx2 hx0 hm1 hm2 O.d ln look_self rfl fun h4 tk4 dx F' D => ?_
  refine ks_wpAt_execs_cons (wpAt_of_wpAny ?_)
  refine set_next (s := { s with heap := h4, toks := tk4 }) (bd := []) T (List.mem_cons_of_mem _ (List.mem_cons_self ..)) Md F' hx0 D hm1 hm3 O2.d ln2 look_self rfl fun h' tk' D => ?_
  exact wpAt_of_wpAny (wpAny_execs_nil (hq h' tk' dx D))
end

def Ini (prog : Program) (w : World) (K : Frag) (mg : Str → Option Value) (C fI : Addr) (us : List Value) (f : Str → Option Value) : Prop :=
  ∀ (A : Around) (s : Shared) (x t0 : Addr) (h0 : Heap) (R : Result → Shared → Prop), L2.Mod K mg h0 → (∀ b o, h0.get? b = some o → s.heap.get? b = some o) → h0.objs.size ≤ s.heap.objs.size →
    s.heap.get? x = some (excO C t0) → h0.get? x = none → A.depth < recursionLimit → (∀ h' tk dx, Done h0 h' x C dx f → R (.ok (.ret .none)) { s with heap := h', toks := tk }) →
    codeAny (model prog w) A (.call (.ref fI) ⟨.ref x :: us, []⟩) R s

section
variable {prog : Program} {w : World} {A : Around} {s : Shared} {K : Frag} {mg : Str → Option Value} {C fI : Addr} {nm : Str} {ns : List Str} {us : List Value} {f : Str → Option Value} {R : Result → Shared → Prop}
theorem made (T : Cls prog K mg nm C fI ns) (J : Ini prog w K mg C fI us f) (Md : L2.Mod K mg s.heap) (hroom : A.depth + 1 < recursionLimit) (hus : us.length ≤ sizeLine)
    (hq : ∀ h' tk e dx, s.heap.objs.size ≤ e → Done s.heap h' e C dx f → R (.ok (.ret (.ref e))) { s with heap := h', toks := tk }) : codeAny (model prog w) A (.call (.ref C) ⟨us, []⟩) R s := by
  obtain ⟨nm, q, N, bs, bm, sn, sub, ab, col, dd, k0, k1, k2, k3, k5, hC, hbm⟩ := T.cls
  have X := Md.kin
  obtain ⟨hp, g, dr, tk, os⟩ := s
  have k : ∀ b o, hp.get? b = some o → ((hp.push (kdv_tup us)).push (excO C hp.objs.size)).get? b = some o := fun b o e => Heap.get?_push_of_some _ (Heap.get?_push_of_some _ e)
  have hget : ((hp.push (kdv_tup us)).push (excO C hp.objs.size)).get? (hp.objs.size + 1) = some (excO C hp.objs.size) := by heap_get
  have hx0 : hp.get? (hp.objs.size + 1) = none := by
    cases e : hp.get? (hp.objs.size + 1) with
    | none => rfl
    | some o => exact absurd (Nat.lt_of_succ_lt (Heap.lt_size e)) (Nat.lt_irrefl _)
  refine call_own F.excBase_ValueError (fun X => refsVE_contains X bm hbm) (X _ _ hC) (looks_findIn X T.iC) (fun self => bind_fn X self T.tC) hus ?_
  refine J _ ⟨(hp.push (kdv_tup us)).push (excO C hp.objs.size), g, dr, tk, os⟩ (hp.objs.size + 1) hp.objs.size hp _ Md k ?_ hget hx0 ?_ fun h' tk' dx D => ?_
  · show hp.objs.size ≤ ((hp.push (kdv_tup us)).push (excO C hp.objs.size)).objs.size
    rw [Heap.size_push, Heap.size_push]
    exact Nat.le_succ_of_le (Nat.le_succ _)
  · show A.depth + 1 < recursionLimit
    exact hroom
  · exact ⟨rfl, hq h' tk' (hp.objs.size + 1) dx (Nat.le_succ _) D⟩
end
example (a b c d e : Pos) : Arm ["why"] a b ⟨12, 8, 12, 24⟩ ⟨12, 8, 12, 29⟩ [.Name "why" d] := fun _ _ _ _ _ => ⟨_, rfl⟩
example (p1 p2 a b c d e e' f g h i : Pos) : Takes1 "why" (args1 "why" p1 p2) (body1 "why" a b c d e e' f g h i) := fun _ _ _ _ _ _ _ _ _ => rfl
end Err
end P5

namespace P5
open PySem L2 PyProof.Rows
variable [Tb]

def Raisable (prog : Program) (w : World) (K : K') (mg : Mg) (nm : Str) (C : Addr) (ns : List Str) : Prop :=
  ns.length ≤ 2 ∧ ∃ fI, Err.Cls prog K mg nm C fI ns ∧ ∀ us : List Value, us.length = ns.length → Err.Ini prog w K mg C fI us fun y => (ns.zip us).lookup y
theorem vals_zip {ns : List Str} {vs : List V} {us : List Value} (h : Vals vs us) (y : Str) : RelO ((ns.zip vs).lookup y) ((ns.zip us).lookup y) := by
  induction h generalizing ns with
  | nil => cases ns <;> exact True.intro
  | @cons v u vs us r t ih =>
    cases ns with
    | nil => exact True.intro
    | cons n ns =>
      rw [List.zip_cons_cons, List.zip_cons_cons, List.lookup_cons, List.lookup_cons]
      by_cases e : y == n
      · rw [e]; exact r
      · rw [Bool.not_eq_true] at e
        rw [e]; exact ih
theorem vals_len {vs : List V} {us : List Value} (h : Vals vs us) : us.length = vs.length := by
  induction h with
  | nil => rfl
  | cons _ _ ih => rw [List.length_cons, List.length_cons, ih]
section
variable {X : Cx} {W : WX} {mu : List Nat} {F0 H0 : Hp} {C : Addr} {nm : Str} {ns : List Str} {a : Expr} {es : List Expr} {ta : TA} {g : Env' → M (List D)} {p pos pos2 : Pos} {k : Nat}
def tMkE (C : Addr) (ns : List Str) (ta : TA) : L2.St → Hp → XK → Prop := fun σ H Q => ta σ H fun vs H1 => vs.length = ns.length ∧ ∀ d, H1 d = none → Q (.ref C) (some d) (upd H1 d (.xd (ns.zip vs)))
theorem pmk_err (T : Raisable X.prog X.w X.K X.mg nm C ns) (hr : Room (k + 1) X.A) (hg : Gl X nm) (ha : PA X (a :: es) ta) (hd : (nm == ("__debug__" : Str)) = false := by decide)
    (he : starEach (a :: es) X.env = (false, eval a X.env) :: starEach es X.env := by rfl) (hpl : (backTo pos (starEach es X.env)).any (·.1) = false := by rfl) :
    PMk X (.Call (.Name nm p) (a :: es) [] pos) (tMkE C ns ta) := by
  intro pins s σ H Q I h
  obtain ⟨hn, fI, T, J⟩ := T
  refine wpAny_Call_Name_kw (ld_glob I hg T.gC ?_ hd)
  refine PySem.W.callWith_K (h₀ := X.base) I.ok.mod.kin T.kC (thn (ha.run pos pins s σ H _ I h) fun us s1 hh => ?_) he hpl
  obtain ⟨vs, H1, I1, r1, hl, q⟩ := hh
  refine ⟨I1.kIn, ?_⟩
  have hlu : us.length = ns.length := (vals_len r1).trans hl
  have Md1 : L2.Mod X.K X.mg s1.heap := Err.mod_keeps I.ok.mod I1.bk
  show wpAny _ _ (call (.ref C) us) _ _ _
  obtain ⟨hp, gg, dr, tk, os⟩ := s1
  refine wpAny_call (Err.made T (J us hlu) Md1 (by have := hr.dp; omega) (by rw [hlu, sizeLine_eq]; omega) fun h' tk' e d hbe M => ?_)
  show MkP X pins σ Q (.ref e) ⟨h', gg, dr, tk', os⟩
  obtain ⟨t1, hoe⟩ := M.obj
  have hns := M.ns
  obtain ⟨G', g1, g2⟩ := restrict h' fun b => decide (b ≠ e)
  have gk : ∀ b, b ≠ e → G'.get? b = h'.get? b := fun b hb => g1 b (decide_eq_true hb)
  have ge : G'.get? e = none := g2 e (by simp)
  have old : ∀ b o, hp.get? b = some o → G'.get? b = some o := fun b o q => (gk b (Nat.ne_of_lt (Nat.lt_of_lt_of_le (Heap.lt_size q) hbe))).trans (M.keep b o q)
  have ob : ObjOk X.prog X.w (upd H1 d (.xd (ns.zip vs))) G' d (.xd (ns.zip vs)) :=
    ⟨_, hns.at (fun o q => (gk d M.dne).trans q), fun f => vals_zip r1 f⟩
  have J' : Inv X pins σ (upd H1 d (.xd (ns.zip vs))) ⟨G', gg, dr, tk', os⟩ := I1.laid (t' := tk') old M.dbig ob
  refine ⟨e, _, _, ⟨G', gg, dr, tk', os⟩, _, .ref C, some d, rfl, J', fun b o q => ?_, ge, hoe, ⟨rfl, rfl⟩, rfl, rfl, ?_, rfl, I1.bare, raises_own T.exC T.tyC, q d (I1.hok.fresh M.dbig)⟩
  · by_cases hb : b = e
    · have q' : G'.get? b = some o := q
      rw [hb, ge] at q'; cases q'
    · exact (gk b hb).symm.trans q
  · rw [upd_ne (Ne.symm M.dne)]
    exact I1.hok.fresh hbe
def sRaise (nm : Str) (ns : List Str) (g : Env' → M (List D)) : SM := fun ρ => liftI ρ (g ρ) >>= fun ds =>
  if ds.length = ns.length ∧ immD.immL ds = true then M.raise (⟨nm, ns.zip ds⟩, ρ) else M.fail
theorem zip_rep {K : K'} {mg : Mg} {F : Hp} : ∀ {ns : List Str} {vs : List V} {ds : List D}, RepL K mg F vs ds → RepF K mg F (ns.zip vs) (ns.zip ds)
  | [], _, _, _ => ⟨rfl, .nil⟩
  | _ :: _, _, _, .nil => ⟨rfl, .nil⟩
  | n :: ns, _, _, .cons h t => by
    obtain ⟨e1, e2⟩ := zip_rep (ns := ns) t
    exact ⟨by rw [List.zip_cons_cons, List.zip_cons_cons, List.map_cons, List.map_cons, e1], .cons h e2⟩
theorem s_raise (hc : X.calm = true) (T : Raisable X.prog X.w X.K X.mg nm C ns) (tk : Takes X W) (hr : Room (k + 1) X.A) (hg : Gl X nm) (ha : PuA X W (a :: es) g) (hd : (nm == ("__debug__" : Str)) = false := by decide)
    (he : starEach (a :: es) X.env = (false, eval a X.env) :: starEach es X.env := by rfl) (hpl : (backTo pos (starEach es X.env)).any (·.1) = false := by rfl) :
    PuS X W mu F0 H0 (.Raise (some (.Call (.Name nm p) (a :: es) [] pos)) none pos2) (sRaise nm ns g) := by
  intro Fb
  refine PS_imp (ps_raise hc tk (pmk_err T hr hg ha hd he hpl)) fun D' σ H ⟨F, ρ, s, h⟩ => ?_
  obtain ⟨h1, h2, h3⟩ := see_all (m := g) s h
  refine ⟨_, ρ, h2, h1, (g ρ).mono (fun ds z vs F' H' gr r => ?_) (fun _ z => z) h3⟩
  dsimp only at z
  split at z
  · rename_i hz
    refine ⟨by rw [r.length]; exact hz.1, fun d hd => ?_⟩
    have s1 := s.bak gr
    have r1 := RepL.imm (s.bakImm gr).1 (s.bakImm gr).2 r hz.2
    have g2 := Grow.made (o := .xd (ns.zip vs)) s1.sub hd
    refine z _ _ _ _ _ (s1.grow g2) ⟨C, rfl, T.2.choose_spec.1.gC, .inr ⟨d, _, rfl, upd_same, zip_rep (r1.grow g2.fs)⟩⟩
  · exact z.elim

abbrev Subs := Str → Option Bool
def SubsOk (K : K') (mg : Mg) (c : Value) (S : Subs) : Prop := ∀ x C b, S x = some b → mg x = some (.ref C) → PySem.W.exmOne K (.ref C) c = some b
def Fl.gone (i : Nat) : Fl → Fl
  | .nx ρ => .nx (ρ.set i none)
  | .bk ρ => .bk (ρ.set i none)
  | .ct ρ => .ct (ρ.set i none)
  | .rt d => .rt d
def sTryAs (S : Subs) (i : Nat) (gb : SM) (gs : Addr → Addr → SM) : SM := fun ρ => ⟨fun Q E => (gb ρ).wp Q fun p => match S p.1.cls with
    | some true => p.1.args ≠ [] ∧ ∀ a d, (gs a d (p.2.set i (some (.exc a d p.1.cls (p.1.args.map (·.1)) (p.1.args.map (·.2)))))).wp (fun r => Q (r.gone i)) (fun _ => False)
    | some false => E p
    | none => False,
  fun q e h => (gb ρ).mono q (fun p z => by
    split at z
    · exact ⟨z.1, fun a d => (gs a d _).mono (fun r y => q _ y) (fun _ y => y) (z.2 a d)⟩
    · exact e _ z
    · exact z) h⟩
theorem SR.gone {F H Fb : Hp} {K : K'} {mg : Mg} {σ : L2.St} {ρ : Env'} (s : SR K mg mu F0 H0 Fb F H σ ρ) (i : Nat) : SR K mg mu F0 H0 Fb F H (σ.set i none) (ρ.set i none) := by
  have hne : ∀ (j : Nat) (d : D), (ρ.set i none)[j]? = some (some d) → i ≠ j := fun j d h1 hj => by
    subst hj
    by_cases hb : i < ρ.length
    · rw [List.getElem?_set_self hb] at h1; cases h1
    · rw [List.getElem?_eq_none (by rw [List.length_set]; omega)] at h1; cases h1
  refine ⟨s.sub, s.fs0, s.fb, s.hs0, s.new, by simpa using s.len, fun j e h1 h2 => ?_, fun j e h1 h2 h3 => ?_, fun j k e e' a b h1 h2 h3 h4 h5 h6 h7 h8 h9 => ?_⟩
  · have hj := hne j e h1
    rw [List.getElem?_set_ne hj] at h1 ⊢
    exact s.val j e h1 h2
  · have hj := hne j e h1
    rw [List.getElem?_set_ne hj] at h1 ⊢
    exact s.own j e h1 h2 h3
  · have hj := hne j e h4
    have hk := hne k e' h6
    rw [List.getElem?_set_ne hj] at h4 h8
    rw [List.getElem?_set_ne hk] at h6 h9
    exact s.sep j k e e' a b h1 h2 h3 h4 h5 h6 h7 h8 h9
def noW : WX := fun _ _ _ _ => False
theorem rep_exc {K : K'} {mg : Mg} {F : Hp} {a d : Addr} {fs : List (Str × V)} {e : Err} (h : F d = some (.xd fs)) (r : RepF K mg F fs e.args) : Rep K mg F (.ref a) (.exc a d e.cls (e.args.map (·.1)) (e.args.map (·.2))) := .exc h r.1 r.2
theorem s_tryAs {x n : Str} {c : Value} {i : Nat} {body suite : List Stmt} {b₀ : Stmt} {np pos' : Pos} {gb : SM} {gs : Addr → Addr → SM} {S : Subs} (hs : X.stack = X.env :: X.outer) (hf : X.env.frame = some X.env.locals) (hN : X.N.Nodup) (hi : X.N[i]? = some n) (hln : X.env.kindOf n = some .local) (hc : Names X x c) (tk : Takes X W)
    (hS : SubsOk X.K X.mg c S)
    (hb : ∀ (W : WX) (pn : List (Addr × Obj)) (xe : Value → Shared → Prop), Takes (X.tr pn xe) W → PassesOwn (model X.prog X.w) X.A X.env xe → PuB (X.tr pn xe) W mu F0 H0 body gb)
    (hsu : ∀ (a : Addr) (oe : Obj) (C d : Addr) (pn : List (Addr × Obj)) (nm : Str), S nm = some true → X.mg nm = some (.ref C) → Zc (.ref C) (some d) oe → (∃ vs, oe.data = .fields vs) → PuB (X.suite a ((a, oe) :: pn)) noW mu F0 H0 (b₀ :: suite) (gs a d)) :
    PuS X W mu F0 H0 (.Try body [.ExceptHandler (some (.Name x np)) (some n) (b₀ :: suite) pos'] [] [] pos) (sTryAs S i gb gs) := by
  intro Fb
  refine PS_imp (ps_try_as (i := i) (tb := fun W => TSo X W mu F0 H0 Fb gb)
    (ts := fun a cls d D σ H => ∃ (C d' : Addr) (nm : Str), S nm = some true ∧ X.mg nm = some (.ref C) ∧ cls = .ref C ∧ d = some d' ∧ TSo X noW mu F0 H0 Fb (gs a d') D σ H) (Wout := W) hs hf hN hi hln hc tk
    (fun W' pn xe t1 t2 => hb W' pn xe t1 t2 Fb) (fun a oe cls d pn hz hv => ?_)) fun D' σ H ⟨F, ρ, s, h⟩ => ?_
  · refine ⟨fun pins s σ H D I q => ?_⟩
    obtain ⟨C, d', nm, h1, h2, rfl, rfl, h3⟩ := q
    exact (hsu a oe C d' pn nm h1 h2 hz hv Fb).run pins s σ H D I h3
  · refine ⟨F, ρ, s, (gb ρ).mono (fun _ z => z) (fun p z => ?_) h⟩
    intro F' H' σ' cv dx s' er
    obtain ⟨C, rfl, hm, he⟩ := er
    split at z
    · rename_i hp
      refine ⟨true, hS _ _ _ hp hm, fun _ a ha => ?_, fun q => Bool.noConfusion q⟩
      obtain ⟨z1, z2⟩ := z
      rcases he with he | ⟨d, fs, rfl, hd, hrf⟩
      · exact (z1 he.2).elim
      · refine ⟨C, d, _, hp, hm, rfl, rfl, F', _, s'.set i (fun _ => rfl) (rep_exc (a := a) hd hrf), (gs a d _).mono (fun r y => ?_) (fun _ y => y.elim) (z2 a d)⟩
        cases r with
        | nx ρ' => exact fun F2 H2 σ2 s2 => y F2 H2 _ (s2.gone i)
        | rt d => exact y
        | bk ρ' => exact fun F2 H2 σ2 s2 => y F2 H2 _ (s2.gone i)
        | ct ρ' => exact fun F2 H2 σ2 s2 => y F2 H2 _ (s2.gone i)
    · rename_i hp
      exact ⟨false, hS _ _ _ hp hm, fun q => Bool.noConfusion q, fun _ => z _ _ _ _ _ s' ⟨C, rfl, hm, he⟩⟩
    · exact z.elim
end
end P5

namespace P5
open PySem L2 PyProof.Rows
variable [Tb]

theorem fields_at {K : K'} {mg : Mg} {F : Hp} {fld : Str} {dv : D} : ∀ {fs : List (Str × V)} {ns : List Str} {vs : List D}, fs.map (·.1) = ns → RepL K mg F (fs.map (·.2)) vs → (ns.zip vs).lookup fld = some dv → ∃ v, fs.lookup fld = some v ∧ Rep K mg F v dv
  | [], _, _, rfl, _, e => by cases e
  | (m, v) :: fs, _, _, rfl, r, e => by
    cases r with
    | cons h t =>
      rw [List.map_cons, List.zip_cons_cons, List.lookup_cons] at e
      rw [List.lookup_cons]
      by_cases q : fld == m
      · rw [q] at e ⊢
        cases e
        exact ⟨v, rfl, h⟩
      · rw [Bool.not_eq_true] at q
        rw [q] at e ⊢
        exact fields_at rfl t e
def dFld (i : Nat) (a d : Addr) (fld : Str) : EM := fun ρ => match ρ[i]? with
  | some (some (.exc a' d' _ ns vs)) => if a' = a ∧ d' = d then M.opt ((ns.zip vs).lookup fld) else M.fail
  | _ => M.fail
section
variable {X : Cx} {W : WX} {mu : List Nat} {F0 H0 : Hp}
theorem u_fld {a C d : Addr} {oe : Obj} {pn : List (Addr × Obj)} {n fld : Str} {i : Nat} {p pos : Pos} (T : XfC X.K C) (hno : PySem.W.findIn X.K (.ref C) fld = some none) (hz : Zc (.ref C) (some d) oe) (hf : ∃ vs, oe.data = .fields vs)
    (hN : X.N[i]? = some n) (hv : Vis X.env.scope n) (hd : (n == ("__debug__" : Str)) = false := by decide) (hcd : (n == ("__classdict__" : Str)) = false := by decide)
    (hb : attributeBase (.Name n p) fld X.env (eval (.Name n p) X.env) = eval (.Name n p) X.env := by rfl) :
    PuE (X.suite a ((a, oe) :: pn)) W (.Attribute (.Name n p) fld pos) (dFld i a d fld) := by
  refine PE_imp (pe_xf T hno hz hf (pe_var (X := X.suite a ((a, oe) :: pn)) hN hv hd hcd) hb) fun σ H Q ⟨F, ρ, sF, er, h⟩ => ?_
  unfold dFld at h
  split at h
  · rename_i a' d' cl ns vs hq
    split at h
    · rename_i hz
      obtain ⟨rfl, rfl⟩ := hz
      obtain ⟨dv, e1, q⟩ := wp_opt h
      obtain ⟨v, e2, r⟩ := er.2 i _ hq
      cases r with
      | exc h1 h2 h3 =>
        obtain ⟨v, e3, r⟩ := fields_at h2 h3 e1
        exact ⟨_, e2, rfl, rfl, _, _, v, rfl, sF _ _ h1, e3, q v F H (Grow.refl sF) r⟩
    · exact h.elim
  · exact h.elim
def sTryOnly (S : Subs) (gb : SM) (gs : SM) : SM := fun ρ => ⟨fun Q E => (gb ρ).wp Q fun p => match S p.1.cls with
    | some true => (gs p.2).wp Q (fun _ => False)
    | some false => E p
    | none => False,
  fun q e h => (gb ρ).mono q (fun p z => by
    split at z
    · exact (gs _).mono q (fun _ y => y) z
    · exact e _ z
    · exact z) h⟩
theorem s_tryOnly {x : Str} {c : Value} {body suite : List Stmt} {b₀ : Stmt} {np pos pos' : Pos} {gb : SM} {gs : SM} {S : Subs} (hs : X.stack = X.env :: X.outer) (hf : X.env.frame = some X.env.locals) (hc : Names X x c) (tk : Takes X W)
    (hS : SubsOk X.K X.mg c S)
    (hb : ∀ (W : WX) (pn : List (Addr × Obj)) (xe : Value → Shared → Prop), Takes (X.tr pn xe) W → PassesOwn (model X.prog X.w) X.A X.env xe → PuB (X.tr pn xe) W mu F0 H0 body gb)
    (hsu : ∀ (a : Addr) (pn : List (Addr × Obj)), PuB (X.suite a pn) noW mu F0 H0 (b₀ :: suite) gs) :
    PuS X W mu F0 H0 (.Try body [.ExceptHandler (some (.Name x np)) none (b₀ :: suite) pos'] [] [] pos) (sTryOnly S gb gs) := by
  intro Fb
  refine PS_imp (ps_try_only (tb := fun W => TSo X W mu F0 H0 Fb gb) (ts := fun a cls d D σ H => TSo X noW mu F0 H0 Fb gs D σ H) (Wout := W) hs hf hc tk
    (fun W' pn xe t1 t2 => hb W' pn xe t1 t2 Fb) (fun a oe cls d pn hz hv => hsu a _ Fb)) fun D' σ H ⟨F, ρ, s, h⟩ => ?_
  refine ⟨F, ρ, s, (gb ρ).mono (fun _ z => z) (fun p z => ?_) h⟩
  intro F' H' σ' cv dx s' er
  obtain ⟨C, rfl, hm, he⟩ := er
  split at z
  · rename_i hp
    exact ⟨true, hS _ _ _ hp hm, fun _ a ha => ⟨F', _, s', (gs _).mono (fun _ y => y) (fun _ y => y.elim) z⟩, fun q => Bool.noConfusion q⟩
  · rename_i hp
    exact ⟨false, hS _ _ _ hp hm, fun q => Bool.noConfusion q, fun _ => z _ _ _ _ _ s' ⟨C, rfl, hm, he⟩⟩
  · exact z.elim
end
end P5

namespace P5
open PySem L2 PyProof.Rows
variable [Tb]

section
variable {X : Cx} {W : WX} {mu : List Nat} {F0 H0 Fb : Hp} {e : Expr} {f : EM} {pos p p2 : Pos} {i : Nat} {x : Str}
def asL : D → Option (List D)
  | .lst xs => some xs
  | _ => none
def sExtI (i : Nat) (f : EM) : SM := fun ρ => M.opt (lstAt ρ i) >>= fun xs => liftI ρ (f ρ) >>= fun d => M.opt (asL d) >>= fun zs => if immD.immL zs = true ∧ xs.length + zs.length ≤ 16777216 then pure (.nx (ρ.set i (some (.lst (xs ++ zs))))) else M.fail
def sExtF (mu : List Nat) (i : Nat) (f : EM) : SM := fun ρ => M.opt (lstAt ρ i) >>= fun xs => liftF ρ (f (hide mu ρ)) >>= fun d => M.opt (asL d) >>= fun zs => if xs.length + zs.length ≤ 16777216 then pure (.nx (ρ.set i (some (.lst (xs ++ zs))))) else M.fail
theorem ext_rd {te : TE} {apos cpos : Pos} (hN : X.N[i]? = some x) (hv : Vis X.env.scope x) (he : PE X e te) (hd : (x == ("__debug__" : Str)) = false := by decide) (hcd : (x == ("__classdict__" : Str)) = false := by decide)
    (hbase : attributeBase (.Name x p) "extend" X.env (eval (.Name x p) X.env) = eval (.Name x p) X.env := by rfl) (hline : (apos.endLine == cpos.line) = true := by rfl) (hst : starEach [e] X.env = (false, eval e X.env) :: starEach [] X.env := by rfl)
    (hfew : ((backTo cpos (starEach [e] X.env)).all (fun x => !x.1) && (backToKw cpos (keywordEach [] X.env)).all (fun x => x.1.isSome)
      && decide (([e] : List Expr).length + ([] : List Keyword).length + (if ([] : List Keyword).isEmpty then 0 else 1) < 30)) = true := by rfl) (hplain : (backTo cpos (starEach [] X.env)).any (·.1) = false := by rfl) :
    PE X (.Call (.Attribute (.Name x p) "extend" apos) [e] [] cpos) (tBM X.K "list" rExtend (tVar i) (tCons te tNil)) :=
  pe_bm PySem.F.plainAttrs_list PySem.F.slot_list_extend PySem.F.type_list_extend mt_extend (pe_var hN hv hd hcd) (pa_cons he pa_nil hst) hbase hfew hline hst hplain
theorem asL_of {d : D} {zs : List D} (h : asL d = some zs) : d = .lst zs := by
  unfold asL at h
  split at h
  · cases h; rfl
  · cases h
theorem s_extI {apos cpos : Pos} (hi : i ∈ mu) (hN : X.N[i]? = some x) (hv : Vis X.env.scope x) (he : PuE X W e f) (hd : (x == ("__debug__" : Str)) = false := by decide) (hcd : (x == ("__classdict__" : Str)) = false := by decide)
    (hbase : attributeBase (.Name x p) "extend" X.env (eval (.Name x p) X.env) = eval (.Name x p) X.env := by rfl) (hline : (apos.endLine == cpos.line) = true := by rfl) (hst : starEach [e] X.env = (false, eval e X.env) :: starEach [] X.env := by rfl)
    (hfew : ((backTo cpos (starEach [e] X.env)).all (fun x => !x.1) && (backToKw cpos (keywordEach [] X.env)).all (fun x => x.1.isSome)
      && decide (([e] : List Expr).length + ([] : List Keyword).length + (if ([] : List Keyword).isEmpty then 0 else 1) < 30)) = true := by rfl) (hplain : (backTo cpos (starEach [] X.env)).any (·.1) = false := by rfl)
    (hs : swapsWith (.Call (.Attribute (.Name x p) "extend" apos) [e] [] cpos) none pos.line X.env = pure false := by rfl) :
    PuS X W mu F0 H0 (.Expr (.Call (.Attribute (.Name x p) "extend" apos) [e] [] cpos) pos) (sExtI i f) := by
  intro Fb
  refine PS_imp (ps_expr (ext_rd hN hv he hd hcd hbase hline hst hfew hplain) hs) fun D' σ H ⟨F, ρ, s, h⟩ => ?_
  obtain ⟨xs, e1, h⟩ := wp_opt h
  obtain ⟨a, vs, q1, q2, q3, q4⟩ := s.lst_at hi e1
  obtain ⟨h1, h2, h3⟩ := see_all (m := f) s h
  refine ⟨.ref a, q1, .inl ⟨rfl, vs, SqL.of q2⟩, _, ρ, h2, h1, (f ρ).mono (fun d z v F' H' g r => ?_) (fun _ z => z) h3⟩
  obtain ⟨zs, e2, z⟩ := wp_opt z
  rw [asL_of e2] at r
  obtain ⟨b, ws, rfl, hb, rb⟩ := r.lst_inv
  dsimp only at z
  split at z
  · rename_i hz
    have s1 := s.bak g
    have r1 := RepL.imm (s.bakImm g).1 (s.bakImm g).2 rb hz.1
    obtain ⟨a', vs', q1', q2', q3', q4'⟩ := s1.lst_at hi e1
    rw [q1] at q1'
    cases q1'
    exact ⟨a, b, vs', ws, rfl, rfl, q2', g.sub _ _ hb, by rw [q3'.length, r1.length]; exact szOk hz.2, z _ _ _ (s1.write hi (lstAt_of e1) rfl q1 (.lst upd_same (q3'.append r1) (by rw [List.length_append]; exact hz.2)))⟩
  · exact z.elim
theorem s_extF {apos cpos : Pos} (hi : i ∈ mu) (hN : X.N[i]? = some x) (hv : Vis X.env.scope x) (he : PuE X W e f) (hd : (x == ("__debug__" : Str)) = false := by decide) (hcd : (x == ("__classdict__" : Str)) = false := by decide)
    (hbase : attributeBase (.Name x p) "extend" X.env (eval (.Name x p) X.env) = eval (.Name x p) X.env := by rfl) (hline : (apos.endLine == cpos.line) = true := by rfl) (hst : starEach [e] X.env = (false, eval e X.env) :: starEach [] X.env := by rfl)
    (hfew : ((backTo cpos (starEach [e] X.env)).all (fun x => !x.1) && (backToKw cpos (keywordEach [] X.env)).all (fun x => x.1.isSome)
      && decide (([e] : List Expr).length + ([] : List Keyword).length + (if ([] : List Keyword).isEmpty then 0 else 1) < 30)) = true := by rfl) (hplain : (backTo cpos (starEach [] X.env)).any (·.1) = false := by rfl)
    (hs : swapsWith (.Call (.Attribute (.Name x p) "extend" apos) [e] [] cpos) none pos.line X.env = pure false := by rfl) :
    PuS X W mu F0 H0 (.Expr (.Call (.Attribute (.Name x p) "extend" apos) [e] [] cpos) pos) (sExtF mu i f) := by
  intro Fb
  refine PS_imp (ps_expr (ext_rd hN hv he hd hcd hbase hline hst hfew hplain) hs) fun D' σ H ⟨F, ρ, s, h⟩ => ?_
  obtain ⟨xs, e1, h⟩ := wp_opt h
  obtain ⟨a, vs, q1, q2, q3, q4⟩ := s.lst_at hi e1
  obtain ⟨h1, h2, h3⟩ := see_hid (m := f) s h
  refine ⟨.ref a, q1, .inl ⟨rfl, vs, SqL.of q2⟩, F, _, h2, h1, MM.mono _ (fun d z v F' H' g r => ?_) (fun _ z => z) h3⟩
  obtain ⟨zs, e2, z⟩ := wp_opt z
  rw [asL_of e2] at r
  obtain ⟨b, ws, rfl, hb, rb⟩ := r.lst_inv
  dsimp only at z
  split at z
  · rename_i hz
    have s1 := s.grow g
    obtain ⟨a', vs', q1', q2', q3', q4'⟩ := s1.lst_at hi e1
    rw [q1] at q1'
    cases q1'
    exact ⟨a, b, vs', ws, rfl, rfl, q2', g.sub _ _ hb, by rw [q3'.length, rb.length]; exact szOk hz, z _ _ _ (s1.write hi (lstAt_of e1) rfl q1 (.lst upd_same (q3'.append rb) (by rw [List.length_append]; exact hz)))⟩
  · exact z.elim
def sIxF (mu : List Nat) (i : Nat) (f : EM) (gd : GD) : SM := fun ρ => M.opt (lstAt ρ i) >>= fun xs => liftI ρ (f ρ) >>= fun d => M.opt (opIx (.lst xs) d) >>= fun v => M.opt (gd v) >>= fun l => if okSets mu l = true then pure (.nx (setsD ρ l)) else M.fail
theorem s_ixF {tg : Expr} {gd : GD} (hi : i ∈ mu) (hN : X.N[i]? = some x) (hv : Vis X.env.scope x) (he : PuE X W e f) (hg : PuG X tg gd) (hd : (x == ("__debug__" : Str)) = false := by decide) (hcd : (x == ("__classdict__" : Str)) = false := by decide) (hp : PlainIx e := by exact fun _ _ => rfl)
    (hs : swapsWithSole [tg] (.Subscript (.Name x p) e p2) pos.line X.env = pure false := by rfl) (hw : swappedStores [tg] (.Subscript (.Name x p) e p2) X.env = pure none := by rfl)
    (h1 : (assignEach [tg] X.env).map (·.2) = [assign tg X.env] := by rfl) : PuS X W mu F0 H0 (.Assign [tg] (.Subscript (.Name x p) e p2) pos) (sIxF mu i f gd) := by
  intro Fb
  refine PS_imp (ps_asg (pe_ix ix_list (pe_var hN hv hd hcd) he hp) hg hs hw h1) fun D' σ H ⟨F, ρ, s, h⟩ => ?_
  obtain ⟨xs, e1, h⟩ := wp_opt h
  obtain ⟨a, vs, q1, q2, q3, q4⟩ := s.lst_at hi e1
  obtain ⟨h1, h2, h3⟩ := see_all (m := f) s h
  refine ⟨.ref a, q1, _, ρ, h2, h1, (f ρ).mono (fun d z v F' H' g r => ?_) (fun _ z => z) h3⟩
  obtain ⟨dv, e2, z2⟩ := wp_opt z
  obtain ⟨l, e3, z3⟩ := wp_opt z2
  dsimp only at z3
  cases d with
  | int k =>
    have hk := r.int_inv
    subst hk
    have s1 := s.bak g
    obtain ⟨a', vs', q1', q2', q3', q4'⟩ := s1.lst_at hi e1
    rw [q1] at q1'
    cases q1'
    obtain ⟨w, e4, rw'⟩ := q3'.atI e2
    refine ⟨a, vs', k, w, rfl, rfl, SqL.of q2', e4, _, dv, l, s1.sub, rw', e3, fun ws sw => ?_⟩
    split at z3
    · rename_i ok
      exact z3 _ _ _ (SR.sets sw ok s1)
    · exact z3.elim
  | _ => cases e2
end
end P5

namespace P5
open PySem L2 PyProof.Rows
variable [Tb]

structure Own (P : Program) (w : World) (K : K') (mg : Mg) (base : Heap) (k : Nat) (x : Str) (ps : List Str) (fM : List D → M D) : Prop where
  ex : ∃ f fd, mg x = some (.ref f) ∧ Keeps P w K mg base k f fd ps fM ∧ PySem.W.keepIn K (.ref f) = true ∧ Binds K fd ps []
theorem Keeps.imp {P : Program} {w : World} {K : K'} {mg : Mg} {base : Heap} {k : Nat} {f : Addr} {fd : FuncData} {ps : List Str} {fM gM : List D → M D} (F : Keeps P w K mg base k f fd ps fM) (h : ∀ ds Q E, (gM ds).wp Q E → (fM ds).wp Q E) : Keeps P w K mg base k f fd ps gM :=
  FnOk.imp F fun vs H Q E ⟨F0, ds, sF, r, hl, z⟩ => ⟨F0, ds, sF, r, hl, h _ _ _ z⟩
theorem Own.imp {P : Program} {w : World} {K : K'} {mg : Mg} {base : Heap} {k : Nat} {x : Str} {ps : List Str} {fM gM : List D → M D} (O : Own P w K mg base k x ps fM) (h : ∀ ds Q E, (gM ds).wp Q E → (fM ds).wp Q E) : Own P w K mg base k x ps gM := by
  obtain ⟨f, fd, h1, h2, h3, h4⟩ := O.ex
  exact ⟨f, fd, h1, h2.imp h, h3, h4⟩
theorem Own.mono {P : Program} {w : World} {K : K'} {mg : Mg} {base : Heap} {j k : Nat} {x : Str} {ps : List Str} {fM : List D → M D} (O : Own P w K mg base j x ps fM) (h : j ≤ k) : Own P w K mg base k x ps fM := by
  obtain ⟨f, fd, h1, h2, h3, h4⟩ := O.ex
  exact ⟨f, fd, h1, FnOk.mono h2 h, h3, h4⟩
section
variable {X : Cx} {W : WX} {e : Expr} {es : List Expr} {g : Env' → M (List D)} {pos p : Pos} {x : Str} {j k : Nat} {ps : List Str} {fM : List D → M D}
theorem u_own {n : Nat} (O : Own X.prog X.w X.K X.mg X.base j x ps fM) (hn : ps.length = n) (tk : Takes X W) (hr : Room k X.A) (hj : j ≤ k) (hg : Gl X x) (ha : PuA X W (e :: es) g) (hdb : (x == ("__debug__" : Str)) = false := by decide)
    (he : starEach (e :: es) X.env = (false, eval e X.env) :: starEach es X.env := by rfl) (hpl : (backTo pos (starEach es X.env)).any (·.1) = false := by rfl) : PuE X W (.Call (.Name x p) (e :: es) [] pos) (dCallM n fM g) := by
  subst hn
  obtain ⟨f, fd, h1, h2, h3, h4⟩ := O.ex
  exact u_call h2 tk (hr.mono hj) hg h1 h3 h4 ha hdb he hpl
theorem u_ownF {n : Nat} (O : Own X.prog X.w X.K X.mg X.base j x ps fM) (hg : Gl X x) (hd : (x == ("__debug__" : Str)) = false := by decide) : PuE X W (.Name x pos) (dCon (.fn x)) := by
  obtain ⟨f, fd, h1, h2, h3, h4⟩ := O.ex
  exact u_fn hg h1 hd
theorem hu1 {A : Around} (hr : Room k A) : A.units + 1 < cLine := by have := hr.un; omega
theorem hu64 {A : Around} (hr : Room k A) : A.units + 64 < cLine := by have := hr.un; omega
theorem hu65 {A : Around} (hr : Room k A) : A.units + 65 < cLine := by have := hr.un; omega
theorem hu66 {A : Around} (hr : Room k A) : A.units + 66 < cLine := by have := hr.un; omega
end
theorem keep_of {P : Program} {w : World} {K : K'} {mg : Mg} {base : Heap} {x : Str} {st : Stmt} {f : Addr} {fd : FuncData} (N ps : List Str) (k : Nat) (g : SM) (mu : List Nat) (Fn : Fun K x x st f fd) (S : FnScope N ps (defScope st)) (b : Binds K fd ps []) (hm : mg x = some (.ref f)) (hps : ∀ i ∈ mu, ps.length ≤ i)
    (hb : ∀ (cdv : Value) (A : Around) (outer : List Env) (s : Shared) (H F0 : Hp) (E : XK), Room k (A.deeper (envOfC x (defScope st) s.heap.objs.size f cdv)) →
      PuB (cxD P w K mg base N x st f cdv A outer s H E) (fun cls d _ H' => E cls d H') mu F0 H (defBody st) g) : Keeps P w K mg base (k + 1) f fd ps (runFn N.length g) :=
  keeps_of Fn S hps hb
theorem own_of {P : Program} {w : World} {K : K'} {mg : Mg} {base : Heap} {x : Str} {st : Stmt} {f : Addr} {fd : FuncData} (N ps : List Str) (k : Nat) (g : SM) (mu : List Nat) (Fn : Fun K x x st f fd) (S : FnScope N ps (defScope st)) (b : Binds K fd ps []) (hm : mg x = some (.ref f)) (hps : ∀ i ∈ mu, ps.length ≤ i)
    (hb : ∀ (cdv : Value) (A : Around) (outer : List Env) (s : Shared) (H F0 : Hp) (E : XK), Room k (A.deeper (envOfC x (defScope st) s.heap.objs.size f cdv)) →
      PuB (cxD P w K mg base N x st f cdv A outer s H E) (fun cls d _ H' => E cls d H') mu F0 H (defBody st) g) : Own P w K mg base (k + 1) x ps (runFn N.length g) :=
  ⟨⟨f, fd, hm, keeps_of Fn S hps hb, Fn.kp, b⟩⟩
def blkB (N : List Str) (sc scope : Scope) (own : List (Str × Nat)) : Bool :=
  (scope.kind == .function) && scope.names.all (fun y => scope.names.lookup y.1 == some y.2) && own.all (fun p => N[p.2]? == some p.1) &&
    scope.names.all (fun y => y.2 != .free || sc.names.lookup y.1 == some .cell || sc.names.lookup y.1 == some .free) &&
    scope.names.all (fun y => !(y.2 == .local || y.2 == .cell) || (own.map (·.1)).contains y.1 || !N.contains y.1)
theorem blk_ok (N : List Str) {sc scope : Scope} {own : List (Str × Nat)} (h : blkB N sc scope own = true) : BlkOk N sc scope own := by
  unfold blkB at h
  simp only [Bool.and_eq_true, List.all_eq_true] at h
  obtain ⟨⟨⟨⟨h1, h2⟩, h3⟩, h4⟩, h5⟩ := h
  refine ⟨by simpa using h1, fun y hy => by simpa using h2 y hy, fun p hp => by simpa using h3 p hp, fun y hy e => ?_, fun y hy e => ?_⟩
  · have z := h4 y hy
    rw [e] at z
    simpa using z
  · have z := h5 y hy
    have e2 : (y.2 == NameKind.local || y.2 == NameKind.cell) = true := by
      rcases e with e | e <;> rw [e] <;> rfl
    rw [e2] at z
    simpa using z
def tab1 (x : Str) (n : Nat) (fM : List D → M D) : Tab := fun y => if y = x then some (n, fM) else none
def tab2 (x : Str) (n : Nat) (fM : List D → M D) (T : Tab) : Tab := fun y => if y = x then some (n, fM) else T y
theorem tab1_ok {P : Program} {w : World} {K : K'} {mg : Mg} {base : Heap} {k n : Nat} {x : Str} {ps : List Str} {fM : List D → M D} (O : Own P w K mg base k x ps fM) (hn : ps.length = n) : TabOk P w K mg base k (tab1 x n fM) := by
  obtain ⟨f, fd, h1, h2, h3, h4⟩ := O.ex
  refine ⟨fun y m gM h => ?_, fun y z g hy hz _ _ => ?_⟩
  · unfold tab1 at h
    split at h
    · rename_i e
      cases h
      rw [e]
      exact ⟨f, fd, ps, h1, hn, h2, h3, h4⟩
    · cases h
  · unfold tab1 at hy hz
    split at hy
    · split at hz
      · rename_i e1 e2
        rw [e1, e2]
      · cases hz
    · cases hy
theorem TabOk.mono {P : Program} {w : World} {K : K'} {mg : Mg} {base : Heap} {j k : Nat} {T : Tab} (O : TabOk P w K mg base j T) (h : j ≤ k) : TabOk P w K mg base k T :=
  ⟨fun x n fM e => by
    obtain ⟨f, fd, ps, h1, h2, h3, h4, h5⟩ := O.ok x n fM e
    exact ⟨f, fd, ps, h1, h2, FnOk.mono h3 h, h4, h5⟩, O.inj⟩
theorem raisable1 {P : Program} {w : World} {K : K'} {mg : Mg} {nm n : Str} {C fI : Addr} {p1 p2 a b c d e e' f g h i : Pos} (T : Err.Cls P K mg nm C fI [n]) (B : Err.FnAt P K C fI (Err.args1 n p1 p2) (Err.body1 n a b c d e e' f g h i) (Err.scopeOf [n])) (O : Err.NmOk n)
    (hb : Err.Takes1 n (Err.args1 n p1 p2) (Err.body1 n a b c d e e' f g h i)) (harm : Err.Arm [n] a b c e [.Name n d]) : Raisable P w K mg nm C [n] := by
  refine ⟨Nat.le_succ _, fI, T, fun us hl => ?_⟩
  obtain ⟨v, rfl⟩ : ∃ v, us = [v] := by
    match us, hl with
    | [v], _ => exact ⟨v, rfl⟩
  intro A s x t0 h0 R Md k0 hz hx hx0 hroom hq
  refine Err.init1 T B O hb harm Md k0 hz hx hx0 hroom fun h' tk dx D => hq h' tk dx ?_
  have e : (fun y => List.lookup y ([n].zip [v])) = fun y => if y = n then some v else none := by
    funext y
    simp only [List.zip_cons_cons, List.zip_nil_left, List.lookup_cons, List.lookup_nil]
    by_cases q : y = n
    · rw [if_pos q, show (y == n) = true by simpa using q]
    · rw [if_neg q, show (y == n) = false by simpa using q]
  rw [e]
  exact D
theorem exm_of {K : K'} {S E : Addr} {b : Bool} (h1 : PySem.W.subIn K (.ref S) (.type "BaseException") = some true) (h2 : PySem.W.isClsIn K S = true) (h3 : PySem.W.typeIn K (.ref S) = some (.type "type")) (h4 : PySem.W.subIn K (.ref E) (.ref S) = some b) : PySem.W.exmOne K (.ref E) (.ref S) = some b := by
  have q2 : (PySem.W.clsIn K S).isSome = true := h2
  unfold PySem.W.exmOne
  rw [if_pos (by rw [h1] <;> rfl)]
  show (if ((PySem.W.clsIn K S).isSome && PySem.W.typeIn K (.ref S) == some (.type "type")) = true then PySem.W.subIn K (.ref E) (.ref S) else none) = some b
  rw [q2, h3, if_pos (by rfl)]
  exact h4
theorem tk_of {P : Program} {w : World} {K : K'} {mg : Mg} {base : Heap} {N : List Str} {qual : Str} {st : Stmt} {f : Addr} {cdv : Value} {A : Around} {outer : List Env} {s : Shared} {H : Hp} {E : XK} : Takes (cxD P w K mg base N qual st f cdv A outer s H E) (fun cls d _ H' => E cls d H') := takes_of rfl rfl rfl rfl
theorem po_of {P : Program} {w : World} {K : K'} {mg : Mg} {base : Heap} {N : List Str} {qual : Str} {st : Stmt} {f : Addr} {cdv : Value} {A : Around} {outer : List Env} {s : Shared} {H : Hp} {E : XK} : PassesOwn (model (cxD P w K mg base N qual st f cdv A outer s H E).prog (cxD P w K mg base N qual st f cdv A outer s H E).w) (cxD P w K mg base N qual st f cdv A outer s H E).A (cxD P w K mg base N qual st f cdv A outer s H E).env (cxD P w K mg base N qual st f cdv A outer s H E).xe := passes_of rfl
end P5

namespace P5
open PySem L2 PyProof.Rows
variable [Tb]

section
variable {X : Cx} {W : WX} {mu : List Nat} {F0 H0 Fb : Hp} {i j : Nat} {x y : Str} {a b : Expr} {f h : EM} {px py pt pos : Pos} {kt k2 : Nat} {pt2 : Pos}
def sParFO (mu : List Nat) (i j : Nat) (f h : EM) : SM := fun ρ => liftF ρ (f (hide mu ρ)) >>= fun d => liftF ρ (h (hide mu ρ)) >>= fun e => if okSets mu [(j, e)] = true then pure (.nx ((ρ.set i (some d)).set j (some e))) else M.fail
def sParOF (mu : List Nat) (i j : Nat) (f h : EM) : SM := fun ρ => liftF ρ (f (hide mu ρ)) >>= fun d => liftF ρ (h (hide mu ρ)) >>= fun e => if okSets mu [(i, d)] = true then pure (.nx ((ρ.set i (some d)).set j (some e))) else M.fail
def sParFF (mu : List Nat) (i j : Nat) (f h : EM) : SM := fun ρ => liftF ρ (f (hide mu ρ)) >>= fun d => liftF ρ (h (hide mu ρ)) >>= fun e => pure (.nx ((ρ.set i (some d)).set j (some e)))
theorem ok1 {mu : List Nat} {i : Nat} {d : D} (h : okSets mu [(i, d)] = true) : i ∈ mu → isMut d = false := by
  intro hm
  unfold okSets at h
  simp [hm] at h
  simpa using h
theorem s_parFO (him : i ∈ mu) (hc : X.calm = true) (hN : X.N.Nodup) (hi : X.N[i]? = some x) (hj : X.N[j]? = some y) (hij : i ≠ j)
    (hx : X.env.scope.names.lookup x = some .local) (hy : X.env.scope.names.lookup y = some .local) (ha : PuFr X W a f) (hb : PuE X W b h)
    (hw : swappedStores [.Tuple [.Name x px, .Name y py] kt pt] (.Tuple [a, b] k2 pt2) X.env = pure (some [x, y]) := by rfl) (hs : swapsWithSole [.Tuple [.Name x px, .Name y py] kt pt] (.Tuple [a, b] k2 pt2) pos.line X.env = pure false := by rfl)
    (h1 : starEach [a, b] X.env = (false, eval a X.env) :: starEach [b] X.env := by rfl) (h2 : starEach [b] X.env = (false, eval b X.env) :: starEach [] X.env := by rfl) :
    PuS X W mu F0 H0 (.Assign [.Tuple [.Name x px, .Name y py] kt pt] (.Tuple [a, b] k2 pt2) pos) (sParFO mu i j f h) := by
  intro Fb
  refine PS_imp (ps_par hc hN hi hj hij hx hy (pa_cons ha (pa_cons hb pa_nil h2) h1) hw hs) fun D' σ H ⟨F, ρ, s, z⟩ => ?_
  refine ⟨F, hide mu ρ, s.sub, s.hid, MM.mono _ (fun d z a F1 H1 g hF h0 o => ?_) (fun e z F' H' c dx gr r => z _ _ _ _ _ (s.grow gr) r) z⟩
  have s1 := s.grow g
  refine ⟨F1, hide mu ρ, s1.sub, s1.hid, MM.mono _ (fun e z w F2 H2 g2 r2 => ?_) (fun e z F' H' c dx gr r => z _ _ _ _ _ (s1.grow gr) r) z⟩
  have s2 := s1.grow g2
  dsimp only at z
  split at z
  · rename_i hm
    have ho : H1 a ≠ none := o.some
    have e2 : H2 a = H1 a := hs_own o g2.hs
    have s3 := s2.own_set him s.hs0 h0 s.ownedSome (g2.new a hF ho) (o.grow g2.fs e2)
    exact ⟨_, w, rfl, z F2 H2 _ (s3.set j (ok1 hm) r2)⟩
  · exact z.elim
theorem s_parOF (hjm : j ∈ mu) (hc : X.calm = true) (hN : X.N.Nodup) (hi : X.N[i]? = some x) (hj : X.N[j]? = some y) (hij : i ≠ j)
    (hx : X.env.scope.names.lookup x = some .local) (hy : X.env.scope.names.lookup y = some .local) (ha : PuE X W a f) (hb : PuFr X W b h)
    (hw : swappedStores [.Tuple [.Name x px, .Name y py] kt pt] (.Tuple [a, b] k2 pt2) X.env = pure (some [x, y]) := by rfl) (hs : swapsWithSole [.Tuple [.Name x px, .Name y py] kt pt] (.Tuple [a, b] k2 pt2) pos.line X.env = pure false := by rfl)
    (h1 : starEach [a, b] X.env = (false, eval a X.env) :: starEach [b] X.env := by rfl) (h2 : starEach [b] X.env = (false, eval b X.env) :: starEach [] X.env := by rfl) :
    PuS X W mu F0 H0 (.Assign [.Tuple [.Name x px, .Name y py] kt pt] (.Tuple [a, b] k2 pt2) pos) (sParOF mu i j f h) := by
  intro Fb
  refine PS_imp (ps_par hc hN hi hj hij hx hy (pa_cons ha (pa_cons hb pa_nil h2) h1) hw hs) fun D' σ H ⟨F, ρ, s, z⟩ => ?_
  refine ⟨F, hide mu ρ, s.sub, s.hid, MM.mono _ (fun d z v F1 H1 g r1 => ?_) (fun e z F' H' c dx gr r => z _ _ _ _ _ (s.grow gr) r) z⟩
  have s1 := s.grow g
  refine ⟨F1, hide mu ρ, s1.sub, s1.hid, MM.mono _ (fun e z w F2 H2 g2 hF2 h02 o2 => ?_) (fun e z F' H' c dx gr r => z _ _ _ _ _ (s1.grow gr) r) z⟩
  have s2 := s1.grow g2
  dsimp only at z
  split at z
  · rename_i hm
    have sA := s1.set i (ok1 hm) r1
    have s3 := (sA.grow g2).own_set hjm sA.hs0 h02 sA.ownedSome hF2 o2
    exact ⟨v, _, rfl, z F2 H2 _ s3⟩
  · exact z.elim
theorem s_parFF (him : i ∈ mu) (hjm : j ∈ mu) (hc : X.calm = true) (hN : X.N.Nodup) (hi : X.N[i]? = some x) (hj : X.N[j]? = some y) (hij : i ≠ j)
    (hx : X.env.scope.names.lookup x = some .local) (hy : X.env.scope.names.lookup y = some .local) (ha : PuFr X W a f) (hb : PuFr X W b h)
    (hw : swappedStores [.Tuple [.Name x px, .Name y py] kt pt] (.Tuple [a, b] k2 pt2) X.env = pure (some [x, y]) := by rfl) (hs : swapsWithSole [.Tuple [.Name x px, .Name y py] kt pt] (.Tuple [a, b] k2 pt2) pos.line X.env = pure false := by rfl)
    (h1 : starEach [a, b] X.env = (false, eval a X.env) :: starEach [b] X.env := by rfl) (h2 : starEach [b] X.env = (false, eval b X.env) :: starEach [] X.env := by rfl) :
    PuS X W mu F0 H0 (.Assign [.Tuple [.Name x px, .Name y py] kt pt] (.Tuple [a, b] k2 pt2) pos) (sParFF mu i j f h) := by
  intro Fb
  refine PS_imp (ps_par hc hN hi hj hij hx hy (pa_cons ha (pa_cons hb pa_nil h2) h1) hw hs) fun D' σ H ⟨F, ρ, s, z⟩ => ?_
  refine ⟨F, hide mu ρ, s.sub, s.hid, MM.mono _ (fun d z v F1 H1 g hF1 h01 o1 => ?_) (fun e z F' H' c dx gr r => z _ _ _ _ _ (s.grow gr) r) z⟩
  have s1 := s.grow g
  refine ⟨F1, hide mu ρ, s1.sub, s1.hid, MM.mono _ (fun e z w F2 H2 g2 hF2 h02 o2 => ?_) (fun e z F' H' c dx gr r => z _ _ _ _ _ (s1.grow gr) r) z⟩
  have sA := s1.own_set him s.hs0 h01 s.ownedSome hF1 o1
  have s3 := (sA.grow g2).own_set hjm sA.hs0 h02 sA.ownedSome hF2 o2
  exact ⟨_, _, rfl, z F2 H2 _ s3⟩
end

structure Ret (H H1 : Hp) : Prop where
  non : ∀ b, H b = none → H1 b = none
  tup : ∀ b xs, H b = some (.tup xs) → H1 b = some (.tup xs)
  frz : ∀ b o u, H b = some (.frz o u) → H1 b = some (.frz o u)
  tbl : ∀ b ps, H b = some (.tbl ps) → H1 b = some (.tbl ps)
theorem Ret.refl (H : Hp) : Ret H H := ⟨fun _ h => h, fun _ _ h => h, fun _ _ _ h => h, fun _ _ h => h⟩
theorem Ret.trans {H H1 H2 : Hp} (a : Ret H H1) (b : Ret H1 H2) : Ret H H2 := ⟨fun x h => b.non x (a.non x h), fun x y h => b.tup x y (a.tup x y h), fun x y z h => b.frz x y z (a.frz x y z h), fun x y h => b.tbl x y (a.tbl x y h)⟩
theorem un_ret {fs ex : List Addr} {H H1 H1' H' : Hp} {h h' : Heap} (a : Ret H H1) (c : Ret H1' H') (u : Un fs ex H1 H1' h h') : Un fs ex H H' h h' :=
  ⟨fun b o e n => u.keep b o e (a.non b n), fun b o e n => u.slot b o e (a.non b n), fun b o e n x => c.non b (u.free b o e (a.non b n) x), u.there, fun b xs e => c.tup _ _ (u.tups _ _ (a.tup _ _ e)),
    fun b o v e => c.frz _ _ _ (u.frzs _ _ _ (a.frz _ _ _ e)), fun b ps e => let ⟨m, z⟩ := u.tbls b ps (a.tbl _ _ e); ⟨m, c.tbl _ _ z⟩⟩
theorem FnOk.ret {P : Program} {w : World} {K : K'} {mg : Mg} {base : Heap} {k : Nat} {f : Addr} {fd : FuncData} {ps : List Str} {sp sp' : Sp} (F : FnOk P w K mg base (L2.CX P w) k f fd ps sp)
    (hl : ∀ vs H Q E, sp' vs H Q E → vs.length = ps.length)
    (hh : ∀ vs H Q E, sp' vs H Q E → ∀ h : Heap, HOk P w H h → ∃ H1, Ret H H1 ∧ HOk P w H1 h ∧ sp vs H1 (fun v H1' => ∀ h', HOk P w H1' h' → ∃ H', Ret H1' H' ∧ HOk P w H' h' ∧ Q v H') (fun _ _ _ => False)) :
    FnOk P w K mg base (L2.CX P w) k f fd ps sp' :=
  ⟨hl, fun A outer s H args us vs Q E hr he hb hv hs => by
    obtain ⟨H1, a, ok1, z⟩ := hh vs H Q E hs s.heap he.hok
    have he1 : Env0 P w K mg base A outer s H1 := ⟨he.frames, he.mod, fun b o q => ⟨(he.bs b o q).1, a.non _ (he.bs b o q).2⟩, he.bsz, he.funs, fun b q => a.non _ (he.frf b q), ok1, he.bare⟩
    refine codeAny_mono (F.run A outer s H1 args us vs _ _ hr he1 hb hv z) fun r s' q => ?_
    cases r with
    | ok fl =>
      cases fl with
      | ret u =>
        obtain ⟨v, H1', o1, ba, u, ok, rv, q⟩ := q
        obtain ⟨H', c, ok', q'⟩ := q s'.heap ok
        exact ⟨v, H', o1, ba, un_ret a c u, ok', rv, q'⟩
      | _ => exact q
    | error e =>
      obtain ⟨_, _, _, _, _, _, _, _, _, _, _, _, z⟩ := q
      exact z.elim⟩
def swaps : HO → Bool
  | .lst _ => true
  | .ext _ => true
  | _ => false
theorem ret_upd {H : Hp} {a : Addr} {u o : HO} (h : H a = some u) (hu : swaps u = true) : Ret H (upd H a o) := by
  refine ⟨fun b e => ?_, fun b xs e => ?_, fun b o' v e => ?_, fun b ps e => ?_⟩
  all_goals
    have hb : b ≠ a := fun z => by
      subst z
      rw [h] at e
      cases e <;> cases hu
    rw [upd_ne hb]
    exact e
theorem hok_upd {P : Program} {w : World} {H : Hp} {h : Heap} {a : Addr} {u o : HO} (x : HOk P w H h) (e : H a = some u) (hu : swaps u = true) (new : ObjOk P w (upd H a o) h a o) : HOk P w (upd H a o) h := by
  have hm : Mut (H a) := by
    rw [e]
    cases u <;> first | trivial | cases hu
  refine HOk.write x hm (.inl rfl) (fun b v _ q => q) ?_ new
  have := (x a u e)
  cases u <;> first | (cases hu; done) | skip
  · obtain ⟨_, _, _, _, e⟩ := this
    exact ⟨_, e⟩
  · exact this.2.1
theorem bag_stay {l a : Addr} {φ : Heap → Prop} (hφ : ∀ h, φ h ↔ bagObj l a h) {h : Heap} (b : bagObj l a h) : φ h ∧ (∃ o, h.get? a = some o) ∧ ∀ h1 h2 : Heap, φ h1 → (∀ o, h1.get? a = some o → h2.get? a = some o) → φ h2 := by
  refine ⟨(hφ h).mpr b, ?_, fun h1 h2 z k => (hφ h2).mpr ?_⟩
  · obtain ⟨x, y, z, t1, t2, t3, n, e⟩ := b
    exact ⟨_, e⟩
  · obtain ⟨x, y, z, t1, t2, t3, n, e⟩ := (hφ h1).mp z
    exact ⟨x, y, z, t1, t2, t3, n, k _ e⟩
theorem bag_open {P : Program} {w : World} {H : Hp} {h : Heap} {a l : Addr} {φ : Heap → Prop} (x : HOk P w H h) (e : H a = some (.ext φ)) (hφ : ∀ h, φ h ↔ bagObj l a h) :
    ∃ i j k : Nat, Ret H (upd H a (.lst [.int i, .int j, .int k, .ref l])) ∧ HOk P w (upd H a (.lst [.int i, .int j, .int k, .ref l])) h := by
  obtain ⟨z, _, _⟩ := x a _ e
  obtain ⟨i, j, k, t1, t2, t3, n, q⟩ := (hφ h).mp z
  refine ⟨i, j, k, ret_upd e rfl, hok_upd x e rfl ⟨szOk (by show 4 ≤ 16777216; decide), [.int i t1, .int j t2, .int k t3, .ref l], n, ?_, q⟩⟩
  exact .cons ⟨_, rfl⟩ (.cons ⟨_, rfl⟩ (.cons ⟨_, rfl⟩ (.cons rfl .nil)))
theorem bag_shut {P : Program} {w : World} {H : Hp} {h : Heap} {a l : Addr} {φ : Heap → Prop} {i j k : Nat} (x : HOk P w H h) (e : H a = some (.lst [.int i, .int j, .int k, .ref l])) (hφ : ∀ h, φ h ↔ bagObj l a h) :
    Ret H (upd H a (.ext φ)) ∧ HOk P w (upd H a (.ext φ)) h := by
  obtain ⟨_, its, n, rv, q⟩ := x a _ e
  refine ⟨ret_upd e rfl, hok_upd x e rfl (bag_stay hφ ?_)⟩
  cases rv with
  | cons r1 rv =>
    cases rv with
    | cons r2 rv =>
      cases rv with
      | cons r3 rv =>
        cases rv with
        | cons r4 rv =>
          cases rv
          obtain ⟨t1, rfl⟩ := r1
          obtain ⟨t2, rfl⟩ := r2
          obtain ⟨t3, rfl⟩ := r3
          cases r4
          exact ⟨i, j, k, t1, t2, t3, n, q⟩
end P5

namespace P5
open PySem L2 PyProof.Rows
variable [Tb]

structure BR (a l : Addr) (ns : List Int) (H0 H : Hp) (σ : L2.St) (ρ : Env') (x y z : Int) : Prop where
  r0 : ρ[0]? = some (some (.lst [.int x, .int y, .int z, .scr ns]))
  s0 : σ[0]? = some (some (.ref a))
  len : σ.length = ρ.length
  int : ∀ i d, i ≠ 0 → ρ[i]? = some (some d) → ∃ n, d = .int n ∧ σ[i]? = some (some (.int n))
  ha : H a = some (.lst [.int x, .int y, .int z, .ref l])
  keep : SameA a H0 H
  tb : LamX.Tabs Tb.T H
inductive BF where
  | nx (ρ : Env')
  | rt (n : Int) (ρ : Env')
abbrev BM := Env' → M BF
section
variable {X : Cx} {W : WX} {a l : Addr} {ol : Obj} {ns : List Int} {H0 H : Hp} {σ : L2.St} {ρ : Env'} {x y z : Int}
def bview (a l : Addr) (H : Hp) : Hp := fun b => if b = a ∨ b = l then H b else none
theorem BR.view (B : BR a l ns H0 H σ ρ x y z) (hl : H0 l = some (.frz ol (.lst (ns.map V.int)))) (hne : l ≠ a) (hz : ns.length ≤ 16777216) : Sub (bview a l H) H ∧ ER X.K X.mg (bview a l H) σ ρ := by
  refine ⟨⟨fun b o e => ?_, fun b o e => ?_, B.tb⟩, B.len, fun i d h => ?_⟩
  · unfold bview at e
    split at e
    · exact e
    · cases e
  · unfold bview at e
    split at e
    · rename_i w
      rcases w with w | w
      · subst w
        rw [B.ha] at e
        cases e
        rfl
      · subst w
        rw [B.keep.kp _ _ hne hl rfl] at e
        cases e
        rfl
    · cases e
  · by_cases hi : i = 0
    · subst hi
      rw [B.r0] at h
      cases h
      refine ⟨_, B.s0, .lst (xs := [.int x, .int y, .int z, .ref l]) ?_ (.cons (.int x) (.cons (.int y) (.cons (.int z) (.cons (.scr (.inl (.inr ⟨ol, ?_⟩)) hz) .nil)))) (by show 4 ≤ 16777216; decide)⟩
      · unfold bview
        rw [if_pos (.inl rfl)]
        exact B.ha
      · unfold bview
        rw [if_pos (.inr rfl)]
        exact B.keep.kp _ _ hne hl rfl
    · obtain ⟨n, rfl, e⟩ := B.int i d hi h
      exact ⟨_, e, .int n⟩
theorem BR.grow {F F' H' : Hp} (B : BR a l ns H0 H σ ρ x y z) (g : Grow F H F' H') : BR a l ns H0 H' σ ρ x y z :=
  ⟨B.r0, B.s0, B.len, B.int, g.hs.at B.ha, B.keep.more g.hs, g.hs.ts B.tb⟩
def BQ (a l : Addr) (ns : List Int) (H0 : Hp) (D' : Ends) : BF → Prop
  | .nx ρ => ∀ σ H x y z, BR a l ns H0 H σ ρ x y z → D'.nx σ H
  | .rt n ρ => ∀ σ H x y z, BR a l ns H0 H σ ρ x y z → D'.rt (.int n) H
def TSb (a l : Addr) (ns : List Int) (H0 : Hp) (g : BM) : TS := fun D' σ H => ∃ ρ x y z, BR a l ns H0 H σ ρ x y z ∧ (g ρ).wp (BQ a l ns H0 D') (fun _ => False)
end
structure BG (a l : Addr) (ol : Obj) (ns : List Int) (H0 : Hp) : Prop where
  hl : H0 l = some (.frz ol (.lst (ns.map V.int)))
  ne : l ≠ a
  sz : ns.length ≤ 16777216
def PbS (X : Cx) (st : Stmt) (g : BM) : Prop := ∀ a l ol ns H0, BG a l ol ns H0 → PS X st (TSb a l ns H0 g)
def PbB (X : Cx) (sts : List Stmt) (g : BM) : Prop := ∀ a l ol ns H0, BG a l ol ns H0 → PSs X sts (TSb a l ns H0 g)
section
variable {X : Cx} {W : WX} {st : Stmt} {sts : List Stmt} {g g' : BM} {e c : Expr} {f : EM} {p : Env' → M Bool} {pos p2 p3 p4 : Pos} {i : Nat} {x : Str}
def bSeq (g g' : BM) : BM := fun ρ => g ρ >>= fun r => match r with
  | .nx ρ' => g' ρ'
  | o => pure o
theorem bb_nil : PbB X [] (fun ρ => pure (.nx ρ)) := fun a l ol ns H0 G => PSs_imp pss_nil fun D' σ H ⟨ρ, x, y, z, B, h⟩ => h σ H x y z B
theorem bb_one (h1 : PbS X st g) : PbB X [st] g := fun a l ol ns H0 G => pss_one (h1 a l ol ns H0 G)
theorem bb_cons (h1 : PbS X st g) (h2 : PbB X sts g') : PbB X (st :: sts) (bSeq g g') := by
  intro a l ol ns H0 G
  refine PSs_imp (pss_cons (h1 a l ol ns H0 G) (h2 a l ol ns H0 G)) fun D' σ H ⟨ρ, x, y, z, B, h⟩ => ?_
  refine ⟨ρ, x, y, z, B, (g ρ).mono (fun r q => ?_) (fun _ q => q) h⟩
  cases r with
  | nx ρ' => exact fun σ H x y z B => ⟨ρ', x, y, z, B, q⟩
  | rt n ρ' => exact q
def bIf (p : Env' → M Bool) (g g' : BM) : BM := fun ρ => p ρ >>= fun b => if b = true then g ρ else g' ρ
theorem sb_if {as bs : List Stmt} (hc : PuT X WF c p) (ha : PbB X as g) (hb : PbB X bs g') : PbS X (.If c as bs pos) (bIf p g g') := by
  intro a l ol ns H0 G
  refine PS_imp (ps_if hc (ha a l ol ns H0 G) (hb a l ol ns H0 G)) fun D' σ H ⟨ρ, x, y, z, B, h⟩ => ?_
  obtain ⟨sv, er⟩ := B.view (X := X) G.hl G.ne G.sz
  refine ⟨_, ρ, sv, er, (p ρ).mono (fun b q F' H' g => ?_) (fun _ q => q.elim) h⟩
  cases b with
  | true => exact ⟨ρ, x, y, z, B.grow g, q⟩
  | false => exact ⟨ρ, x, y, z, B.grow g, q⟩
def bSet (i : Nat) (f : EM) : BM := fun ρ => f ρ >>= fun d => match d with
  | .int n => pure (.nx (ρ.set i (some (.int n))))
  | _ => M.fail
theorem sb_set (hi0 : i ≠ 0) (hN : X.N.Nodup) (hi : X.N[i]? = some x) (hx : Loc X.env.scope x) (he : PuE X WF e f) (hs : swapsWith e (some (.Name x p2)) pos.line X.env = pure false := by rfl)
    (hf : X.fn x = true ∨ X.env.scope.names.lookup x = some .local := by first | exact .inl rfl | exact .inr rfl | assumption) : PbS X (.Assign [.Name x p2] e pos) (bSet i f) := by
  intro a l ol ns H0 G
  refine PS_imp (ps_set hN hi hx he hs hf) fun D' σ H ⟨ρ, x, y, z, B, h⟩ => ?_
  obtain ⟨sv, er⟩ := B.view (X := X) G.hl G.ne G.sz
  refine ⟨_, ρ, sv, er, (f ρ).mono (fun d q v F' H' g r => ?_) (fun _ q => q.elim) h⟩
  have B' := B.grow g
  cases d with
  | int n =>
    rw [r.int_inv]
    refine q _ _ x y z ⟨?_, ?_, ?_, fun j d hj hd => ?_, B'.ha, B'.keep, B'.tb⟩
    · rw [List.getElem?_set_ne hi0]
      exact B.r0
    · rw [List.getElem?_set_ne hi0]
      exact B.s0
    · rw [List.length_set, List.length_set]
      exact B.len
    · by_cases hij : i = j
      · subst hij
        have hb : i < ρ.length := by
          have := (List.getElem?_eq_some_iff.mp hd).1
          simpa using this
        rw [List.getElem?_set_self hb] at hd
        cases hd
        have := B.len
        exact ⟨n, rfl, by rw [List.getElem?_set_self (by omega)]⟩
      · rw [List.getElem?_set_ne hij] at hd ⊢
        exact B.int j d hj hd
  | _ => exact q.elim
def bRet (f : EM) : BM := fun ρ => f ρ >>= fun d => match d with
  | .int n => pure (.rt n ρ)
  | _ => M.fail
theorem sb_ret (he : PuE X WF e f) : PbS X (.Return (some e) pos) (bRet f) := by
  intro a l ol ns H0 G
  refine PS_imp (ps_ret he) fun D' σ H ⟨ρ, x, y, z, B, h⟩ => ?_
  obtain ⟨sv, er⟩ := B.view (X := X) G.hl G.ne G.sz
  refine ⟨_, ρ, sv, er, (f ρ).mono (fun d q v F' H' g r => ?_) (fun _ q => q.elim) h⟩
  cases d with
  | int n =>
    rw [r.int_inv]
    exact q _ _ x y z (B.grow g)
  | _ => exact q.elim
def bput (k : Nat) (n : Int) (ρ : Env') : Option Env' := match (ρ[0]? : Option (Option D)) with
  | some (some (.lst [.int x, .int y, .int z, .scr ns])) => if k = 0 then some (ρ.set 0 (some (.lst [.int n, .int y, .int z, .scr ns]))) else if k = 1 then some (ρ.set 0 (some (.lst [.int x, .int n, .int z, .scr ns])))
      else if k = 2 then some (ρ.set 0 (some (.lst [.int x, .int y, .int n, .scr ns]))) else none
  | _ => none
theorem BR.put {a l : Addr} {ns : List Int} {H0 H : Hp} {σ : L2.St} {ρ ρ' : Env'} {x y z n : Int} {k : Nat} (B : BR a l ns H0 H σ ρ x y z) (h : bput k n ρ = some ρ') :
    ∃ j x' y' z', ixN 4 (k : Int) = some j ∧ BR a l ns H0 (upd H a (.lst ([V.int x, .int y, .int z, .ref l].set j (.int n)))) σ ρ' x' y' z' := by
  unfold bput at h
  rw [B.r0] at h
  dsimp only at h
  have hlt : 0 < ρ.length := (List.getElem?_eq_some_iff.mp B.r0).1
  have mk : ∀ x' y' z', BR a l ns H0 (upd H a (.lst [V.int x', .int y', .int z', .ref l])) σ (ρ.set 0 (some (.lst [.int x', .int y', .int z', .scr ns]))) x' y' z' := fun x' y' z' =>
    ⟨by rw [List.getElem?_set_self hlt], B.s0, by rw [List.length_set]; exact B.len, fun i d hi hd => by
      rw [List.getElem?_set_ne (Ne.symm hi)] at hd
      exact B.int i d hi hd, upd_same, B.keep.write B.ha, tabs_wr B.tb B.ha rfl⟩
  split at h
  · rename_i hk
    cases h
    subst hk
    exact ⟨0, _, _, _, rfl, mk n y z⟩
  · split at h
    · rename_i hk
      cases h
      subst hk
      exact ⟨1, _, _, _, rfl, mk x n z⟩
    · split at h
      · rename_i hk
        cases h
        subst hk
        exact ⟨2, _, _, _, rfl, mk x y n⟩
      · cases h
def bPut (k : Nat) (f : EM) : BM := fun ρ => f ρ >>= fun d => match d with
  | .int n => M.opt (bput k n ρ) >>= fun ρ' => pure (.nx ρ')
  | _ => M.fail
theorem sb_put {k : Nat} {kk : Int} {j1 : Nat} {pn pk ps : Pos} (hk : kk = (k : Int)) (hi : X.N[0]? = some x) (hv : Vis X.env.scope x) (he : PuE X WF e f) (hs : swapsWithSole [.Subscript (.Name x pn) (.Constant (.int kk) j1 pk) ps] e pos.line X.env = pure false := by rfl)
    (hw : swappedStores [.Subscript (.Name x pn) (.Constant (.int kk) j1 pk) ps] e X.env = pure none := by rfl) (hd : (x == ("__debug__" : Str)) = false := by decide) (hcd : (x == ("__classdict__" : Str)) = false := by decide) :
    PbS X (.Assign [.Subscript (.Name x pn) (.Constant (.int kk) j1 pk) ps] e pos) (bPut k f) := by
  intro a l ol ns H0 G
  subst hk
  refine PS_imp (ps_asg he (pg_sub (pe_var hi hv hd hcd) (pe_int (i := (k : Int))) set_list) hs hw) fun D' σ H ⟨ρ, x, y, z, B, h⟩ => ?_
  obtain ⟨sv, er⟩ := B.view (X := X) G.hl G.ne G.sz
  refine ⟨_, ρ, sv, er, (f ρ).mono (fun d q v F' H' g r => ?_) (fun _ q => q.elim) h⟩
  have B' := B.grow g
  cases d with
  | int n =>
    rw [r.int_inv]
    obtain ⟨ρ', e1, q⟩ := wp_opt q
    obtain ⟨j, x', y', z', e2, B2⟩ := B'.put e1
    exact ⟨_, B.s0, a, _, _, j, rfl, rfl, B'.ha, e2, q _ _ _ _ _ B2⟩
  | _ => exact q.elim
def rGetL : V → V → Hp → VK → Prop := fun o i H Q => ∃ p xs k v, o = .ref p ∧ i = .int k ∧ H p = some (.lst xs) ∧ 0 ≤ k ∧ k < 2 ^ 63 ∧ xs[k.toNat]? = some v ∧ Q v H
theorem get_list : PGet X rGetL := by
  intro pins s σ H o i ov iv Q I ro ri h
  obtain ⟨p, xs, k, v, rfl, rfl, hp, h0, h1, hv, q⟩ := h
  cases ro
  obtain ⟨t, rfl⟩ := ri
  obtain ⟨its, n, r, ho, hz⟩ := I.lst hp
  obtain ⟨w, ew, rw'⟩ := r.get hv
  have hl : s.heap.IsList p its.toArray := ⟨_, ho, rfl, n, rfl⟩
  exact wpAny_getItem_list hl h0 h1 (by simpa using ew) ⟨v, H, I, rw', q⟩
def bget (k : Nat) (ρ : Env') : Option Int := match (ρ[0]? : Option (Option D)) with
  | some (some (.lst [.int x, .int y, .int z, .scr ns])) => if k = 0 then some x else if k = 1 then some y else if k = 2 then some z else none
  | _ => none
theorem BR.get {a l : Addr} {ns : List Int} {H0 H : Hp} {σ : L2.St} {ρ : Env'} {x y z n : Int} {k : Nat} (B : BR a l ns H0 H σ ρ x y z) (h : bget k ρ = some n) : [V.int x, .int y, .int z, .ref l][k]? = some (.int n) := by
  unfold bget at h
  rw [B.r0] at h
  dsimp only at h
  split at h
  · rename_i hk
    cases h
    subst hk
    rfl
  · split at h
    · rename_i hk
      cases h
      subst hk
      rfl
    · split at h
      · rename_i hk
        cases h
        subst hk
        rfl
      · cases h
def bAug (k : Nat) (f : EM) : BM := fun ρ => M.opt (bget k ρ) >>= fun o => f ρ >>= fun d => match d with
  | .int n => M.opt (bput k (o + n) ρ) >>= fun ρ' => pure (.nx ρ')
  | _ => M.fail
theorem sb_aug {k : Nat} {kk : Int} {j1 : Nat} {pn pk ps : Pos} (hk : kk = (k : Int)) (hk9 : k < 9) (hi : X.N[0]? = some x) (hv : Vis X.env.scope x) (he : PuE X WF e f) (hd : (x == ("__debug__" : Str)) = false := by decide) (hcd : (x == ("__classdict__" : Str)) = false := by decide)
    (ha : ∀ ov iv new, augStore (.Constant (.int kk) j1 pk) ov iv new = (do holding [new, ov, iv] (setItem ov iv new); release [new, ov, iv] []; pure .next) := by intros; rfl) :
    PbS X (.AugAssign (.Subscript (.Name x pn) (.Constant (.int kk) j1 pk) ps) .Add e pos) (bAug k f) := by
  intro a l ol ns H0 G
  subst hk
  refine PS_imp (ps_augS (pe_var hi hv hd hcd) (pe_int (i := (k : Int))) get_list he ip_add set_list ha) fun D' σ H ⟨ρ, x, y, z, B, h⟩ => ?_
  obtain ⟨o, e0, h⟩ := wp_opt h
  have hlt : ((k : Int) < 2 ^ 63) := by omega
  refine ⟨_, B.s0, a, _, _, _, rfl, rfl, B.ha, Int.natCast_nonneg _, hlt, B.get e0, ?_⟩
  obtain ⟨sv, er⟩ := B.view (X := X) G.hl G.ne G.sz
  refine ⟨_, ρ, sv, er, (f ρ).mono (fun d q v F' H' g r => ?_) (fun _ q => q.elim) h⟩
  have B' := B.grow g
  cases d with
  | int n =>
    rw [r.int_inv]
    obtain ⟨ρ', e1, q⟩ := wp_opt q
    obtain ⟨j, x', y', z', e2, B2⟩ := B'.put e1
    exact ⟨_, _, rfl, rfl, a, _, _, j, rfl, rfl, B'.ha, e2, q _ _ _ _ _ B2⟩
  | _ => exact q.elim
end

def bagM : List D → M D
  | [.scr _] => pure .bag
  | _ => M.fail
def takeM : List D → M D
  | [.bag, .int m] => if 1 ≤ m ∧ m < 1073741824 then M.any fun d => ∃ n : Int, d = .int n ∧ 0 ≤ n ∧ n < m else M.fail
  | _ => M.fail
def takeOk (n : Nat) (g : BM) : Prop := ∀ (ns : List Nat) (x y z : Nat) (m : Int), ns.length ≤ 63 → 1 ≤ m → m < 1073741824 →
  (g (startD n [.lst [.int x, .int y, .int z, .scr (ns.map fun n : Nat => (n : Int))], .int m])).wp (fun r => match r with
    | .rt v ρ => 0 ≤ v ∧ v < m ∧ ∃ x y z : Nat, ∃ ns, ρ[0]? = some (some (.lst [.int x, .int y, .int z, .scr ns]))
    | _ => False) (fun _ => False)
theorem tabs_bag {T : List (Addr × Str)} {H : Hp} {a l : Addr} {φ : Heap → Prop} {o' : HO} {h0 : Heap} (t : LamX.Tabs T H) (h : H a = some (.ext φ)) (hb : ∀ h, φ h ↔ bagObj l a h) (x : φ h0) : LamX.Tabs T (upd H a o') := fun p hp => by
  obtain ⟨ps, h1, h2, h3⟩ := t p hp
  have n1 : p.1 ≠ a := fun z => by
    rw [z, h] at h1
    cases h1
  refine ⟨ps, by rw [upd_ne n1]; exact h1, h2, fun pos cv hc => ?_⟩
  obtain ⟨c, e1, e2⟩ := h3 pos cv hc
  refine ⟨c, e1, ?_⟩
  rw [upd_ne]
  · exact e2
  · intro z
    subst z
    rw [h] at e2
    unfold LamX.CodeO at e2
    cases e2
    obtain ⟨oc, vs, t, q1, q2, _⟩ := id x
    obtain ⟨_, _, _, _, _, _, _, q3⟩ := (hb h0).mp x
    rw [q1] at q3
    cases q3
    cases q2
theorem take_of {P : Program} {w : World} {K : K'} {mg : Mg} {base : Heap} {x : Str} {st : Stmt} {f : Addr} {fd : FuncData} {p1 p2 : Str} (N : List Str) (k : Nat) (g : BM) (Fn : Fun K x x st f fd) (S : FnScope N [p1, p2] (defScope st)) (b : Binds K fd [p1, p2] []) (hm : mg x = some (.ref f)) (h2 : 2 ≤ N.length)
    (hb : ∀ (cdv : Value) (A : Around) (outer : List Env) (s : Shared) (H : Hp) (E : XK), Room k (A.deeper (envOfC x (defScope st) s.heap.objs.size f cdv)) → PbB (cxD P w K mg base N x st f cdv A outer s H E) (defBody st) g)
    (pl : takeOk N.length g) : Own P w K mg base (k + 1) x [p1, p2] takeM := by
  let sp0 : Sp := fun vs H Q _ => ∃ (a l : Addr) (ol : Obj) (ns : List Nat) (x y z : Nat) (m : Int), vs = [.ref a, .int m] ∧ H a = some (.lst [.int x, .int y, .int z, .ref l]) ∧ H l = some (.frz ol (.lst (ns.map fun n : Nat => V.int n))) ∧ ns.length ≤ 63 ∧ 1 ≤ m ∧ m < 1073741824 ∧ LamX.Tabs Tb.T H ∧
    ∀ (v : Int) (x y z : Nat) H', 0 ≤ v → v < m → H' a = some (.lst [.int x, .int y, .int z, .ref l]) → SameA a H H' → Q (.int v) H'
  have F0 : FnOk P w K mg base (L2.CX P w) (k + 1) f fd [p1, p2] sp0 := by
    refine Fn.okX S (fun vs H Q E h => ?_) fun cdv A outer s H vs Q E hr hsp => ?_
    · obtain ⟨a, l, ol, ns, x, y, z, m, rfl, _⟩ := h
      rfl
    · obtain ⟨a, l, ol, ns, x, y, z, m, rfl, ha, hl, hn, m1, m2, tT, q⟩ := hsp
      have hne : l ≠ a := fun e => by
        rw [e, ha] at hl
        cases hl
      have em : (ns.map fun n : Nat => V.int n) = (ns.map fun n : Nat => (n : Int)).map V.int := by
        rw [List.map_map]
        rfl
      rw [em] at hl
      refine ⟨_, hb cdv A outer s H E hr a l ol (ns.map fun n : Nat => (n : Int)) H ⟨hl, hne, by rw [List.length_map]; omega⟩, startD N.length [.lst [.int x, .int y, .int z, .scr (ns.map fun n : Nat => (n : Int))], .int m], x, y, z, ?_, ?_⟩
      · refine ⟨rfl, rfl, ?_, fun i d hi hd => ?_, ha, SameA.refl _ _, tT⟩
        · unfold L2.start startD
          simp
        · match i, hi, hd with
          | 1, _, hd => exact ⟨m, by cases hd; rfl, rfl⟩
          | j + 2, _, hd =>
            exfalso
            unfold startD at hd
            rw [List.getElem?_append_right (by simp), List.getElem?_replicate] at hd
            split at hd <;> cases hd
      · refine MM.mono _ (fun r q1 => ?_) (fun _ z => z) (pl ns x y z m hn m1 m2)
        cases r with
        | nx ρ => exact q1.elim
        | rt v ρ =>
          obtain ⟨v0, v1, x', y', z', ns', e1⟩ := q1
          intro σ' H' x2 y2 z2 B
          have e2 := B.r0
          rw [e1] at e2
          cases e2
          exact q v x' y' z' H' v0 v1 B.ha B.keep
  refine ⟨⟨f, fd, hm, ?_, Fn.kp, b⟩⟩
  refine FnOk.ret F0 (fun vs H Q E h => h.len) fun vs H Q E hs h hok => ?_
  obtain ⟨F, ds, sF, r, hlen, z⟩ := hs
  unfold takeM at z
  split at z
  · rename_i m
    split at z
    · rename_i hm2
      cases r with
      | cons r1 r =>
        cases r with
        | cons r2 r =>
          cases r
          cases r2
          cases r1 with
          | bag h1 h2' h3 h4 =>
            rename_i a l φ ol ns
            obtain ⟨x, y, zz, rt, ok1⟩ := bag_open hok (sF _ _ h1) h2'
            have hne : l ≠ a := fun e => by
              rw [e, h1] at h3
              cases h3
            refine ⟨_, rt, ok1, a, l, ol, ns, x, y, zz, m, rfl, upd_same, by rw [upd_ne hne]; exact sF _ _ h3, h4, hm2.1, hm2.2, tabs_bag sF.t (sF _ _ h1) h2' (hok _ _ (sF _ _ h1)).1, fun v x' y' z' H1' v0 v1 e1 kp h' ok' => ?_⟩
            obtain ⟨rt2, ok2⟩ := bag_shut (φ := φ) ok' e1 h2'
            have hh : SameN H (upd H1' a (.ext φ)) := by
              refine ⟨fun b o e nt => ?_, fun b e => ?_, fun t => ?_⟩
              · by_cases hb : b = a
                · subst hb
                  rw [upd_same, ← sF _ _ h1]
                  exact e
                · rw [upd_ne hb]
                  exact kp.kp b o hb (by rw [upd_ne hb]; exact e) nt
              · by_cases hb : b = a
                · subst hb
                  rw [upd_same]
                  exact fun z => nomatch z
                · rw [upd_ne hb]
                  exact kp.nn b hb (by rw [upd_ne hb]; exact e)
              · exact tabs_wr (kp.ts (tabs_bag t (sF _ _ h1) h2' (hok _ _ (sF _ _ h1)).1)) e1 rfl
            exact ⟨_, rt2, ok2, z _ ⟨v, rfl, v0, v1⟩ (.int v) F _ ⟨Same.refl F, hh, sF.trans hh, fun _ q _ => q⟩ (.int v)⟩
    · exact z.elim
  · exact z.elim
end P5

namespace P5
open PySem L2 PyProof.Rows
variable [Tb]

theorem reps_ints {K : K'} {mg : Mg} {F : Hp} : ∀ {vs : List V} {ms : List Nat}, RepL K mg F vs (ms.map fun n : Nat => D.int n) → vs = ms.map fun n : Nat => V.int n
  | [], [], _ => rfl
  | _ :: _, _ :: _, .cons r t => by rw [r.int_inv, reps_ints t]; rfl
  | _ :: _, [], r => by cases r
  | [], _ :: _, r => by cases r
theorem bag_of {P : Program} {w : World} {K : K'} {mg : Mg} {base : Heap} {x : Str} {st : Stmt} {f : Addr} {fd : FuncData} {p1 : Str} (N : List Str) (k : Nat) (f3 : EM) (Fn : Fun K x x st f fd) (S : FnScope N [p1] (defScope st)) (b : Binds K fd [p1] []) (hm : mg x = some (.ref f))
    {e3 : Expr} {i0 i1 i2 : Nat} {q0 q1 q2 ql qr : Pos} (hbody : defBody st = [.Return (some (.List [.Constant (.int 0) i0 q0, .Constant (.int 1234567891) i1 q1, .Constant (.int 0) i2 q2, e3] ql)) qr])
    (hb : ∀ (cdv : Value) (A : Around) (outer : List Env) (s : Shared) (H : Hp) (E : XK), Room k (A.deeper (envOfC x (defScope st) s.heap.objs.size f cdv)) → PuFr (cxD P w K mg base N x st f cdv A outer s H E) (fun cls d _ H' => E cls d H') e3 f3 ∧
      starEach [e3] (cxD P w K mg base N x st f cdv A outer s H E).env = (false, eval e3 (cxD P w K mg base N x st f cdv A outer s H E).env) :: [])
    (pl : ∀ ns : List Int, (f3 (startD N.length [.scr ns])).wp (fun d => ∃ ms : List Nat, d = .lst (ms.map fun n : Nat => D.int n) ∧ ms.length ≤ 63) (fun _ => False)) : Own P w K mg base (k + 1) x [p1] bagM := by
  let sp0 : Sp := fun vs H Q _ => ∃ (F : Hp) (s : Addr) (ns : List Int), vs = [.ref s] ∧ Sub F H ∧ Rep K mg F (.ref s) (.scr ns) ∧
    ∀ (a l : Addr) (ms : List Nat) (F' H' : Hp), H a = none → H l = none → a ≠ l → H' a = some (.lst [.int 0, .int 1234567891, .int 0, .ref l]) → H' l = some (.lst (ms.map fun n : Nat => V.int n)) → ms.length ≤ 63 → Grow F H F' H' → F' a = none → F' l = none → Q (.ref a) H'
  have F0 : FnOk P w K mg base (L2.CX P w) (k + 1) f fd [p1] sp0 := by
    refine Fn.okX S (fun vs H Q E h => ?_) fun cdv A outer s H vs Q E hr hsp => ?_
    · obtain ⟨F, s, ns, rfl, _⟩ := h
      rfl
    · obtain ⟨F, sa, ns, rfl, sF, rs, q⟩ := hsp
      obtain ⟨h3, hst⟩ := hb cdv A outer s H E hr
      refine ⟨_, by
        rw [hbody]
        exact pss_one (ps_ret (pe_lst (pa_cons pe_int (pa_cons pe_int (pa_cons pe_int (pa_cons h3 pa_nil hst)))))), ?_⟩
      have hl : (L2.start N [V.ref sa]).length = (startD N.length [D.scr ns]).length := by
        unfold L2.start startD
        simp
      refine ⟨F, startD N.length [.scr ns], sF, ⟨hl, fun i d hd => ?_⟩, MM.mono _ (fun d z l F' H' g hF hH o => ?_) (fun _ z => z.elim) (pl ns)⟩
      · match i, hd with
        | 0, hd => cases hd; exact ⟨_, rfl, rs⟩
        | j + 1, hd =>
          exfalso
          unfold startD at hd
          rw [List.getElem?_append_right (by simp), List.getElem?_replicate] at hd
          split at hd <;> cases hd
      · obtain ⟨ms, rfl, hms⟩ := z
        refine ⟨szOk (by show 4 ≤ 16777216; decide), fun a ha => ?_⟩
        cases o with
        | lst hl rl _ =>
          have hne : a ≠ l := fun e => by
            rw [e, hl] at ha
            cases ha
          have hHa : H a = none := by
            cases e : H a with
            | none => rfl
            | some u =>
              exact (g.hs.nn _ (by rw [e]; exact fun z => nomatch z) ha).elim
          refine q a l ms F' _ hHa hH hne upd_same (by rw [upd_ne hne.symm, hl, reps_ints rl]) hms (g.trans (Grow.wild g.sub ha)) (g.sub.free ha) hF
  refine ⟨⟨f, fd, hm, ?_, Fn.kp, b⟩⟩
  refine FnOk.ret F0 (fun vs H Q E h => h.len) fun vs H Q E hs h hok => ?_
  obtain ⟨F, ds, sF, r, hlen, z⟩ := hs
  unfold bagM at z
  split at z
  · rename_i ns
    cases r with
    | cons r1 r =>
      cases r
      obtain ⟨sa, rfl, _⟩ := r1.scr_inv
      refine ⟨H, Ret.refl H, hok, F, sa, ns, rfl, sF, r1, fun a l ms F' H' ha hl hne ea el hms g fa fl h' ok' => ?_⟩
      obtain ⟨zl, its, n, rv, ob⟩ := ok' l _ el
      have ok2 : HOk P w (upd H' l (.frz { cls := .type "list", data := .seq its.toArray n } (.lst (ms.map fun n : Nat => V.int n)))) h' := hok_upd ok' el rfl ⟨ob, zl, its, n, rv, ob⟩
      have rt2 := ret_upd (o := .frz { cls := .type "list", data := .seq its.toArray n } (.lst (ms.map fun n : Nat => V.int n))) el rfl
      have ea2 : (upd H' l (.frz { cls := .type "list", data := .seq its.toArray n } (.lst (ms.map fun n : Nat => V.int n)))) a = some (.lst [.int ((0 : Nat) : Int), .int ((1234567891 : Nat) : Int), .int ((0 : Nat) : Int), .ref l]) := by
        rw [upd_ne hne]
        exact ea
      obtain ⟨rt3, ok3⟩ := bag_shut (φ := bagObj l a) ok2 ea2 (fun _ => Iff.rfl)
      refine ⟨_, rt2.trans rt3, ok3, ?_⟩
      have ea2' : (upd H' l (.frz { cls := .type "list", data := .seq its.toArray n } (.lst (ms.map fun n : Nat => V.int n)))) a = some (.lst [.int 0, .int 1234567891, .int 0, .ref l]) := by
        rw [upd_ne hne]
        exact ea
      have fs : Same F' (upd (upd F' l (.frz { cls := .type "list", data := .seq its.toArray n } (.lst (ms.map fun n : Nat => V.int n)))) a (.ext (bagObj l a))) := (same_upd fl).trans (same_upd (by rw [upd_ne hne]; exact fa))
      refine z (.ref a) (upd (upd F' l (.frz { cls := .type "list", data := .seq its.toArray n } (.lst (ms.map fun n : Nat => V.int n)))) a (.ext (bagObj l a))) _ ⟨g.fs.trans fs, (g.hs.wr hl el).wr ha ea2', ⟨fun b o e => ?_, fun b o e => ?_, tabs_wr (tabs_wr g.sub.t el rfl) ea2' rfl⟩, fun b h1 h2 => ?_⟩ (.bag upd_same (fun _ => Iff.rfl) (by rw [upd_ne hne.symm, upd_same]) hms)
      · by_cases h1 : b = a
        · subst h1
          rw [upd_same] at e ⊢
          exact e
        · rw [upd_ne h1] at e ⊢
          by_cases h2 : b = l
          · subst h2
            rw [upd_same] at e ⊢
            exact e
          · rw [upd_ne h2] at e ⊢
            exact g.sub _ _ e
      · by_cases h1 : b = a
        · subst h1
          rw [upd_same] at e
          cases e
          rfl
        · rw [upd_ne h1] at e
          by_cases h2 : b = l
          · subst h2
            rw [upd_same] at e
            cases e
            rfl
          · rw [upd_ne h2] at e
            exact g.sub.n _ _ e
      · have h3 : b ≠ a := fun q => by rw [q] at h2; exact h2 ha
        have h4 : b ≠ l := fun q => by rw [q] at h2; exact h2 hl
        rw [upd_ne h3, upd_ne h4]
        exact g.new b h1 h2
  · exact z.elim
end P5

namespace P5
open PySem L2 PyProof.Rows
variable [Tb]

section
variable {prog : Program} {w : World} {A : Around} {E : Value → Shared → Prop} {s : Shared} {z TI TO i1 i2 T : Addr} {fp1 fp2 : List Addr} {n1 n2 i : Nat} {P1 P2 : Nat → Value → Prop} {St1 St2 : Nat → Heap → Prop} {f : Bool} {oT : Obj}
theorem zipH_item {Q : Option Value → Shared → Prop} (S : ZipSep2 z TI TO i1 i2 fp1 fp2) (D1 : Draws prog w A.in1 i1 fp1 n1 P1 St1) (D2 : Draws prog w A.in1 i2 fp2 n2 P2 St2)
    (hz : IsZipHeld s.heap z TI TO T f) (hT : s.heap.get? T = some oT) (hTI : IsTupOf2 s.heap TI (.ref i1) (.ref i2)) (st1 : St1 i s.heap) (st2 : St2 i s.heap) (lt1 : i < n1) (lt2 : i < n2)
    (hQ : ∀ x1 x2 h' tk, P1 i x1 → P2 i x2 → IsZipHeld h' z TI TO T true → St1 (i + 1) h' → St2 (i + 1) h' → IsTupOf2 h' s.heap.objs.size x1 x2 → h'.objs.size = s.heap.objs.size + 1 → (∀ c o, c ≠ z → c ≠ i1 → c ≠ i2 → s.heap.get? c = some o → h'.get? c = some o) →
      Q (some (.ref s.heap.objs.size)) { s with heap := h', toks := tk }) : wpAny (model prog w) A (pyNext (.ref z)) Q E s := by
  have hTy : s.TypeIs (.ref z) "zip" := ⟨_, hz, rfl⟩
  unfold pyNext
  refine wpAny_bind (wpAny_attempt (wpAny_callSpecial?_slot (name := Str.ofString "__next__") hTy F.slot_zip_next (wpAny_call_entry F.slot_zip_next hTy F.entry_zip_next ?_ (F.args_zip_next_1 _))))
  obtain ⟨hp, g, d, tk0, os⟩ := s
  show wpAny _ _ (field (.ref z) 2 >>= _) _ _ _
  refine wpAny_bind (wpAny_field hz rfl (x := .bool false) rfl ?_); show wpAny _ _ (field (.ref z) 3 >>= _) _ _ _
  refine wpAny_bind (wpAny_field hz rfl (x := .ref TI) rfl ?_); refine wpAny_bind (wpAny_seqItems hTI rfl ?_); show wpAny _ _ (Builtin.SmallTypes.ownedTupleIsFree (.ref z) >>= _) _ _ _
  refine wpAny_bind (wpAny_tupleHeld_zip hz hT fun h₁ hz₁ hs₁ => ?_); replace hs₁ : Heap.SameBut z hp h₁ := hs₁
  simp only [Bool.false_eq_true, if_false]
  refine wpAny_bind ?_
  rw [← Array.forIn_toList]; simp only [List.forIn_cons, List.forIn_nil]
  refine wpAny_bind (wpAny_bind (wpAny_holding ?_)); show wpAny _ _ (Builtin.SmallTypes.nextOf (.ref i1) >>= _) _ _ ⟨h₁, g, d, tk0, os⟩
  refine wpAny_bind (D1.item i _ _ _ lt1 (D1.over st1 hs₁ S.zf1) fun x1 h₂ tk1 hx1 sn1 hs₂ => wpAny_pure (wpAny_pure ?_)); replace hs₂ : Heap.SameBut i1 h₁ h₂ := hs₂
  refine wpAny_bind (wpAny_bind (wpAny_holding ?_)); show wpAny _ _ (Builtin.SmallTypes.nextOf (.ref i2) >>= _) _ _ ⟨h₂, g, d, tk1, os⟩
  refine wpAny_bind (D2.item i _ _ _ lt2 (D2.over (D2.over st2 hs₁ S.zf2) hs₂ S.sep1_2) fun x2 h₃ tk2 hx2 sn2 hs₃ => wpAny_pure (wpAny_pure (wpAny_pure ?_))); replace hs₃ : Heap.SameBut i2 h₂ h₃ := hs₃
  show wpAny _ _ (newTuple [x1, x2] >>= _) _ _ ⟨h₃, g, d, tk2, os⟩
  refine wpAny_bind (wpAny_newTuple ?_)
  have hsz : h₃.objs.size = hp.objs.size := by rw [hs₃.1, hs₂.1, hs₁.1]
  have hz3 : IsZipHeld h₃ z TI TO T true := hs₃.extBut _ _ S.zi2 (hs₂.extBut _ _ S.zi1 hz₁)
  have hk : ∀ c o, c ≠ z → c ≠ i1 → c ≠ i2 → hp.get? c = some o → h₃.get? c = some o := fun c o c1 c2 c3 e => hs₃.extBut _ _ c3 (hs₂.extBut _ _ c2 (hs₁.extBut _ _ c1 e))
  refine wpAny_pure ⟨_, rfl, wpAny_pure ?_⟩
  have hpz : IsTupOf2 (h₃.push { cls := .type "tuple", data := .seq #[x1, x2] }) h₃.objs.size x1 x2 := Heap.get?_push_size _ rfl
  have h4 : (h₃.push { cls := .type "tuple", data := .seq #[x1, x2] }).objs.size = h₃.objs.size + 1 := Heap.size_push ..
  show Q (some (.ref h₃.objs.size)) _
  rw [hsz] at hpz h4 ⊢
  exact hQ x1 x2 _ tk2 hx1 hx2 (Heap.get?_push_of_some _ hz3) (D1.frame _ _ _ (D1.over sn1 hs₃ S.sep2_1) fun b _ o e => Heap.get?_push_of_some _ e) (D2.frame _ _ _ sn2 fun b _ o e => Heap.get?_push_of_some _ e) hpz h4 fun c o c1 c2 c3 e => Heap.get?_push_of_some _ (hk c o c1 c2 c3 e)
theorem zipH_end {Q : Option Value → Shared → Prop} (S : ZipSep2 z TI TO i1 i2 fp1 fp2) (D1 : Draws prog w A.in1 i1 fp1 n1 P1 St1) (D2 : Draws prog w A.in1 i2 fp2 n2 P2 St2)
    (hz : IsZipHeld s.heap z TI TO T f) (hT : s.heap.get? T = some oT) (hTI : IsTupOf2 s.heap TI (.ref i1) (.ref i2)) (st1 : St1 i s.heap) (st2 : St2 i s.heap) (le1 : i ≤ n1) (le2 : i ≤ n2) (hend : i = n1 ∨ i = n2)
    (hQ : ∀ h' tk, (∀ c o, c ≠ z → c ≠ i1 → c ≠ i2 → s.heap.get? c = some o → h'.get? c = some o) → Q none { s with heap := h', toks := tk }) : wpAny (model prog w) A (pyNext (.ref z)) Q E s := by
  have hTy : s.TypeIs (.ref z) "zip" := ⟨_, hz, rfl⟩
  have fin : ∀ h' tk e, (∀ c o, c ≠ z → c ≠ i1 → c ≠ i2 → s.heap.get? c = some o → h'.get? c = some o) → (∃ o, h'.get? e = some o ∧ o.cls = .type "StopIteration") → wpAny (model prog w) A (do
      if ← isInstance (.ref e) (.type "StopIteration") then pure none else throw (.ref e)) Q E { s with heap := h', toks := tk } := fun h' tk e hk ⟨o, ho, hc⟩ =>
    wpAny_bind (wpAny_isInstance (T := "StopIteration") (b := true) ⟨o, ho, hc⟩ isSubtype_stop (wpAny_pure (hQ _ _ hk)))
  unfold pyNext
  refine wpAny_bind (wpAny_attempt (wpAny_callSpecial?_slot (name := Str.ofString "__next__") hTy F.slot_zip_next (wpAny_call_entry F.slot_zip_next hTy F.entry_zip_next ?_ (F.args_zip_next_1 _))))
  obtain ⟨hp, g, d, tk0, os⟩ := s
  show wpAny _ _ (field (.ref z) 2 >>= _) _ _ _
  refine wpAny_bind (wpAny_field hz rfl (x := .bool false) rfl ?_); show wpAny _ _ (field (.ref z) 3 >>= _) _ _ _
  refine wpAny_bind (wpAny_field hz rfl (x := .ref TI) rfl ?_); refine wpAny_bind (wpAny_seqItems hTI rfl ?_); show wpAny _ _ (Builtin.SmallTypes.ownedTupleIsFree (.ref z) >>= _) _ _ _
  refine wpAny_bind (wpAny_tupleHeld_zip hz hT fun h₁ hz₁ hs₁ => ?_); replace hs₁ : Heap.SameBut z hp h₁ := hs₁
  simp only [Bool.false_eq_true, if_false]
  refine wpAny_bind ?_
  rw [← Array.forIn_toList]; simp only [List.forIn_cons, List.forIn_nil]
  refine wpAny_bind (wpAny_bind (wpAny_holding ?_)); show wpAny _ _ (Builtin.SmallTypes.nextOf (.ref i1) >>= _) _ _ ⟨h₁, g, d, tk0, os⟩
  by_cases lt1 : i < n1
  · have e2 : i = n2 := by omega
    refine wpAny_bind (D1.item i _ _ _ lt1 (D1.over st1 hs₁ S.zf1) fun x1 h₂ tk1 hx1 sn1 hs₂ => wpAny_pure (wpAny_pure ?_)); replace hs₂ : Heap.SameBut i1 h₁ h₂ := hs₂
    refine wpAny_bind (wpAny_bind (wpAny_holding ?_)); show wpAny _ _ (Builtin.SmallTypes.nextOf (.ref i2) >>= _) _ _ ⟨h₂, g, d, tk1, os⟩
    refine wpAny_bind (D2.done ⟨h₂, g, d, tk1, os⟩ _ _ (by rw [← e2]; exact D2.over (D2.over st2 hs₁ S.zf2) hs₂ S.sep1_2) fun q e hq he => ?_)
    exact fin q tk1 e (fun c o c1 c2 c3 x => hq _ _ c3 (hs₂.extBut _ _ c2 (hs₁.extBut _ _ c1 x))) he
  · have e1 : i = n1 := by omega
    refine wpAny_bind (D1.done ⟨h₁, g, d, tk0, os⟩ _ _ (by rw [← e1]; exact D1.over st1 hs₁ S.zf1) fun q e hq he => ?_)
    exact fin q tk0 e (fun c o c1 c2 c3 x => hq _ _ c2 (hs₁.extBut _ _ c1 x)) he
def ZG (z TI TO i1 i2 S : Addr) (St1 St2 : Nat → Heap → Prop) (i : Nat) (h : Heap) : Prop := IsTupOf2 h TI (.ref i1) (.ref i2) ∧ St1 i h ∧ St2 i h ∧
  ((IsZip h z TI TO .none ∧ ∃ a b, IsTupOf2 h TO a b) ∨ ∃ T f oT, IsZipHeld h z TI TO T f ∧ h.get? T = some oT ∧ T ≠ z ∧ T ≠ i1 ∧ T ≠ i2 ∧ T ≠ TO ∧ T ≠ S ∧ ∃ oO, h.get? TO = some oO)
theorem zg_item {Sl : Addr} {Q : Option Value → Shared → Prop} (S : ZipSep2 z TI TO i1 i2 fp1 fp2) (D1 : Draws prog w A.in1 i1 fp1 n1 P1 St1) (D2 : Draws prog w A.in1 i2 fp2 n2 P2 St2) (hS : Sl < s.heap.objs.size)
    (G : ZG z TI TO i1 i2 Sl St1 St2 i s.heap) (lt1 : i < n1) (lt2 : i < n2)
    (hQ : ∀ x1 x2 h' tk, P1 i x1 → P2 i x2 → ZG z TI TO i1 i2 Sl St1 St2 (i + 1) h' → IsTupOf2 h' s.heap.objs.size x1 x2 → (∀ c o, c ∉ [z, TO, i1, i2] → s.heap.get? c = some o → h'.get? c = some o) →
      Q (some (.ref s.heap.objs.size)) { s with heap := h', toks := tk }) : wpAny (model prog w) A (pyNext (.ref z)) Q E s := by
  obtain ⟨hTI, st1, st2, hz⟩ := G
  have lt : ∀ {c o}, s.heap.get? c = some o → s.heap.objs.size ≠ c := fun e => Nat.ne_of_gt (Heap.lt_size e)
  obtain ⟨o1, e1⟩ := D1.live _ _ st1
  obtain ⟨o2, e2⟩ := D2.live _ _ st2
  rcases hz with ⟨hz, a, b, hTO⟩ | ⟨T, f, oT, hz, hT, r1, r2, r3, r4, r5, oO, r6⟩
  · refine wpAny_pyNext_zipD2_item S D1 D2 hz hTI hTO st1 st2 lt1 lt2 fun x1 x2 h' tk p1 p2 a1 a2 a3 a4 a5 a6 hk => ?_
    exact hQ x1 x2 h' tk p1 p2 ⟨hk _ _ S.TIz S.TITO S.TIi1 S.TIi2 hTI, a3, a4, .inr ⟨_, false, _, a1, a5, lt hz, lt e1, lt e2, lt hTO, Nat.ne_of_gt hS, _, a2⟩⟩ a5 fun c o hc => hk c o (fun x => hc (by simp [x])) (fun x => hc (by simp [x])) (fun x => hc (by simp [x])) (fun x => hc (by simp [x]))
  · refine zipH_item S D1 D2 hz hT hTI st1 st2 lt1 lt2 fun x1 x2 h' tk p1 p2 a1 a3 a4 a5 a6 hk => ?_
    exact hQ x1 x2 h' tk p1 p2 ⟨hk _ _ S.TIz S.TIi1 S.TIi2 hTI, a3, a4, .inr ⟨T, true, oT, a1, hk _ _ r1 r2 r3 hT, r1, r2, r3, r4, r5, oO, hk _ _ S.TOz S.Ti1 S.Ti2 r6⟩⟩ a5 fun c o hc => hk c o (fun x => hc (by simp [x])) (fun x => hc (by simp [x])) (fun x => hc (by simp [x]))
theorem zg_end {Sl : Addr} {Q : Option Value → Shared → Prop} (S : ZipSep2 z TI TO i1 i2 fp1 fp2) (D1 : Draws prog w A.in1 i1 fp1 n1 P1 St1) (D2 : Draws prog w A.in1 i2 fp2 n2 P2 St2)
    (G : ZG z TI TO i1 i2 Sl St1 St2 i s.heap) (le1 : i ≤ n1) (le2 : i ≤ n2) (hend : i = n1 ∨ i = n2)
    (hQ : ∀ h' tk, (∀ c o, c ∉ [z, TO, i1, i2] → s.heap.get? c = some o → h'.get? c = some o) → Q none { s with heap := h', toks := tk }) : wpAny (model prog w) A (pyNext (.ref z)) Q E s := by
  obtain ⟨hTI, st1, st2, hz⟩ := G
  rcases hz with ⟨hz, a, b, hTO⟩ | ⟨T, f, oT, hz, hT, r1, r2, r3, r4, r5, oO, r6⟩
  · exact wpAny_pyNext_zipD2_end S D1 D2 hz hTI hTO st1 st2 le1 le2 hend fun h' tk hk => hQ h' tk fun c o hc => hk c o (fun x => hc (by simp [x])) (fun x => hc (by simp [x])) (fun x => hc (by simp [x])) (fun x => hc (by simp [x]))
  · exact zipH_end S D1 D2 hz hT hTI st1 st2 le1 le2 hend fun h' tk hk => hQ h' tk fun c o hc => hk c o (fun x => hc (by simp [x])) (fun x => hc (by simp [x])) (fun x => hc (by simp [x]))
theorem ZG.over {Sl : Addr} {h h' : Heap} (S : ZipSep2 z TI TO i1 i2 fp1 fp2) (D1 : Draws prog w A i1 fp1 n1 P1 St1) (D2 : Draws prog w A i2 fp2 n2 P2 St2) (G : ZG z TI TO i1 i2 Sl St1 St2 i h) (hz : Sl ≠ z) (h1 : Sl ≠ TI) (h2 : Sl ≠ TO) (f1 : Sl ∉ fp1) (f2 : Sl ∉ fp2)
    (k : ∀ c o, c ≠ Sl → h.get? c = some o → h'.get? c = some o) : ZG z TI TO i1 i2 Sl St1 St2 i h' := by
  obtain ⟨hTI, st1, st2, q⟩ := G
  refine ⟨k _ _ h1.symm hTI, D1.frame _ _ _ st1 fun b hb o e => k b o (fun z => f1 (z ▸ hb)) e, D2.frame _ _ _ st2 fun b hb o e => k b o (fun z => f2 (z ▸ hb)) e, ?_⟩
  rcases q with ⟨q, a, b, hTO⟩ | ⟨T, f, oT, q, hT, r1, r2, r3, r4, r5, oO, r6⟩
  · exact .inl ⟨k _ _ hz.symm q, a, b, k _ _ h2.symm hTO⟩
  · exact .inr ⟨T, f, oT, k _ _ hz.symm q, k _ _ r5 hT, r1, r2, r3, r4, r5, oO, k _ _ h2.symm r6⟩
end
end P5

namespace P5
open PySem L2 PyProof.Rows
variable [Tb]
theorem zip_no_len : typeLookup (.type "zip") "__len__" = pure none := am_miss_of_fast (by decide +kernel)
theorem zip_no_hint : typeLookup (.type "zip") "__length_hint__" = pure none := am_miss_of_fast (by decide +kernel)
theorem grow_lst {F0 H0 F H : Hp} {a : Addr} {o : HO} (g : Grow F0 H0 F H) (hF : F a = none) (h0 : H0 a = none) {vs : List V} (hS : H a = some (.lst vs)) : Grow F0 H0 F (upd H a o) :=
  ⟨g.fs, g.hs.wr h0 hS, ⟨fun b u e => by rw [upd_ne (ne_of_none e hF)]; exact g.sub b u e, g.sub.n, tabs_wr g.sub.t hS rfl⟩, g.new⟩
section
variable {X : Cx} {pins : List (Addr × Obj)} {σ : L2.St} {z TI TO i1 i2 Sl : Addr} {fp1 fp2 : List Addr} {n1 n2 : Nat} {P1 P2 : Nat → Value → Prop} {St1 St2 : Nat → Heap → Prop} {R : Result → Shared → Prop} {A : Around} {F0 H0 : Hp} {ds : List D}
theorem zip_loop (res : Value) (S : ZipSep2 z TI TO i1 i2 fp1 fp2) (D1 : Draws X.prog X.w A.in1.in1 i1 fp1 n1 P1 St1) (D2 : Draws X.prog X.w A.in1.in1 i2 fp2 n2 P2 St2) (hz : Sl ≠ z) (h1 : Sl ≠ TI) (h2 : Sl ≠ TO) (f1 : Sl ∉ fp1) (f2 : Sl ∉ fp2) (h0 : H0 Sl = none)
    (hn : ds.length = min n1 n2) (hsz : ds.length ≤ 16777216) (hrep : ∀ i x1 x2, P1 i x1 → P2 i x2 → ∃ v1 v2 d1 d2, RelV v1 x1 ∧ RelV v2 x2 ∧ Rep X.K X.mg F0 v1 d1 ∧ Rep X.K X.mg F0 v2 d2 ∧ ds[i]? = some (.tup [d1, d2]))
    (hR : ∀ s' H' F' vs, Inv X pins σ H' s' → Grow F0 H0 F' H' → F' Sl = none → H' Sl = some (.lst vs) → RepL X.K X.mg F' vs ds → R (.ok (.ret res)) s') :
    ∀ (k i : Nat) (s : Shared) (F H : Hp) (vs : List V), ds.length - i = k → i ≤ ds.length → Inv X pins σ H s → Grow F0 H0 F H → F Sl = none → H Sl = some (.lst vs) → RepL X.K X.mg F vs (ds.take i) → (∀ b ∈ [z, TO, i1, i2], FpOk X pins H b) → ZG z TI TO i1 i2 Sl St1 St2 i s.heap →
      codeAny (model X.prog X.w) A (.builtin "list.extend.loop" ⟨[.ref Sl, .ref z, res], []⟩) R s := by
  intro k
  induction k with
  | zero =>
    intro i s F H vs hk hi I g hF hS r hf G
    have e : i = ds.length := by omega
    refine codeAny_builtin PySem.F.entry_extend_loop ?_
    rw [Around.under_plainId PySem.F.plain_extend_loop _]
    show wpAny _ A.in1 (pyNext (.ref z) >>= _) _ _ s
    refine wpAny_bind (zg_end S D1 D2 G (by omega) (by omega) (by omega) fun h' tk hk => ?_)
    rw [e, List.take_length] at r
    exact wpAny_pure (hR _ H F vs (I.turnedL (t' := tk) (ch := [z, TO, i1, i2]) (fun b o hb e => hk b o hb e) hf) g hF hS r)
  | succ k ih =>
    intro i s F H vs hk hi I g hF hS r hf G
    have hlt : i < ds.length := by omega
    refine codeAny_builtin PySem.F.entry_extend_loop ?_
    rw [Around.under_plainId PySem.F.plain_extend_loop _]
    show wpAny _ A.in1 (pyNext (.ref z) >>= _) _ _ s
    have hSlt : Sl < s.heap.objs.size := I.hok.lt hS
    refine wpAny_bind (zg_item S D1 D2 hSlt G (by omega) (by omega) fun x1 x2 h' tk p1 p2 G' hT hk => ?_)
    obtain ⟨v1, v2, d1, d2, rv1, rv2, rp1, rp2, ed⟩ := hrep i x1 x2 p1 p2
    have hTn : H s.heap.objs.size = none := I.hok.fresh (Nat.le_refl _)
    have I1 : Inv X pins σ (upd H s.heap.objs.size (.tup [v1, v2])) { s with heap := h', toks := tk } :=
      I.turnedNew (t' := tk) (ch := [z, TO, i1, i2]) (fun b o hb e => hk b o hb e) hf (Nat.le_refl _) ⟨by show 2 ≤ sizeLine; decide, [x1, x2], .cons rv1 (.cons rv2 .nil), ⟨_, hT, rfl, _, rfl⟩⟩
    have hne : Sl ≠ s.heap.objs.size := ne_of_none hS hTn
    have hS1 : upd H s.heap.objs.size (.tup [v1, v2]) Sl = some (.lst vs) := by rw [upd_ne hne]; exact hS
    obtain ⟨its, n, rv, eo, hz'⟩ := I1.lst hS1
    have hvl : vs.length = i := by
      rw [r.length, List.length_take]
      omega
    have hil := rv.length
    show wpAny _ A.in1 (updateSeq Sl (·.push (.ref s.heap.objs.size)) >>= _) _ _ _
    refine wpAny_bind (wpAny_updateSeq eo rfl ?_ (by rw [List.size_toArray, ← hil]; exact hz') (by rw [Array.size_push, List.size_toArray, ← hil]; omega))
    have hz2 : (vs ++ [V.ref s.heap.objs.size]).length ≤ sizeLine := by
      rw [List.length_append, List.length_singleton]
      exact szOk (by omega)
    have I2 := I1.lset (t' := tk) (its' := its ++ [.ref s.heap.objs.size]) hS1 eo (f := (·.push (.ref s.heap.objs.size))) (by simp) (rv.append (show Vals [V.ref s.heap.objs.size] [Value.ref s.heap.objs.size] from .cons rfl .nil)) hz2
    have g1 := g.trans (Grow.made (o := .tup [v1, v2]) g.sub hTn)
    have hF1 : upd F s.heap.objs.size (.tup [v1, v2]) Sl = none := by rw [upd_ne hne]; exact hF
    refine wpAny_pure ⟨plainId_quiet PySem.F.plain_extend_loop _, ih (i + 1) _ (upd F s.heap.objs.size (.tup [v1, v2])) _ (vs ++ [.ref s.heap.objs.size]) (by omega) hlt I2 (grow_lst g1 hF1 h0 hS1) hF1 upd_same ?_ (fun b hb => ?_) (G'.over S D1 D2 hz h1 h2 f1 f2 fun c o hc e => (Heap.get?_update_other _ _ (Ne.symm hc)).trans e)⟩
    · have hFn : F s.heap.objs.size = none := g.sub.free hTn
      have et : ds.take (i + 1) = ds.take i ++ [.tup [d1, d2]] := by
        rw [List.take_succ, ed]
        rfl
      rw [et]
      refine (r.grow (same_upd hFn)).append (.cons (.tup upd_same (.cons (rp1.grow (g.fs.trans (same_upd hFn))) (.cons (rp2.grow (g.fs.trans (same_upd hFn))) .nil)) (by show 2 ≤ 16777216; decide)) .nil)
    · have q := hf b hb
      refine ⟨?_, q.2⟩
      have hbS : b ≠ Sl := fun e => by
        have := q.1
        rw [e, hS] at this
        cases this
      have hbT : b ≠ s.heap.objs.size := fun e => by
        obtain ⟨hTI, st1, st2, hz3⟩ := G
        have lt : ∀ {c o}, s.heap.get? c = some o → b ≠ c → True := fun _ _ => trivial
        obtain ⟨o1, e1⟩ := D1.live _ _ st1
        obtain ⟨o2, e2⟩ := D2.live _ _ st2
        have hzz : ∃ o, s.heap.get? z = some o := by
          rcases hz3 with ⟨q, _⟩ | ⟨_, _, _, q, _⟩
          · exact ⟨_, q⟩
          · exact ⟨_, q⟩
        obtain ⟨oz, ez⟩ := hzz
        have hTO : b = TO → False := fun e' => by
          have : ∃ o, s.heap.get? TO = some o := by
            rcases hz3 with ⟨_, _, _, q⟩ | ⟨_, _, _, _, _, _, _, _, _, _, o, q⟩
            · exact ⟨_, q⟩
            · exact ⟨o, q⟩
          obtain ⟨o, q⟩ := this
          have := Heap.lt_size q
          rw [← e', e] at this
          exact Nat.lt_irrefl _ this
        simp only [List.mem_cons, List.not_mem_nil, or_false] at hb
        rcases hb with hb | hb | hb | hb
        · have := Heap.lt_size ez
          rw [← hb, e] at this
          exact Nat.lt_irrefl _ this
        · exact hTO hb
        · have := Heap.lt_size e1
          rw [← hb, e] at this
          exact Nat.lt_irrefl _ this
        · have := Heap.lt_size e2
          rw [← hb, e] at this
          exact Nat.lt_irrefl _ this
      rw [upd_ne hbS, upd_ne hbT]
      exact q.1
theorem call_listZip {s : Shared} {H : Hp} {F0 : Hp} {ds : List D} {Q : VK} (hc : X.calm = true) (I : Inv X pins σ H s) (sF : Sub F0 H) (S : ZipSep2 z TI TO i1 i2 fp1 fp2) (D1 : ∀ A : Around, A.handled = none → Draws X.prog X.w A i1 fp1 n1 P1 St1) (D2 : ∀ A : Around, A.handled = none → Draws X.prog X.w A i2 fp2 n2 P2 St2)
    (lt : ∀ b, b = z ∨ b = TI ∨ b = TO ∨ b ∈ fp1 ∨ b ∈ fp2 → b < s.heap.objs.size) (hn : ds.length = min n1 n2) (hsz : ds.length ≤ 16777216) (hrep : ∀ i x1 x2, P1 i x1 → P2 i x2 → ∃ v1 v2 d1 d2, RelV v1 x1 ∧ RelV v2 x2 ∧ Rep X.K X.mg F0 v1 d1 ∧ Rep X.K X.mg F0 v2 d2 ∧ ds[i]? = some (.tup [d1, d2]))
    (hf : ∀ b ∈ [z, TO, i1, i2], FpOk X pins H b) (hz : IsZip s.heap z TI TO .none) (hTI : IsTupOf2 s.heap TI (.ref i1) (.ref i2)) (hTO : ∃ a b, IsTupOf2 s.heap TO a b) (st1 : St1 0 s.heap) (st2 : St2 0 s.heap)
    (hQ : ∀ a F' H', Grow F0 H F' H' → F' a = none → H a = none → OwnR X.K X.mg F' H' a (.lst ds) → Q (.ref a) H') : wpAny (model X.prog X.w) X.A (call (.type "list") [.ref z]) (EP X pins σ Q) X.xe s := by
  have hh : X.A.handled = none := I.ok.hd hc
  have hHn : H s.heap.objs.size = none := I.hok.fresh (Nat.le_refl _)
  refine callType_codes (Q₁ := fun obj s₁ => obj = .ref s.heap.objs.size ∧ s₁ = { s with heap := s.heap.push { cls := .type "list", data := .seq #[] } }) PySem.F.called_list (PySem.F.typeCall_list_1 _) PySem.F.entry_list_init
    (code_list_new _ ⟨rfl, rfl⟩) fun obj s₁ h₁ => ?_
  obtain ⟨rfl, rfl⟩ := h₁
  have hS : (s.heap.push { cls := .type "list", data := .seq #[] }).get? s.heap.objs.size = some { cls := .type "list", data := .seq #[] } := Heap.get?_push_size _ rfl
  refine ⟨⟨_, hS, rfl⟩, PySem.F.args_list_init_2 _ _, ?_⟩
  have I0 : Inv X pins σ (upd H s.heap.objs.size (.lst [])) { s with heap := s.heap.push { cls := .type "list", data := .seq #[] } } := I.lnew (its := []) (t' := s.toks) .nil (Nat.zero_le _)
  have kp : ∀ b o, s.heap.get? b = some o → (s.heap.push { cls := .type "list", data := .seq #[] }).get? b = some o := fun b o e => Heap.get?_push_of_some _ e
  have neS : ∀ b, b < s.heap.objs.size → s.heap.objs.size ≠ b := fun b hb => Nat.ne_of_gt hb
  have hSz : s.heap.objs.size ≠ z := neS _ (lt z (.inl rfl))
  show wpAny _ X.A.in1.in1 (do let old ← Builtin.List.listItems (.ref s.heap.objs.size); Builtin.List.listUpdate (.ref s.heap.objs.size) (fun _ => #[]); letGo old.toList.reverse; Builtin.List.listExtendWith (.ref s.heap.objs.size) (.ref z) .none) _ _ _
  refine wpAny_bind ?_
  unfold Builtin.List.listItems
  refine wpAny_bind (wpAny_seqItems hS rfl (wpAny_pure ?_))
  show wpAny _ X.A.in1.in1 (updateSeq s.heap.objs.size (fun _ => #[]) >>= fun _ => letGo (#[] : Array Value).toList.reverse >>= fun _ => Builtin.List.listExtendWith (.ref s.heap.objs.size) (.ref z) .none) _ _ _
  refine wpAny_bind (wpAny_updateSeq hS rfl ?_)
  have I1 := I0.lset (t' := s.toks) (its' := []) (f := fun _ => (#[] : Array Value)) upd_same hS (by simp) .nil (Nat.zero_le _)
  have hS1 := Heap.get?_update_self (Obj.mapSeq (fun _ => (#[] : Array Value))) hS rfl
  refine wpAny_bind (wpAny_letGo ?_)
  unfold Builtin.List.listExtendWith
  have k1 : ∀ b o, b ≠ s.heap.objs.size → s.heap.get? b = some o → ((s.heap.push { cls := .type "list", data := .seq #[] }).update s.heap.objs.size (Obj.mapSeq (fun _ => (#[] : Array Value)))).get? b = some o := fun b o hb e => (Heap.get?_update_other _ _ (Ne.symm hb)).trans (kp _ _ e)
  have hz1 : IsZip ((s.heap.push { cls := .type "list", data := .seq #[] }).update s.heap.objs.size (Obj.mapSeq (fun _ => (#[] : Array Value)))) z TI TO .none := k1 _ _ hSz.symm hz
  refine wpAny_bind (wpAny_typeOf ⟨_, hz1, rfl⟩ ?_)
  have e1 : Builtin.List.listSameRef (.ref s.heap.objs.size) (.ref z) = false := by simp [Builtin.List.listSameRef, hSz]
  have e2 : (Value.type "zip" == Value.type "list") = false := by decide
  have e3 : (Value.type "zip" == Value.type "tuple") = false := by decide
  simp only [e1, e2, e3, Bool.or_false, Bool.false_eq_true, if_false]
  refine wpAny_bind (wpAny_pyIter_zip hz1 ?_)
  refine wpAny_bind (wpAny_holding ?_)
  unfold Builtin.List.listLengthHint
  refine wpAny_bind (wpAny_specialOf (T := "zip") ⟨_, hz1, rfl⟩ zip_no_len ?_)
  show wpAny _ X.A.in1.in1 (specialOf (Value.ref z) (Str.ofString "__length_hint__") >>= _) _ _ _
  refine wpAny_bind (wpAny_specialOf (T := "zip") ⟨_, hz1, rfl⟩ zip_no_hint ?_)
  refine wpAny_pure ?_
  show wpAny _ X.A.in1.in1 (rule "list.extend.makes-room" >>= fun _ => Builtin.List.listTouch (.ref s.heap.objs.size) >>= fun _ => again (.builtin "list.extend.loop" ⟨[.ref s.heap.objs.size, .ref z, .none], []⟩)) _ _ _
  refine wpAny_bind (wpAny_rule ?_)
  refine wpAny_bind ?_
  show wpAny _ X.A.in1.in1 (updateSeq s.heap.objs.size (·.push .none) >>= fun _ => updateSeq s.heap.objs.size (·.pop)) _ _ _
  refine wpAny_bind (wpAny_updateSeq hS1 rfl ?_)
  have hS2 := Heap.get?_update_self (Obj.mapSeq (·.push Value.none)) hS1 rfl
  refine wpAny_updateSeq (hz := by seq_fits) hS2 rfl ?_
  have I2 := I1.lset (t' := s.toks) (its' := [.none]) (ys := [.non]) (f := (·.push Value.none)) upd_same hS1 (by simp) (.cons rfl .nil) (by show 1 ≤ sizeLine; decide)
  have I3 := I2.lset (t' := s.toks) (its' := []) (f := (·.pop)) upd_same hS2 (by simp) .nil (Nat.zero_le _)
  rw [upd_upd, upd_upd, upd_upd] at I3
  have oth : ∀ b o, b ≠ s.heap.objs.size → s.heap.get? b = some o → ((((s.heap.push { cls := .type "list", data := .seq #[] }).update s.heap.objs.size (Obj.mapSeq (fun _ => (#[] : Array Value)))).update s.heap.objs.size (Obj.mapSeq (·.push Value.none))).update s.heap.objs.size (Obj.mapSeq (·.pop))).get? b = some o :=
    fun b o hb e => (Heap.get?_update_other _ _ (Ne.symm hb)).trans ((Heap.get?_update_other _ _ (Ne.symm hb)).trans (k1 b o hb e))
  have ltn : ∀ b, b = z ∨ b = TI ∨ b = TO ∨ b ∈ fp1 ∨ b ∈ fp2 → b ≠ s.heap.objs.size := fun b hb => Nat.ne_of_lt (lt b hb)
  obtain ⟨ta, tb, hTO⟩ := hTO
  refine wpAny_pure ⟨plainId_quiet PySem.F.plain_extend_loop _, zip_loop (A := X.A.in1) (F0 := F0) (H0 := H) .none S (D1 X.A.in1.in1.in1 hh) (D2 X.A.in1.in1.in1 hh) hSz (neS _ (lt TI (.inr (.inl rfl)))) (neS _ (lt TO (.inr (.inr (.inl rfl)))))
    (fun hm => ltn _ (.inr (.inr (.inr (.inl hm)))) rfl) (fun hm => ltn _ (.inr (.inr (.inr (.inr hm)))) rfl) hHn hn hsz hrep (fun s' H' F' vs I' g hF hl r => ?_) ds.length 0 _ F0 _ [] (by omega) (Nat.zero_le _) I3 (Grow.wild sF hHn) (sF.free hHn) upd_same .nil (fun b hb => ?_)
    ⟨oth _ _ (ltn _ (.inr (.inl rfl))) hTI, (D1 X.A hh).frame _ _ _ st1 fun b hb o e => oth b o (ltn _ (.inr (.inr (.inr (.inl hb))))) e, (D2 X.A hh).frame _ _ _ st2 fun b hb o e => oth b o (ltn _ (.inr (.inr (.inr (.inr hb))))) e, .inl ⟨oth _ _ (ltn _ (.inl rfl)) hz, ta, tb, oth _ _ (ltn _ (.inr (.inr (.inl rfl)))) hTO⟩⟩⟩
  · exact ⟨rfl, .ref s.heap.objs.size, H', I', rfl, hQ _ F' H' g hF hHn (.lst hl r hsz)⟩
  · have q := hf b hb
    refine ⟨?_, q.2⟩
    have hb2 : b ≠ s.heap.objs.size := by
      simp only [List.mem_cons, List.not_mem_nil, or_false] at hb
      rcases hb with hb | hb | hb | hb
      · exact ltn _ (.inl hb)
      · exact ltn _ (.inr (.inr (.inl hb)))
      · exact ltn _ (.inr (.inr (.inr (.inl (by rw [hb]; exact S.mem1)))))
      · exact ltn _ (.inr (.inr (.inr (.inr (by rw [hb]; exact S.mem2)))))
    rw [upd_ne hb2]
    exact q.1
end
end P5

namespace P5
open PySem L2 PyProof.Rows
variable [Tb]
def tupD : D → Option (List D)
  | .tup xs => some xs
  | .ktup xs => some xs
  | _ => none
theorem Rep.tupD_inv {K : K'} {mg : Mg} {F : Hp} {v : V} {d : D} {xs : List D} (r : Rep K mg F v d) (h : tupD d = some xs) : ∃ a vs, v = .ref a ∧ SqT K F a vs ∧ RepL K mg F vs xs ∧ xs.length ≤ 16777216 := by
  cases d <;> first | (cases h; done) | skip
  · cases h
    cases r with
    | tup h r z => exact ⟨_, _, rfl, SqT.of h, r, z⟩
  · cases h
    cases r with
    | ktup h r z => exact ⟨_, _, rfl, h, r, z⟩
def opZipL : List D → Option D
  | [.lst xs, .lst ys] => some (.lst (pairsD (xs.zip ys)))
  | [a, b] => (tupD a).bind fun xs => (tupD b).map fun ys => .lst (pairsD (xs.zip ys))
  | _ => none
theorem zip_len (xs ys : List D) : (pairsD (xs.zip ys)).length = min xs.length ys.length := by
  unfold pairsD
  rw [List.length_map, List.length_zip]
theorem zipsep {b a1 a2 : Nat} (h1 : a1 < b) (h2 : a2 < b) : ZipSep2 (b + 4) (b + 2) (b + 3) b (b + 1) [b, a1] [b + 1, a2] := by
  refine ⟨?_, ?_, ?_, ?_, by simp, ?_, ?_, ?_, by simp, ?_, ?_, ?_, ?_⟩
  all_goals
    intro h
    first
      | (rcases List.mem_cons.mp h with h | h
         · have h' : (_ : Nat) = _ := h
           omega
         · have h' : (_ : Nat) = _ := List.mem_singleton.mp h
           omega)
      | (have h' : (_ : Nat) = _ := h
         omega)
theorem five1 {s c a b : Nat} (l1 : a < s) (l2 : b < s) (h : c = s + 4 ∨ c = s + 2 ∨ c = s + 3 ∨ (c = s ∨ c = a) ∨ c = s + 1 ∨ c = b) : c < s + 5 := by omega
theorem five2 {s c : Nat} (h : c = s + 4 ∨ c = s + 3 ∨ c = s ∨ c = s + 1) : s ≤ c := by omega
section
variable {X : Cx} {W : WX} {e e2 : Expr} {g : Env' → M (List D)} {p p2 pos pos2 : Pos}
theorem fr_listZip (hc : X.calm = true) (hgl : Gl X "list") (hml : X.mg "list" = none) (hg : Gl X "zip") (hm : X.mg "zip" = none) (ha : PuA X W [e, e2] g)
    (hs : starEach [e, e2] X.env = (false, eval e X.env) :: starEach [e2] X.env := by rfl) (hpl : (backTo pos2 (starEach [e2] X.env)).any (·.1) = false := by rfl)
    (na : starEach [.Call (.Name "zip" p2) [e, e2] [] pos2] X.env = (false, eval (.Call (.Name "zip" p2) [e, e2] [] pos2) X.env) :: starEach [] X.env := by rfl) :
    PuFr X W (.Call (.Name "list" p) [.Call (.Name "zip" p2) [e, e2] [] pos2] [] pos) (dCall opZipL g) := by
  refine ⟨fun pins s σ H Q I ⟨F, ρ, sF, er, h⟩ => ?_⟩
  refine Call_ (ld_blt I hgl hml PyProof.Rows.Boot.«list» (PyProof.Rows.callWith_type1 (args_cons ?_ na) na))
  refine Call_ (ld_blt I hg hm PyProof.Rows.boot_zip (PyProof.Rows.callWith_type1 (thn (ha.run pos2 pins s σ H (fun vs H1 => ∃ F1 ds, Grow F H F1 H1 ∧ RepL X.K X.mg F1 vs ds ∧ _) I ⟨F, ρ, sF, er, MM.mono _ (fun ds z vs F1 H1 g1 r1 => ⟨F1, ds, g1, r1, z⟩) (fun _ z => z) h⟩) fun us s1 ⟨vs, H1, I1, r1, q1⟩ => ?_) hs hpl))
  obtain ⟨F1, ds, g1, r1', z⟩ := q1
  obtain ⟨r, er2, q⟩ := wp_opt z
  have hh : X.A.handled = none := I1.ok.hd hc
  have fresh5 : ∀ c, s1.heap.objs.size ≤ c → FpOk X pins H1 c := fun c hc => I1.fpOk hc (I1.hok.fresh hc)
  unfold opZipL at er2
  split at er2
  · rename_i xs ys
    cases er2
    obtain ⟨v, w', rfl, rv, rw'⟩ := r1'.two
    cases r1 with
    | cons ra rr =>
      cases rr with
      | cons rb rr =>
        cases rr
        obtain ⟨a, us, rfl, hqa, rpa⟩ := rv.lst_inv
        obtain ⟨b, ws, rfl, hqb, rpb⟩ := rw'.lst_inv
        cases ra
        cases rb
        obtain ⟨its, rva, p1, _⟩ := I1.list (SqL.of (g1.sub _ _ hqa))
        obtain ⟨its2, rvb, p2', _⟩ := I1.list (SqL.of (g1.sub _ _ hqb))
        have l1 := p1.lt
        have l2 := p2'.lt
        refine call_zip_2 p1.isList p2'.isList fun h' hz hTI hTO i1 i2 hsz hk => args_nil ?_
        have I2 : Inv X pins σ H1 { s1 with heap := h' } := I1.kept (t' := s1.toks) hk
        have e1 := rva.length
        have e2 := rvb.length
        have e3 := rpa.length
        have e4 := rpb.length
        have hsz1 := rv.sz
        refine call_listZip (ds := pairsD (xs.zip ys)) hc I2 g1.sub (zipsep l1 l2) (fun A hA => Draws.list hA s1.heap.objs.size a (Nat.ne_of_lt l1) its.toArray) (fun A hA => Draws.list hA (s1.heap.objs.size + 1) b (Nat.ne_of_lt (Nat.lt_succ_of_lt l2)) its2.toArray) (fun c hc => ?_) (by rw [zip_len, List.size_toArray, List.size_toArray]; omega) (by rw [zip_len]; exact Nat.le_trans (Nat.min_le_left _ _) hsz1)
          (fun i x1 x2 h1 h2 => ?_) (fun c hc => ?_) hz hTI ⟨_, _, hTO⟩ ⟨i1, p1.isList.at fun o e => hk _ o e⟩ ⟨i2, p2'.isList.at fun o e => hk _ o e⟩ fun a' F' H' g' hF' hH' o => ?_
        · show c < h'.objs.size
          rw [hsz]
          simp only [List.mem_cons, List.not_mem_nil, or_false] at hc
          exact five1 l1 l2 hc
        · have h1' : its[i]? = some x1 := by simpa using h1
          have h2' : its2[i]? = some x2 := by simpa using h2
          have hl1 : i < us.length := by have := (List.getElem?_eq_some_iff.mp h1').1; omega
          have hl2 : i < ws.length := by have := (List.getElem?_eq_some_iff.mp h2').1; omega
          obtain ⟨v1, ev1, rr1⟩ := rva.get (List.getElem?_eq_getElem hl1)
          obtain ⟨v2, ev2, rr2⟩ := rvb.get (List.getElem?_eq_getElem hl2)
          rw [h1'] at ev1
          rw [h2'] at ev2
          cases ev1
          cases ev2
          obtain ⟨pp, ez, q1, q2⟩ := zip_at rpa rpb (List.getElem?_eq_getElem hl1) (List.getElem?_eq_getElem hl2)
          refine ⟨_, _, pp.1, pp.2, rr1, rr2, q1, q2, ?_⟩
          unfold pairsD
          rw [List.getElem?_map, ez]
          rfl
        · refine fresh5 c ?_
          simp only [List.mem_cons, List.not_mem_nil, or_false] at hc
          exact five2 hc
        · exact q a' F' H' (g1.trans g') hF' (g1.hs.free hH') o
  · rename_i da db _
    cases ea : tupD da with
    | none =>
      rw [ea] at er2
      cases er2
    | some xs =>
      rw [ea] at er2
      cases eb : tupD db with
      | none =>
        rw [eb] at er2
        cases er2
      | some ys =>
        rw [eb] at er2
        cases er2
        obtain ⟨v, w', rfl, rv, rw'⟩ := r1'.two
        cases r1 with
        | cons ra rr =>
          cases rr with
          | cons rb rr =>
            cases rr
            obtain ⟨a, us, rfl, hqa, rpa, hsz1⟩ := rv.tupD_inv ea
            obtain ⟨b, ws, rfl, hqb, rpb, _⟩ := rw'.tupD_inv eb
            cases ra
            cases rb
            obtain ⟨its, rva, p1, _⟩ := I1.tuple (seqT g1.sub.s hqa)
            obtain ⟨its2, rvb, p2', _⟩ := I1.tuple (seqT g1.sub.s hqb)
            have l1 : a < s1.heap.objs.size := by obtain ⟨o, e, _⟩ := id p1; exact Heap.lt_size e
            have l2 : b < s1.heap.objs.size := by obtain ⟨o, e, _⟩ := id p2'; exact Heap.lt_size e
            refine RZ.call_zipT (show s1.heap.IsTuple a its.toArray from p1) (show s1.heap.IsTuple b its2.toArray from p2') fun h' hz hTI hTO i1 i2 hsz hk => args_nil ?_
            have I2 : Inv X pins σ H1 { s1 with heap := h' } := I1.kept (t' := s1.toks) hk
            have e1 := rva.length
            have e2 := rvb.length
            have e3 := rpa.length
            have e4 := rpb.length
            have p1k : h'.IsTuple a its.toArray := by obtain ⟨o, e, r⟩ := id p1; exact ⟨o, hk _ _ e, r⟩
            have p2k : h'.IsTuple b its2.toArray := by obtain ⟨o, e, r⟩ := id p2'; exact ⟨o, hk _ _ e, r⟩
            refine call_listZip (ds := pairsD (xs.zip ys)) hc I2 g1.sub (zipsep l1 l2) (fun A hA => Draws.tuple hA s1.heap.objs.size a (Nat.ne_of_lt l1) its.toArray) (fun A hA => Draws.tuple hA (s1.heap.objs.size + 1) b (Nat.ne_of_lt (Nat.lt_succ_of_lt l2)) its2.toArray) (fun c hc => ?_) (by rw [zip_len, List.size_toArray, List.size_toArray]; omega) (by rw [zip_len]; exact Nat.le_trans (Nat.min_le_left _ _) hsz1)
              (fun i x1 x2 h1 h2 => ?_) (fun c hc => ?_) hz hTI ⟨_, _, hTO⟩ ⟨i1, p1k⟩ ⟨i2, p2k⟩ fun a' F' H' g' hF' hH' o => ?_
            · show c < h'.objs.size
              rw [hsz]
              simp only [List.mem_cons, List.not_mem_nil, or_false] at hc
              exact five1 l1 l2 hc
            · have h1' : its[i]? = some x1 := by simpa using h1
              have h2' : its2[i]? = some x2 := by simpa using h2
              have hl1 : i < us.length := by have := (List.getElem?_eq_some_iff.mp h1').1; omega
              have hl2 : i < ws.length := by have := (List.getElem?_eq_some_iff.mp h2').1; omega
              obtain ⟨v1, ev1, rr1⟩ := rva.get (List.getElem?_eq_getElem hl1)
              obtain ⟨v2, ev2, rr2⟩ := rvb.get (List.getElem?_eq_getElem hl2)
              rw [h1'] at ev1
              rw [h2'] at ev2
              cases ev1
              cases ev2
              obtain ⟨pp, ez, q1, q2⟩ := zip_at rpa rpb (List.getElem?_eq_getElem hl1) (List.getElem?_eq_getElem hl2)
              refine ⟨_, _, pp.1, pp.2, rr1, rr2, q1, q2, ?_⟩
              unfold pairsD
              rw [List.getElem?_map, ez]
              rfl
            · refine fresh5 c ?_
              simp only [List.mem_cons, List.not_mem_nil, or_false] at hc
              exact five2 hc
            · exact q a' F' H' (g1.trans g') hF' (g1.hs.free hH') o
  · cases er2
end
end P5

namespace P5
open PySem L2 PyProof.Rows
variable [Tb]
def g_takeA (pw : EM) : BM :=
  (bIf (dB (dBin opEq (dBin opIx (dVar 0) (dCon (.int 0))) (dCon (.int 0))))
  (bSeq (bSet 2 (dBin opIx (dBin opAdd (dSl (dBin opIx (dVar 0) (dCon (.int 3))) (dSome (dBin opIx (dVar 0) (dCon (.int 2)))) dNone) (dLst (dCons (dCon (.int 0)) dNil))) (dCon (.int 0))))
  (bSeq (bAug 2 (dCon (.int 1)))
  (bSeq (bIf (dB (dBin opGe (dVar 2) pw))
  (bPut 0 (dVar 2))
  (fun ρ => pure (.nx ρ)))
  (bSeq (bSet 3 (dBin opAdd (dBin opAdd (dBin opMul (dBin opIx (dVar 0) (dCon (.int 1))) (dCon (.int 48271))) (dBin opMod (dCall opInt (dCons (dVar 2) dNil)) (dCon (.int 2147483647)))) (dBin opMul (dCon (.int 7919)) (dBin opIx (dVar 0) (dCon (.int 2))))))
  (bPut 1 (dBin opMod (dCall opInt (dCons (dVar 3) dNil)) (dCon (.int 2147483647))))))))
  (fun ρ => pure (.nx ρ)))
def g_takeB : BM :=
  (bSeq (bIf (dB (dBin opGt (dBin opIx (dVar 0) (dCon (.int 0))) (dCon (.int 0))))
  (bSeq (bSet 4 (dBin opMod (dCall opInt (dCons (dBin opIx (dVar 0) (dCon (.int 0))) dNil)) (dVar 1)))
  (bSeq (bPut 0 (dBin opDiv (dCall opInt (dCons (dBin opIx (dVar 0) (dCon (.int 0))) dNil)) (dVar 1)))
  (bRet (dVar 4))))
  (fun ρ => pure (.nx ρ)))
  (bSeq (bSet 5 (dBin opMod (dCall opInt (dCons (dBin opMul (dBin opAdd (dBin opIx (dVar 0) (dCon (.int 1))) (dCon (.int 1))) (dCon (.int 39373))) dNil)) (dCon (.int 1000000007))))
  (bSeq (bSet 6 (dBin opMod (dCall opInt (dCons (dBin opMul (dBin opMod (dCall opInt (dCons (dBin opMul (dVar 5) (dVar 5)) dNil)) (dCon (.int 998244353))) (dCon (.int 30011))) dNil)) (dCon (.int 998244353))))
  (bRet (dBin opMod (dCall opInt (dCons (dBin opDiv (dVar 6) (dCon (.int 7))) dNil)) (dVar 1))))))
def g_take : BM := bSeq (g_takeA (dBin opPow (dCon (.int 10)) (dCon (.int 18)))) g_takeB
def f_bag : EM :=
  (dLc [1] (iSeq (dSl (dVar 0) dNone (dSome (dCon (.int 63))))) (gdName 1) dYes (dCall opAbs (dCons (dVar 1) dNil)))
def g_alike : SM :=
  (sSeq (sParFO [2] 2 3 (dLst (dCons (dTup (dCons (dVar 0) (dCons (dVar 1) dNil))) dNil)) (dCon (.int 0)))
  (sSeq (sWhile (dB (dBin opLt (dVar 3) (dCall opLen (dCons (dVar 2) dNil))))
  (sSeq (sIxF [2] 2 (dVar 3) (gdTup 2 (gsCons (gdName 4) (gsCons (gdName 5) gsNil))))
  (sSeq (sAug [2] 3 opAddI (dCon (.int 1)))
  (sSeq (sIf (dOrT (dB (dBin opNe (dUn (opIsi "bool") (dVar 4)) (dUn (opIsi "bool") (dVar 5)))) (dB (dBin opNe (dUn (opIsi "str") (dVar 4)) (dUn (opIsi "str") (dVar 5)))))
  (sRet (dCon (.bl false)))
  sNil)
  (sSeq (sIf (dB (dBin opNe (dUn (opIsi2 "tuple" "list") (dVar 4)) (dUn (opIsi2 "tuple" "list") (dVar 5))))
  (sRet (dCon (.bl false)))
  sNil)
  (sIf (dT (dUn (opIsi2 "tuple" "list") (dVar 4)))
  (sSeq (sIf (dOrT (dB (dBin opNe (dUn (opIsi "tuple") (dVar 4)) (dUn (opIsi "tuple") (dVar 5)))) (dB (dBin opNe (dCall opLen (dCons (dVar 4) dNil)) (dCall opLen (dCons (dVar 5) dNil)))))
  (sRet (dCon (.bl false)))
  sNil)
  (sExtF [2] 2 (dCall opZipL (dCons (dVar 4) (dCons (dVar 5) dNil)))))
  (sIf (dB (dBin opNe (dVar 4) (dVar 5)))
  (sRet (dCon (.bl false)))
  sNil)))))))
  (sRet (dCon (.bl true)))))
theorem mulOk_l {i j : Int} (h : i.natAbs < 18446744073709551616) : mulOk i j = true := by
  unfold mulOk
  rw [show (2 : Nat) ^ 64 = 18446744073709551616 from rfl, decide_eq_true h]
  rfl
theorem mulOk_r {i j : Int} (h : j.natAbs < 18446744073709551616) : mulOk i j = true := by
  unfold mulOk
  rw [show (2 : Nat) ^ 64 = 18446744073709551616 from rfl, decide_eq_true h, Bool.or_true]
  rfl
theorem divOk_s {j : Int} (h0 : j ≠ 0) (h : j.natAbs < 1073741824) : divOk j = true := decide_eq_true (.inl ⟨h0, h⟩)
theorem ok_int (i : Int) : okD (.int i) = true := rfl
theorem opEq_int (i j : Int) : opEq (.int i) (.int j) = some (.bl (decide (i = j))) := by
  unfold opEq
  rw [ok_int, ok_int]
  show some (D.bl (i == j)) = _
  rfl
theorem opNe_int (i j : Int) : opNe (.int i) (.int j) = some (.bl (!decide (i = j))) := by
  unfold opNe
  rw [ok_int, ok_int]
  show some (D.bl (!(i == j))) = _
  rfl
theorem ltD_int (i j : Int) : ltD (.int i) (.int j) = decide (i < j) := by
  unfold ltD toPy PySem.W.dataLt PySem.W.keyToks
  simp [PyProof.Rows.lexLt]
  rfl
theorem alD_int (i j : Int) : alD (.int i) (.int j) = true := rfl
theorem opLt_int (i j : Int) : opLt (.int i) (.int j) = some (.bl (decide (i < j))) := by
  unfold opLt
  rw [alD_int, ltD_int]
  rfl
theorem opGt_int (i j : Int) : opGt (.int i) (.int j) = some (.bl (decide (j < i))) := by
  unfold opGt
  rw [alD_int, ltD_int]
  rfl
theorem opLe_int (i j : Int) : opLe (.int i) (.int j) = some (.bl (!decide (j < i))) := by
  unfold opLe
  rw [alD_int, ltD_int]
  rfl
theorem opGe_int (i j : Int) : opGe (.int i) (.int j) = some (.bl (!decide (i < j))) := by
  unfold opGe
  rw [alD_int, ltD_int]
  rfl

theorem dVar_get {ρ : Env'} {i : Nat} {d : D} (h : ρ[i]? = some (some d)) : dVar i ρ = pure d := by
  unfold dVar
  rw [h]
theorem startD_def (n : Nat) (ds : List D) : startD n ds = ds.map some ++ List.replicate (n - ds.length) none := rfl
theorem opIx_lst (xs : List D) (i : Int) : opIx (.lst xs) (.int i) = atI xs i := rfl
theorem opIx_tup (xs : List D) (i : Int) : opIx (.tup xs) (.int i) = atI xs i := rfl
theorem atI_of {α : Type} (xs : List α) (k : Nat) (x : α) (h : xs[k]? = some x) : atI xs (k : Int) = some x := by
  have hl := (List.getElem?_eq_some_iff.mp h).1
  unfold L2.atI ixN
  rw [if_pos (Int.natCast_nonneg k), if_pos (by omega), Int.toNat_natCast]
  exact h
theorem at0 {α : Type} (x : α) (xs : List α) : atI (x :: xs) 0 = some x := atI_of _ 0 _ rfl
theorem at1 {α : Type} (x y : α) (xs : List α) : atI (x :: y :: xs) 1 = some y := atI_of _ 1 _ rfl
theorem at2 {α : Type} (x y z : α) (xs : List α) : atI (x :: y :: z :: xs) 2 = some z := atI_of _ 2 _ rfl
theorem at3 {α : Type} (x y z u : α) (xs : List α) : atI (x :: y :: z :: u :: xs) 3 = some u := atI_of _ 3 _ rfl
theorem mod_nn (x : Int) {m : Int} (h : 0 < m) : 0 ≤ x.fmod m ∧ x.fmod m < m := ⟨Int.fmod_nonneg_of_pos x h, Int.fmod_lt_of_pos x h⟩
theorem fdiv_nn {x m : Int} (hx : 0 ≤ x) (h : 0 ≤ m) : 0 ≤ x.fdiv m := Int.fdiv_nonneg hx h
theorem opAdd_int (i j : Int) : opAdd (.int i) (.int j) = some (.int (i + j)) := rfl
theorem opSub_int (i j : Int) : opSub (.int i) (.int j) = some (.int (i - j)) := rfl
theorem opMod_int {i j : Int} (h : j ≠ 0) : opMod (.int i) (.int j) = some (.int (i.fmod j)) := if_pos h
theorem opDiv_int {i j : Int} (h : divOk j = true) : opDiv (.int i) (.int j) = some (.int (i.fdiv j)) := if_pos h
theorem opMul_int {i j : Int} (h : mulOk i j = true) : opMul (.int i) (.int j) = some (.int (i * j)) := if_pos h
theorem opInt_int (i : Int) : opInt [.int i] = some (.int i) := rfl
def takePost (m : Int) : BF → Prop := fun r => match r with
    | .rt v ρ => 0 ≤ v ∧ v < m ∧ ∃ x y z : Nat, ∃ ns, ρ[0]? = some (some (.lst [.int x, .int y, .int z, .scr ns]))
    | _ => False
theorem nats3 {x y z : Int} {ns : List Int} (hx : 0 ≤ x) (hy : 0 ≤ y) (hz : 0 ≤ z) : ∃ i j k : Nat, ∃ ns' : List Int, some (some (D.lst [.int x, .int y, .int z, .scr ns])) = some (some (.lst [.int i, .int j, .int k, .scr ns'])) := by
  refine ⟨x.toNat, y.toNat, z.toNat, ns, ?_⟩
  rw [Int.toNat_of_nonneg hx, Int.toNat_of_nonneg hy, Int.toNat_of_nonneg hz]
theorem takeB_ok {x y z m : Int} {ns : List Int} {o2 o3 o4 o5 o6 : Option D} (hx : 0 ≤ x) (hy : 0 ≤ y) (hz : 0 ≤ z) (h1 : 1 ≤ m) (h2 : m < 1073741824) :
    (g_takeB [some (.lst [.int x, .int y, .int z, .scr ns]), some (.int m), o2, o3, o4, o5, o6]).wp (takePost m) (fun _ => False) := by
  have dm : divOk m = true := divOk_s (by omega) (by omega)
  have m0 : m ≠ 0 := by omega
  unfold g_takeB
  simp only [bSeq, bIf, bSet, bPut, bAug, bRet, bput, bget, dB, dBin, dVar, dCon, dCall, dCons, dNil, dSome, dNone, dSl, dLst, asI, wp_bind, wp_pure, wp_fail, bind_assoc, pure_bind, List.getElem?_cons_zero, List.getElem?_cons_succ, List.set_cons_zero, List.set_cons_succ, opIx_lst, at0, at1, at2, at3, M.opt_some, opEq_int, opGt_int, opGe_int, opAdd_int, opInt_int, asB, if_true, if_false, decide_eq_true_eq, Nat.reduceEqDiff, Nat.one_ne_zero, Nat.zero_ne_one, reduceIte]
  by_cases hp : 0 < x
  · rw [if_pos hp]
    simp only [bSeq, bIf, bSet, bPut, bAug, bRet, bput, bget, dB, dBin, dVar, dCon, dCall, dCons, dNil, dSome, dNone, dSl, dLst, asI, wp_bind, wp_pure, wp_fail, bind_assoc, pure_bind, List.getElem?_cons_zero, List.getElem?_cons_succ, List.set_cons_zero, List.set_cons_succ, opIx_lst, at0, at1, at2, at3, M.opt_some, opEq_int, opGt_int, opGe_int, opAdd_int, opInt_int, asB, if_true, if_false, decide_eq_true_eq, Nat.reduceEqDiff, Nat.one_ne_zero, Nat.zero_ne_one, reduceIte]
    rw [opMod_int m0]
    simp only [bSeq, bIf, bSet, bPut, bAug, bRet, bput, bget, dB, dBin, dVar, dCon, dCall, dCons, dNil, dSome, dNone, dSl, dLst, asI, wp_bind, wp_pure, wp_fail, bind_assoc, pure_bind, List.getElem?_cons_zero, List.getElem?_cons_succ, List.set_cons_zero, List.set_cons_succ, opIx_lst, at0, at1, at2, at3, M.opt_some, opEq_int, opGt_int, opGe_int, opAdd_int, opInt_int, asB, if_true, if_false, decide_eq_true_eq, Nat.reduceEqDiff, Nat.one_ne_zero, Nat.zero_ne_one, reduceIte]
    rw [opDiv_int dm]
    simp only [bSeq, bIf, bSet, bPut, bAug, bRet, bput, bget, dB, dBin, dVar, dCon, dCall, dCons, dNil, dSome, dNone, dSl, dLst, asI, wp_bind, wp_pure, wp_fail, bind_assoc, pure_bind, List.getElem?_cons_zero, List.getElem?_cons_succ, List.set_cons_zero, List.set_cons_succ, opIx_lst, at0, at1, at2, at3, M.opt_some, opEq_int, opGt_int, opGe_int, opAdd_int, opInt_int, asB, if_true, if_false, decide_eq_true_eq, Nat.reduceEqDiff, Nat.one_ne_zero, Nat.zero_ne_one, reduceIte]
    obtain ⟨q1, q2⟩ := mod_nn x (m := m) (by omega)
    exact ⟨q1, q2, nats3 (fdiv_nn hx (by omega)) hy hz⟩
  · rw [if_neg hp]
    simp only [bSeq, bIf, bSet, bPut, bAug, bRet, bput, bget, dB, dBin, dVar, dCon, dCall, dCons, dNil, dSome, dNone, dSl, dLst, asI, wp_bind, wp_pure, wp_fail, bind_assoc, pure_bind, List.getElem?_cons_zero, List.getElem?_cons_succ, List.set_cons_zero, List.set_cons_succ, opIx_lst, at0, at1, at2, at3, M.opt_some, opEq_int, opGt_int, opGe_int, opAdd_int, opInt_int, asB, if_true, if_false, decide_eq_true_eq, Nat.reduceEqDiff, Nat.one_ne_zero, Nat.zero_ne_one, reduceIte]
    rw [opMul_int (mulOk_r (by decide))]
    simp only [bSeq, bIf, bSet, bPut, bAug, bRet, bput, bget, dB, dBin, dVar, dCon, dCall, dCons, dNil, dSome, dNone, dSl, dLst, asI, wp_bind, wp_pure, wp_fail, bind_assoc, pure_bind, List.getElem?_cons_zero, List.getElem?_cons_succ, List.set_cons_zero, List.set_cons_succ, opIx_lst, at0, at1, at2, at3, M.opt_some, opEq_int, opGt_int, opGe_int, opAdd_int, opInt_int, asB, if_true, if_false, decide_eq_true_eq, Nat.reduceEqDiff, Nat.one_ne_zero, Nat.zero_ne_one, reduceIte]
    rw [opMod_int (by decide)]
    simp only [bSeq, bIf, bSet, bPut, bAug, bRet, bput, bget, dB, dBin, dVar, dCon, dCall, dCons, dNil, dSome, dNone, dSl, dLst, asI, wp_bind, wp_pure, wp_fail, bind_assoc, pure_bind, List.getElem?_cons_zero, List.getElem?_cons_succ, List.set_cons_zero, List.set_cons_succ, opIx_lst, at0, at1, at2, at3, M.opt_some, opEq_int, opGt_int, opGe_int, opAdd_int, opInt_int, asB, if_true, if_false, decide_eq_true_eq, Nat.reduceEqDiff, Nat.one_ne_zero, Nat.zero_ne_one, reduceIte]
    obtain ⟨q1, q2⟩ := mod_nn ((y + 1) * 39373) (m := 1000000007) (by decide)
    generalize ((y + 1) * 39373).fmod 1000000007 = b at q1 q2
    rw [opMul_int (mulOk_l (by omega))]
    simp only [bSeq, bIf, bSet, bPut, bAug, bRet, bput, bget, dB, dBin, dVar, dCon, dCall, dCons, dNil, dSome, dNone, dSl, dLst, asI, wp_bind, wp_pure, wp_fail, bind_assoc, pure_bind, List.getElem?_cons_zero, List.getElem?_cons_succ, List.set_cons_zero, List.set_cons_succ, opIx_lst, at0, at1, at2, at3, M.opt_some, opEq_int, opGt_int, opGe_int, opAdd_int, opInt_int, asB, if_true, if_false, decide_eq_true_eq, Nat.reduceEqDiff, Nat.one_ne_zero, Nat.zero_ne_one, reduceIte]
    rw [opMod_int (by decide)]
    simp only [bSeq, bIf, bSet, bPut, bAug, bRet, bput, bget, dB, dBin, dVar, dCon, dCall, dCons, dNil, dSome, dNone, dSl, dLst, asI, wp_bind, wp_pure, wp_fail, bind_assoc, pure_bind, List.getElem?_cons_zero, List.getElem?_cons_succ, List.set_cons_zero, List.set_cons_succ, opIx_lst, at0, at1, at2, at3, M.opt_some, opEq_int, opGt_int, opGe_int, opAdd_int, opInt_int, asB, if_true, if_false, decide_eq_true_eq, Nat.reduceEqDiff, Nat.one_ne_zero, Nat.zero_ne_one, reduceIte]
    rw [opMul_int (mulOk_r (by decide))]
    simp only [bSeq, bIf, bSet, bPut, bAug, bRet, bput, bget, dB, dBin, dVar, dCon, dCall, dCons, dNil, dSome, dNone, dSl, dLst, asI, wp_bind, wp_pure, wp_fail, bind_assoc, pure_bind, List.getElem?_cons_zero, List.getElem?_cons_succ, List.set_cons_zero, List.set_cons_succ, opIx_lst, at0, at1, at2, at3, M.opt_some, opEq_int, opGt_int, opGe_int, opAdd_int, opInt_int, asB, if_true, if_false, decide_eq_true_eq, Nat.reduceEqDiff, Nat.one_ne_zero, Nat.zero_ne_one, reduceIte]
    rw [opMod_int (by decide)]
    simp only [bSeq, bIf, bSet, bPut, bAug, bRet, bput, bget, dB, dBin, dVar, dCon, dCall, dCons, dNil, dSome, dNone, dSl, dLst, asI, wp_bind, wp_pure, wp_fail, bind_assoc, pure_bind, List.getElem?_cons_zero, List.getElem?_cons_succ, List.set_cons_zero, List.set_cons_succ, opIx_lst, at0, at1, at2, at3, M.opt_some, opEq_int, opGt_int, opGe_int, opAdd_int, opInt_int, asB, if_true, if_false, decide_eq_true_eq, Nat.reduceEqDiff, Nat.one_ne_zero, Nat.zero_ne_one, reduceIte]
    rw [opDiv_int rfl]
    simp only [bSeq, bIf, bSet, bPut, bAug, bRet, bput, bget, dB, dBin, dVar, dCon, dCall, dCons, dNil, dSome, dNone, dSl, dLst, asI, wp_bind, wp_pure, wp_fail, bind_assoc, pure_bind, List.getElem?_cons_zero, List.getElem?_cons_succ, List.set_cons_zero, List.set_cons_succ, opIx_lst, at0, at1, at2, at3, M.opt_some, opEq_int, opGt_int, opGe_int, opAdd_int, opInt_int, asB, if_true, if_false, decide_eq_true_eq, Nat.reduceEqDiff, Nat.one_ne_zero, Nat.zero_ne_one, reduceIte]
    rw [opMod_int m0]
    simp only [bSeq, bIf, bSet, bPut, bAug, bRet, bput, bget, dB, dBin, dVar, dCon, dCall, dCons, dNil, dSome, dNone, dSl, dLst, asI, wp_bind, wp_pure, wp_fail, bind_assoc, pure_bind, List.getElem?_cons_zero, List.getElem?_cons_succ, List.set_cons_zero, List.set_cons_succ, opIx_lst, at0, at1, at2, at3, M.opt_some, opEq_int, opGt_int, opGe_int, opAdd_int, opInt_int, asB, if_true, if_false, decide_eq_true_eq, Nat.reduceEqDiff, Nat.one_ne_zero, Nat.zero_ne_one, reduceIte]
    obtain ⟨q3, q4⟩ := mod_nn ((((b * b).fmod 998244353 * 30011).fmod 998244353).fdiv 7) (m := m) (by omega)
    exact ⟨q3, q4, nats3 hx hy hz⟩
theorem cell_ok (ns : List Nat) (z : Nat) (hn : ns.length ≤ 63) : ∃ (l : List D) (c : Nat) (tl : List D), opSl (.scr (ns.map fun n : Nat => (n : Int))) (some (z : Int)) none = some (.lst l) ∧ opAdd (.lst l) (.lst [.int 0]) = some (.lst (.int c :: tl)) := by
  have e : cutD (ns.map fun n : Nat => (n : Int)) (some (z : Int)) none = (cutD ns (some (z : Int)) none).map fun n : Nat => (n : Int) := by
    unfold cutD
    rw [List.length_map, List.map_take, List.map_drop]
  have hl : (cutD ns (some (z : Int)) none).length ≤ 63 := by
    unfold cutD
    rw [List.length_take, List.length_drop]
    omega
  refine ⟨((cutD ns (some (z : Int)) none).map fun n : Nat => (n : Int)).map D.int, ?_⟩
  generalize cutD ns (some (z : Int)) none = l at e hl
  cases l with
  | nil => exact ⟨0, [], by show some (D.lst (List.map D.int _)) = _; rw [e], rfl⟩
  | cons c l =>
    refine ⟨c, ((l.map fun n : Nat => (n : Int)).map D.int) ++ [.int 0], by show some (D.lst (List.map D.int _)) = _; rw [e], ?_⟩
    show (if _ then _ else _) = _
    rw [if_pos (by simp at hl ⊢; omega)]
    rfl
theorem mkLst_ok {ds : List D} (h : ds.length ≤ 16777216) : mkLst ds = some (.lst ds) := if_pos h
theorem mkTup_ok {ds : List D} (h : ds.length ≤ 16777216) : mkTup ds = some (.tup ds) := if_pos h
theorem pow18 : ∃ big : Int, ∀ ρ, (dBin opPow (dCon (.int 10)) (dCon (.int 18))) ρ = pure (.int big) := by
  refine ⟨(10 : Int) ^ (18 : Int).toNat, fun ρ => ?_⟩
  show M.opt (opPow (.int 10) (.int 18)) = _
  unfold opPow
  dsimp only
  rw [if_pos ⟨by decide, by decide, by decide +kernel⟩]
  rfl
theorem take_ok' (big : Int) (pw : EM) (hbig : ∀ ρ, pw ρ = pure (.int big)) : takeOk 7 (bSeq (g_takeA pw) g_takeB) := by
  intro ns x y z m hn h1 h2
  have hx : (0 : Int) ≤ x := Int.natCast_nonneg x
  have hy : (0 : Int) ≤ y := Int.natCast_nonneg y
  have hz : (0 : Int) ≤ z := Int.natCast_nonneg z
  show (bSeq (g_takeA pw) g_takeB [some (.lst [.int x, .int y, .int z, .scr (ns.map fun n : Nat => (n : Int))]), some (.int m), none, none, none, none, none]).wp (takePost m) (fun _ => False)
  unfold g_takeA
  simp only [bSeq, bIf, bSet, bPut, bAug, bRet, bput, bget, dB, dBin, dVar, dCon, dCall, dCons, dNil, dSome, dNone, dSl, dLst, asI, wp_bind, wp_pure, wp_fail, bind_assoc, pure_bind, List.getElem?_cons_zero, List.getElem?_cons_succ, List.set_cons_zero, List.set_cons_succ, opIx_lst, at0, at1, at2, at3, M.opt_some, opEq_int, opGt_int, opGe_int, opAdd_int, opInt_int, asB, if_true, if_false, decide_eq_true_eq, Nat.reduceEqDiff, Nat.one_ne_zero, Nat.zero_ne_one, reduceIte]
  by_cases h0 : (x : Int) = 0
  · rw [if_pos h0]
    obtain ⟨l, c, tl, e1, e2⟩ := cell_ok ns z hn
    simp only [bSeq, bIf, bSet, bPut, bAug, bRet, bput, bget, dB, dBin, dVar, dCon, dCall, dCons, dNil, dSome, dNone, dSl, dLst, asI, wp_bind, wp_pure, wp_fail, bind_assoc, pure_bind, List.getElem?_cons_zero, List.getElem?_cons_succ, List.set_cons_zero, List.set_cons_succ, opIx_lst, at0, at1, at2, at3, M.opt_some, opEq_int, opGt_int, opGe_int, opAdd_int, opInt_int, asB, if_true, if_false, decide_eq_true_eq, Nat.reduceEqDiff, Nat.one_ne_zero, Nat.zero_ne_one, reduceIte]
    rw [e1]
    simp only [bSeq, bIf, bSet, bPut, bAug, bRet, bput, bget, dB, dBin, dVar, dCon, dCall, dCons, dNil, dSome, dNone, dSl, dLst, asI, wp_bind, wp_pure, wp_fail, bind_assoc, pure_bind, List.getElem?_cons_zero, List.getElem?_cons_succ, List.set_cons_zero, List.set_cons_succ, opIx_lst, at0, at1, at2, at3, M.opt_some, opEq_int, opGt_int, opGe_int, opAdd_int, opInt_int, asB, if_true, if_false, decide_eq_true_eq, Nat.reduceEqDiff, Nat.one_ne_zero, Nat.zero_ne_one, reduceIte]
    rw [mkLst_ok (ds := [D.int 0]) (by show 1 ≤ 16777216; decide)]
    simp only [bSeq, bIf, bSet, bPut, bAug, bRet, bput, bget, dB, dBin, dVar, dCon, dCall, dCons, dNil, dSome, dNone, dSl, dLst, asI, wp_bind, wp_pure, wp_fail, bind_assoc, pure_bind, List.getElem?_cons_zero, List.getElem?_cons_succ, List.set_cons_zero, List.set_cons_succ, opIx_lst, at0, at1, at2, at3, M.opt_some, opEq_int, opGt_int, opGe_int, opAdd_int, opInt_int, asB, if_true, if_false, decide_eq_true_eq, Nat.reduceEqDiff, Nat.one_ne_zero, Nat.zero_ne_one, reduceIte]
    rw [e2]
    simp only [bSeq, bIf, bSet, bPut, bAug, bRet, bput, bget, dB, dBin, dVar, dCon, dCall, dCons, dNil, dSome, dNone, dSl, dLst, asI, wp_bind, wp_pure, wp_fail, bind_assoc, pure_bind, List.getElem?_cons_zero, List.getElem?_cons_succ, List.set_cons_zero, List.set_cons_succ, opIx_lst, at0, at1, at2, at3, M.opt_some, opEq_int, opGt_int, opGe_int, opAdd_int, opInt_int, asB, if_true, if_false, decide_eq_true_eq, Nat.reduceEqDiff, Nat.one_ne_zero, Nat.zero_ne_one, reduceIte]
    rw [hbig]
    clear hbig
    simp only [bSeq, bIf, bSet, bPut, bAug, bRet, bput, bget, dB, dBin, dVar, dCon, dCall, dCons, dNil, dSome, dNone, dSl, dLst, asI, wp_bind, wp_pure, wp_fail, bind_assoc, pure_bind, List.getElem?_cons_zero, List.getElem?_cons_succ, List.set_cons_zero, List.set_cons_succ, opIx_lst, at0, at1, at2, at3, M.opt_some, opEq_int, opGt_int, opGe_int, opAdd_int, opInt_int, asB, if_true, if_false, decide_eq_true_eq, Nat.reduceEqDiff, Nat.one_ne_zero, Nat.zero_ne_one, reduceIte]
    have hc : (0 : Int) ≤ c := Int.natCast_nonneg c
    by_cases h3 : (c : Int) < big
    · rw [if_neg (by rw [decide_eq_true h3]; decide)]
      simp only [bSeq, bIf, bSet, bPut, bAug, bRet, bput, bget, dB, dBin, dVar, dCon, dCall, dCons, dNil, dSome, dNone, dSl, dLst, asI, wp_bind, wp_pure, wp_fail, bind_assoc, pure_bind, List.getElem?_cons_zero, List.getElem?_cons_succ, List.set_cons_zero, List.set_cons_succ, opIx_lst, at0, at1, at2, at3, M.opt_some, opEq_int, opGt_int, opGe_int, opAdd_int, opInt_int, asB, if_true, if_false, decide_eq_true_eq, Nat.reduceEqDiff, Nat.one_ne_zero, Nat.zero_ne_one, reduceIte]
      rw [opMul_int (mulOk_r (by decide))]
      simp only [bSeq, bIf, bSet, bPut, bAug, bRet, bput, bget, dB, dBin, dVar, dCon, dCall, dCons, dNil, dSome, dNone, dSl, dLst, asI, wp_bind, wp_pure, wp_fail, bind_assoc, pure_bind, List.getElem?_cons_zero, List.getElem?_cons_succ, List.set_cons_zero, List.set_cons_succ, opIx_lst, at0, at1, at2, at3, M.opt_some, opEq_int, opGt_int, opGe_int, opAdd_int, opInt_int, asB, if_true, if_false, decide_eq_true_eq, Nat.reduceEqDiff, Nat.one_ne_zero, Nat.zero_ne_one, reduceIte]
      rw [opMod_int (by decide)]
      simp only [bSeq, bIf, bSet, bPut, bAug, bRet, bput, bget, dB, dBin, dVar, dCon, dCall, dCons, dNil, dSome, dNone, dSl, dLst, asI, wp_bind, wp_pure, wp_fail, bind_assoc, pure_bind, List.getElem?_cons_zero, List.getElem?_cons_succ, List.set_cons_zero, List.set_cons_succ, opIx_lst, at0, at1, at2, at3, M.opt_some, opEq_int, opGt_int, opGe_int, opAdd_int, opInt_int, asB, if_true, if_false, decide_eq_true_eq, Nat.reduceEqDiff, Nat.one_ne_zero, Nat.zero_ne_one, reduceIte]
      rw [opMul_int (mulOk_l (by decide))]
      simp only [bSeq, bIf, bSet, bPut, bAug, bRet, bput, bget, dB, dBin, dVar, dCon, dCall, dCons, dNil, dSome, dNone, dSl, dLst, asI, wp_bind, wp_pure, wp_fail, bind_assoc, pure_bind, List.getElem?_cons_zero, List.getElem?_cons_succ, List.set_cons_zero, List.set_cons_succ, opIx_lst, at0, at1, at2, at3, M.opt_some, opEq_int, opGt_int, opGe_int, opAdd_int, opInt_int, asB, if_true, if_false, decide_eq_true_eq, Nat.reduceEqDiff, Nat.one_ne_zero, Nat.zero_ne_one, reduceIte]
      rw [opMod_int (by decide)]
      simp only [bSeq, bIf, bSet, bPut, bAug, bRet, bput, bget, dB, dBin, dVar, dCon, dCall, dCons, dNil, dSome, dNone, dSl, dLst, asI, wp_bind, wp_pure, wp_fail, bind_assoc, pure_bind, List.getElem?_cons_zero, List.getElem?_cons_succ, List.set_cons_zero, List.set_cons_succ, opIx_lst, at0, at1, at2, at3, M.opt_some, opEq_int, opGt_int, opGe_int, opAdd_int, opInt_int, asB, if_true, if_false, decide_eq_true_eq, Nat.reduceEqDiff, Nat.one_ne_zero, Nat.zero_ne_one, reduceIte]
      exact takeB_ok hx (mod_nn _ (by decide)).1 (by omega) h1 h2
    · rw [if_pos (by rw [decide_eq_false h3]; rfl)]
      simp only [bSeq, bIf, bSet, bPut, bAug, bRet, bput, bget, dB, dBin, dVar, dCon, dCall, dCons, dNil, dSome, dNone, dSl, dLst, asI, wp_bind, wp_pure, wp_fail, bind_assoc, pure_bind, List.getElem?_cons_zero, List.getElem?_cons_succ, List.set_cons_zero, List.set_cons_succ, opIx_lst, at0, at1, at2, at3, M.opt_some, opEq_int, opGt_int, opGe_int, opAdd_int, opInt_int, asB, if_true, if_false, decide_eq_true_eq, Nat.reduceEqDiff, Nat.one_ne_zero, Nat.zero_ne_one, reduceIte]
      rw [opMul_int (mulOk_r (by decide))]
      simp only [bSeq, bIf, bSet, bPut, bAug, bRet, bput, bget, dB, dBin, dVar, dCon, dCall, dCons, dNil, dSome, dNone, dSl, dLst, asI, wp_bind, wp_pure, wp_fail, bind_assoc, pure_bind, List.getElem?_cons_zero, List.getElem?_cons_succ, List.set_cons_zero, List.set_cons_succ, opIx_lst, at0, at1, at2, at3, M.opt_some, opEq_int, opGt_int, opGe_int, opAdd_int, opInt_int, asB, if_true, if_false, decide_eq_true_eq, Nat.reduceEqDiff, Nat.one_ne_zero, Nat.zero_ne_one, reduceIte]
      rw [opMod_int (by decide)]
      simp only [bSeq, bIf, bSet, bPut, bAug, bRet, bput, bget, dB, dBin, dVar, dCon, dCall, dCons, dNil, dSome, dNone, dSl, dLst, asI, wp_bind, wp_pure, wp_fail, bind_assoc, pure_bind, List.getElem?_cons_zero, List.getElem?_cons_succ, List.set_cons_zero, List.set_cons_succ, opIx_lst, at0, at1, at2, at3, M.opt_some, opEq_int, opGt_int, opGe_int, opAdd_int, opInt_int, asB, if_true, if_false, decide_eq_true_eq, Nat.reduceEqDiff, Nat.one_ne_zero, Nat.zero_ne_one, reduceIte]
      rw [opMul_int (mulOk_l (by decide))]
      simp only [bSeq, bIf, bSet, bPut, bAug, bRet, bput, bget, dB, dBin, dVar, dCon, dCall, dCons, dNil, dSome, dNone, dSl, dLst, asI, wp_bind, wp_pure, wp_fail, bind_assoc, pure_bind, List.getElem?_cons_zero, List.getElem?_cons_succ, List.set_cons_zero, List.set_cons_succ, opIx_lst, at0, at1, at2, at3, M.opt_some, opEq_int, opGt_int, opGe_int, opAdd_int, opInt_int, asB, if_true, if_false, decide_eq_true_eq, Nat.reduceEqDiff, Nat.one_ne_zero, Nat.zero_ne_one, reduceIte]
      rw [opMod_int (by decide)]
      simp only [bSeq, bIf, bSet, bPut, bAug, bRet, bput, bget, dB, dBin, dVar, dCon, dCall, dCons, dNil, dSome, dNone, dSl, dLst, asI, wp_bind, wp_pure, wp_fail, bind_assoc, pure_bind, List.getElem?_cons_zero, List.getElem?_cons_succ, List.set_cons_zero, List.set_cons_succ, opIx_lst, at0, at1, at2, at3, M.opt_some, opEq_int, opGt_int, opGe_int, opAdd_int, opInt_int, asB, if_true, if_false, decide_eq_true_eq, Nat.reduceEqDiff, Nat.one_ne_zero, Nat.zero_ne_one, reduceIte]
      exact takeB_ok hc (mod_nn _ (by decide)).1 (by omega) h1 h2
  · rw [if_neg h0]
    simp only [bSeq, bIf, bSet, bPut, bAug, bRet, bput, bget, dB, dBin, dVar, dCon, dCall, dCons, dNil, dSome, dNone, dSl, dLst, asI, wp_bind, wp_pure, wp_fail, bind_assoc, pure_bind, List.getElem?_cons_zero, List.getElem?_cons_succ, List.set_cons_zero, List.set_cons_succ, opIx_lst, at0, at1, at2, at3, M.opt_some, opEq_int, opGt_int, opGe_int, opAdd_int, opInt_int, asB, if_true, if_false, decide_eq_true_eq, Nat.reduceEqDiff, Nat.one_ne_zero, Nat.zero_ne_one, reduceIte]
    exact takeB_ok hx hy hz h1 h2
theorem take_ok : takeOk 7 g_take := Exists.elim pow18 fun big h => take_ok' big _ h
end P5

namespace P5
open PySem L2 PyProof.Rows
variable [Tb]

theorem wp_liftI {α : Type} (ρ : Env') (m : M α) (Q : α → Prop) (E : Err × Env' → Prop) : (liftI ρ m).wp Q E = m.wp Q (fun e => immE e = true ∧ E (e, ρ)) := rfl
theorem wp_liftF {α : Type} (ρ : Env') (m : M α) (Q : α → Prop) (E : Err × Env' → Prop) : (liftF ρ m).wp Q E = m.wp Q (fun e => E (e, ρ)) := rfl
theorem wp_quiet {α : Type} (m : M α) (Q : α → Prop) (E : Err → Prop) : (quiet m).wp Q E = m.wp Q (fun _ => False) := rfl
def hideG (mu : List Nat) : Nat → Env' → Env'
  | _, [] => []
  | i, o :: ρ => (if mu.contains i then none else o) :: hideG mu (i + 1) ρ
theorem hideG_eq (mu : List Nat) : ∀ (ρ : Env') (i : Nat), ρ.mapIdx (fun j o => if mu.contains (j + i) then none else o) = hideG mu i ρ
  | [], _ => rfl
  | o :: ρ, i => by
    rw [List.mapIdx_cons, hideG, ← hideG_eq mu ρ (i + 1), Nat.zero_add]
    congr 1
    congr 1
    funext j o
    rw [Nat.add_right_comm, Nat.add_assoc]
theorem hide_eq (mu : List Nat) (ρ : Env') : hide mu ρ = hideG mu 0 ρ := (hideG_eq mu ρ 0)
theorem hide_none (ρ : Env') : hide [] ρ = ρ := by
  rw [hide_eq]
  have : ∀ (ρ : Env') (i : Nat), hideG [] i ρ = ρ := fun ρ => by
    induction ρ with
    | nil => intro i; rfl
    | cons o ρ ih =>
      intro i
      rw [hideG, ih]
      rfl
  exact this ρ 0
theorem seq_nx {g g' : SM} {ρ ρ' : Env'} {Q : Fl → Prop} {E : Err × Env' → Prop} (h : g ρ = pure (.nx ρ')) (k : (g' ρ').wp Q E) : (sSeq g g' ρ).wp Q E := by
  show (g ρ >>= _).wp Q E
  rw [h]
  exact k
theorem seq_wp {g g' : SM} {ρ : Env'} {Q : Fl → Prop} {E : Err × Env' → Prop} (h : (g ρ).wp (fun r => match r with
  | .nx ρ' => (g' ρ').wp Q E
  | o => Q o) E) : (sSeq g g' ρ).wp Q E := by
  show (g ρ >>= _).wp Q E
  rw [wp_bind]
  refine (g ρ).mono (fun r z => ?_) (fun _ z => z) h
  cases r with
  | nx ρ' => exact z
  | _ => exact z

theorem lcL_map {vs : List Nat} {gd : GD} {tt : Env' → M Bool} {fe : EM} {ρ : Env'} (f : D → D) : ∀ {xs : List D}, (∀ x ∈ xs, ∃ l, gd x = some l ∧ (l.all fun p => vs.contains p.1) = true ∧ tt (setsD (wipeD ρ vs) l) = pure true ∧ fe (setsD (wipeD ρ vs) l) = pure (f x)) →
    lcL vs gd tt fe ρ xs = pure (xs.map f)
  | [], _ => rfl
  | x :: xs, h => by
    obtain ⟨l, h1, h2, h3, h4⟩ := h x List.mem_cons_self
    rw [lcL, h1, M.opt_some, pure_bind, if_pos h2, h3, quiet_pure, pure_bind, if_pos rfl, h4, quiet_pure, pure_bind, lcL_map f fun y hy => h y (List.mem_cons_of_mem _ hy), pure_bind]
    rfl
theorem lcL_filter {vs : List Nat} {gd : GD} {tt : Env' → M Bool} {fe : EM} {ρ : Env'} (f : D → D) (p : D → Bool) : ∀ {xs : List D}, (∀ x ∈ xs, ∃ l, gd x = some l ∧ (l.all fun p => vs.contains p.1) = true ∧ tt (setsD (wipeD ρ vs) l) = pure (p x) ∧ (p x = true → fe (setsD (wipeD ρ vs) l) = pure (f x))) →
    lcL vs gd tt fe ρ xs = pure ((xs.filter p).map f)
  | [], _ => rfl
  | x :: xs, h => by
    obtain ⟨l, h1, h2, h3, h4⟩ := h x List.mem_cons_self
    have ih := lcL_filter (tt := tt) (fe := fe) (ρ := ρ) (gd := gd) (vs := vs) f p fun y hy => h y (List.mem_cons_of_mem _ hy)
    rw [lcL, h1, M.opt_some, pure_bind, if_pos h2, h3, quiet_pure, pure_bind, ih]
    cases hp : p x with
    | false => rw [if_neg (by decide), List.filter_cons_of_neg (by rw [hp]; decide)]
    | true =>
      rw [if_pos rfl, h4 hp, quiet_pure, pure_bind, pure_bind, List.filter_cons_of_pos hp]
      rfl
theorem lcL_any {vs : List Nat} {gd : GD} {tt : Env' → M Bool} {fe : EM} {ρ : Env'} (R : D → Prop) {E : Err → Prop} : ∀ {xs : List D} {Q : List D → Prop}, (∀ x ∈ xs, ∃ l, gd x = some l ∧ (l.all fun p => vs.contains p.1) = true ∧ tt (setsD (wipeD ρ vs) l) = pure true ∧ (fe (setsD (wipeD ρ vs) l)).wp R (fun _ => False)) →
    (∀ ys, ys.length = xs.length → (∀ y ∈ ys, R y) → Q ys) → (lcL vs gd tt fe ρ xs).wp Q E
  | [], Q, _, q => q [] rfl (fun _ h => nomatch h)
  | x :: xs, Q, h, q => by
    obtain ⟨l, h1, h2, h3, h4⟩ := h x List.mem_cons_self
    rw [lcL, h1, M.opt_some, pure_bind, if_pos h2, h3, quiet_pure, pure_bind, if_pos rfl, wp_bind, wp_quiet]
    refine MM.mono _ (fun y hy => ?_) (fun _ z => z) h4
    rw [wp_bind]
    refine lcL_any R (fun z hz => h z (List.mem_cons_of_mem _ hz)) fun ys hl hys => ?_
    rw [wp_pure]
    refine q _ (by rw [List.length_cons, List.length_cons, hl]) fun z hz => ?_
    rcases List.mem_cons.mp hz with rfl | hz
    · exact hy
    · exact hys z hz

theorem forL_inv {mu : List Nat} {gd : GD} {g : SM} {E : Err × Env' → Prop} {Q : Fl → Prop} (I : List D → Env' → Prop) (hend : ∀ ρ, I [] ρ → Q (.nx ρ))
    (hstep : ∀ x xs ρ, I (x :: xs) ρ → ∃ l, gd x = some l ∧ okSets mu l = true ∧ (g (setsD ρ l)).wp (fun r => match r with
      | .nx ρ' => I xs ρ'
      | .ct ρ' => I xs ρ'
      | .bk ρ' => Q (.nx ρ')
      | .rt d => Q (.rt d)) E) : ∀ {xs : List D} {ρ : Env'}, I xs ρ → (forL mu gd g xs ρ).wp Q E
  | [], ρ, h => hend ρ h
  | x :: xs, ρ, h => by
    obtain ⟨l, h1, h2, h3⟩ := hstep x xs ρ h
    rw [forL, h1, M.opt_some, pure_bind, if_pos h2, wp_bind]
    refine MM.mono _ (fun r z => ?_) (fun _ z => z) h3
    cases r with
    | nx ρ' => exact forL_inv I hend hstep z
    | ct ρ' => exact forL_inv I hend hstep z
    | bk ρ' => exact z
    | rt d => exact z
theorem while_inv {p : Env' → M Bool} {g : SM} {E : Err × Env' → Prop} {Q : Fl → Prop} (I : Nat → Env' → Prop)
    (hstep : ∀ n ρ, I n ρ → (liftI ρ (p ρ)).wp (fun b => if b = true then (g ρ).wp (fun r => match r with
      | .nx ρ' => ∃ m, m < n ∧ I m ρ'
      | .ct ρ' => ∃ m, m < n ∧ I m ρ'
      | .bk ρ' => Q (.nx ρ')
      | .rt d => Q (.rt d)) E else Q (.nx ρ)) E) {n : Nat} {ρ : Env'} (h : I n ρ) : (sWhile p g ρ).wp Q E := by
  rw [wp_while]
  refine ⟨n + 1, ?_⟩
  have key : ∀ k n ρ, n < k → I n ρ → (whileN p g k ρ).wp Q E := by
    intro k
    induction k with
    | zero => intro n ρ h; omega
    | succ k ih =>
      intro n ρ hn h
      rw [whileN, wp_bind]
      refine MM.mono _ (fun b z => ?_) (fun _ z => z) (hstep n ρ h)
      cases b with
      | true =>
        have z' : (g ρ).wp _ E := z
        show (g ρ >>= _).wp Q E
        rw [wp_bind]
        refine (g ρ).mono (fun r z => ?_) (fun _ z => z) z'
        cases r with
        | nx ρ' =>
          obtain ⟨m, h1, h2⟩ := z
          exact ih m ρ' (by omega) h2
        | ct ρ' =>
          obtain ⟨m, h1, h2⟩ := z
          exact ih m ρ' (by omega) h2
        | bk ρ' => exact z
        | rt d => exact z
      | false => exact z
  exact key _ _ _ (Nat.lt_succ_self n) h

theorem bag_ok (ns : List Int) : (f_bag (startD 2 [.scr ns])).wp (fun d => ∃ ms : List Nat, d = .lst (ms.map fun n : Nat => D.int n) ∧ ms.length ≤ 63) (fun _ => False) := by
  let f : D → D := fun d => match d with
    | .int i => .int (if i < 0 then -i else i)
    | _ => .non
  have h1 : iSeq (dSl (dVar 0) dNone (dSome (dCon (.int 63)))) (startD 2 [.scr ns]) = pure ((cutD ns none (some 63)).map D.int) := rfl
  have h2 : lcL [1] (gdName 1) dYes (dCall opAbs (dCons (dVar 1) dNil)) (startD 2 [.scr ns]) ((cutD ns none (some 63)).map D.int) = pure (((cutD ns none (some 63)).map D.int).map f) := lcL_map f fun x hx => by
    obtain ⟨i, _, rfl⟩ := List.mem_map.mp hx
    exact ⟨[(1, .int i)], rfl, rfl, rfl, rfl⟩
  unfold f_bag dLc
  rw [h1, pure_bind, h2, pure_bind, wp_pure]
  have hl : (cutD ns none (some 63)).length ≤ 63 := by
    unfold cutD
    rw [List.length_take]
    have : HT.sIx ns.length ns.length (some 63) = min 63 ns.length := HT.sIx_nat _ _ 63
    omega
  generalize cutD ns none (some 63) = l at hl
  refine ⟨l.map fun i => i.natAbs, ?_, by rw [List.length_map]; exact hl⟩
  rw [List.map_map, List.map_map]
  congr 1
  refine List.map_congr_left fun i _ => ?_
  show D.int _ = D.int ((i.natAbs : Nat) : Int)
  congr 1
  by_cases hi : i < 0
  · rw [if_pos hi]; omega
  · rw [if_neg hi]; omega
end P5

namespace P5
open PySem L2 PyProof.Rows
variable [Tb]

mutual
def plD : D → Bool
  | .non => true
  | .bl _ => true
  | .int _ => true
  | .str x => okD (.str x)
  | .tup xs => plL xs
  | .ktup xs => plL xs
  | .lst xs => plL xs
  | _ => false
def plL : List D → Bool
  | [] => true
  | x :: xs => plD x && plL xs
end
mutual
def szD : D → Nat
  | .tup xs => szL xs + 1
  | .ktup xs => szL xs + 1
  | .lst xs => szL xs + 1
  | _ => 1
def szL : List D → Nat
  | [] => 0
  | x :: xs => szD x + szL xs
end
def alikeM : List D → M D
  | [d, e] => ⟨fun Q _ => d = e ∧ plD d = true ∧ szD d ≤ 16777216 ∧ Q (.bl true), fun q _ h => ⟨h.1, h.2.1, h.2.2.1, q _ h.2.2.2⟩⟩
  | _ => M.fail
theorem szD_pos (d : D) : 1 ≤ szD d := by
  cases d <;> simp [szD]
theorem plL_mem : ∀ {xs : List D}, plL xs = true → ∀ x ∈ xs, plD x = true
  | [], _, _, h => nomatch h
  | x :: xs, h, y, hy => by
    rw [plL, Bool.and_eq_true] at h
    rcases List.mem_cons.mp hy with rfl | hy
    · exact h.1
    · exact plL_mem h.2 y hy
def szP : D → Nat
  | .tup [x, _] => szD x
  | _ => 1
def remP (ps : List D) : Nat := (ps.map szP).sum
def slkP (ps : List D) : Nat := (ps.map fun p => szP p - 1).sum
theorem remP_pairs : ∀ xs : List D, remP (pairsD (xs.zip xs)) = szL xs
  | [] => rfl
  | x :: xs => by
    show szD x + remP (pairsD (xs.zip xs)) = szD x + szL xs
    rw [remP_pairs xs]
theorem slkP_pairs : ∀ xs : List D, slkP (pairsD (xs.zip xs)) + xs.length = szL xs
  | [] => rfl
  | x :: xs => by
    show (szD x - 1) + slkP (pairsD (xs.zip xs)) + (xs.length + 1) = szD x + szL xs
    have := slkP_pairs xs
    have := szD_pos x
    omega
theorem remP_app (a b : List D) : remP (a ++ b) = remP a + remP b := by
  unfold remP
  rw [List.map_append, List.sum_append]
theorem slkP_app (a b : List D) : slkP (a ++ b) = slkP a + slkP b := by
  unfold slkP
  rw [List.map_append, List.sum_append]
theorem opNe_bl (b c : Bool) : opNe (.bl b) (.bl c) = some (.bl (b != c)) := by
  cases b <;> cases c <;> rfl
theorem opIsi_of {T t : String} {d : D} (h : tyD d = some t) : opIsi T d = some (.bl (isB t T)) := by
  unfold opIsi
  rw [h]
  rfl
theorem opIsi2_of {T U t : String} {d : D} (h : tyD d = some t) : opIsi2 T U d = some (.bl (isB t T || isB t U)) := by
  unfold opIsi2
  rw [h]
  rfl
def kids : D → Option (List D)
  | .tup xs => some xs
  | .ktup xs => some xs
  | .lst xs => some xs
  | _ => none
theorem pl_ty {x : D} (h : plD x = true) : ∃ t, tyD x = some t ∧ (isB t "tuple" || isB t "list") = (kids x).isSome := by
  cases x <;> first | (simp [plD] at h; done) | skip
  · exact ⟨"NoneType", rfl, by decide +kernel⟩
  · exact ⟨"bool", rfl, by show (isB "bool" "tuple" || isB "bool" "list") = false; decide +kernel⟩
  · exact ⟨"int", rfl, by show (isB "int" "tuple" || isB "int" "list") = false; decide +kernel⟩
  · exact ⟨"str", rfl, by show (isB "str" "tuple" || isB "str" "list") = false; decide +kernel⟩
  · exact ⟨"tuple", rfl, by show (isB "tuple" "tuple" || isB "tuple" "list") = true; decide +kernel⟩
  · exact ⟨"tuple", rfl, by show (isB "tuple" "tuple" || isB "tuple" "list") = true; decide +kernel⟩
  · exact ⟨"list", rfl, by show (isB "list" "tuple" || isB "list" "list") = true; decide +kernel⟩
theorem kids_zip {x : D} {cs : List D} (h : kids x = some cs) : opZipL [x, x] = some (.lst (pairsD (cs.zip cs))) ∧ opLen [x] = some (.int cs.length) ∧ szD x = szL cs + 1 ∧ (plD x = true → plL cs = true) := by
  cases x <;> first | (cases h; done) | skip
  · cases h; exact ⟨rfl, rfl, by rw [szD], fun h => by rw [plD] at h; exact h⟩
  · cases h; exact ⟨rfl, rfl, by rw [szD], fun h => by rw [plD] at h; exact h⟩
  · cases h; exact ⟨rfl, rfl, by rw [szD], fun h => by rw [plD] at h; exact h⟩
theorem atom_ne {x : D} (h : plD x = true) (hk : kids x = none) : opNe x x = some (.bl false) := by
  cases x <;> first | (simp [plD] at h; done) | (cases hk; done) | skip
  · rfl
  · rw [opNe_bl]; simp
  · rw [opNe_int]; simp
  · rename_i s
    unfold opNe
    rw [show okD (.str s) = true by rw [plD] at h; exact h]
    show some (D.bl (!(PyData.eqv (.str s) (.str s)))) = _
    simp [PyData.eqv]
theorem alike_ok (ds : List D) (Q : D → Prop) (E : Err → Prop) (h : (alikeM ds).wp Q E) : (runFn 6 g_alike ds).wp Q E := by
  match ds, h with
  | [d, _], ⟨rfl, hp, hs, hq⟩ =>
  rw [wp_run]
  show (g_alike [some d, some d, none, none, none, none]).wp _ _
  unfold g_alike
  refine seq_nx (ρ' := [some d, some d, some (.lst [.tup [d, d]]), some (.int 0), none, none]) ?_ ?_
  · unfold sParFO
    have e1 : dLst (dCons (dTup (dCons (dVar 0) (dCons (dVar 1) dNil))) dNil) (hide [2] [some d, some d, none, none, none, none]) = pure (.lst [.tup [d, d]]) := by
      show M.opt (mkTup [d, d]) >>= (fun d => pure [] >>= fun ds => pure (d :: ds)) >>= (fun ds => M.opt (mkLst ds)) = _
      rw [mkTup_ok (by show 2 ≤ 16777216; decide), M.opt_some, pure_bind, pure_bind, pure_bind, mkLst_ok (by show 1 ≤ 16777216; decide)]
      rfl
    rw [e1]
    rfl
  refine seq_wp ?_
  refine while_inv (fun n ρ => ∃ ps k o4 o5, ρ = [some d, some d, some (.lst ps), some (.int (k : Nat)), o4, o5] ∧ k ≤ ps.length ∧ (∀ p ∈ ps.drop k, ∃ x, p = .tup [x, x] ∧ plD x = true) ∧ n = remP (ps.drop k) ∧ ps.length + slkP (ps.drop k) ≤ 16777216) ?_
    ⟨[.tup [d, d]], 0, none, none, rfl, Nat.zero_le _, fun p hm => ⟨d, by simpa using hm, hp⟩, rfl, by
      show 1 + (szD d - 1 + 0) ≤ 16777216
      have := szD_pos d
      omega⟩
  rintro n ρ ⟨ps, k, o4, o5, rfl, hk, hall, rfl, hsz⟩
  have ec : dB (dBin opLt (dVar 3) (dCall opLen (dCons (dVar 2) dNil))) [some d, some d, some (.lst ps), some (.int (k : Nat)), o4, o5] = pure (decide (k < ps.length)) := by
    show M.opt (opLt (.int k) (.int ps.length)) >>= (fun d => M.opt (asB d)) = _
    rw [opLt_int, M.opt_some, pure_bind]
    show pure (decide ((k : Int) < (ps.length : Int))) = _
    congr 1
    exact decide_eq_decide.mpr (by omega)
  rw [ec, liftI_pure, wp_pure]
  by_cases hlt : k < ps.length
  · rw [if_pos (by simpa using hlt)]
    have ed : ps.drop k = ps[k] :: ps.drop (k + 1) := List.drop_eq_getElem_cons hlt
    obtain ⟨x, hx, hpx⟩ := hall ps[k] (by rw [ed]; exact List.mem_cons_self)
    have hat : atI ps (k : Int) = some (.tup [x, x]) := atI_of ps k _ (by rw [List.getElem?_eq_getElem hlt, hx])
    have hszp : szP ps[k] = szD x := by rw [hx]; rfl
    have hrem : remP (ps.drop k) = szD x + remP (ps.drop (k + 1)) := by
      rw [ed]
      show szP ps[k] + _ = _
      rw [hszp]
      rfl
    have hslk : slkP (ps.drop k) = (szD x - 1) + slkP (ps.drop (k + 1)) := by
      rw [ed]
      show (szP ps[k] - 1) + _ = _
      rw [hszp]
      rfl
    have hpos := szD_pos x
    refine seq_nx (ρ' := [some d, some d, some (.lst ps), some (.int (k : Nat)), some x, some x]) ?_ ?_
    · show (M.opt (opIx (.lst ps) (.int k)) >>= fun v => _ : MS Fl) = _
      rw [opIx_lst, hat]
      rfl
    refine seq_nx (ρ' := [some d, some d, some (.lst ps), some (.int ((k + 1 : Nat) : Int)), some x, some x]) ?_ ?_
    · rfl
    obtain ⟨t, ht, htk⟩ := pl_ty hpx
    have c1 : ∀ T : String, dB (dBin opNe (dUn (opIsi T) (dVar 4)) (dUn (opIsi T) (dVar 5))) [some d, some d, some (.lst ps), some (.int ((k + 1 : Nat) : Int)), some x, some x] = pure false := fun T => by
      show (M.opt (opIsi T x) >>= fun a => M.opt (opIsi T x) >>= fun b => M.opt (opNe a b)) >>= (fun d => M.opt (asB d)) = _
      rw [opIsi_of ht, M.opt_some, pure_bind, pure_bind, opNe_bl, M.opt_some, pure_bind]
      simp [asB]
    have c2 : dB (dBin opNe (dUn (opIsi2 "tuple" "list") (dVar 4)) (dUn (opIsi2 "tuple" "list") (dVar 5))) [some d, some d, some (.lst ps), some (.int ((k + 1 : Nat) : Int)), some x, some x] = pure false := by
      show (M.opt (opIsi2 "tuple" "list" x) >>= fun a => M.opt (opIsi2 "tuple" "list" x) >>= fun b => M.opt (opNe a b)) >>= (fun d => M.opt (asB d)) = _
      rw [opIsi2_of ht, M.opt_some, pure_bind, pure_bind, opNe_bl, M.opt_some, pure_bind]
      simp [asB]
    have c3 : dT (dUn (opIsi2 "tuple" "list") (dVar 4)) [some d, some d, some (.lst ps), some (.int ((k + 1 : Nat) : Int)), some x, some x] = pure (kids x).isSome := by
      show M.opt (opIsi2 "tuple" "list" x) >>= (fun d => M.opt (truD d)) = _
      rw [opIsi2_of ht, M.opt_some, pure_bind, htk]
      rfl
    refine seq_nx (ρ' := [some d, some d, some (.lst ps), some (.int ((k + 1 : Nat) : Int)), some x, some x]) ?_ ?_
    · unfold sIf dOrT
      rw [c1, c1]
      rfl
    refine seq_nx (ρ' := [some d, some d, some (.lst ps), some (.int ((k + 1 : Nat) : Int)), some x, some x]) ?_ ?_
    · unfold sIf
      rw [c2]
      rfl
    unfold sIf
    rw [c3]
    cases hkd : kids x with
    | none =>
      rw [show liftI _ (pure (none : Option (List D)).isSome : M Bool) = pure false from rfl, pure_bind, if_neg (by decide)]
      have c4 : dB (dBin opNe (dVar 4) (dVar 5)) [some d, some d, some (.lst ps), some (.int ((k + 1 : Nat) : Int)), some x, some x] = pure false := by
        show M.opt (opNe x x) >>= (fun d => M.opt (asB d)) = _
        rw [atom_ne hpx hkd]
        rfl
      rw [c4]
      show ∃ m, _
      refine ⟨remP (ps.drop (k + 1)), by omega, ps, k + 1, some x, some x, rfl, hlt, fun p hm => hall p (by rw [ed]; exact List.mem_cons_of_mem _ hm), rfl, by omega⟩
    | some cs =>
      rw [show liftI _ (pure (some cs).isSome : M Bool) = pure true from rfl, pure_bind, if_pos rfl]
      obtain ⟨hz, hl, hsx, hpl⟩ := kids_zip hkd
      refine seq_nx (ρ' := [some d, some d, some (.lst ps), some (.int ((k + 1 : Nat) : Int)), some x, some x]) ?_ ?_
      · have c5 : dB (dBin opNe (dCall opLen (dCons (dVar 4) dNil)) (dCall opLen (dCons (dVar 5) dNil))) [some d, some d, some (.lst ps), some (.int ((k + 1 : Nat) : Int)), some x, some x] = pure false := by
          show (M.opt (opLen [x]) >>= fun a => M.opt (opLen [x]) >>= fun b => M.opt (opNe a b)) >>= (fun d => M.opt (asB d)) = _
          rw [hl, M.opt_some, pure_bind, pure_bind, opNe_int, M.opt_some, pure_bind]
          simp [asB]
        unfold dOrT
        rw [c1, c5]
        rfl
      have hlen : (pairsD (cs.zip cs)).length = cs.length := by rw [zip_len]; omega
      have hs2 := slkP_pairs cs
      have e6 : sExtF [2] 2 (dCall opZipL (dCons (dVar 4) (dCons (dVar 5) dNil))) [some d, some d, some (.lst ps), some (.int ((k + 1 : Nat) : Int)), some x, some x] = pure (.nx [some d, some d, some (.lst (ps ++ pairsD (cs.zip cs))), some (.int ((k + 1 : Nat) : Int)), some x, some x]) := by
        show (liftF _ (M.opt (opZipL [x, x])) >>= fun d => M.opt (asL d) >>= fun zs => if ps.length + zs.length ≤ 16777216 then pure (.nx _) else M.fail : MS Fl) = _
        rw [hz]
        show (if ps.length + (pairsD (cs.zip cs)).length ≤ 16777216 then pure (.nx _) else M.fail : MS Fl) = _
        rw [if_pos (by omega)]
        rfl
      rw [e6, wp_pure]
      refine ⟨remP ((ps ++ pairsD (cs.zip cs)).drop (k + 1)), ?_, ps ++ pairsD (cs.zip cs), k + 1, some x, some x, rfl, by rw [List.length_append]; omega, ?_, rfl, ?_⟩
      · rw [List.drop_append_of_le_length (show k + 1 ≤ ps.length from hlt), remP_app, remP_pairs]
        omega
      · intro p hm
        rw [List.drop_append_of_le_length (show k + 1 ≤ ps.length from hlt)] at hm
        rcases List.mem_append.mp hm with hm | hm
        · exact hall p (by rw [ed]; exact List.mem_cons_of_mem _ hm)
        · unfold pairsD at hm
          obtain ⟨⟨a, b⟩, hab, rfl⟩ := List.mem_map.mp hm
          obtain ⟨i, hi, e⟩ := List.mem_iff_getElem.mp hab
          rw [List.getElem_zip] at e
          cases e
          exact ⟨_, rfl, plL_mem (hpl hpx) _ (List.getElem_mem _)⟩
      · rw [List.drop_append_of_le_length (show k + 1 ≤ ps.length from hlt), slkP_app, List.length_append, hlen]
        omega
  · rw [if_neg (by simpa using hlt)]
    exact hq
end P5

namespace P5
open PySem L2 PyProof.Rows
variable [Tb]

def untab (H : Hp) : Hp := fun b => match H b with
  | some (.tbl _) => none
  | o => o
theorem untab_at {H : Hp} {b : Addr} {o : HO} (e : H b = some o) (n : notT o = true) : untab H b = some o := by
  unfold untab
  rw [e]
  cases o <;> first | rfl | (cases n; done)
theorem untab_sub {H : Hp} (t : LamX.Tabs Tb.T H) : Sub (untab H) H := by
  have key : ∀ b o, untab H b = some o → H b = some o ∧ notT o = true := fun b o e => by
    unfold untab at e
    split at e
    · cases e
    · rename_i h
      refine ⟨e, ?_⟩
      cases o <;> first | rfl | exact (h _ e).elim
  exact ⟨fun b o e => (key b o e).1, fun b o e => (key b o e).2, t⟩
theorem law_sp {K : K'} {mg : Mg} {H : Hp} {a : Addr} {ns : List Int} {m : List D → M D} (hS : SqL K H a (ns.map V.int)) (hl : ns.length ≤ 63) (hT : LamX.Tabs Tb.T H) (h : (m [.scr ns]).wp (fun d => d = .bl true) (fun _ => False)) :
    spOf K mg 1 m [.ref a] H (fun v _ => v = .bl true) fun _ _ _ => False := by
  have hS' : SqL K (untab H) a (ns.map V.int) := by
    rcases hS with (h | ⟨o, h⟩) | h
    · exact .inl (.inl (untab_at h rfl))
    · exact .inl (.inr ⟨o, untab_at h rfl⟩)
    · exact .inr h
  refine ⟨untab H, [.scr ns], untab_sub hT, .cons (.scr hS' (by omega)) .nil, rfl, (m [.scr ns]).mono (fun d e v F' H' g r => ?_) (fun _ z => z.elim) h⟩
  rw [e] at r
  exact r.bl_inv
theorem cx_no {P : Program} {w : World} (H : Hp) (s : Shared) (e : Value) (s' : Shared) (h : L2.CX P w [] H s (fun _ _ _ => False) e s') : False := by
  obtain ⟨_, _, _, _, _, _, _, _, _, _, _, _, z⟩ := h
  exact z
end P5

namespace P5
open PySem L2 PyProof.Rows
variable [Tb]

def isCont : D → Bool
  | .tup _ => true
  | .ktup _ => true
  | .lst _ => true
  | .scr _ => true
  | _ => false
def opRepr : List D → Option D
  | [d] => if isCont d && okD d && PyData.showable (toPy d) && !(PyData.hasDict (toPy d)) && decide ((PyData.shown (toPy d)).length ≤ 16777216) then some (.str (PyData.shown (toPy d))) else none
  | _ => none
theorem cont_ref {K : K'} {mg : Mg} {F : Hp} {v : V} {d : D} (r : Rep K mg F v d) (h : isCont d = true) : ∃ a, v = .ref a := by
  cases r <;> first | exact ⟨_, rfl⟩ | cases h
theorem c_repr {X : Cx} (hg : X.A.guards = some []) (hu : X.A.units + 66 < cLine) : CallR X (.builtin "repr") (cOf X opRepr) := by
  intro pins s σ H xs us Q I rv h
  obtain ⟨F, ds, r, sF, rp, e, q⟩ := h
  unfold opRepr at e
  split at e
  · rename_i d
    split at e
    · rename_i hc
      cases e
      simp only [Bool.and_eq_true, Bool.not_eq_true', decide_eq_true_eq] at hc
      obtain ⟨⟨⟨⟨c1, c2⟩, c3⟩, c4⟩, c5⟩ := hc
      obtain ⟨v, rfl, r1⟩ := rp.one
      obtain ⟨a, rfl⟩ := cont_ref r1 c1
      obtain ⟨u, rfl, ru⟩ := vals1 rv
      obtain ⟨as, hr⟩ := (r1.dpH sF c2).reads I _ _ _ ru
      cases ru
      have hdp : (toPy d).depth ≤ 64 := by
        have : SeqAt.shaped (toPy d) = true := c2
        unfold SeqAt.shaped at this
        rw [Bool.and_eq_true] at this
        exact of_decide_eq_true this.2
      refine PySem.repr_of_reads' hr c3 (PyData.noDict_hsm c4) hg (by omega) (fun _ _ e => e) (fun h' u tk hk => ?_) (szOk c5)
      exact ⟨.str _, H, I.kept (t' := tk) hk, ⟨_, rfl⟩, q _ F H (Grow.refl sF) (.str _)⟩
    · cases e
  · cases e

def RunAt (P : Program) (w : World) (K : K') (mg : Mg) (base : Heap) (k : Nat) (A : Around) (f : Addr) (fd : FuncData) (ps : List Str) (sp : Sp) : Prop :=
  ∀ (outer : List Env) (s : Shared) (H : Hp) (args : Args) (us : List Value) (vs : List V) (Q : VK) (E : XK), Room k A → Env0 P w K mg base A outer s H → BindsTo s fd args (ps.zip us) → Vals vs us → sp vs H Q E →
    codeAny (model P w) A (.call (.ref f) args) (CR (L2.CX P w) outer P w H s Q E) s
theorem run_at {P : Program} {w : World} {K : K'} {mg : Mg} {base : Heap} {x : Str} {st : Stmt} {f : Addr} {fd : FuncData} {N ps : List Str} {k : Nat} {sp : Sp} (A : Around) (Fn : Fun K x x st f fd) (S : FnScope N ps (defScope st)) (len : ∀ vs H Q E, sp vs H Q E → vs.length = ps.length)
    (body : ∀ (cdv : Value) (outer : List Env) (s : Shared) (H : Hp) (vs : List V) (Q : VK) (E : XK), Room k (A.deeper (envOfC x (defScope st) s.heap.objs.size f cdv)) → sp vs H Q E →
      ∃ t, PSs (cxD P w K mg base N x st f cdv A outer s H E) (defBody st) t ∧ t { nx := fun _ H' => Q .non H', rt := Q } (L2.start N vs) H) : RunAt P w K mg base (k + 1) A f fd ps sp := by
  obtain ⟨oc, od, kV, doc, pm, an, cdv, ct, osl, rfl, lk, hcd⟩ := Fn.ex
  intro outer s H args us vs Q E hr e0 hb rv hsp
  have down : ∀ b o, base.get? b = some o → s.heap.get? b = some o := fun b o e => (e0.bs b o e).1
  have kinds : ∀ y ∈ ps.zip us, (defScope st).names.lookup y.1 = some .local ∨ ((defScope st).names.lookup y.1 = some .cell ∧ ((cellsFrom (s.heap.objs.size + 1) (defScope st).names []).lookup y.1).isSome = true) := by
    rintro ⟨n, v⟩ hy
    exact (S.par n (List.of_mem_zip hy).1).imp id fun q => ⟨q, PySem.W.cellsFrom_some _ _ _ (.inl q)⟩
  refine codeAny_call_function hr.depth ((e0.mod.kin.keeps down) _ _ lk) rfl S.co S.gen rfl (PySem.W.codeRec_of (e0.mod.kin.keeps down) hcd) (hb _ _ _ _ (wpAny_newFunctionEnv_cells S.kind kinds ?_))
  rintro env rfl s1 x1
  obtain ⟨t, ht, hq⟩ := body cdv outer s H vs Q E (hr.deeper _) hsp
  have J : Inv (cxD P w K mg base N x st f cdv A outer s H E) [] (L2.start N vs) H s1 := inv_start S hr.hd e0 (len _ _ _ _ hsp) rv x1
  refine ⟨(e0.mod.nolimit.keeps down).keeps x1.toInCall.keep, codeAny_func (wpAny_mono (ht.run [] s1 _ H _ J hq) (fun fl s' z => ?_) fun _ _ z => z)⟩
  cases fl <;> first
    | (obtain ⟨v, σ', H', J', r', q⟩ := z; exact ⟨v, H', J'.os, J'.bare, J'.base, J'.hok, r', q⟩)
    | (obtain ⟨σ', H', J', q⟩ := z; exact ⟨.non, H', J'.os, J'.bare, J'.base, J'.hok, rfl, q⟩)
    | (obtain ⟨_, _, _, q⟩ := z; exact q.elim)
theorem keep_at {P : Program} {w : World} {K : K'} {mg : Mg} {base : Heap} {x : Str} {st : Stmt} {f : Addr} {fd : FuncData} (N ps : List Str) (k : Nat) (g : SM) (mu : List Nat) (Fn : Fun K x x st f fd) (S : FnScope N ps (defScope st)) (hps : ∀ i ∈ mu, ps.length ≤ i)
    (hb : ∀ (cdv : Value) (outer : List Env) (s : Shared) (H F0 : Hp) (E : XK), Room k (callerA.deeper (envOfC x (defScope st) s.heap.objs.size f cdv)) → (cxD P w K mg base N x st f cdv callerA outer s H E).A.guards = some [] →
      PuB (cxD P w K mg base N x st f cdv callerA outer s H E) (fun cls d _ H' => E cls d H') mu F0 H (defBody st) g) : RunAt P w K mg base (k + 1) callerA f fd ps (spOf K mg ps.length (runFn N.length g)) := by
  refine run_at callerA Fn S (fun vs H Q E h => h.len) fun cdv outer s H vs Q E hr hsp => ?_
  obtain ⟨F0, ds, sF, r, hl, h⟩ := hsp
  refine ⟨_, hb cdv outer s H F0 E hr rfl F0, F0, startD N.length ds, ?_, ?_⟩
  · have hlen : vs.length = ds.length := r.length
    have hst : ∀ i ∈ mu, ∀ d, (startD N.length ds)[i]? ≠ some (some d) := fun i hi d z => by
      have hpi := hps i hi
      unfold startD at z
      rw [List.getElem?_append_right (by simpa [hl] using hpi), List.getElem?_replicate] at z
      split at z <;> cases z
    refine ⟨sF, Same.refl _, Same.refl _, SameN.refl _, fun a h1 _ => h1, ?_, fun i d h1 _ => start_get r _ i d h1, fun i d h1 h2 _ => (hst i h2 d h1).elim, fun i j d e a b h1 _ _ h4 _ _ _ _ _ => (hst i h1 d h4).elim⟩
    unfold L2.start startD
    simp [hlen]
  · refine MM.mono _ (fun r z => ?_) (fun e z F' H' σ' c dx s' er => z F' H' c dx s'.grows er) h
    cases r with
    | rt d => exact fun F' H' v g r => z v F' H' g r
    | nx ρ => exact fun F' H' σ' s' => z .non F' H' s'.grows .non
    | bk ρ => exact z.elim
    | ct ρ => exact z.elim
theorem call_at {P : Program} {w : World} {K : K'} {mg mb : Mg} {k : Nat} {fa a : Addr} {fd : FuncData} {x : Str} {sp : Sp} {s₁ : Shared} {vs : List Value} {ns : List Int} (KX : K.In s₁.heap) (hns : s₁.heap.Ns mainGlobals mg) (hb : s₁.heap.Ns builtinsNs mb)
    (hbb : ∀ x : Str, x ≠ "__name__" → mb x = bootBuiltins x) (hlim : s₁.heap.NoLimit) (hg : s₁.gens = #[]) (ha : s₁.heap.get? a = some { cls := .type "list", data := .seq vs.toArray }) (hi : IntsAre vs ns) (hl : ns.length ≤ sizeLine) (hr : Room k callerA)
    (F : ∀ base : Heap, K.In base → base.Ns mainGlobals mg → RunAt P w K mg base k callerA fa fd [x] sp) (hbind : ∀ (s : Shared) (u : Value), BindsTo s fd ⟨[u], []⟩ [(x, u)])
    (hsp : ∀ H : Hp, SqL K H a (ns.map V.int) → sp [.ref a] H (fun v _ => v = .bl true) fun _ _ _ => False) :
    codeAny (model P w) callerA (.call (.ref fa) ⟨[.ref a], []⟩) (fun r s' => r = .ok (.ret (.bool true)) ∧ OldK s₁.heap s'.heap ∧ s'.os = s₁.os ∧ AllBare s'.gens) s₁ := by
  obtain ⟨H, hH, hS⟩ : ∃ H : Hp, (∀ b u, H b = some u → b = a ∧ u = .frz { cls := .type "list", data := .seq vs.toArray } (.lst (ns.map V.int)) ∧ K.lookup a = none) ∧ SqL K H a (ns.map V.int) := by
    cases hk : K.lookup a with
    | none =>
      refine ⟨upd (fun _ => none) a (.frz { cls := .type "list", data := .seq vs.toArray } (.lst (ns.map V.int))), fun b u e => ?_, .inl (.inr ⟨_, upd_same⟩)⟩
      by_cases h : b = a
      · subst h
        rw [upd_same] at e
        cases e
        exact ⟨rfl, rfl, rfl⟩
      · rw [upd_ne h] at e
        cases e
    | some o =>
      have e1 := KX a o hk
      rw [ha] at e1
      cases e1
      exact ⟨fun _ => none, (fun b u e => nomatch e), .inr ⟨_, vs.toArray, _, hk, rfl, rfl, rfl, by rw [List.size_toArray, hi.length]; exact hl, by simpa using vals_ints hi⟩⟩
  have hok : HOk P w H s₁.heap := fun b u e => by
    obtain ⟨rfl, rfl, _⟩ := hH b u e
    exact ⟨ha, by rw [List.length_map]; exact hl, vs, _, vals_ints hi, ha⟩
  have seen : ∀ {b : Addr} {o : Obj}, s₁.heap.get? b = some o → (∀ its n, o.data ≠ .seq its n) → (hidT s₁.heap H).get? b = some o := fun {b o} e hd => by
    refine hidT_get e ?_
    cases q : H b with
    | none => rfl
    | some u =>
      obtain ⟨rfl, _, _⟩ := hH b u q
      rw [ha] at e
      cases e
      exact (hd _ _ rfl).elim
  have nsH : ∀ {b : Addr} {m : Mg}, s₁.heap.Ns b m → (hidT s₁.heap H).Ns b m := fun {b m} ⟨o, es, ep, e, d, r⟩ => ⟨o, es, ep, seen e (fun _ _ z => by rw [d] at z; cases z), d, r⟩
  have kH : K.In (hidT s₁.heap H) := fun b o e => hidT_get (KX b o e) (by
    cases q : H b with
    | none => rfl
    | some u =>
      obtain ⟨rfl, _, hk⟩ := hH b u q
      rw [hk] at e
      cases e)
  have md : L2.Mod K mg (hidT s₁.heap H) := ⟨kH, nsH hns, ⟨mb, nsH hb, hbb⟩, let ⟨m, q1, q2⟩ := hlim; ⟨m, nsH q1, q2⟩⟩
  have env : Env0 P w K mg (hidT s₁.heap H) callerA [] s₁ H := ⟨rfl, md, fun _ _ e => of_hidT e, Nat.le_of_eq (hidT_size _ _), trivial, (fun b hb => nomatch (show b ∈ ([] : List Addr) from hb)), hok, .of_eq hg⟩
  refine codeAny_mono (F _ kH (nsH hns) [] s₁ H ⟨[.ref a], []⟩ [.ref a] [.ref a] _ _ hr env (hbind s₁ (.ref a)) (.cons rfl .nil) (hsp H hS)) fun r s' z => ?_
  cases r with
  | error e =>
    obtain ⟨_, _, _, _, _, _, _, _, _, _, _, _, z⟩ := z
    exact z.elim
  | ok fl =>
    cases fl with
    | ret u =>
      obtain ⟨v, H', os, bare, un, ok', rv, q⟩ := z
      have q' : v = .bl true := q
      subst q'
      obtain rfl : u = Value.bool true := rv
      refine ⟨rfl, OldK.of_keep fun b o e => ?_, os, bare⟩
      cases hb : H b with
      | none => exact un.keep b o e hb (fun z => nomatch (show b ∈ ([] : List Addr) from z)) (fun z => nomatch z)
      | some u =>
        obtain ⟨rfl, rfl, _⟩ := hH b u hb
        obtain ⟨e2, _⟩ := ok' _ _ (un.frzs _ _ _ hb)
        rw [e2, ← ha]
        exact e
    | _ => exact False.elim z
structure PLaw (m : List D → M D) (ns : List Int) : Prop where
  h : (m [.scr ns]).wp (fun d => d = .bl true) (fun _ => False)
theorem ends_at {l : PySem.W.OpenLaw} {k : Nat} {q : Program} {loose : List Str} {XP : (Str → Option Value) → Heap → Prop} {YP : World → Heap → Prop} {d : DefRec} {K : Params → K'} {m : List D → M D} (hn : l.most = some 63) (hdf : d.params.defaults = []) (hr : Room k callerA)
    (hT : Tb.T = []) (pure : ∀ ns : List Int, ns.length ≤ 63 → (∀ z ∈ ns, Builtin.Int.intBits z ≤ 1048576) → PLaw m ns) (hY : ∀ (w : World) (h : Heap), YP w h → (K w.params).In h)
    (F : ∀ (w : World) (mg : Mg) (fa : Addr) (h : Heap), YP w h → (K w.params).In h → h.Ns mainGlobals mg → mg d.name = some (.ref fa) →
      ∃ fd : FuncData, (∀ (s : Shared) (v : Value), BindsTo s fd ⟨[v], []⟩ [("script", v)]) ∧ ∀ base : Heap, (K w.params).In base → base.Ns mainGlobals mg → RunAt l.prog w (K w.params) mg base k callerA fa fd ["script"] (spOf (K w.params) mg 1 m)) :
    PySem.W.WalkO q loose XP YP l.row.toRowW d [] (fun f vs => PySem.call f vs) := by
  refine Att.attach_callB hn hdf fun w s₀ s₁ mg mb fa o pm cd doc a vs ns G Y ho hd hcd hmg hobj hints hlen hbits hg => ?_
  obtain ⟨fd, hb, hF⟩ := F w mg fa _ Y (hY w _ Y) G.T.g hmg
  exact call_at (hY w _ Y) G.T.g G.T.b G.T.builtins G.T.nolimit hg hobj hints (Nat.le_trans hlen (by decide)) hr hF hb fun H hS => law_sp hS hlen (by rw [hT]; exact fun _ z => nomatch z) (pure ns hlen hbits).h
end P5

namespace P5
open PySem L2 PyProof.Rows
variable [Tb]

section
variable {ρ : Env'} {f g h k : EM} {a b c d r : D} {op op2 : D → D → Option D} {u : D → Option D} {ga gb : Env' → M (List D)} {xs ys : List D} {p q : Env' → M Bool} {t : Bool}
theorem e_bin (h1 : f ρ = pure a) (h2 : g ρ = pure b) (h3 : op a b = some r) : dBin op f g ρ = pure r := by
  unfold dBin
  rw [h1, pure_bind, h2, pure_bind, h3]
  rfl
theorem e_un (h1 : f ρ = pure a) (h2 : u a = some r) : dUn u f ρ = pure r := by
  unfold dUn
  rw [h1, pure_bind, h2]
  rfl
theorem e_nil : dNil ρ = pure [] := rfl
theorem e_cons (h1 : f ρ = pure a) (h2 : ga ρ = pure xs) : dCons f ga ρ = pure (a :: xs) := by
  unfold dCons
  rw [h1, pure_bind, h2, pure_bind]
theorem e_tup (h1 : ga ρ = pure xs) (h2 : xs.length ≤ 16777216 := by simp) : dTup ga ρ = pure (.tup xs) := by
  unfold dTup
  rw [h1, pure_bind, mkTup_ok h2]
  rfl
theorem e_lst (h1 : ga ρ = pure xs) (h2 : xs.length ≤ 16777216 := by simp) : dLst ga ρ = pure (.lst xs) := by
  unfold dLst
  rw [h1, pure_bind, mkLst_ok h2]
  rfl
theorem e_call {o : List D → Option D} (h1 : ga ρ = pure xs) (h2 : o xs = some r) : dCall o ga ρ = pure r := by
  unfold dCall
  rw [h1, pure_bind, h2]
  rfl
theorem e_callM {n : Nat} {fM : List D → M D} (h1 : ga ρ = pure xs) (h2 : xs.length = n) : dCallM n fM ga ρ = fM xs := by
  unfold dCallM callM
  rw [h1, pure_bind, if_pos h2]
theorem e_fn {n : Nat} {fM : List D → M D} (h1 : ga ρ = pure xs) (h2 : xs.length = n) (h3 : fM xs = pure r) : dCallM n fM ga ρ = pure r := (e_callM h1 h2).trans h3
theorem e_b {o : D} (h1 : f ρ = pure (.bl t)) : dB f ρ = pure t := by
  unfold dB
  rw [h1, pure_bind]
  rfl
theorem e_B (h1 : f ρ = pure (.bl t)) : dB f ρ = pure t := e_b (o := .non) h1
theorem e_T (h1 : f ρ = pure a) (h2 : truD a = some t) : dT f ρ = pure t := by
  unfold dT
  rw [h1, pure_bind, h2]
  rfl
theorem e_notT (h1 : p ρ = pure t) : dNotT p ρ = pure (!t) := by
  unfold dNotT
  rw [h1, pure_bind]
theorem e_if_t (h1 : p ρ = pure true) : dIf p f g ρ = f ρ := by
  unfold dIf
  rw [h1, pure_bind, if_pos rfl]
theorem e_if_f (h1 : p ρ = pure false) : dIf p f g ρ = g ρ := by
  unfold dIf
  rw [h1, pure_bind, if_neg (by decide)]
theorem e_if (h1 : p ρ = pure t) (h2 : t = true → f ρ = pure a) (h3 : t = false → g ρ = pure b) : dIf p f g ρ = pure (if t = true then a else b) := by
  cases t with
  | true => rw [e_if_t h1, h2 rfl, if_pos rfl]
  | false => rw [e_if_f h1, h3 rfl, if_neg (by decide)]
theorem e_orT_t (h1 : p ρ = pure true) : dOrT p q ρ = pure true := by
  unfold dOrT
  rw [h1, pure_bind, if_pos rfl]
theorem e_orT_f (h1 : p ρ = pure false) : dOrT p q ρ = q ρ := by
  unfold dOrT
  rw [h1, pure_bind, if_neg (by decide)]
theorem e_andT_t (h1 : p ρ = pure true) : dAndT p q ρ = q ρ := by
  unfold dAndT
  rw [h1, pure_bind, if_pos rfl]
theorem e_andT_f (h1 : p ρ = pure false) : dAndT p q ρ = pure false := by
  unfold dAndT
  rw [h1, pure_bind, if_neg (by decide)]
theorem e_and_t (h1 : f ρ = pure a) (h2 : truD a = some true) : dAnd f g ρ = g ρ := by
  unfold dAnd
  rw [h1, pure_bind, h2, M.opt_some, pure_bind, if_pos rfl]
theorem e_and_f (h1 : f ρ = pure a) (h2 : truD a = some false) : dAnd f g ρ = pure a := by
  unfold dAnd
  rw [h1, pure_bind, h2, M.opt_some, pure_bind, if_neg (by decide)]
theorem e_not (h1 : f ρ = pure a) (h2 : truD a = some t) : dNot f ρ = pure (.bl (!t)) := by
  unfold dNot
  rw [h1, pure_bind, h2, M.opt_some, pure_bind]

theorem s_set_pure {i : Nat} (h1 : f ρ = pure a) : sSetF [] f (gdName i) ρ = pure (.nx (ρ.set i (some a))) := by
  unfold sSetF
  rw [hide_none, h1]
  rfl
theorem s_setg_pure {gd : GD} {l : List (Nat × D)} (h1 : f ρ = pure a) (h2 : gd a = some l) : sSetF [] f gd ρ = pure (.nx (setsD ρ l)) := by
  unfold sSetF
  rw [hide_none, h1]
  show (M.opt (gd a) >>= fun l => if okSets [] l = true then pure (.nx (setsD ρ l)) else M.fail : MS Fl) = _
  rw [h2, M.opt_some, pure_bind, if_pos]
  unfold okSets
  rw [List.all_eq_true]
  intro p _
  rfl
theorem s_par_pure {i j : Nat} (h1 : ga ρ = pure [a, b]) : sParF [] i j ga ρ = pure (.nx ((ρ.set i (some a)).set j (some b))) := by
  unfold sParF
  rw [hide_none, h1]
  rfl
theorem s_ret_pure (h1 : f ρ = pure a) : sRet f ρ = pure (.rt a) := by
  unfold sRet
  rw [h1]
  rfl
theorem s_if_t {ga' gb' : SM} (h1 : p ρ = pure true) : sIf p ga' gb' ρ = ga' ρ := by
  unfold sIf
  rw [h1, liftI_pure, pure_bind, if_pos rfl]
theorem s_if_f {ga' gb' : SM} (h1 : p ρ = pure false) : sIf p ga' gb' ρ = gb' ρ := by
  unfold sIf
  rw [h1, liftI_pure, pure_bind, if_neg (by decide)]
theorem s_nil : sNil ρ = pure (.nx ρ) := rfl
theorem s_seq {s s' : SM} {ρ' : Env'} (h1 : s ρ = pure (.nx ρ')) : sSeq s s' ρ = s' ρ' := by
  unfold sSeq
  rw [h1, pure_bind]
theorem s_seq_rt {s s' : SM} (h1 : s ρ = pure (.rt a)) : sSeq s s' ρ = pure (.rt a) := by
  unfold sSeq
  rw [h1, pure_bind]
theorem while_go {s : SM} {ρ' : Env'} (h1 : p ρ = pure true) (h2 : s ρ = pure (.nx ρ')) : sWhile p s ρ = sWhile p s ρ' := by
  refine MM.ext fun Q E => ?_
  rw [wp_while, wp_while]
  constructor
  · rintro ⟨n, h⟩
    cases n with
    | zero => exact h.elim
    | succ n =>
      rw [whileN, h1, liftI_pure, pure_bind, if_pos rfl, h2, pure_bind] at h
      exact ⟨n, h⟩
  · rintro ⟨n, h⟩
    refine ⟨n + 1, ?_⟩
    rw [whileN, h1, liftI_pure, pure_bind, if_pos rfl, h2, pure_bind]
    exact h
theorem while_stop {s : SM} (h1 : p ρ = pure false) : sWhile p s ρ = pure (.nx ρ) := by
  refine MM.ext fun Q E => ?_
  rw [wp_while]
  constructor
  · rintro ⟨n, h⟩
    cases n with
    | zero => exact h.elim
    | succ n =>
      rw [whileN, h1, liftI_pure, pure_bind, if_neg (by decide)] at h
      exact h
  · intro h
    refine ⟨1, ?_⟩
    rw [whileN, h1, liftI_pure, pure_bind, if_neg (by decide)]
    exact h
theorem s_for_pure {fi : Env' → M (List D)} {gd : GD} {s : SM} (h1 : fi ρ = pure xs) : sFor [] fi gd s ρ = forL [] gd s xs ρ := by
  unfold sFor
  rw [hide_none, h1, liftF_pure, pure_bind]
theorem forL_go {i : Nat} {s : SM} {ρ' : Env'} (h1 : s (ρ.set i (some a)) = pure (.nx ρ')) : forL [] (gdName i) s (a :: xs) ρ = forL [] (gdName i) s xs ρ' := by
  show (M.opt (gdName i a) >>= fun l => if okSets [] l = true then _ else M.fail : MS Fl) = _
  show (s (ρ.set i (some a)) >>= _) = _
  rw [h1, pure_bind]
theorem forL_nil {gd : GD} {s : SM} : forL [] gd s [] ρ = pure (.nx ρ) := rfl
theorem run_rt {n : Nat} {s : SM} {ds : List D} (h1 : s (startD n ds) = pure (.rt a)) : runFn n s ds = pure a := by
  refine MM.ext fun Q E => ?_
  rw [wp_run, h1]
  exact Iff.rfl
theorem e_seq (h1 : f ρ = pure a) (h2 : seqD a = some xs) : iSeq f ρ = pure xs := by
  unfold iSeq
  rw [h1, pure_bind, h2]
  rfl
theorem e_args {o : List D → Option (List D)} (h1 : ga ρ = pure xs) (h2 : o xs = some ys) : iArgs o ga ρ = pure ys := by
  unfold iArgs
  rw [h1, pure_bind, h2]
  rfl
end
theorem wp_seq {s s' : SM} {ρ ρ' : Env'} {Q : Fl → Prop} {E : Err × Env' → Prop} (h1 : s ρ = pure (.nx ρ')) (h2 : (s' ρ').wp Q E) : (sSeq s s' ρ).wp Q E := by
  rw [s_seq h1]
  exact h2
theorem wp_set_any {f : EM} {ρ : Env'} {i : Nat} {Q : Fl → Prop} {E : Err × Env' → Prop} (h : (f ρ).wp (fun d => Q (.nx (ρ.set i (some d)))) (fun _ => False)) : (sSetF [] f (gdName i) ρ).wp Q E := by
  unfold sSetF
  rw [hide_none, wp_bind, wp_liftF]
  exact MM.mono _ (fun d z => z) (fun _ z => z.elim) h
theorem wp_par_any {f g : EM} {ρ : Env'} {i j : Nat} {Q : Fl → Prop} {E : Err × Env' → Prop} (h : (f ρ).wp (fun d => (g ρ).wp (fun e => Q (.nx ((ρ.set i (some d)).set j (some e)))) (fun _ => False)) (fun _ => False)) :
    (sParF [] i j (dCons f (dCons g dNil)) ρ).wp Q E := by
  unfold sParF dCons
  rw [hide_none, wp_bind, wp_liftF, wp_bind]
  refine MM.mono _ (fun d z => ?_) (fun _ z => z.elim) h
  rw [wp_bind, wp_bind]
  exact MM.mono _ (fun e z => z) (fun _ z => z.elim) z
theorem wp_for {mu : List Nat} {fi : Env' → M (List D)} {gd : GD} {s : SM} {ρ : Env'} {xs : List D} {Q : Fl → Prop} {E : Err × Env' → Prop} (h1 : fi ρ = pure xs) (h : (forL [] gd s xs ρ).wp Q E) : (sFor [] fi gd s ρ).wp Q E := by
  rw [s_for_pure h1]
  exact h
theorem wp_run_of {n : Nat} {s : SM} {ds : List D} {Q : D → Prop} {E : Err → Prop} (h : (s (startD n ds)).wp (fun r => match r with
  | .rt d => Q d
  | .nx _ => Q .non
  | _ => False) (fun e => E e.1)) : (runFn n s ds).wp Q E := h
theorem wp_take {m : Int} {Q : D → Prop} {E : Err → Prop} (h1 : 1 ≤ m) (h2 : m < 1073741824) (h : ∀ n : Int, 0 ≤ n → n < m → Q (.int n)) : (takeM [.bag, .int m]).wp Q E := by
  show (if 1 ≤ m ∧ m < 1073741824 then _ else M.fail : M D).wp Q E
  rw [if_pos ⟨h1, h2⟩]
  rintro d ⟨n, rfl, h3, h4⟩
  exact h n h3 h4
theorem alike_eq {d : D} (h1 : plD d = true) (h2 : szD d ≤ 16777216) : alikeM [d, d] = pure (.bl true) := MM.ext fun Q E => ⟨fun h => h.2.2.2, fun h => ⟨rfl, h1, h2, h⟩⟩
@[irreducible] def WP {ε α : Type} (m : MM ε α) (Q : α → Prop) (E : ε → Prop) : Prop := m.wp Q E
theorem WP_eq {ε α : Type} (m : MM ε α) (Q : α → Prop) (E : ε → Prop) : WP m Q E = m.wp Q E := by
  unfold WP
  rfl
section
variable {s s' : SM} {ρ ρ' : Env'} {Q : Fl → Prop} {E : Err × Env' → Prop} {f g : EM} {i j : Nat} {xs : List D} {fi : Env' → M (List D)} {gd : GD}
theorem W_pure {ε α : Type} {a : α} {Q : α → Prop} {E : ε → Prop} (h : Q a) : WP (pure a) Q E := by
  rw [WP_eq]
  exact h
theorem W_mono {ε α : Type} {m : MM ε α} {Q Q' : α → Prop} {E E' : ε → Prop} (h : WP m Q E) (h1 : ∀ a, Q a → Q' a) (h2 : ∀ e, E e → E' e) : WP m Q' E' := by
  rw [WP_eq] at h ⊢
  exact m.mono h1 h2 h
theorem W_bind {ε α β : Type} {m : MM ε α} {k : α → MM ε β} {Q : β → Prop} {E : ε → Prop} (h : WP m (fun a => WP (k a) Q E) E) : WP (m >>= k) Q E := by
  rw [WP_eq, wp_bind]
  rw [WP_eq] at h
  refine m.mono (fun a z => ?_) (fun _ z => z) h
  rw [WP_eq] at z
  exact z
theorem W_seq (h1 : s ρ = pure (.nx ρ')) (h2 : WP (s' ρ') Q E) : WP (sSeq s s' ρ) Q E := by
  rw [s_seq h1]
  exact h2
theorem W_seqw (h : WP (s ρ) (fun r => match r with
  | .nx ρ' => WP (s' ρ') Q E
  | o => Q o) E) : WP (sSeq s s' ρ) Q E := by
  rw [WP_eq] at h ⊢
  show (s ρ >>= _).wp Q E
  rw [wp_bind]
  refine (s ρ).mono (fun r z => ?_) (fun _ z => z) h
  cases r with
  | nx ρ' =>
    have z' : WP (s' ρ') Q E := z
    rw [WP_eq] at z'
    exact z'
  | _ => exact z
theorem W_set (h : WP (f ρ) (fun d => Q (.nx (ρ.set i (some d)))) (fun _ => False)) : WP (sSetF [] f (gdName i) ρ) Q E := by
  rw [WP_eq] at h ⊢
  exact wp_set_any h
theorem W_par (h : WP (f ρ) (fun d => WP (g ρ) (fun e => Q (.nx ((ρ.set i (some d)).set j (some e)))) (fun _ => False)) (fun _ => False)) : WP (sParF [] i j (dCons f (dCons g dNil)) ρ) Q E := by
  rw [WP_eq] at h ⊢
  refine wp_par_any ((f ρ).mono (fun d z => ?_) (fun _ z => z) h)
  rw [WP_eq] at z
  exact z
theorem W_for (h1 : fi ρ = pure xs) (h : WP (forL [] gd s xs ρ) Q E) : WP (sFor [] fi gd s ρ) Q E := by
  rw [s_for_pure h1]
  exact h
theorem W_forL {i : Nat} (I : List D → Env' → Prop) (hend : ∀ ρ, I [] ρ → Q (.nx ρ)) (hstep : ∀ x xs ρ, I (x :: xs) ρ → WP (s (ρ.set i (some x))) (fun r => match r with
      | .nx ρ' => I xs ρ'
      | .ct ρ' => I xs ρ'
      | .bk ρ' => Q (.nx ρ')
      | .rt d => Q (.rt d)) E) (h : I xs ρ) : WP (forL [] (gdName i) s xs ρ) Q E := by
  rw [WP_eq]
  refine forL_inv I hend (fun x xs ρ hx => ⟨[(i, x)], rfl, rfl, ?_⟩) h
  have z := hstep x xs ρ hx
  rw [WP_eq] at z
  exact z
theorem W_run {n : Nat} {s : SM} {ds : List D} {Q : D → Prop} {E : Err → Prop} (h : WP (s (startD n ds)) (fun r => match r with
  | .rt d => Q d
  | .nx _ => Q .non
  | _ => False) (fun e => E e.1)) : WP (runFn n s ds) Q E := by
  rw [WP_eq] at h ⊢
  exact h
theorem W_take {m : Int} {Q : D → Prop} {E : Err → Prop} (h1 : 1 ≤ m) (h2 : m < 1073741824) (h : ∀ n : Int, 0 ≤ n → n < m → Q (.int n)) : WP (takeM [.bag, .int m]) Q E := by
  rw [WP_eq]
  exact wp_take h1 h2 h
theorem W_tryAs {S : Subs} {gb : SM} {gs : Addr → Addr → SM} (h : WP (gb ρ) Q (fun p => match S p.1.cls with
    | some true => p.1.args ≠ [] ∧ ∀ a d, WP (gs a d (p.2.set i (some (.exc a d p.1.cls (p.1.args.map (·.1)) (p.1.args.map (·.2)))))) (fun r => Q (r.gone i)) (fun _ => False)
    | some false => E p
    | none => False)) : WP (sTryAs S i gb gs ρ) Q E := by
  rw [WP_eq] at h ⊢
  show (gb ρ).wp Q _
  refine (gb ρ).mono (fun _ z => z) (fun p z => ?_) h
  split
  · rename_i e
    rw [e] at z
    refine ⟨z.1, fun a d => ?_⟩
    have z' := z.2 a d
    rw [WP_eq] at z'
    exact z'
  · rename_i e
    rw [e] at z
    exact z
  · rename_i e
    rw [e] at z
    exact z
theorem W_raise {ε α : Type} {e : ε} {Q : α → Prop} {E : ε → Prop} (h : E e) : WP (M.raise e) Q E := by
  rw [WP_eq]
  exact h
theorem PLaw.of {m : List D → M D} {ns : List Int} (h : WP (m [.scr ns]) (fun d => d = .bl true) (fun _ => False)) : PLaw m ns := by
  rw [WP_eq] at h
  exact ⟨h⟩
end
theorem bag_pure (ns : List Int) : bagM [.scr ns] = pure .bag := rfl
end P5

namespace P5
open PySem L2 PyProof.Rows
variable [Tb]
open PySem.W (EachIs)

def leD (a b : D) : Bool := !ltD b a
def isTupNe : D → Bool
  | .tup _ => true
  | .ktup _ => true
  | _ => false
def isOther : D → Bool
  | .bl _ => true
  | .int _ => true
  | .str _ => true
  | .lst _ => true
  | _ => false
def sortOk (xs : List D) : Bool := (xs.all fun a => xs.all fun b => PySem.W.alike (toPy a) (toPy b)) && xs.all okD && (xs.all isTupNe || xs.all isOther)
def opSorted : List D → Option D
  | [.lst xs] => if sortOk xs then some (.lst (xs.mergeSort leD)) else none
  | _ => none
theorem each_of {K : K'} {mg : Mg} {F : Hp} : ∀ {vs : List V} {us : List Value} {ds : List D}, Vals vs us → RepL K mg F vs ds → EachIs (fun u (p : V × D) => RelV p.1 u ∧ Rep K mg F p.1 p.2) us (vs.zip ds)
  | _, _, _, .nil, .nil => .nil
  | _, _, _, .cons h t, .cons r s => .cons ⟨h, r⟩ (each_of t s)
theorem each_back {K : K'} {mg : Mg} {F : Hp} : ∀ {us : List Value} {ps : List (V × D)}, EachIs (fun u (p : V × D) => RelV p.1 u ∧ Rep K mg F p.1 p.2) us ps → Vals (ps.map (·.1)) us ∧ RepL K mg F (ps.map (·.1)) (ps.map (·.2))
  | _, _, .nil => ⟨.nil, .nil⟩
  | _, _, .cons h t => ⟨.cons h.1 (each_back t).1, .cons h.2 (each_back t).2⟩
theorem c_sorted {X : Cx} (hu : X.A.units + 67 < cLine) : CallR X (.builtin "sorted") (cOf X opSorted) := by
  intro pins s σ H xs us Q I rv h
  obtain ⟨F, ds, r, sF, rp, e, q⟩ := h
  unfold opSorted at e
  split at e
  · rename_i xs
    split at e
    · rename_i hc
      cases e
      unfold sortOk at hc
      simp only [Bool.and_eq_true, List.all_eq_true, Bool.or_eq_true] at hc
      obtain ⟨⟨c1, c2⟩, c3⟩ := hc
      obtain ⟨v, rfl, r1⟩ := rp.one
      have hz := r1.sz
      obtain ⟨a, vs, rfl, ha, rl⟩ := r1.lst_inv
      obtain ⟨u, rfl, ru⟩ := vals1 rv
      cases ru
      obtain ⟨its, rvs, pl, _⟩ := I.list (SqL.of (sF _ _ ha))
      have hlv := rl.length
      have hli := rvs.length
      have ee := each_of rvs rl
      have hsnd : (vs.zip xs).map (fun p : V × D => p.2) = xs := by
        rw [List.map_snd_zip (by omega)]
      have hmem : ∀ p ∈ vs.zip xs, p.2 ∈ xs := fun p hp => (List.of_mem_zip hp).2
      have hdep : ∀ d ∈ xs, (toPy d).depth ≤ 64 := fun d hd => by
        have h1 : SeqAt.shaped (toPy d) = true := c2 d hd
        unfold SeqAt.shaped at h1
        rw [Bool.and_eq_true] at h1
        exact of_decide_eq_true h1.2
      refine P5S.sorted_data2 (R := fun u (p : V × D) => RelV p.1 u ∧ Rep X.K X.mg F p.1 p.2) (enc := fun p : V × D => toPy p.2) (bs := vs.zip xs) pl.isList ee ?_ ?_ ?_ ?_ ?_ fun out hol ho => ?_
      · -- reads
        have go : ∀ {us : List Value} {ps : List (V × D)}, EachIs (fun u (p : V × D) => RelV p.1 u ∧ Rep X.K X.mg F p.1 p.2) us ps → (∀ p ∈ ps, p.2 ∈ xs) → EachIs (fun u (p : V × D) => ∃ as, Reads s.heap u (toPy p.2) as) us ps := by
          intro us ps he
          induction he with
          | nil => exact fun _ => .nil
          | cons h t ih => exact fun hm => .cons ((h.2.dpH sF (c2 _ (hm _ List.mem_cons_self))).reads I _ _ _ h.1) (ih fun p hp => hm p (List.mem_cons_of_mem _ hp))
        exact go ee hmem
      · intro d hd d' hd'
        obtain ⟨p, hp, rfl⟩ := List.mem_map.mp hd
        obtain ⟨p', hp', rfl⟩ := List.mem_map.mp hd'
        exact c1 _ (hmem p hp) _ (hmem p' hp')
      · rcases c3 with c3 | c3
        · refine .inl fun d hd => ?_
          obtain ⟨p, hp, rfl⟩ := List.mem_map.mp hd
          have h1 := c3 _ (hmem p hp)
          cases hq : p.2 <;> rw [hq] at h1 <;> first | (cases h1; done) | skip
          · exact ⟨_, rfl⟩
          · exact ⟨_, rfl⟩
        · refine .inr fun d hd => ?_
          obtain ⟨p, hp, rfl⟩ := List.mem_map.mp hd
          have h1 := c3 _ (hmem p hp)
          cases hq : p.2 <;> rw [hq] at h1 <;> first | (cases h1; done) | exact ⟨fun z => by simp [toPy] at z, fun xs z => by simp [toPy] at z⟩
      · rw [List.length_zip]
        exact szOk (Nat.le_trans (Nat.min_le_right _ _) hz)
      · intro p hp
        have := hdep _ (hmem p hp)
        omega
      · obtain ⟨k1, k2⟩ := each_back ho
        obtain ⟨ep, he'⟩ := PyProof.Rows.sortedAll_at s.heap its out.toArray
        have hle : PySem.W.dataLe false (fun p : V × D => toPy p.2) = fun p p' : V × D => leD p.2 p'.2 := by
          rw [PySem.W.dataLe_eq]
          rfl
        rw [hle] at k1 k2
        have hms : ((vs.zip xs).mergeSort fun p p' : V × D => leD p.2 p'.2).map (·.2) = xs.mergeSort leD := by
          rw [List.map_mergeSort (s := leD) fun _ _ _ _ => rfl]
          rw [hsnd]
        rw [hms] at k2
        have hll : (xs.mergeSort leD).length ≤ 16777216 := by rw [List.length_mergeSort]; exact hz
        have hl2 := k2.length
        have hF : H (s.heap.objs.size + 1) = none := I.hok.fresh (Nat.le_succ _)
        refine ⟨.ref _, upd H (s.heap.objs.size + 1) (.lst (((vs.zip xs).mergeSort fun p p' : V × D => leD p.2 p'.2).map (·.1))), I.laid (t' := s.toks) (fun _ _ => PyProof.Rows.sortedAll_old) (Nat.le_succ _) ⟨by rw [hl2]; exact szOk hll, out, ep, k1, he'⟩, rfl, ?_⟩
        exact new_lst sF k2 hll q _ hF
    · cases e
  · cases e

def tChain3 (r r' r'' : R2) (ta tb tc td : TE) : TE := fun σ H Q => ta σ H fun x H1 => tb σ H1 fun y H2 => r x y H2 fun z H3 => ∃ k, z = .bl k ∧
  (if k = true then tc σ H3 fun w' H4 => r' y w' H4 fun z2 H5 => ∃ k2, z2 = .bl k2 ∧ (if k2 = true then td σ H5 fun w2 H6 => r'' w' w2 H6 Q else Q (.bl false) H5) else Q (.bl false) H3)
def dChain3 (o o' o'' : D → D → Option D) (f g h k : EM) : EM := fun ρ => f ρ >>= fun x => g ρ >>= fun y => M.opt (o x y) >>= fun z => M.opt (asB z) >>= fun t => if t = true then
  (h ρ >>= fun w => M.opt (o' y w) >>= fun z => M.opt (asB z) >>= fun t => if t = true then k ρ >>= fun w2 => M.opt (o'' w w2) else pure (.bl false)) else pure (.bl false)
section
variable {X : Cx} {W : WX} {a b c d : Expr} {ta tb tc td : TE} {f g h k : EM} {pos : Pos} {op op' op'' : CmpOp}
theorem pe_chain3 {r r' r'' : R2} (ho : OpR X (compareOp op) r) (ho' : OpR X (compareOp op') r') (ho'' : OpR X (compareOp op'') r'') (ha : PE X a ta) (hb : PE X b tb) (hc : PE X c tc) (hd : PE X d td)
    (hm : lastMarks [op, op', op''] [b, c, d] = false := by with_unfolding_all rfl) : PE X (.Compare a [op, op', op''] [b, c, d] pos) (tChain3 r r' r'' ta tb tc td) := by
  refine ⟨fun pins s σ H Q I h => ?_⟩
  refine Compare_chain (thn (ha.run pins s σ H _ I h) fun v s1 ⟨x, H1, I1, r1, q1⟩ => chain_link (thn (hb.run pins s1 σ H1 _ I1 q1) fun u s2 ⟨y, H2, I2, r2, q2⟩ => thn (ho pins s2 σ H2 x y v u _ I2 r1 r2 q2) fun e s3 ⟨z, H3, I3, r3, t, ez, q3⟩ => ?_)) hm
  subst ez; cases r3
  refine wpAny_truthy_bool ?_
  cases t with
  | false => exact ite_ff ⟨.bl false, H3, I3, rfl, q3⟩
  | true =>
    refine ite_tt (chain_link (thn (hc.run pins s3 σ H3 _ I3 q3) fun w' s4 ⟨y', H4, I4, r4, q4⟩ => thn (ho' pins s4 σ H4 y y' u w' _ I4 r2 r4 q4) fun e s5 ⟨z, H5, I5, r5, t2, ez, q5⟩ => ?_))
    subst ez; cases r5
    refine wpAny_truthy_bool ?_
    cases t2 with
    | false => exact ite_ff ⟨.bl false, H5, I5, rfl, q5⟩
    | true => exact ite_tt (chain_last (thn (hd.run pins s5 σ H5 _ I5 q5) fun w2 s6 ⟨y2, H6, I6, r6, q6⟩ => ho'' pins s6 σ H6 y' y2 w' w2 Q I6 r4 r6 q6))
theorem pt_chain3 {r r' r'' : R2} (ho : OpR X (compareOp op) r) (ho' : OpR X (compareOp op') r') (ho'' : OpR X (compareOp op'') r'') (ha : PE X a ta) (hb : PE X b tb) (hc : PE X c tc) (hd : PE X d td)
    (hm : lastMarks [op, op', op''] [b, c, d] = false := by with_unfolding_all rfl) : PT X (.Compare a [op, op', op''] [b, c, d] pos) (tTest (tChain3 r r' r'' ta tb tc td)) := by
  refine ⟨fun pins s σ H Q I h => ?_⟩
  refine isTrue_chain (thn (ha.run pins s σ H _ I h) fun v s1 ⟨x, H1, I1, r1, q1⟩ => test_link (thn (hb.run pins s1 σ H1 _ I1 q1) fun u s2 ⟨y, H2, I2, r2, q2⟩ => thn (ho pins s2 σ H2 x y v u _ I2 r1 r2 q2) fun e s3 ⟨z, H3, I3, r3, t, ez, q3⟩ => ?_)) hm
  subst ez; cases r3
  refine wpAny_truthy_bool ?_
  cases t with
  | false =>
    obtain ⟨k', e', q'⟩ := q3
    cases e'
    exact ite_ff ⟨H3, I3, q'⟩
  | true =>
    refine ite_tt (test_link (thn (hc.run pins s3 σ H3 _ I3 q3) fun w' s4 ⟨y', H4, I4, r4, q4⟩ => thn (ho' pins s4 σ H4 y y' u w' _ I4 r2 r4 q4) fun e s5 ⟨z, H5, I5, r5, t2, ez, q5⟩ => ?_))
    subst ez; cases r5
    refine wpAny_truthy_bool ?_
    cases t2 with
    | false =>
      obtain ⟨k', e', q'⟩ := q5
      cases e'
      exact ite_ff ⟨H5, I5, q'⟩
    | true =>
      refine ite_tt (test_last (thn (hd.run pins s5 σ H5 _ I5 q5) fun w2 s6 ⟨y2, H6, I6, r6, q6⟩ => thn (ho'' pins s6 σ H6 y' y2 w' w2 _ I6 r4 r6 q6) fun e s7 ⟨z, H7, I7, r7, k2, e2, q7⟩ => ?_))
      subst e2; cases r7
      exact wpAny_truthy_bool ⟨H7, I7, q7⟩
theorem chain3_of {o o' o'' : D → D → Option D} {σ : L2.St} {H : Hp} {Q : VK} (hh : TEo X W (dChain3 o o' o'' f g h k) σ H Q) : tChain3 (rOf X o) (rOf X o') (rOf X o'') (TEo X W f) (TEo X W g) (TEo X W h) (TEo X W k) σ H Q := by
  obtain ⟨F, ρ, sF, er, hh⟩ := hh
  refine TEo.bind sF er hh fun d v F1 H1 g1 r1 h1 => ?_
  refine ⟨F1, ρ, g1.sub, er.grow g1.fs, (g ρ).mono (fun e h2 u F2 H2 g2 r2 => ?_) (fun _ z => z.grow g1) h1⟩
  obtain ⟨z, e1, h3⟩ := wp_opt h2
  obtain ⟨t, e2, h4⟩ := wp_opt h3
  refine ⟨F2, d, e, z, g2.sub, r1.grow g2.fs, r2, e1, fun vz F3 H3 g3 r3 => ?_⟩
  cases z with
  | bl b =>
    cases e2
    refine ⟨_, r3.bl_inv, ?_⟩
    have g13 := (g1.trans g2).trans g3
    cases t with
    | true =>
      dsimp only at h4 ⊢
      rw [if_pos rfl] at h4 ⊢
      refine ⟨F3, ρ, g3.sub, er.grow g13.fs, (h ρ).mono (fun w h5 u' F4 H4 g4 r4 => ?_) (fun _ z => z.grow g13) h4⟩
      obtain ⟨z, e5, h6⟩ := wp_opt h5
      obtain ⟨t, e6, h7⟩ := wp_opt h6
      refine ⟨F4, e, w, z, g4.sub, r2.grow (g3.trans g4).fs, r4, e5, fun vz F5 H5 g5 r5 => ?_⟩
      cases z with
      | bl b =>
        cases e6
        refine ⟨_, r5.bl_inv, ?_⟩
        have g15 := (g13.trans g4).trans g5
        cases t with
        | true =>
          dsimp only at h7 ⊢
          rw [if_pos rfl] at h7 ⊢
          refine ⟨F5, ρ, g5.sub, er.grow g15.fs, (k ρ).mono (fun w2 h8 u2 F6 H6 g6 r6 => ?_) (fun _ z => z.grow g15) h7⟩
          obtain ⟨r, e8, q⟩ := wp_opt h8
          exact ⟨F6, w, w2, r, g6.sub, r4.grow (g5.trans g6).fs, r6, e8, q.grow (g15.trans g6)⟩
        | false =>
          dsimp only at h7 ⊢
          rw [if_neg Bool.false_ne_true] at h7 ⊢
          exact h7 _ F5 H5 g15 (.bl false)
      | _ => cases e6
    | false =>
      dsimp only at h4 ⊢
      rw [if_neg Bool.false_ne_true] at h4 ⊢
      exact h4 _ F3 H3 g13 (.bl false)
  | _ => cases e2
theorem u_chain3 {o o' o'' : D → D → Option D} (ho : OpR X (compareOp op) (rOf X o)) (ho' : OpR X (compareOp op') (rOf X o')) (ho'' : OpR X (compareOp op'') (rOf X o'')) (ha : PuE X W a f) (hb : PuE X W b g) (hc : PuE X W c h) (hd : PuE X W d k)
    (hm : lastMarks [op, op', op''] [b, c, d] = false := by with_unfolding_all rfl) : PuE X W (.Compare a [op, op', op''] [b, c, d] pos) (dChain3 o o' o'' f g h k) := PE_imp (pe_chain3 ho ho' ho'' ha hb hc hd hm) fun _ _ _ q => chain3_of q
theorem t_chain3 {o o' o'' : D → D → Option D} (ho : OpR X (compareOp op) (rOf X o)) (ho' : OpR X (compareOp op') (rOf X o')) (ho'' : OpR X (compareOp op'') (rOf X o'')) (ha : PuE X W a f) (hb : PuE X W b g) (hc : PuE X W c h) (hd : PuE X W d k)
    (hm : lastMarks [op, op', op''] [b, c, d] = false := by with_unfolding_all rfl) : PuT X W (.Compare a [op, op', op''] [b, c, d] pos) (dB (dChain3 o o' o'' f g h k)) := by
  refine PT_imp (pt_chain3 ho ho' ho'' ha hb hc hd hm) fun σ H Q q => ?_
  obtain ⟨F, ρ, sF, er, z⟩ := tb_of q
  exact chain3_of ⟨F, ρ, sF, er, z⟩

theorem u_kint {x : Str} {i : Int} (hg : Gl X x) (hm : ∃ t, X.mg x = some (.int i t)) (hd : (x == ("__debug__" : Str)) = false := by decide) : PuE X W (.Name x pos) (dCon (.int i)) := by
  obtain ⟨t, hm⟩ := hm
  exact con_of (pe_glob (v := .int i) hg hm ⟨t, rfl⟩ hd) fun _ => .int i
theorem u_kstr {x y : Str} (hg : Gl X x) (hm : ∃ t, X.mg x = some (.str y t)) (hd : (x == ("__debug__" : Str)) = false := by decide) : PuE X W (.Name x pos) (dCon (.str y)) := by
  obtain ⟨t, hm⟩ := hm
  exact con_of (pe_glob (v := .str y) hg hm ⟨t, rfl⟩ hd) fun _ => .str y
end
end P5

namespace P5
open PySem L2 PyProof.Rows
variable [Tb]
open PySem.W (EachIs SortsAt)

theorem sorted_seq {prog : Program} {w : World} {A : Around} {E : Value → Shared → Prop} {s : Shared} {t : Addr} {o : Obj} {n : Nat} {vs : List Value} {Q : Value → Shared → Prop} (ho : s.heap.get? t = some o) (hc : o.cls = .type "tuple") (hd : o.data = .seq vs.toArray n) (hL : vs.length ≤ sizeLine)
    (h : ∀ h' : Heap, (∀ b o', s.heap.get? b = some o' → h'.get? b = some o') → wpAny (model prog w) A.in1.in1 (Builtin.«list.sort» ⟨[.ref h'.objs.size], []⟩) (fun f s' => f = .done (.ret .none) ∧ Q (.ref h'.objs.size) s') (fun e s' => E e s') { s with heap := h'.push (seqObj "list" vs.toArray 0) }) :
    wpAny (model prog w) A (call (.builtin "sorted") [.ref t]) Q E s := by
  refine call_function_entry_kw kind_sorted plain_sorted entry_sorted (args_sorted1 _) ?_
  unfold Builtin.«sorted»
  refine wpAny_bind (m := checkCount "sorted" 1 1 _) (wpAny_pure ?_)
  refine wpAny_bind (wpAny_collect_seq t (.inr rfl) ho hc hd (fun h' hk => ?_) (by rw [List.size_toArray]; exact hL))
  have e : (vs.toArray).toList = vs := by simp
  rw [e]
  refine wpAny_bind (wpAny_newList ?_ hL)
  have hat : (h'.push (seqObj "list" vs.toArray 0)).get? h'.objs.size = some (seqObj "list" vs.toArray 0) := Heap.get?_push_size _ rfl
  refine wpAny_bind (wpAny_holding (wpAny_call_entry_kw slot_list_sort ⟨_, hat, rfl⟩ entry_list_sort ?body (args_list_sort _)))
  case body =>
    refine wpAny_mono (h h' hk) (fun f s' hf => ?_) fun _ _ e => e
    obtain ⟨rfl, hq⟩ := hf
    exact ⟨_, rfl, wpAny_pure ⟨_, rfl, hq⟩⟩
def opSortedT : List D → Option D
  | [d] => match tupD d with
    | some xs => if sortOk xs then some (.lst (xs.mergeSort leD)) else none
    | none => opSorted [d]
  | _ => none
theorem c_sortedT {X : Cx} (hu : X.A.units + 67 < cLine) : CallR X (.builtin "sorted") (cOf X opSortedT) := by
  intro pins s σ H xs us Q I rv h
  obtain ⟨F, ds, r, sF, rp, e, q⟩ := h
  unfold opSortedT at e
  split at e
  · rename_i d
    split at e
    · rename_i xs ht
      split at e
      · rename_i hc
        cases e
        unfold sortOk at hc
        simp only [Bool.and_eq_true, List.all_eq_true, Bool.or_eq_true] at hc
        obtain ⟨⟨c1, c2⟩, c3⟩ := hc
        obtain ⟨v, rfl, r1⟩ := rp.one
        obtain ⟨a, vs, rfl, ha, rl, hz⟩ := r1.tupD_inv ht
        obtain ⟨u, rfl, ru⟩ := vals1 rv
        cases ru
        obtain ⟨its, rvs, pl, _⟩ := I.tuple (seqT sF.s ha)
        obtain ⟨ob, hob, hcl, n, hdt⟩ := id pl
        have hlv := rl.length
        have hli := rvs.length
        have ee := each_of rvs rl
        have hsnd : (vs.zip xs).map (fun p : V × D => p.2) = xs := by
          rw [List.map_snd_zip (by omega)]
        have hmem : ∀ p ∈ vs.zip xs, p.2 ∈ xs := fun p hp => (List.of_mem_zip hp).2
        have hdep : ∀ d ∈ xs, (toPy d).depth ≤ 64 := fun d hd => by
          have h1 : SeqAt.shaped (toPy d) = true := c2 d hd
          unfold SeqAt.shaped at h1
          rw [Bool.and_eq_true] at h1
          exact of_decide_eq_true h1.2
        have reads : ∀ h1 : Heap, (∀ b o', s.heap.get? b = some o' → h1.get? b = some o') → ∀ {us : List Value} {ps : List (V × D)}, EachIs (fun u (p : V × D) => RelV p.1 u ∧ Rep X.K X.mg F p.1 p.2) us ps → (∀ p ∈ ps, p.2 ∈ xs) → EachIs (fun u (p : V × D) => ∃ as, Reads h1 u (toPy p.2) as) us ps := by
          intro h1 hk us ps he
          induction he with
          | nil => exact fun _ => .nil
          | cons h t ih =>
            intro hm
            obtain ⟨as, hr⟩ := (h.2.dpH sF (c2 _ (hm _ List.mem_cons_self))).reads I _ _ _ h.1
            exact .cons ⟨as, PyProof.Rows.Reads.keeps hk hr⟩ (ih fun p hp => hm p (List.mem_cons_of_mem _ hp))
        have hal : PySem.W.AllAlike ((vs.zip xs).map fun p : V × D => toPy p.2) := by
          intro d hd d' hd'
          obtain ⟨p, hp, rfl⟩ := List.mem_map.mp hd
          obtain ⟨p', hp', rfl⟩ := List.mem_map.mp hd'
          exact c1 _ (hmem p hp) _ (hmem p' hp')
        have hsrt : P5S.Sortable2 ((vs.zip xs).map fun p : V × D => toPy p.2) := by
          rcases c3 with c3 | c3
          · refine .inl fun d hd => ?_
            obtain ⟨p, hp, rfl⟩ := List.mem_map.mp hd
            have h1 := c3 _ (hmem p hp)
            cases hq : p.2 <;> rw [hq] at h1 <;> first | (cases h1; done) | skip
            · exact ⟨_, rfl⟩
            · exact ⟨_, rfl⟩
          · refine .inr fun d hd => ?_
            obtain ⟨p, hp, rfl⟩ := List.mem_map.mp hd
            have h1 := c3 _ (hmem p hp)
            cases hq : p.2 <;> rw [hq] at h1 <;> first | (cases h1; done) | exact ⟨fun z => by simp [toPy] at z, fun xs z => by simp [toPy] at z⟩
        have hLl : its.length ≤ sizeLine := by
          rw [← hli, hlv]
          exact szOk hz
        refine sorted_seq hob hcl hdt hLl fun h' hk => ?_
        have hat : (h'.push (seqObj "list" its.toArray 0)).get? h'.objs.size = some (seqObj "list" its.toArray 0) := Heap.get?_push_size _ rfl
        have hk2 : ∀ b o', s.heap.get? b = some o' → (PySem.W.sortingHeap (h'.push (seqObj "list" its.toArray 0)) h'.objs.size its).get? b = some o' := fun b o' e => by
          have hlt := Heap.lt_size (hk _ _ e)
          exact PySem.W.sortingHeap_old (Nat.ne_of_lt hlt) (Heap.get?_push_of_some _ (hk _ _ e))
        have er := reads _ hk2 ee hmem
        refine PySem.W.list_sort_vals (s := { s with heap := h'.push (seqObj "list" its.toArray 0) }) hat (P5S.sorts_data (PySem.W.each_map (R := fun v d => ∃ as, Reads _ v d as) (fun p : V × D => toPy p.2) er) hal hsrt fun d hd => ?_) hLl ⟨rfl, ?_⟩
        · obtain ⟨p, hp, rfl⟩ := List.mem_map.mp hd
          have := hdep _ (hmem p hp)
          show X.A.units + 1 + 1 + _ < _
          omega
        · have ho := PySem.W.sortVals_data false ee er hal
          have hle : PySem.W.dataLe false (fun p : V × D => toPy p.2) = fun p p' : V × D => leD p.2 p'.2 := by
            rw [PySem.W.dataLe_eq]
            rfl
          rw [hle] at ho
          generalize PySem.W.sortVals _ false its its = out at ho ⊢
          obtain ⟨k1, k2⟩ := each_back ho
          have hms : ((vs.zip xs).mergeSort fun p p' : V × D => leD p.2 p'.2).map (·.2) = xs.mergeSort leD := by
            rw [List.map_mergeSort (s := leD) fun _ _ _ _ => rfl]
            rw [hsnd]
          rw [hms] at k2
          have hll : (xs.mergeSort leD).length ≤ 16777216 := by rw [List.length_mergeSort]; exact hz
          have hl2 := k2.length
          have I2 : Inv X pins σ H { s with heap := h' } := I.kept (t' := s.toks) hk
          have hF : H h'.objs.size = none := I2.hok.fresh (Nat.le_refl _)
          obtain ⟨ep, he'⟩ := PyProof.Rows.sortedHeap_at (vs := its) (out := out.toArray) hat
          refine ⟨.ref h'.objs.size, upd H h'.objs.size (.lst (((vs.zip xs).mergeSort fun p p' : V × D => leD p.2 p'.2).map (·.1))), I2.laid (t' := s.toks) (fun b o' e => ?_) (Nat.le_refl _) ⟨by rw [hl2]; exact szOk hll, out, ep, k1, he'⟩, rfl, ?_⟩
          · have hlt := Heap.lt_size e
            rw [PyProof.Rows.sortedHeap_old (Nat.ne_of_lt hlt) (Nat.lt_of_lt_of_le hlt (by rw [Heap.size_push]; exact Nat.le_succ _))]
            exact Heap.get?_push_of_some _ e
          · exact new_lst sF k2 hll q _ hF
      · cases e
    · exact c_sorted hu pins s σ H xs us Q I rv ⟨F, _, r, sF, rp, e, q⟩
  · cases e
end P5

namespace P5
open PySem L2 PyProof.Rows
variable [Tb]
theorem hu67 {k : Nat} {A : Around} (hr : Room k A) : A.units + 67 < cLine := by have := hr.un; omega
def sPar3F (mu : List Nat) (i j l : Nat) (g : Env' → M (List D)) : SM := fun ρ => liftF ρ (g (hide mu ρ)) >>= fun ds => match ds with
  | [a, b, c] => if okSets mu [(i, a), (j, b), (l, c)] = true then pure (.nx (((ρ.set i (some a)).set j (some b)).set l (some c))) else M.fail
  | _ => M.fail
theorem RepL.three {K : K'} {mg : Mg} {F : Hp} {vs : List V} {d e f : D} (r : RepL K mg F vs [d, e, f]) : ∃ v w u, vs = [v, w, u] ∧ Rep K mg F v d ∧ Rep K mg F w e ∧ Rep K mg F u f := by
  cases r with
  | cons p q =>
    obtain ⟨w, u, rfl, p', p''⟩ := q.two
    exact ⟨_, _, _, rfl, p, p', p''⟩
section
variable {X : Cx} {W : WX} {mu : List Nat} {F0 H0 : Hp} {g : Env' → M (List D)} {i j l : Nat} {x y z : Str} {pos : Pos}
theorem s_par3F {a b c : Expr} {px py pz pt : Pos} {kt k2 pt2} (hc : X.calm = true) (hN : X.N.Nodup) (hi : X.N[i]? = some x) (hj : X.N[j]? = some y) (hl : X.N[l]? = some z) (hij : i ≠ j) (hil : i ≠ l) (hjl : j ≠ l)
    (hx : X.env.scope.names.lookup x = some .local) (hy : X.env.scope.names.lookup y = some .local) (hz : X.env.scope.names.lookup z = some .local) (ha : PuA X W [a, b, c] g)
    (hw : swappedStores [.Tuple [.Name x px, .Name y py, .Name z pz] kt pt] (.Tuple [a, b, c] k2 pt2) X.env = pure (some [x, y, z]) := by rfl) (hs : swapsWithSole [.Tuple [.Name x px, .Name y py, .Name z pz] kt pt] (.Tuple [a, b, c] k2 pt2) pos.line X.env = pure false := by rfl) :
    PuS X W mu F0 H0 (.Assign [.Tuple [.Name x px, .Name y py, .Name z pz] kt pt] (.Tuple [a, b, c] k2 pt2) pos) (sPar3F mu i j l g) := by
  intro Fb
  refine PS_imp (ps_par3 hc hN hi hj hl hij hil hjl hx hy hz ha hw hs) fun D' σ H ⟨F, ρ, s, h⟩ => ?_
  obtain ⟨h1, h2, h3⟩ := see_hid (m := g) s h
  refine ⟨F, _, h2, h1, MM.mono _ (fun ds z vs F' H' gr r => ?_) (fun _ z => z) h3⟩
  dsimp only at z
  split at z
  · rename_i da db dc
    split at z
    · rename_i hm
      obtain ⟨v, w, u, rfl, r1, r2, r3⟩ := r.three
      have s2 := SR.sets (ws := [(i, v), (j, w), (l, u)]) (l := [(i, da), (j, db), (l, dc)]) (.cons r1 (.cons r2 (.cons r3 .nil))) hm (s.grow gr)
      exact ⟨v, w, u, rfl, z _ H' _ s2⟩
    · exact z.elim
  · exact z.elim
theorem s_ownLcI {elt tg iter : Expr} {ifs : List Expr} {scope : Scope} {own : List (Str × Nat)} {fi : Env' → M (List D)} {gd : GD} {tt : Env' → M Bool} {fe : EM} {py p : Pos} (him : i ∈ mu) (hc : X.calm = true) (hN : X.N.Nodup) (hy : X.N[i]? = some y) (hyl : X.env.scope.names.lookup y = some .local)
    (hsw : swapsWith (.ListComp elt [⟨tg, iter, ifs, 0⟩] scope pos) (some (.Name y py)) p.line X.env = pure true) (hi : PuI X W tg iter fi) (ok : BlkOk X.N X.env.scope scope own) (b : Blk X elt tg ifs scope gd tt fe)
    (hs : ∀ x, foldedSetIterable iter X.env x = pure x := by intro _; rfl) : PuS X W mu F0 H0 (.Assign [.Name y py] (.ListComp elt [⟨tg, iter, ifs, 0⟩] scope pos) p) (sOwnI mu i (dLc (own.map (·.2)) fi gd tt fe)) := by
  intro Fb
  refine PS_imp (ps_setLc (wi := TIo X W fi) (g := TGo X gd) (tt := TTo X WF tt) (te := TEo X WF fe) hc hN hy hyl hsw hi ok b.g b.t b.e hs) fun D' σ H ⟨F, ρ, s, h⟩ => ?_
  obtain ⟨h1, h2, h3⟩ := see_all (m := dLc (List.map (fun q : Str × Nat => q.2) own) fi gd tt fe) s h
  refine lcF_of (X := X) (W := W) ⟨_, ρ, h2, h1, MM.mono _ (fun d z a F' H' g hF h0 o => ?_) (fun _ z => z) h3⟩
  dsimp only at z
  split at z
  · rename_i im
    refine z _ H' _ ((s.bak g).own_set him s.hs0 h0 s.ownedSome ?_ (own_imm (s.bakImm g).1 (s.bakImm g).2 o im))
    unfold back
    split
    · rfl
    · exact hF
  · exact z.elim
end
end P5

namespace P5
open PySem L2 PyProof.Rows
variable [Tb]
section
variable {ρ : Env'} {f g : EM} {ga : Env' → M (List D)} {xs : List D} {Q : D → Prop} {E : Err → Prop} {op : D → D → Option D} {fi : Env' → M (List D)} {gd : GD} {vs : List Nat} {tt : Env' → M Bool} {fe : EM}
theorem W_of {ε α : Type} {m : MM ε α} {a : α} {Q : α → Prop} {E : ε → Prop} (h : m = pure a) (q : Q a) : WP m Q E := by
  rw [h]
  exact W_pure q
theorem W_opt {ε α : Type} {o : Option α} {Q : α → Prop} {E : ε → Prop} (h : ∃ a, o = some a ∧ Q a) : WP (M.opt o : MM ε α) Q E := by
  obtain ⟨a, rfl, q⟩ := h
  exact W_pure q
theorem W_nil {Q : List D → Prop} (q : Q []) : WP (dNil ρ) Q E := W_pure q
theorem W_cons {Q : List D → Prop} (h : WP (f ρ) (fun d => WP (ga ρ) (fun ds => Q (d :: ds)) E) E) : WP (dCons f ga ρ) Q E := by
  unfold dCons
  apply W_bind
  refine W_mono h (fun d z => W_bind (W_mono z (fun ds q => W_pure q) fun _ z => z)) fun _ z => z
theorem W_tup (h : WP (ga ρ) (fun ds => ds.length ≤ 16777216 ∧ Q (.tup ds)) E) : WP (dTup ga ρ) Q E := by
  unfold dTup
  apply W_bind
  refine W_mono h (fun ds z => ?_) fun _ z => z
  rw [mkTup_ok z.1]
  exact W_pure z.2
theorem W_lst (h : WP (ga ρ) (fun ds => ds.length ≤ 16777216 ∧ Q (.lst ds)) E) : WP (dLst ga ρ) Q E := by
  unfold dLst
  apply W_bind
  refine W_mono h (fun ds z => ?_) fun _ z => z
  rw [mkLst_ok z.1]
  exact W_pure z.2
theorem W_call {o : List D → Option D} (h : WP (ga ρ) (fun ds => ∃ r, o ds = some r ∧ Q r) E) : WP (dCall o ga ρ) Q E := by
  unfold dCall
  apply W_bind
  exact W_mono h (fun ds z => W_opt z) fun _ z => z
theorem W_callM {n : Nat} {fM : List D → M D} (h : WP (ga ρ) (fun ds => ds.length = n ∧ WP (fM ds) Q E) E) : WP (dCallM n fM ga ρ) Q E := by
  unfold dCallM callM
  apply W_bind
  refine W_mono h (fun ds z => ?_) fun _ z => z
  rw [if_pos z.1]
  exact z.2
theorem W_bin (h : WP (f ρ) (fun a => WP (g ρ) (fun b => ∃ r, op a b = some r ∧ Q r) E) E) : WP (dBin op f g ρ) Q E := by
  unfold dBin
  apply W_bind
  refine W_mono h (fun d z => W_bind (W_mono z (fun ds q => W_opt q) fun _ z => z)) fun _ z => z
theorem W_un {u : D → Option D} (h : WP (f ρ) (fun a => ∃ r, u a = some r ∧ Q r) E) : WP (dUn u f ρ) Q E := by
  unfold dUn
  apply W_bind
  exact W_mono h (fun ds z => W_opt z) fun _ z => z
theorem W_B {Q : Bool → Prop} (h : WP (f ρ) (fun a => ∃ r, asB a = some r ∧ Q r) E) : WP (dB f ρ) Q E := by
  unfold dB
  apply W_bind
  exact W_mono h (fun ds z => W_opt z) fun _ z => z
theorem W_seqI {Q : List D → Prop} (h : WP (f ρ) (fun a => ∃ r, seqD a = some r ∧ Q r) E) : WP (iSeq f ρ) Q E := by
  unfold iSeq
  apply W_bind
  exact W_mono h (fun ds z => W_opt z) fun _ z => z
theorem W_lc (h1 : fi ρ = pure xs) (h : WP (lcL vs gd tt fe ρ xs) (fun ys => Q (.lst ys)) E) : WP (dLc vs fi gd tt fe ρ) Q E := by
  unfold dLc
  rw [h1, pure_bind]
  apply W_bind
  exact W_mono h (fun ds z => W_pure z) fun _ z => z
theorem W_lcw (h : WP (fi ρ) (fun xs => WP (lcL vs gd tt fe ρ xs) (fun ys => Q (.lst ys)) E) E) : WP (dLc vs fi gd tt fe ρ) Q E := by
  unfold dLc
  apply W_bind
  refine W_mono h (fun xs z => W_bind ?_) fun _ z => z
  exact W_mono z (fun ds z => W_pure z) fun _ z => z
theorem W_ret {Q : Fl → Prop} {E : Err × Env' → Prop} (h : WP (f ρ) (fun d => Q (.rt d)) (fun e => immE e = true ∧ E (e, ρ))) : WP (sRet f ρ) Q E := by
  rw [WP_eq] at h ⊢
  unfold sRet
  rw [wp_bind, wp_liftI]
  exact h
theorem W_retF {Q : Fl → Prop} {E : Err × Env' → Prop} (h : WP (f ρ) (fun d => Q (.rt d)) (fun _ => False)) : WP (sRet f ρ) Q E := W_ret (W_mono h (fun _ z => z) fun _ z => z.elim)
theorem lcL_sub {α : Type} {h f : α → D} {p : α → Bool} : ∀ {L : List α} {Q : List D → Prop}, (∀ x ∈ L, ∃ l, gd (h x) = some l ∧ (l.all fun p => vs.contains p.1) = true ∧
    (p x = false → tt (setsD (wipeD ρ vs) l) = pure false) ∧ (p x = true → WP (tt (setsD (wipeD ρ vs) l)) (fun _ => True) (fun _ => False)) ∧ fe (setsD (wipeD ρ vs) l) = pure (f x)) →
    (∀ M : List α, M.Sublist (L.filter p) → Q (M.map f)) → WP (lcL vs gd tt fe ρ (L.map h)) Q E
  | [], Q, _, q => W_pure (q [] (List.Sublist.refl _))
  | x :: xs, Q, hh, q => by
    obtain ⟨l, h1, h2, h3, h4, h5⟩ := hh x List.mem_cons_self
    have ih := fun Q' => lcL_sub (h := h) (f := f) (p := p) (L := xs) (Q := Q') fun y hy => hh y (List.mem_cons_of_mem _ hy)
    rw [List.map_cons, lcL, h1, M.opt_some, pure_bind, if_pos h2]
    cases hp : p x with
    | false =>
      rw [h3 hp, quiet_pure, pure_bind, if_neg (by decide)]
      refine ih Q fun M hM => q M ?_
      rw [List.filter_cons_of_neg (by rw [hp]; decide)]
      exact hM
    | true =>
      have h4' := h4 hp
      apply W_bind
      rw [WP_eq, wp_quiet]
      rw [WP_eq] at h4'
      refine MM.mono _ (fun b _ => ?_) (fun _ z => z) h4'
      cases b with
      | false =>
        rw [if_neg (by decide)]
        refine ih Q fun M hM => q M ?_
        rw [List.filter_cons_of_pos hp]
        exact hM.cons _
      | true =>
        rw [if_pos rfl, h5, quiet_pure, pure_bind]
        apply W_bind
        refine ih _ fun M hM => W_pure ?_
        have := q (x :: M) (by
          rw [List.filter_cons_of_pos hp]
          exact hM.cons₂ _)
        exact this
theorem W_setg {Q : Fl → Prop} {E : Err × Env' → Prop} (h : WP (f ρ) (fun d => ∃ l, gd d = some l ∧ Q (.nx (setsD ρ l))) (fun _ => False)) : WP (sSetF [] f gd ρ) Q E := by
  rw [WP_eq] at h ⊢
  unfold sSetF
  rw [hide_none, wp_bind, wp_liftF]
  refine MM.mono _ (fun d z => ?_) (fun _ z => z.elim) h
  obtain ⟨l, e, q⟩ := z
  rw [e, M.opt_some, pure_bind, if_pos]
  · exact q
  · unfold okSets
    rw [List.all_eq_true]
    intro p _
    rfl
end
end P5

namespace P5
open PySem PySem.Spec PyProof.Rows L2 LamX
variable [Tb]
abbrev lamQ (X : Cx) : Str := X.env.qual ++ "<lambda>"
section
variable {X : Cx} {pins : List (Addr × Obj)} {σ : L2.St} {H : Hp} {sh : Shared}
theorem lam_new {c P : Addr} {ar : Arguments} {bd : Expr} {sc : Scope} {ps : Pos} {E R : Value → Shared → Prop} (J : Inv X pins σ H sh) (tb : TabB X.base X.mg c P) (hcode : X.env.code = .ref c)
    (hP : (P, lamQ X) ∈ Tb.T) (hu : ∀ p ∈ Tb.T, p.1 = P → p.2 = lamQ X) (tabs : Tabs Tb.T H) (nodef : defaultsOf ar X.env = ([], [])) (cap : ∀ y ∈ sc.names, y.2 = .free → ∃ c, X.env.cells.lookup y.1 = some c)
    (go : ∀ (f d : Addr) (pm ctv : Value) (H1 : Hp) (s1 : Shared), Inv X pins σ H1 s1 → SameN H H1 → Tabs Tb.T H1 →
      s1.heap.get? f = some (PySem.W.kla_obj "<lambda>" (lamQ X) ar bd sc (cloFrom X.env.cells sc.names []) pm d ctv) → H1 f = none → f ∉ frs X.stack → H1 d = some (CodeO d (lamQ X)) → R (.ref f) s1) :
    wpAny (model X.prog X.w) X.A (eval (.Lambda ar bd sc ps) X.env) R E sh := by
  obtain ⟨tp, eP, trip, told⟩ := tabs _ hP
  have inH : sh.heap.get? P = some { cls := .none, data := .fields tp } := J.hok P _ eP
  have bmP : sh.heap.BuiltinsAt X.mg P := tb.bm.keeps J.bk
  have notFrame : ∀ f, sh.heap.objs.size ≤ f → f ∉ frs X.stack := fun f hf z => by
    rcases List.mem_cons.mp (J.stkSub _ z) with e | e
    · have l1 := J.lt
      rw [← e] at l1
      exact absurd (Nat.lt_of_lt_of_le l1 hf) (Nat.lt_irrefl _)
    · exact J.nofs hf e
  refine PySem.W.kla_eval nodef ?_
  cases hit : codeAmong ps tp.toList with
  | some cv =>
    obtain ⟨d, rfl, dO⟩ := told ps cv hit
    refine PySem.W.kla_makeFunctionHit (mg := X.mg) (c := c) (P := P) (ps := tp) (closure_ok cap) J.ok.glob (J.mod.glob.keeps J.bk) hcode (tb.code.keeps J.bk) inH trip hit bmP fun ctv h2 tk hx hs2 => ?_
    have J1 : Inv X pins σ H { sh with heap := h2.push (PySem.W.kla_obj "<lambda>" (lamQ X) ar bd sc (cloFrom X.env.cells sc.names []) ((X.mg "__name__").getD .none) d ctv), toks := tk } := J.kept fun b o e => Heap.get?_push_of_some _ (hx b o e)
    exact go h2.objs.size d ((X.mg "__name__").getD .none) ctv H _ J1 (SameN.refl H) tabs (Heap.get?_push_size _ rfl) (J.hok.fresh hs2) (notFrame _ hs2) dO
  | none =>
    refine PySem.W.kla_makeFunction (mg := X.mg) (c := c) (P := P) (ps := tp) (closure_ok cap) J.ok.glob (J.mod.glob.keeps J.bk) hcode (tb.code.keeps J.bk) inH trip hit tb.gP bmP fun d ctv h2 tk hx hge hlt rec0 newT => ?_
    obtain ⟨d2, oc, vs, t, e2, od, dd, dv⟩ := rec0
    cases e2
    have le2 : sh.heap.objs.size ≤ h2.objs.size := Nat.le_trans hge (Nat.le_of_lt hlt)
    have freeD : H d = none := J.hok.fresh hge
    have neP : P ≠ d := ne_of_none eP freeD
    let H1 : Hp := upd (upd H P (.tbl (tp ++ #[rawInt ps.line, rawInt ps.col, .ref d]))) d (CodeO d (lamQ X))
    have J1 : Inv X pins σ H1 { sh with heap := h2.push (PySem.W.kla_obj "<lambda>" (lamQ X) ar bd sc (cloFrom X.env.cells sc.names []) ((X.mg "__name__").getD .none) d ctv), toks := tk } :=
      inv_table (t' := tk) J eP (fun b o hb e => Heap.get?_push_of_some _ (hx b o hb e)) (Heap.get?_push_of_some _ newT) hge ⟨oc, vs, t, Heap.get?_push_of_some _ od, dd, dv⟩
    have atP : H1 P = some (.tbl (tp ++ #[rawInt ps.line, rawInt ps.col, .ref d])) := by
      show upd (upd H P _) d _ P = _
      rw [upd_ne neP, upd_same]
    have atD : H1 d = some (CodeO d (lamQ X)) := upd_same
    have old : ∀ b, b ≠ P → b ≠ d → H1 b = H b := fun b q1 q2 => by
      show upd (upd H P _) d _ b = _
      rw [upd_ne q2, upd_ne q1]
    have same : ∀ b o, H b = some o → notT o = true → H1 b = some o := fun b o e n => by
      rw [old b (fun z => by
        rw [z, eP] at e
        cases e
        cases n) (ne_of_none e freeD)]
      exact e
    have tabs1 : Tabs Tb.T H1 := fun p hp => by
      by_cases hb : p.1 = P
      · rw [hu p hp hb, hb]
        have eL : (tp ++ #[rawInt ps.line, rawInt ps.col, .ref d]).toList = tp.toList ++ [rawInt ps.line, rawInt ps.col, .ref d] := by simp
        refine ⟨_, atP, by rw [eL]; exact PySem.TriplesOk_snoc _ _ _ _ trip, fun q cv hq => ?_⟩
        rw [eL] at hq
        rcases among_app _ trip hq with z | z
        · obtain ⟨c0, e1, e2⟩ := told q cv z
          exact ⟨c0, e1, same _ _ e2 rfl⟩
        · exact ⟨d, z, atD⟩
      · obtain ⟨tp', a1, a2, a3⟩ := tabs p hp
        refine ⟨tp', by rw [old _ hb (ne_of_none a1 freeD)]; exact a1, a2, fun q cv hq => ?_⟩
        obtain ⟨c0, e1, e2⟩ := a3 q cv hq
        exact ⟨c0, e1, same _ _ e2 rfl⟩
    refine go h2.objs.size d ((X.mg "__name__").getD .none) ctv H1 _ J1 ⟨same, fun b e => ?_, fun _ => tabs1⟩ tabs1 (Heap.get?_push_size _ rfl) ?_ (notFrame _ le2) atD
    · by_cases q1 : b = P
      · rw [q1, atP]
        exact fun z => nomatch z
      · by_cases q2 : b = d
        · rw [q2] at e
          exact (e freeD).elim
        · rw [old b q1 q2]
          exact e
    · rw [old _ (Nat.ne_of_gt (Nat.lt_of_lt_of_le (Heap.lt_size inH) le2)) (Nat.ne_of_gt hlt)]
      exact J.hok.fresh le2
def tActE (X : Cx) (σ : L2.St) (fE : EM) (f d : Addr) (i : Nat) (W : WX) : TE := fun σZ HZ Q => σZ[i]? = some (some (.ref f)) ∧ HZ d = some (CodeO d (lamQ X)) ∧ ∃ F ρ, Sub F HZ ∧ ER X.K X.mg F σ ρ ∧
  (fE ρ).wp (VW X F HZ Q) (fun e => ∀ F' H' cls dx, Grow F HZ F' H' → ErrR X.K X.mg F' H' e cls dx → W cls dx σZ H')
theorem act_pe {Ng : List Str} {x a : Str} {st : Stmt} {g f d : Addr} {cdg pm ctv : Value} {E0 : XK} {ar : Arguments} {bd : Expr} {sc : Scope} {k i : Nat} {fE : EM} {pn : List (Addr × Obj)} {xe : Value → Shared → Prop} {W : WX} {p1 p2 : Pos}
    (J : Inv X pins σ H sh) (L : LamS X.env.scope sc) (hf : sh.heap.get? f = some (PySem.W.kla_obj "<lambda>" (lamQ X) ar bd sc (cloFrom X.env.cells sc.names []) pm d ctv)) (hfn : H f = none) (hfr : f ∉ frs X.stack)
    (hbind : bindArgs (PySem.W.kla_fn "<lambda>" (lamQ X) ar bd sc (cloFrom X.env.cells sc.names []) pm (.ref d) ctv) ⟨[], []⟩ = pure [])
    (tk : Takes ((cxD X.prog X.w X.K X.mg X.base Ng x st g cdg X.A X.stack sh H E0).tr pn xe) W) (hr : Room (k + 1) (X.A.deeper (envOfC x (defScope st) sh.heap.objs.size g cdg)))
    (hb : ∀ (A : Around) (outer : List Env) (s' : Shared) (H' : Hp) (E' : XK), Room k (A.deeper (lamEnv X sc s'.heap.objs.size f d)) → PuE (lamCx X A outer s' H' E' sc f d) (fun cls dx _ H2 => E' cls dx H2) bd fE)
    (hN : Ng[i]? = some a) (hv : Vis (defScope st) a) (hdb : (a == ("__debug__" : Str)) = false := by decide) (hcd : (a == ("__classdict__" : Str)) = false := by decide) :
    PE ((cxD X.prog X.w X.K X.mg X.base Ng x st g cdg X.A X.stack sh H E0).tr pn xe) (.Call (.Name a p1) [] [] p2) (tActE X σ fE f d i W) := by
  refine ⟨fun pinsZ sZ σZ HZ Q IZ hh => ?_⟩
  obtain ⟨slot, codeZ, F, ρ, sF, er, w⟩ := hh
  refine wpAny_Call_Name_kw (thn ((pe_var (pos := p1) (i := i) hN hv hdb hcd).run pinsZ sZ σZ HZ (fun v H2 => v = .ref f ∧ H2 = HZ) IZ ⟨.ref f, slot, rfl, rfl⟩) fun u s1 ⟨v, H2, I1, r1, q1⟩ => ?_)
  obtain ⟨rfl, rfl⟩ := q1
  obtain rfl : u = Value.ref f := r1
  have stays := I1.base.keep f _ hf hfn hfr (fun z => nomatch (show f ∈ ([] : List Addr) from z))
  have fAt : s1.heap.get? f = some (PySem.W.kla_obj "<lambda>" (lamQ X) ar bd sc (cloFrom X.env.cells sc.names []) pm d ctv) := stays
  refine PySem.W.callWith_F0 ⟨_, _, _, _, fAt⟩ ?_
  have un : Un (frs X.stack) [] H H2 sh.heap s1.heap := I1.base
  obtain ⟨⟨oc, vs, t, hoc, hdc, hvc⟩, _, _⟩ := I1.hok d _ codeZ
  have run : codeAny (model X.prog X.w) (X.A.deeper (envOfC x (defScope st) sh.heap.objs.size g cdg)) (.call (.ref f) ⟨[], []⟩)
      (CR (L2.CX X.prog X.w) (envOfC x (defScope st) sh.heap.objs.size g cdg :: X.stack) X.prog X.w H2 s1 Q (fun cls dx H3 => W cls dx σZ H3)) s1 := by
    refine PySem.W.kla_callFunE hr.depth fAt rfl L.co L.gen rfl ⟨d, oc, vs, t, rfl, hoc, hdc, hvc⟩ ?_
    rw [hbind]
    refine wpAny_pure (wpAny_newFunctionEnv (fun y hy => (L.own y hy).2) (fun y hy => absurd hy (by simp)) (fun h₁ hns hsb => ⟨I1.nolimit.fresh _ hsb, ?_⟩) L.kind)
    show codeAny _ _ (.expr bd (lamEnv X sc s1.heap.objs.size f d)) _ _
    have kp : ∀ b o, s1.heap.get? b = some o → h₁.get? b = some o := fun b o e => hsb.extBut b o (Nat.ne_of_lt (Heap.lt_size e)) (Heap.get?_push_of_some _ e)
    have JL : Inv (lamCx X (X.A.deeper (envOfC x (defScope st) sh.heap.objs.size g cdg)) (envOfC x (defScope st) sh.heap.objs.size g cdg :: X.stack) s1 H2 (fun cls dx H3 => W cls dx σZ H3) sc f d) [] σ H2 { s1 with heap := h₁, toks := s1.toks + ([] : List (Str × Value)).length } :=
      lam_start2 J L I1.env0 hr.hd un hns kp
    refine PySem.W.kla_codeExpr (wpAny_mono ((hb _ _ s1 H2 _ (hr.deeper _)).run [] _ _ H2 Q JL ⟨F, ρ, sF, er, w⟩) (fun v s' hq => ?_) fun e s' hq => hq)
    obtain ⟨w', H', J', rv, q⟩ := hq
    exact ⟨w', H', J'.os, J'.bare, J'.base, J'.hok, rv, q⟩
  refine wpAny_call (codeAny_mono run fun r s' hq => ?_)
  cases r with
  | error e => exact passAt tk σZ pinsZ H2 s1 e s' I1 hq
  | ok fl => cases fl with
    | ret u => exact I1.after hq
    | _ => exact False.elim hq
end

def sAct (i : Nat) (f : Addr) (wrap : D → D) (am : M D) : SM := fun ρ => match ρ[i]? with
  | some (some (.lam f')) => if f' = f then liftF ρ am >>= fun d => pure (.rt (wrap d)) else M.fail
  | _ => M.fail
def toldW (x : Str) : D → D := fun d => .tup [.str x, d]
section
variable {Z X : Cx} {W : WX} {σ : L2.St} {fE : EM} {f d : Addr} {i : Nat} {mu : List Nat} {F0 H0 : Hp} {ρc : Env'}
theorem act_at {wrap : D → D} {D' : Ends} {Fb F H : Hp} {σZ : L2.St} {ρ : Env'} {R : VK} (hi : i ∉ mu) (hK : Z.K = X.K) (hM : Z.mg = X.mg) (hd : H0 d = some (CodeO d (lamQ X))) (er : ER X.K X.mg F0 σ ρc)
    (s : SR Z.K Z.mg mu F0 H0 Fb F H σZ ρ) (h : (sAct i f wrap (fE ρc) ρ).wp (SQ Z mu F0 H0 Fb D') (SE Z W mu F0 H0 Fb))
    (hR : ∀ dv v F' H', Grow F0 H0 F' H' → Rep X.K X.mg F' v dv → (∀ F2 H2 v2, Grow F0 H0 F2 H2 → Rep X.K X.mg F2 v2 (wrap dv) → D'.rt v2 H2) → R v H') : tActE X σ fE f d i W σZ H R := by
  unfold sAct at h
  cases q : ρ[i]? with
  | none =>
    rw [q] at h
    exact h.elim
  | some o =>
    rw [q] at h
    cases o with
    | none => exact h.elim
    | some dd =>
      cases dd with
      | lam f' =>
        dsimp only at h
        split at h
        · rename_i e
          subst e
          obtain ⟨v, e1, r⟩ := s.val i _ q fun z => (hi z).elim
          cases r
          refine ⟨e1, s.hs0.at hd, F, ρc, s.sub, er.grow s.fs0, ?_⟩
          refine MM.mono _ (fun dv z v F' H' g r => ?_) (fun e z F' H' cls dx g r => ?_) h
          · refine hR dv v F' H' (s.grows.trans g) r fun F2 H2 v2 g2 r2 => ?_
            exact z F2 H2 v2 g2 (by rw [hK, hM]; exact r2)
          · exact z F' H' σZ cls dx (s.grow g) (by rw [hK, hM]; exact r)
        · exact h.elim
      | _ => exact h.elim
theorem s_act1 {a : Str} {p1 p2 p3 : Pos} (hi : i ∉ mu) (hK : Z.K = X.K) (hM : Z.mg = X.mg) (hd : H0 d = some (CodeO d (lamQ X))) (er : ER X.K X.mg F0 σ ρc) (hp : PE Z (.Call (.Name a p1) [] [] p2) (tActE X σ fE f d i W)) :
    PuS Z W mu F0 H0 (.Return (some (.Call (.Name a p1) [] [] p2)) p3) (sAct i f id (fE ρc)) := by
  intro Fb
  refine PS_imp (ps_ret hp) fun D' σZ H ⟨F, ρ, s, h⟩ => ?_
  exact act_at hi hK hM hd er s h fun dv v F' H' g r z => z F' H' v g r
theorem s_act2 {a told : Str} {j kt : Nat} {p1 p2 p3 p4 pt : Pos} (hi : i ∉ mu) (hK : Z.K = X.K) (hM : Z.mg = X.mg) (hd : H0 d = some (CodeO d (lamQ X))) (er : ER X.K X.mg F0 σ ρc) (hp : PE Z (.Call (.Name a p1) [] [] p2) (tActE X σ fE f d i W)) :
    PuS Z W mu F0 H0 (.Return (some (.Tuple [.Constant (.str told) j p4, .Call (.Name a p1) [] [] p2] kt pt)) p3) (sAct i f (toldW told) (fE ρc)) := by
  intro Fb
  refine PS_imp (ps_ret (pe_tup (pa_cons pe_str (pa_cons hp pa_nil)))) fun D' σZ H ⟨F, ρ, s, h⟩ => ?_
  refine act_at hi hK hM hd er s h fun dv v F' H' g r z => ?_
  refine ⟨szOk (by show 2 ≤ 16777216; decide), fun p hp => ?_⟩
  have g2 := Grow.made (o := .tup [.str told, v]) g.sub hp
  exact z _ _ _ (g.trans g2) (.tup upd_same (.cons (.str told) (.cons (r.grow g2.fs) .nil)) (by show 2 ≤ 16777216; decide))
end

def Heard (P : Program) (w : World) (K : K') (mg : Mg) (base : Heap) (k : Nat) (Ng : List Str) (x : Str) (st : Stmt) (g : Addr) (a : Str) (hm : Addr → M D → SM) : Prop :=
  ∀ (cdv : Value) (A : Around) (outer : List Env) (s : Shared) (H F0 : Hp) (E : XK) (f : Addr) (am : M D), Room k (A.deeper (envOfC x (defScope st) s.heap.objs.size g cdv)) →
    (∀ (pn : List (Addr × Obj)) (xe : Value → Shared → Prop) (W : WX) (p1 p2 p3 : Pos), Takes ((cxD P w K mg base Ng x st g cdv A outer s H E).tr pn xe) W →
      PuS ((cxD P w K mg base Ng x st g cdv A outer s H E).tr pn xe) W [] F0 H (.Return (some (.Call (.Name a p1) [] [] p2)) p3) (sAct 0 f id am)) →
    (∀ (pn : List (Addr × Obj)) (xe : Value → Shared → Prop) (W : WX) (p1 p2 p3 p4 pt : Pos) (j kt : Nat) (told : Str), Takes ((cxD P w K mg base Ng x st g cdv A outer s H E).tr pn xe) W →
      PuS ((cxD P w K mg base Ng x st g cdv A outer s H E).tr pn xe) W [] F0 H (.Return (some (.Tuple [.Constant (.str told) j p4, .Call (.Name a p1) [] [] p2] kt pt)) p3) (sAct 0 f (toldW told) am)) →
    PuB (cxD P w K mg base Ng x st g cdv A outer s H E) (fun cls d _ H' => E cls d H') [] F0 H (defBody st) (hm f am)
def dHeard (n : Nat) (hm : Addr → M D → SM) (fE : EM) : EM := fun ρ => M.any (fun _ : Addr => True) >>= fun f => runFn n (hm f (fE ρ)) [.lam f]
def TabX (X : Cx) : Prop := ∃ c P, X.env.code = .ref c ∧ TabB X.base X.mg c P ∧ (P, lamQ X) ∈ Tb.T ∧ ∀ p ∈ Tb.T, p.1 = P → p.2 = lamQ X
section
variable {X : Cx} {W : WX}
theorem u_heard {x a : Str} {st : Stmt} {g : Addr} {fd : FuncData} {Ng : List Str} {k : Nat} {hm : Addr → M D → SM} {ar : Arguments} {bd : Expr} {sc : Scope} {fE : EM} {p lpos pos : Pos}
    (hh : Heard X.prog X.w X.K X.mg X.base (k + 1) Ng x st g a hm) (Fn : Fun X.K x x st g fd) (b : Binds X.K fd [a] []) (hgm : X.mg x = some (.ref g)) (Sg : FnScope Ng [a] (defScope st)) (hNg : Ng[0]? = some a) (hva : Vis (defScope st) a)
    (hg : Gl X x) (tk : Takes X W) (tx : TabX X) (hr : Room (k + 2) X.A) (L : LamS X.env.scope sc) (hdef : defaultsOf ar X.env = ([], []))
    (hbind : ∀ (q : Str) (cl : List (Str × Addr)) (pm cv ctv : Value), bindArgs (PySem.W.kla_fn "<lambda>" q ar bd sc cl pm cv ctv) ⟨[], []⟩ = pure [])
    (hb : ∀ (A : Around) (outer : List Env) (s' : Shared) (H' : Hp) (E' : XK) (f d : Addr), Room k (A.deeper (lamEnv X sc s'.heap.objs.size f d)) → PuE (lamCx X A outer s' H' E' sc f d) (fun cls dx _ H2 => E' cls dx H2) bd fE)
    (hdb : (x == ("__debug__" : Str)) = false := by decide) (hd : (a == ("__debug__" : Str)) = false := by decide) (hcd : (a == ("__classdict__" : Str)) = false := by decide) :
    PuE X W (.Call (.Name x p) [.Lambda ar bd sc lpos] [] pos) (dHeard Ng.length hm fE) := by
  refine ⟨fun pins s σ H Q I h => ?_⟩
  obtain ⟨F, ρ, sF, er, h⟩ := h
  obtain ⟨c, P, e1, TB, hP, hu⟩ := tx
  obtain ⟨oc, od, kV, doc, pm, an, cdv, ct, osl, rfl, lk, hcg⟩ := Fn.ex
  refine wpAny_Call_Name_kw (ld_glob I hg hgm ?_ hdb)
  refine PySem.W.callWith_K (h₀ := X.base) I.ok.mod.kin Fn.kp ?_ (by rfl) (by rfl)
  show wpAny _ _ (spliced ((false, eval (.Lambda ar bd sc lpos) X.env) :: backTo pos (starEach [] X.env))) _ _ s
  refine Calls.spliced_cons (lam_new I TB e1 hP hu sF.t hdef (L.has I.ok) fun f d pm' ctv H1 s1 I1 sN T1 hf hfn hfr hco => ?_)
  refine Calls.spliced_nil ⟨I1.kIn, ?_⟩
  have gN : Grow F H F H1 := ⟨Same.refl F, sN, sF.trans sN, fun _ z _ => z⟩
  have run : codeAny (model X.prog X.w) X.A (.call (.ref g) ⟨[.ref f], []⟩) (CR (L2.CX X.prog X.w) X.stack X.prog X.w H1 s1 Q (fun cls dx H2 => W cls dx σ H2)) s1 := by
    refine run_ofS (N := Ng) (ps := [a]) (us := [.ref f]) (vs := [.ref f]) lk hcg Sg hr I1.env0 (b s1 [.ref f] I1.kIn rfl) (.cons rfl .nil) rfl fun hr' => ?_
    have hd1 : H1 d = some (CodeO d (lamQ X)) := hco
    have hact := fun (pn : List (Addr × Obj)) (xe : Value → Shared → Prop) (W' : WX) (p1 p2 : Pos) (tk' : Takes ((cxD X.prog X.w X.K X.mg X.base Ng x st g cdv X.A X.stack s1 H1 (fun cls dx H2 => W cls dx σ H2)).tr pn xe) W') =>
      act_pe (p1 := p1) (p2 := p2) (i := 0) I1 L hf hfn hfr (hbind _ _ _ _ _) tk' hr' (fun A outer s' H' E' hr2 => hb A outer s' H' E' f d hr2) hNg hva hd hcd
    have body := hh cdv X.A X.stack s1 H1 F (fun cls dx H2 => W cls dx σ H2) f (fE ρ) hr'
      (fun pn xe W' p1 p2 p3 tk' => s_act1 (X := X) (i := 0) (f := f) (d := d) (σ := σ) (fE := fE) (ρc := ρ) List.not_mem_nil rfl rfl hd1 er (hact pn xe W' p1 p2 tk'))
      (fun pn xe W' p1 p2 p3 p4 pt j kt told tk' => s_act2 (X := X) (i := 0) (f := f) (d := d) (σ := σ) (fE := fE) (ρc := ρ) List.not_mem_nil rfl rfl hd1 er (hact pn xe W' p1 p2 tk'))
    refine ⟨_, body F, F, startD Ng.length [.lam f], ?_, ?_⟩
    · have r : RepL X.K X.mg F [V.ref f] [D.lam f] := .cons .lam .nil
      refine ⟨gN.sub, Same.refl _, Same.refl _, SameN.refl _, fun a h1 _ => h1, ?_, fun i d h1 _ => start_get r _ i d h1, fun i d h1 h2 _ => (nomatch h2), fun i j d e a b h1 _ _ h4 _ _ _ _ _ => (nomatch h1)⟩
      unfold L2.start startD
      simp
    · have h2 : ((hm f (fE ρ)) (startD Ng.length [.lam f])).wp _ _ := h f trivial
      refine MM.mono _ (fun r z => ?_) (fun e z F' H' σ' cls dx s' er' => z F' H' cls dx (gN.trans s'.grows) er') h2
      cases r with
      | rt d => exact fun F' H' v g2 r2 => z v F' H' (gN.trans g2) r2
      | nx ρ => exact fun F' H' σ' s' => z .non F' H' (gN.trans s'.grows) .non
      | bk ρ => exact z.elim
      | ct ρ => exact z.elim
  refine wpAny_call (codeAny_mono run fun r s2 hq => ?_)
  cases r with
  | error e => exact passAt tk σ pins H1 s1 e s2 I1 hq
  | ok fl => cases fl with
    | ret u => exact I1.after hq
    | _ => exact False.elim hq
end
end P5

namespace P5
open PySem L2 PyProof.Rows LamX
theorem call_tab {pg : Program} {w : World} {K : K'} {mg mb : Mg} {k : Nat} {fa a c P : Addr} {fd : FuncData} {x : Str} {sp : Sp} {s₁ : Shared} {vs : List Value} {ns : List Int} (KX : K.In s₁.heap) (hns : s₁.heap.Ns mainGlobals mg) (hb : s₁.heap.Ns builtinsNs mb)
    (hbb : ∀ x : Str, x ≠ "__name__" → mb x = bootBuiltins x) (hlim : s₁.heap.NoLimit) (hg : s₁.gens = #[]) (hCd : PySem.W.CodeHd s₁.heap c P) (hP : s₁.heap.get? P = some { cls := .none, data := .fields #[] }) (nP : K.lookup P = none)
    (hbm : ∃ bm ob, mg "__builtins__" = some (.ref bm) ∧ bm ≠ builtinsNs ∧ s₁.heap.get? bm = some ob ∧ ob.cls = .type "module" ∧ ob.dict = some builtinsNs ∧ ob.data = .plain)
    (ha : s₁.heap.get? a = some { cls := .type "list", data := .seq vs.toArray }) (hi : IntsAre vs ns) (hl : ns.length ≤ sizeLine) (hr : Room k callerA)
    (F : ∀ base : Heap, K.In base → base.Ns mainGlobals mg → TabB base mg c P → RunAt pg w K mg base k callerA fa fd [x] sp) (hbind : ∀ (s : Shared) (u : Value), BindsTo s fd ⟨[u], []⟩ [(x, u)])
    (hsp : ∀ H : Hp, H P = some (.tbl #[]) → SqL K H a (ns.map V.int) → sp [.ref a] H (fun v _ => v = .bl true) fun _ _ _ => False) :
    codeAny (model pg w) callerA (.call (.ref fa) ⟨[.ref a], []⟩) (fun r s' => r = .ok (.ret (.bool true)) ∧ OldK s₁.heap s'.heap ∧ s'.os = s₁.os ∧ AllBare s'.gens) s₁ := by
  have hne : a ≠ P := fun z => by
    rw [z, hP] at ha
    cases ha
  obtain ⟨H, hPt, hH, hS⟩ : ∃ H : Hp, H P = some (.tbl #[]) ∧ (∀ b u, H b = some u → (b = P ∧ u = .tbl #[]) ∨ (b = a ∧ u = .frz { cls := .type "list", data := .seq vs.toArray } (.lst (ns.map V.int)) ∧ K.lookup a = none)) ∧ SqL K H a (ns.map V.int) := by
    cases hk : K.lookup a with
    | none =>
      refine ⟨upd (upd (fun _ => none) P (.tbl #[])) a (.frz { cls := .type "list", data := .seq vs.toArray } (.lst (ns.map V.int))), by rw [upd_ne hne.symm, upd_same], fun b u e => ?_, .inl (.inr ⟨_, upd_same⟩)⟩
      by_cases h : b = a
      · subst h
        rw [upd_same] at e
        cases e
        exact .inr ⟨rfl, rfl, rfl⟩
      · rw [upd_ne h] at e
        by_cases h2 : b = P
        · subst h2
          rw [upd_same] at e
          cases e
          exact .inl ⟨rfl, rfl⟩
        · rw [upd_ne h2] at e
          cases e
    | some o =>
      have e1 := KX a o hk
      rw [ha] at e1
      cases e1
      refine ⟨upd (fun _ => none) P (.tbl #[]), upd_same, fun b u e => ?_, .inr ⟨_, vs.toArray, _, hk, rfl, rfl, rfl, by rw [List.size_toArray, hi.length]; exact hl, by simpa using vals_ints hi⟩⟩
      by_cases h2 : b = P
      · subst h2
        rw [upd_same] at e
        cases e
        exact .inl ⟨rfl, rfl⟩
      · rw [upd_ne h2] at e
        cases e
  have hok : HOk pg w H s₁.heap := fun b u e => by
    rcases hH b u e with ⟨rfl, rfl⟩ | ⟨rfl, rfl, _⟩
    · exact hP
    · exact ⟨ha, by rw [List.length_map]; exact hl, vs, _, vals_ints hi, ha⟩
  have seen : ∀ {b : Addr} {o : Obj}, s₁.heap.get? b = some o → (∀ its n, o.data ≠ .seq its n) → o.data ≠ .fields #[] → (hidT s₁.heap H).get? b = some o := fun {b o} e h1 h2 => by
    refine hidT_get e ?_
    cases q : H b with
    | none => rfl
    | some u =>
      rcases hH b u q with ⟨rfl, _⟩ | ⟨rfl, _⟩
      · rw [hP] at e
        cases e
        exact (h2 rfl).elim
      · rw [ha] at e
        cases e
        exact (h1 _ _ rfl).elim
  have nsH : ∀ {b : Addr} {m : Mg}, s₁.heap.Ns b m → (hidT s₁.heap H).Ns b m := fun {b m} ⟨o, es, ep, e, d, r⟩ => ⟨o, es, ep, seen e (fun _ _ z => by rw [d] at z; cases z) (fun z => by rw [d] at z; cases z), d, r⟩
  have kH : K.In (hidT s₁.heap H) := fun b o e => hidT_get (KX b o e) (by
    cases q : H b with
    | none => rfl
    | some u =>
      rcases hH b u q with ⟨rfl, _⟩ | ⟨rfl, _, hk⟩
      · rw [nP] at e
        cases e
      · rw [hk] at e
        cases e)
  have md : L2.Mod K mg (hidT s₁.heap H) := ⟨kH, nsH hns, ⟨mb, nsH hb, hbb⟩, let ⟨m, q1, q2⟩ := hlim; ⟨m, nsH q1, q2⟩⟩
  have env : Env0 pg w K mg (hidT s₁.heap H) callerA [] s₁ H := ⟨rfl, md, fun _ _ e => of_hidT e, Nat.le_of_eq (hidT_size _ _), trivial, (fun b hb => nomatch (show b ∈ ([] : List Addr) from hb)), hok, .of_eq hg⟩
  have TB : TabB (hidT s₁.heap H) mg c P := by
    have gP : mainGlobals ≠ P := fun z => by
      obtain ⟨o, es, ep, e, d, _⟩ := hns
      rw [z, hP] at e
      cases e
      cases d
    refine ⟨?_, ?_, gP⟩
    · obtain ⟨o, us, file, tf, flags, tg, inF, text, tt, e1, r1, r2, r3, r4⟩ := hCd
      refine ⟨o, us, file, tf, flags, tg, inF, text, tt, seen e1 (fun _ _ z => by rw [r2] at z; cases z) (fun z => ?_), r1, r2, r3, r4⟩
      rw [r2] at z
      cases z
      simp at r3
    · obtain ⟨bm, ob, b1, b2, b3, b4, b5, b6⟩ := hbm
      refine ⟨bm, ob, b1, b2, fun z => ?_, fun z => ?_, seen b3 (fun _ _ z => by rw [b6] at z; cases z) (fun z => by rw [b6] at z; cases z), b4, b5, b6⟩
      · obtain ⟨o, es, ep, e, d, _⟩ := hns
        rw [z, e] at b3
        cases b3
        rw [d] at b6
        cases b6
      · rw [z, hP] at b3
        cases b3
        cases b6
  refine codeAny_mono (F _ kH (nsH hns) TB [] s₁ H ⟨[.ref a], []⟩ [.ref a] [.ref a] _ _ hr env (hbind s₁ (.ref a)) (.cons rfl .nil) (hsp H hPt hS)) fun r s' z => ?_
  cases r with
  | error e =>
    obtain ⟨_, _, _, _, _, _, _, _, _, _, _, _, z⟩ := z
    exact z.elim
  | ok fl =>
    cases fl with
    | ret u =>
      obtain ⟨v, H', os, bare, un, ok', rv, q⟩ := z
      have q' : v = .bl true := q
      subst q'
      obtain rfl : u = Value.bool true := rv
      obtain ⟨more, hm⟩ := un.tbls P #[] hPt
      have atP : s'.heap.get? P = some { cls := .none, data := .fields (#[] ++ more) } := ok' P _ hm
      have key : ∀ b o, b ≠ P → s₁.heap.get? b = some o → s'.heap.get? b = some o := fun b o nb e => by
        cases hb : H b with
        | none => exact un.keep b o e hb (fun z => nomatch (show b ∈ ([] : List Addr) from z)) (fun z => nomatch z)
        | some u =>
          rcases hH b u hb with ⟨rfl, _⟩ | ⟨rfl, rfl, _⟩
          · exact (nb rfl).elim
          · obtain ⟨e2, _⟩ := ok' _ _ (un.frzs _ _ _ hb)
            rw [e2, ← ha]
            exact e
      refine ⟨rfl, ⟨fun b o e => ?_, fun b o e => ?_⟩, os, bare⟩
      · by_cases nb : b = P
        · subst nb
          rw [hP] at e
          cases e
          exact .inr (.inl ⟨(hCd.tab hP).isCodeTable, rfl, #[], more, rfl, atP⟩)
        · exact .inl (key b o nb e)
      · by_cases nb : b = P
        · subst nb
          exact ⟨_, atP⟩
        · exact ⟨o, key b o nb e⟩
    | _ => exact False.elim z
theorem ends_tab {l : PySem.W.OpenLaw} {k : Nat} {q : Program} {loose : List Str} {XP : (Str → Option Value) → Heap → Prop} {YP : World → Heap → Prop} {d : DefRec} {K : Params → K'} {m : List D → M D} (qn : Str) (hn : l.most = some 63) (hdf : d.params.defaults = []) (hr : Room k callerA)
    (hrec : ((recsOf q).any fun e => e.name == d.name) = true) (pure : ∀ ns : List Int, ns.length ≤ 63 → (∀ z ∈ ns, Builtin.Int.intBits z ≤ 1048576) → PLaw m ns) (hY : ∀ (w : World) (h : Heap), YP w h → (K w.params).In h)
    (F : ∀ (w : World) (mg : Mg) (fa : Addr) (h : Heap), YP w h → (K w.params).In h → h.Ns mainGlobals mg → mg d.name = some (.ref fa) →
      ∃ (fd : FuncData) (c P : Addr), PySem.W.tabIn (K w.params) d.name = some (c, P) ∧ (K w.params).lookup P = none ∧ (∀ (s : Shared) (v : Value), BindsTo s fd ⟨[v], []⟩ [("script", v)]) ∧
        ∀ base : Heap, (K w.params).In base → base.Ns mainGlobals mg → TabB base mg c P → RunAt l.prog w (K w.params) mg base k callerA fa fd ["script"] (@spOf ⟨[(P, qn)]⟩ (K w.params) mg 1 m)) :
    PySem.W.WalkO q loose XP YP l.row.toRowW d [] (fun f vs => PySem.call f vs) := by
  refine Att.attach_callB hn hdf fun w s₀ s₁ mg mb fa o pm cd doc a vs ns G Y ho hd hcd hmg hobj hints hlen hbits hg => ?_
  obtain ⟨fd, c, P, t1, t2, hb, hF⟩ := F w mg fa _ Y (hY w _ Y) G.T.g hmg
  obtain ⟨dL, hfind⟩ : ∃ dL, (recsOf q).find? (fun e => e.name == d.name) = some dL := by
    cases e : (recsOf q).find? (fun e => e.name == d.name) with
    | some dL => exact ⟨dL, rfl⟩
    | none =>
      obtain ⟨dL, hm, hn1⟩ := List.any_eq_true.mp hrec
      exact ((List.find?_eq_none.mp e) dL hm hn1).elim
  obtain ⟨hC, hP⟩ := PySem.W.tab_of G.T (hY w _ Y) hfind t1
  refine call_tab (hY w _ Y) G.T.g G.T.b G.T.builtins G.T.nolimit hg hC hP t2 G.T.bmain hobj hints (Nat.le_trans hlen (by decide)) hr hF hb fun H hPt hS => ?_
  letI : Tb := ⟨[(P, qn)]⟩
  refine law_sp hS hlen (fun p hp => ?_) (pure ns hlen hbits).h
  obtain rfl : p = (P, qn) := List.mem_singleton.mp hp
  exact TabS.nil hPt
end P5

namespace P5
open PySem L2 PyProof.Rows LamX
variable [Tb]
theorem tk_lam {X : Cx} {A : Around} {outer : List Env} {s : Shared} {H : Hp} {E : XK} {scope : Scope} {f d : Addr} : Takes (lamCx X A outer s H E scope f d) (fun cls dx _ H' => E cls dx H') := takes_of rfl rfl rfl rfl
def CodeAt (K : K') (f c : Addr) : Prop := ∀ (e : Value) (dd : Option Addr) (fd : FuncData) (sl : Array (Option Value)), K.lookup f = some ⟨e, dd, .func fd, sl⟩ → fd.code = .ref c
theorem codeAt_of {K : K'} {x : Str} {f c P : Addr} (a : PySem.W.nsIn K mainGlobals x = some (some (.ref f))) (t : PySem.W.tabIn K x = some (c, P)) : CodeAt K f c := fun e dd fd sl hl => by
  unfold PySem.W.tabIn at t
  rw [a] at t
  dsimp only at t
  rw [hl] at t
  dsimp only at t
  split at t
  · rename_i c' hc
    split at t
    · split at t
      · cases t
        exact hc
      · cases t
    · cases t
  · cases t
theorem run_atC {P : Program} {w : World} {K : K'} {mg : Mg} {base : Heap} {x : Str} {st : Stmt} {f c : Addr} {fd : FuncData} {N ps : List Str} {k : Nat} {sp : Sp} (A : Around) (Fn : Fun K x x st f fd) (hc : CodeAt K f c) (S : FnScope N ps (defScope st)) (len : ∀ vs H Q E, sp vs H Q E → vs.length = ps.length)
    (body : ∀ (outer : List Env) (s : Shared) (H : Hp) (vs : List V) (Q : VK) (E : XK), Room k (A.deeper (envOfC x (defScope st) s.heap.objs.size f (.ref c))) → sp vs H Q E →
      ∃ t, PSs (cxD P w K mg base N x st f (.ref c) A outer s H E) (defBody st) t ∧ t { nx := fun _ H' => Q .non H', rt := Q } (L2.start N vs) H) : RunAt P w K mg base (k + 1) A f fd ps sp := by
  obtain ⟨oc, od, kV, doc, pm, an, cdv, ct, osl, rfl, lk, hcd⟩ := Fn.ex
  obtain rfl : cdv = .ref c := hc _ _ _ _ lk
  intro outer s H args us vs Q E hr e0 hb rv hsp
  have down : ∀ b o, base.get? b = some o → s.heap.get? b = some o := fun b o e => (e0.bs b o e).1
  have kinds : ∀ y ∈ ps.zip us, (defScope st).names.lookup y.1 = some .local ∨ ((defScope st).names.lookup y.1 = some .cell ∧ ((cellsFrom (s.heap.objs.size + 1) (defScope st).names []).lookup y.1).isSome = true) := by
    rintro ⟨n, v⟩ hy
    exact (S.par n (List.of_mem_zip hy).1).imp id fun q => ⟨q, PySem.W.cellsFrom_some _ _ _ (.inl q)⟩
  refine codeAny_call_function hr.depth ((e0.mod.kin.keeps down) _ _ lk) rfl S.co S.gen rfl (PySem.W.codeRec_of (e0.mod.kin.keeps down) hcd) (hb _ _ _ _ (wpAny_newFunctionEnv_cells S.kind kinds ?_))
  rintro env rfl s1 x1
  obtain ⟨t, ht, hq⟩ := body outer s H vs Q E (hr.deeper _) hsp
  have J : Inv (cxD P w K mg base N x st f (.ref c) A outer s H E) [] (L2.start N vs) H s1 := inv_start S hr.hd e0 (len _ _ _ _ hsp) rv x1
  refine ⟨(e0.mod.nolimit.keeps down).keeps x1.toInCall.keep, codeAny_func (wpAny_mono (ht.run [] s1 _ H _ J hq) (fun fl s' z => ?_) fun _ _ z => z)⟩
  cases fl <;> first
    | (obtain ⟨v, σ', H', J', r', q⟩ := z; exact ⟨v, H', J'.os, J'.bare, J'.base, J'.hok, r', q⟩)
    | (obtain ⟨σ', H', J', q⟩ := z; exact ⟨.non, H', J'.os, J'.bare, J'.base, J'.hok, rfl, q⟩)
    | (obtain ⟨_, _, _, q⟩ := z; exact q.elim)
theorem keep_tab {P : Program} {w : World} {K : K'} {mg : Mg} {base : Heap} {x : Str} {st : Stmt} {f c T0 : Addr} {fd : FuncData} (N ps : List Str) (k : Nat) (g : SM) (mu : List Nat) (Fn : Fun K x x st f fd) (hc : CodeAt K f c) (tb : TabB base mg c T0) (qn : Str) (hT : Tb.T = [(T0, qn)])
    (hq : (envOfC x (defScope st) 0 0 .none).qual ++ "<lambda>" = qn) (S : FnScope N ps (defScope st)) (hps : ∀ i ∈ mu, ps.length ≤ i)
    (hb : ∀ (outer : List Env) (s : Shared) (H F0 : Hp) (E : XK), Room k (callerA.deeper (envOfC x (defScope st) s.heap.objs.size f (.ref c))) → (cxD P w K mg base N x st f (.ref c) callerA outer s H E).A.guards = some [] →
      TabX (cxD P w K mg base N x st f (.ref c) callerA outer s H E) → PuB (cxD P w K mg base N x st f (.ref c) callerA outer s H E) (fun cls d _ H' => E cls d H') mu F0 H (defBody st) g) : RunAt P w K mg base (k + 1) callerA f fd ps (spOf K mg ps.length (runFn N.length g)) := by
  refine run_atC callerA Fn hc S (fun vs H Q E h => h.len) fun outer s H vs Q E hr hsp => ?_
  obtain ⟨F0, ds, sF, r, hl, h⟩ := hsp
  have tx : TabX (cxD P w K mg base N x st f (.ref c) callerA outer s H E) := ⟨c, T0, rfl, tb, by rw [hT]; exact List.mem_singleton.mpr (congrArg (Prod.mk T0) hq), fun p hp _ => by
    rw [hT] at hp
    rw [List.mem_singleton.mp hp]
    exact hq.symm⟩
  refine ⟨_, hb outer s H F0 E hr rfl tx F0, F0, startD N.length ds, ?_, ?_⟩
  · have hlen : vs.length = ds.length := r.length
    have hst : ∀ i ∈ mu, ∀ d, (startD N.length ds)[i]? ≠ some (some d) := fun i hi d z => by
      have hpi := hps i hi
      unfold startD at z
      rw [List.getElem?_append_right (by simpa [hl] using hpi), List.getElem?_replicate] at z
      split at z <;> cases z
    refine ⟨sF, Same.refl _, Same.refl _, SameN.refl _, fun a h1 _ => h1, ?_, fun i d h1 _ => start_get r _ i d h1, fun i d h1 h2 _ => (hst i h2 d h1).elim, fun i j d e a b h1 _ _ h4 _ _ _ _ _ => (hst i h1 d h4).elim⟩
    unfold L2.start startD
    simp [hlen]
  · refine MM.mono _ (fun r z => ?_) (fun e z F' H' σ' c dx s' er => z F' H' c dx s'.grows er) h
    cases r with
    | rt d => exact fun F' H' v g r => z v F' H' g r
    | nx ρ => exact fun F' H' σ' s' => z .non F' H' s'.grows .non
    | bk ρ => exact z.elim
    | ct ρ => exact z.elim
end P5

namespace P5
open PySem L2 PyProof.Rows LamX
variable [Tb]
def kD : Value → Option (D × V)
  | .int i _ => some (.int i, .int i)
  | .str x _ => some (.str x, .str x)
  | _ => none
def kDs : List Value → Option (List D × List V)
  | [] => some ([], [])
  | u :: us => match kD u, kDs us with
    | some (d, v), some (ds, vs) => some (d :: ds, v :: vs)
    | _, _ => none
theorem kD_ok {K : K'} {mg : Mg} {F : Hp} {u : Value} {d : D} {v : V} (h : kD u = some (d, v)) : RelV v u ∧ Rep K mg F v d := by
  unfold kD at h
  split at h
  · cases h
    exact ⟨⟨_, rfl⟩, .int _⟩
  · cases h
    exact ⟨⟨_, rfl⟩, .str _⟩
  · cases h
theorem kDs_ok {K : K'} {mg : Mg} {F : Hp} : ∀ {us : List Value} {ds : List D} {vs : List V}, kDs us = some (ds, vs) → Vals vs us ∧ RepL K mg F vs ds
  | [], _, _, h => by
    cases h
    exact ⟨.nil, .nil⟩
  | u :: us, ds, vs, h => by
    unfold kDs at h
    split at h
    · rename_i d v ds' vs' e1 e2
      cases h
      have h1 := kD_ok (K := K) (mg := mg) (F := F) e1
      have h2 := kDs_ok (K := K) (mg := mg) (F := F) e2
      exact ⟨.cons h1.1 h2.1, .cons h1.2 h2.2⟩
    · cases h
def KTup (K : K') (mg : Mg) (x : Str) (ds : List D) : Prop := ∃ a, mg x = some (.ref a) ∧ ∀ F : Hp, Rep K mg F (.ref a) (.ktup ds)
theorem ktup_of {K : K'} {mg : Mg} {x : Str} {a : Addr} {o : Obj} {its : Array Value} {n : Nat} {ds : List D} {vs : List V} (hm : mg x = some (.ref a)) (hl : K.lookup a = some o) (hc : o.cls = .type "tuple") (hd : o.data = .seq its n) (hv : kDs its.toList = some (ds, vs)) (hz : ds.length ≤ 4096) :
    KTup K mg x ds := ⟨a, hm, fun F => by
  have h := kDs_ok (K := K) (mg := mg) (F := F) hv
  have l1 := h.1.length
  have l2 := h.2.length
  have l3 : its.toList.length = its.size := rfl
  exact .ktup (.inr ⟨o, its, n, hl, hc, hd, szOk (by omega), h.1⟩) h.2 (by omega)⟩
section
variable {X : Cx} {W : WX} {pos : Pos}
theorem u_ktup {x : Str} {ds : List D} (hg : Gl X x) (hm : KTup X.K X.mg x ds) (hd : (x == ("__debug__" : Str)) = false := by decide) : PuE X W (.Name x pos) (dCon (.ktup ds)) := by
  obtain ⟨a, hm, hr⟩ := hm
  exact con_of (pe_glob (v := .ref a) hg hm rfl hd) hr
end
end P5

namespace P5E
open PySem PySem.Spec PyProof.Rows L2
theorem meets_enumB {v : Value} {o : Obj} {H : Heap → Prop} (B : Begins v o H) :
    Meets (Builtin.«enumerate.__new__» ⟨[.type "enumerate", v], []⟩) (fun _ R s => H s.heap ∧
      R (.ok (.ret (.ref (s.heap.push o).objs.size))) { s with heap := (s.heap.push o).push { cls := .type "enumerate", data := .fields #[.none, .bool false, .ref s.heap.objs.size, rawInt 0, .none, .none] } }) :=
  .of_wp fun prog w A R s h => by
    obtain ⟨hp, g, d, tk, os⟩ := s; obtain ⟨h1, h⟩ := h
    have hsub := sub_enumerate
    have q1 : ∀ {A' : Around} {E : Value → Shared → Prop} {Q : Value → Shared → Prop}, Q (.ref hp.objs.size) ⟨hp.push o, g, d, tk, os⟩ → wpAny (model prog w) A' (pyIter v) Q E ⟨hp, g, d, tk, os⟩ :=
      fun q => B.iter prog w _ _ ⟨hp, g, d, tk, os⟩ _ h1 q
    wp_walk using q1
    refine wpAny_stack_any fun st => wpAny_pure ?_
    split
    · rename_i c _ _ _ _ _
      cases (c == Value.type "enumerate")
      · wp_walk using q1
        exact ⟨_, rfl, h⟩
      · wp_walk using q1
        exact ⟨_, rfl, h⟩
    · wp_walk using q1
      exact ⟨_, rfl, h⟩
theorem call_enumB {prog : Program} {w : World} {A : Around} {E : Value → Shared → Prop} {s : Shared} {v : Value} {o : Obj} {H : Heap → Prop} {Q : Value → Shared → Prop} (B : Begins v o H) (h1 : H s.heap)
    (h : ∀ h', IsEnum h' (s.heap.objs.size + 1) s.heap.objs.size 0 .none → h'.get? s.heap.objs.size = some o → h'.objs.size = s.heap.objs.size + 2 →
      (∀ b o, s.heap.get? b = some o → h'.get? b = some o) → Q (.ref (s.heap.objs.size + 1)) { s with heap := h' }) :
    wpAny (model prog w) A (call (.type "enumerate") [v]) Q E s := by
  refine callType_new F.called_enumerate (by decide) (F.typeCall_enumerate_1 _) (F.newCall_enumerate_1 _) (fun obj => F.args_object_init_2 obj _) F.entry_enumerate_new
    (meets_enumB B) ⟨h1, ?_⟩
  have hz : (s.heap.push o).objs.size = s.heap.objs.size + 1 := Heap.size_push ..
  show _ ∧ _
  rw [hz]
  have he : IsEnum ((s.heap.push o).push { cls := .type "enumerate", data := .fields #[.none, .bool false, .ref s.heap.objs.size, rawInt 0, .none, .none] }) (s.heap.objs.size + 1) s.heap.objs.size 0 .none := by
    have := Heap.get?_push_size (s.heap.push o) (o := { cls := .type "enumerate", data := .fields #[.none, .bool false, .ref s.heap.objs.size, rawInt 0, .none, .none] }) rfl
    rw [hz] at this; exact this
  refine ⟨⟨_, he, rfl⟩, h _ he (Heap.get?_push_of_some _ (Heap.get?_push_size _ B.free)) (by rw [Heap.size_push, hz]) fun b o x => Heap.get?_push_of_some _ (Heap.get?_push_of_some _ x)⟩
theorem enum_endT {prog : Program} {w : World} {A : Around} {E : Value → Shared → Prop} {s : Shared} {e it t : Addr} {i : Nat} {items : Array Value} {c : Int} {old : Value} {Q : Option Value → Shared → Prop} (hh : A.handled = none)
    (he : IsEnum s.heap e it c old) (hit : s.heap.IsTupleIter it t i) (hl : s.heap.IsTuple t items) (hx : items[i]? = none)
    (hQ : ∀ h', Heap.ExtBut it s.heap h' → Q none { s with heap := h' }) : wpAny (model prog w) A (pyNext (.ref e)) Q E s := by
  have hT : s.TypeIs (.ref e) "enumerate" := ⟨_, he, rfl⟩
  unfold pyNext
  refine wpAny_bind (wpAny_attempt (wpAny_callSpecial?_slot (name := Str.ofString "__next__") hT F.slot_enumerate_next
    (wpAny_call_entry F.slot_enumerate_next hT F.entry_enumerate_next ?_ (F.args_enumerate_next_1 _))))
  show wpAny _ _ (field (.ref e) 2 >>= _) _ _ _
  refine wpAny_bind (wpAny_field he rfl (x := .ref it) rfl ?_)
  refine wpAny_bind (wpAny_nextOf_tuple_end (show A.in1.handled = none from hh) hit hl hx fun h' x he' hx' => ?_)
  obtain ⟨o, ho, hc⟩ := hx'
  refine wpAny_bind (wpAny_isInstance (T := "StopIteration") (b := true) ⟨o, ho, hc⟩ isSubtype_stop ?_)
  exact wpAny_pure (hQ _ he')
def IteT (K : PySem.W.Frag) (a : Addr) : It :=
  ⟨fun i H => ∃ (xs : List V) (x : V), SqT K H a xs ∧ xs[i]? = some x, fun i H v H' => ∃ T x, v = .ref T ∧ H T = none ∧ H' = upd H T (.tup [.int (i : Nat), x]) ∧ ∀ xs, SqT K H a xs → xs[i]? = some x, fun i H => ∃ xs : List V, SqT K H a xs ∧ xs.length ≤ i⟩
theorem turn_enumT {P : Program} {w : World} {K : PySem.W.Frag} {elts : List Expr} {kk : Nat} {tpos : Pos} (a e it : Addr) :
    Turn P w K (.Tuple elts kk tpos) (IteT K a) [e, it] e (fun i h => (∃ old, IsEnum h e it ((i : Nat) : Int) old) ∧ h.IsTupleIter it a i ∧ e ≠ it ∧ e ≠ a ∧ a ≠ it) where
  mem := by simp
  obj := fun i h st b hb => by
    obtain ⟨⟨old, he⟩, ⟨o, ho, hc, hd⟩, _⟩ := st
    have e' : b = e ∨ b = it := by simpa using hb
    rcases e' with z | z
    · rw [z]; exact ⟨_, he, fun v q => nomatch q⟩
    · rw [z]; exact ⟨o, ho, fun v q => by rw [hd] at q; cases q⟩
  keep := fun i h h' st k => let ⟨⟨old, he⟩, hi, hne⟩ := st; ⟨⟨old, k e (by simp) _ he⟩, hi.at fun o q => k it (by simp) o q, hne⟩
  item := by
    intro X hP hw hK hc i pins s σ H E I hf st hg
    subst hP hw hK
    obtain ⟨⟨old, he⟩, hit, hne, hea, hai⟩ := st
    obtain ⟨xs, x, hq, hx⟩ := hg
    obtain ⟨its, rv, p, hz⟩ := I.tuple hq
    obtain ⟨u, hu, ru⟩ := rv.get hx
    have hel : e < s.heap.objs.size := Heap.lt_size he
    have hil : it < s.heap.objs.size := by obtain ⟨_, q, _⟩ := hit; exact Heap.lt_size q
    have hlt : i < its.toArray.size := by
      have := (List.getElem?_eq_some_iff.mp hu).1
      simpa using this
    refine PySem.wpAny_pyNext_enum_itemD (Draws.tuple (show X.A.in1.handled = none from I.ok.hd hc) it a hai its.toArray) he ⟨hit, p⟩ hlt hne (by simp [hne, hea]) fun y h' tk hy ho hit' hT hsz hk => ?_
    have hy' : y = u := by
      have : its.toArray[i]? = some y := hy
      rw [List.getElem?_toArray, hu] at this
      exact (Option.some.inj this).symm
    subst hy'
    refine ⟨_, rfl, wpAny_letOwnedTupleGo_enum (s := { s with heap := h', toks := tk + 1 }) ho fun h'' he' sb => ?_⟩
    have hT2 : h''.get? s.heap.objs.size = some { cls := .type "tuple", data := .seq #[.int i tk, y] } := (sb.2 _ (Nat.ne_of_gt hel)).trans hT
    have new : ObjOk X.prog X.w (upd H s.heap.objs.size (.tup [.int (i : Nat), x])) h'' s.heap.objs.size (.tup [.int (i : Nat), x]) :=
      ⟨by show 2 ≤ sizeLine; decide, [.int i tk, y], .cons ⟨_, rfl⟩ (.cons ru .nil), ⟨_, hT2, rfl, _, rfl⟩⟩
    have I1 : Inv X pins σ (upd H s.heap.objs.size (.tup [.int (i : Nat), x])) { s with heap := h'', toks := tk + 1 } :=
      I.turnedNew (ch := [e, it]) (fun b ob hb q => (sb.2 b (fun z => hb (by simp [z]))).trans (hk b ob (fun z => hb (by simp [z])) (fun z => hb (by simp [z])) q)) hf (Nat.le_refl _) new
    refine ⟨.ref s.heap.objs.size, _, I1, rfl, ⟨_, x, rfl, I.hok.fresh (Nat.le_refl _), rfl, fun ys hy => by rw [I.tuple_inj hy hq]; exact hx⟩, ⟨⟨y, ?_⟩, hit'.1.at fun o q => (sb.2 it (Ne.symm hne)).trans q, hne, hea, hai⟩, fun b hb => ?_⟩
    · have e1 : ((i + 1 : Nat) : Int) = (i : Int) + 1 := by omega
      rw [e1]; exact he'
    · have hb' : b < s.heap.objs.size := by
        have e' : b = e ∨ b = it := by simpa using hb
        rcases e' with z | z
        · rw [z]; exact hel
        · rw [z]; exact hil
      rw [upd_ne (Nat.ne_of_lt hb')]
      exact (hf b hb).1
  done := by
    intro X hP hw hK hc i pins s σ H E I hf st hg
    subst hP hw hK
    obtain ⟨⟨old, he⟩, hit, hne, hea, hai⟩ := st
    obtain ⟨xs, hq, hx⟩ := hg
    obtain ⟨its, rv, p, hz⟩ := I.tuple hq
    obtain ⟨f0, f1, f2, f3, f4, f5⟩ := hf it (by simp)
    have hl := rv.length
    exact enum_endT (I.ok.hd hc) he hit p (by simp; omega) fun h' eb => ⟨rfl, I.turned (t' := s.toks) (fun b o hb q => eb b o hb q) f0 f1 f3 f4 f5⟩
  self := fun A i s Q E st h => let ⟨⟨_, he⟩, _⟩ := st; wpAny_pyIter_enum he h
def iEnumT (K : PySem.W.Frag) (ta : TA) : TI := fun σ H R => ta σ H fun vs H1 => ∃ a, vs = [.ref a] ∧ ((∃ xs, SqL K H1 a xs ∧ R (Ite K a) H1) ∨ ∃ xs, SqT K H1 a xs ∧ R (IteT K a) H1)
theorem pi_enumT {X : Cx} {e : Expr} {ta : TA} {p pos tpos : Pos} {elts : List Expr} {kk : Nat} (hg : Gl X "enumerate") (hm : X.mg "enumerate" = none) (ha : PA X [e] ta) (hs : starEach [e] X.env = [(false, eval e X.env)] := by rfl) :
    PI X (.Tuple elts kk tpos) (.Call (.Name "enumerate" p) [e] [] pos) (iEnumT X.K ta) := by
  refine ⟨fun pins s σ H R I h => ?_⟩
  refine Call_ (ld_blt I hg hm boot_enumerate (PyProof.Rows.callWith_type1 (thn (ha.run pos pins s σ H _ I h) fun us s1 ⟨vs, H1, I1, r1, q1⟩ => ?_) hs rfl))
  obtain ⟨a, ex, q⟩ := q1
  subst ex
  cases r1 with
  | cons r rr =>
    cases rr
    cases r
    have fin : ∀ b, b ∈ [s1.heap.objs.size + 1, s1.heap.objs.size] → s1.heap.objs.size ≤ b := fun b hb => by
      have e' : b = s1.heap.objs.size + 1 ∨ b = s1.heap.objs.size := by simpa using hb
      rcases e' with z | z
      · rw [z]; exact Nat.le_add_right _ _
      · rw [z]; exact Nat.le_refl _
    rcases q with ⟨xs, hq, q⟩ | ⟨xs, hq, q⟩
    · obtain ⟨its, rv, p', hz⟩ := I1.list hq
      refine call_enumerate_list p'.isList fun h' he hit hsz hk => wpAny_pyIter_enum he ?_
      have I2 : Inv X pins σ H1 { s1 with heap := h' } := I1.kept (t' := s1.toks) hk
      exact ⟨s1.heap.objs.size + 1, [s1.heap.objs.size + 1, s1.heap.objs.size], _, _, H1, rfl, I2, turn_enum a (s1.heap.objs.size + 1) s1.heap.objs.size, ⟨⟨.none, he⟩, hit, Nat.succ_ne_self _⟩, fun b hb => I1.fpOk (fin b hb) (I1.hok.fresh (fin b hb)), q⟩
    · obtain ⟨its, rv, p', hz⟩ := I1.tuple hq
      have ha' : a < s1.heap.objs.size := by
        obtain ⟨o, ho, _⟩ := p'
        exact Heap.lt_size ho
      refine call_enumB (begins_tuple a its.toArray) p' fun h' he hit hsz hk => wpAny_pyIter_enum he ?_
      have I2 : Inv X pins σ H1 { s1 with heap := h' } := I1.kept (t' := s1.toks) hk
      exact ⟨s1.heap.objs.size + 1, [s1.heap.objs.size + 1, s1.heap.objs.size], _, _, H1, rfl, I2, turn_enumT a (s1.heap.objs.size + 1) s1.heap.objs.size, ⟨⟨.none, he⟩, ⟨_, hit, rfl, rfl⟩, Nat.succ_ne_self _, Ne.symm (Nat.ne_of_lt (Nat.lt_succ_of_lt ha')), Nat.ne_of_lt ha'⟩, fun b hb => I1.fpOk (fin b hb) (I1.hok.fresh (fin b hb)), q⟩
theorem walk_enumT {K : PySem.W.Frag} {a : Addr} {xs : List V} : Walk (IteT K a) xs.length (fun H => SqT K H a xs) (YPair (fun i => some (.int (i : Nat))) (fun i => xs[i]?)) := by
  refine ⟨fun i _ hi q => ⟨xs, xs[i], q, by simp [hi]⟩, fun _ q => ⟨xs, q, Nat.le_refl _⟩, fun i H v H' _ q y => ?_⟩
  obtain ⟨T, x, h1, h2, h3, h4⟩ := y
  exact ⟨T, .int (i : Nat), x, h1, h2, h3, rfl, h4 xs q⟩
end P5E
namespace P5
open PySem L2 PyProof.Rows
variable [Tb]
def opEnumT : List D → Option (List D)
  | [.lst xs] => some (pairsD (numD xs))
  | [d] => (tupD d).map fun xs => pairsD (numD xs)
  | _ => none
theorem wlk_enumT {K : K'} {mg : Mg} {F : Hp} {a : Addr} {xs : List V} {ds : List D} (h : SqT K F a xs) (r : RepL K mg F xs ds) (z : ds.length ≤ 16777216) : Wlk K mg (P5E.IteT K a) F (pairsD (numD ds)) := by
  refine wlk_pair P5E.walk_enumT (fun H s => seqT s.s h) (by unfold numD; rw [List.length_mapIdx, r.length]) (fun i x y e1 e2 => ?_) (by unfold numD; rw [List.length_mapIdx]; exact z)
  have hi : i < ds.length := by
    have := (List.getElem?_eq_some_iff.mp e2).1
    rw [r.length] at this
    exact this
  obtain ⟨v, h1, h2⟩ := r.get (List.getElem?_eq_getElem hi)
  rw [e2] at h1
  cases h1
  cases e1
  exact ⟨(.int i, ds[i]), by unfold numD; rw [List.getElem?_mapIdx, List.getElem?_eq_getElem hi]; rfl, .int _, h2⟩
section
variable {X : Cx} {W : WX} {e : Expr} {p pos tpos : Pos} {g : Env' → M (List D)}
theorem i_enumT {elts : List Expr} {kk : Nat} (hg : Gl X "enumerate") (hm : X.mg "enumerate" = none) (ha : PuA X W [e] g) (hs : starEach [e] X.env = [(false, eval e X.env)] := by rfl) :
    PuI X W (.Tuple elts kk tpos) (.Call (.Name "enumerate" p) [e] [] pos) (iArgs opEnumT g) := by
  refine PI_imp (P5E.pi_enumT hg hm ha hs) fun σ H R ⟨F, ρ, sF, er, h⟩ => ?_
  refine TAo.bind sF er h fun ds vs F1 H1 g1 r1 h1 => ?_
  obtain ⟨r, e1, q⟩ := wp_opt h1
  unfold opEnumT at e1
  split at e1
  · cases e1
    obtain ⟨v, rfl, rv⟩ := r1.one
    obtain ⟨a, xs, rfl, ha, ra⟩ := rv.lst_inv
    exact ⟨a, rfl, .inl ⟨xs, SqL.of (g1.sub _ _ ha), q _ F1 H1 g1 (wlk_enum (SqL.of ha) ra rv.sz)⟩⟩
  · rename_i d _
    cases ht : tupD d with
    | none =>
      rw [ht] at e1
      cases e1
    | some ds =>
      rw [ht] at e1
      cases e1
      obtain ⟨v, rfl, rv⟩ := r1.one
      obtain ⟨a, vs, rfl, ha, rl, hz⟩ := rv.tupD_inv ht
      exact ⟨a, rfl, .inr ⟨vs, seqT g1.sub.s ha, q _ F1 H1 g1 (wlk_enumT ha rl hz)⟩⟩
  · cases e1
end
end P5
namespace P5
open PySem L2 PyProof.Rows
theorem tabIn_of {K : K'} {x : Str} {f c P : Addr} {e e' : Value} {dd dd' : Option Addr} {sl sl' : Array (Option Value)} {fd : FuncData} {vs : Array Value} (a : PySem.W.nsIn K mainGlobals x = some (some (.ref f))) (l : K.lookup f = some ⟨e, dd, .func fd, sl⟩) (hc : fd.code = .ref c)
    (lc : K.lookup c = some ⟨e', dd', .fields vs, sl'⟩) (h : vs[11]? = some (.ref P)) : PySem.W.tabIn K x = some (c, P) := by
  unfold PySem.W.tabIn
  rw [a]
  dsimp only
  rw [l]
  dsimp only
  rw [hc]
  dsimp only
  rw [lc]
  dsimp only
  rw [h]
end P5

namespace P5
open PySem L2 PyProof.Rows
variable [Tb]
theorem RepL.eraseIdx {K : K'} {mg : Mg} {F : Hp} {vs : List V} {ds : List D} (r : RepL K mg F vs ds) (n : Nat) : RepL K mg F (vs.eraseIdx n) (ds.eraseIdx n) := by
  rw [List.eraseIdx_eq_take_drop_succ, List.eraseIdx_eq_take_drop_succ]
  exact (r.take n).append (r.drop (n + 1))
def popAt (ys : List D) : D → Option (D × List D)
  | .int k => if -(2 ^ 63) ≤ k ∧ k < 2 ^ 63 then (match seqIndex? k ys.length with
    | some n => (match ys[n]? with
      | some y => some (y, ys.eraseIdx n)
      | none => none)
    | none => none) else none
  | _ => none
def sAppPop (i j : Nat) (f : EM) : SM := fun ρ => M.opt (lstAt ρ i) >>= fun xs => M.opt (lstAt ρ j) >>= fun ys => liftI ρ (f ρ) >>= fun d => M.opt (popAt ys d) >>= fun p =>
  if xs.length < 16777216 then pure (.nx ((ρ.set j (some (.lst p.2))).set i (some (.lst (xs ++ [p.1]))))) else M.fail
section
variable {X : Cx} {W : WX} {mu : List Nat} {F0 H0 : Hp} {e : Expr} {f : EM} {pos p p2 : Pos} {i j : Nat} {x y : Str}
theorem s_appPop {apos cpos apos2 cpos2 : Pos} (hi : i ∈ mu) (hj : j ∈ mu) (hij : i ≠ j) (hN : X.N[i]? = some x) (hv : Vis X.env.scope x) (hN2 : X.N[j]? = some y) (hv2 : Vis X.env.scope y) (he : PuE X W e f) (hd : (x == ("__debug__" : Str)) = false := by decide) (hcd : (x == ("__classdict__" : Str)) = false := by decide) (hd2 : (y == ("__debug__" : Str)) = false := by decide) (hcd2 : (y == ("__classdict__" : Str)) = false := by decide)
    (hbase : attributeBase (.Name x p) "append" X.env (eval (.Name x p) X.env) = eval (.Name x p) X.env := by rfl) (hline : (apos.endLine == cpos.line) = true := by rfl) (hst : starEach [.Call (.Attribute (.Name y p2) "pop" apos2) [e] [] cpos2] X.env = (false, eval (.Call (.Attribute (.Name y p2) "pop" apos2) [e] [] cpos2) X.env) :: starEach [] X.env := by rfl)
    (hfew : ((backTo cpos (starEach [.Call (.Attribute (.Name y p2) "pop" apos2) [e] [] cpos2] X.env)).all (fun x => !x.1) && (backToKw cpos (keywordEach [] X.env)).all (fun x => x.1.isSome)
      && decide (([.Call (.Attribute (.Name y p2) "pop" apos2) [e] [] cpos2] : List Expr).length + ([] : List Keyword).length + (if ([] : List Keyword).isEmpty then 0 else 1) < 30)) = true := by rfl) (hplain : (backTo cpos (starEach [] X.env)).any (·.1) = false := by rfl)
    (hbase2 : attributeBase (.Name y p2) "pop" X.env (eval (.Name y p2) X.env) = eval (.Name y p2) X.env := by rfl) (hline2 : (apos2.endLine == cpos2.line) = true := by rfl) (hst2 : starEach [e] X.env = (false, eval e X.env) :: starEach [] X.env := by rfl)
    (hfew2 : ((backTo cpos2 (starEach [e] X.env)).all (fun x => !x.1) && (backToKw cpos2 (keywordEach [] X.env)).all (fun x => x.1.isSome)
      && decide (([e] : List Expr).length + ([] : List Keyword).length + (if ([] : List Keyword).isEmpty then 0 else 1) < 30)) = true := by rfl) (hplain2 : (backTo cpos2 (starEach [] X.env)).any (·.1) = false := by rfl)
    (hs : swapsWith (.Call (.Attribute (.Name x p) "append" apos) [.Call (.Attribute (.Name y p2) "pop" apos2) [e] [] cpos2] [] cpos) none pos.line X.env = pure false := by rfl) :
    PuS X W mu F0 H0 (.Expr (.Call (.Attribute (.Name x p) "append" apos) [.Call (.Attribute (.Name y p2) "pop" apos2) [e] [] cpos2] [] cpos) pos) (sAppPop i j f) := by
  intro Fb
  have hp : PE X (.Call (.Attribute (.Name y p2) "pop" apos2) [e] [] cpos2) (tBM X.K "list" rPopAt (tVar j) (tCons (TEo X W f) tNil)) :=
    pe_bm PySem.F.plainAttrs_list PySem.F.slot_list_pop PySem.F.type_list_pop mt_popAt (pe_var hN2 hv2 hd2 hcd2) (pa_cons he pa_nil hst2) hbase2 hfew2 hline2 hst2 hplain2
  refine PS_imp (ps_expr (app_rd hN hv hp hd hcd hbase hline hst hfew hplain) hs) fun D' σ H ⟨F, ρ, s, h⟩ => ?_
  obtain ⟨xs, e1, h⟩ := wp_opt h
  obtain ⟨ys, e2, h⟩ := wp_opt h
  obtain ⟨a, vs, q1, q2, q3, q4⟩ := s.lst_at hi e1
  obtain ⟨b, ws, r1, r2, r3, r4⟩ := s.lst_at hj e2
  obtain ⟨h1, h2, h3⟩ := see_all (m := f) s h
  refine ⟨.ref a, q1, .inl ⟨rfl, vs, SqL.of q2⟩, .ref b, r1, .inl ⟨rfl, ws, SqL.of r2⟩, _, ρ, h2, h1, (f ρ).mono (fun d z v F' H' g r => ?_) (fun _ z => z) h3⟩
  obtain ⟨⟨y', ys'⟩, e3, z⟩ := wp_opt z
  dsimp only at z
  split at z
  · rename_i hz
    unfold popAt at e3
    split at e3
    · rename_i k
      split at e3
      · rename_i hk
        split at e3
        · rename_i n hn
          split at e3
          · rename_i y0 hy
            cases e3
            obtain ⟨s1, rv⟩ := s.behind g r rfl
            obtain ⟨b', ws', r1', r2', r3', r4'⟩ := s1.lst_at hj e2
            rw [r1] at r1'
            cases r1'
            obtain ⟨u, hu, ru⟩ := r3'.get hy
            have hnl : n < ys.length := (List.getElem?_eq_some_iff.mp hy).1
            refine ⟨b, ws', k, n, u, rfl, by rw [rv.int_inv], r2', hk.1, hk.2, by rw [r3'.length]; exact hn, hu, ?_⟩
            have hz2 : ys.length ≤ 16777216 := by
              obtain ⟨a2, f1, f2, f3, o⟩ := s1.own j _ (lstAt_of e2) hj rfl
              cases o with
              | lst _ _ zz => exact zz
            have s2 := s1.write hj (lstAt_of e2) rfl r1 (.lst upd_same (r3'.eraseIdx n) (Nat.le_trans (List.length_eraseIdx_le _ _) hz2))
            have e1' : lstAt (ρ.set j (some (.lst (ys.eraseIdx n)))) i = some xs := by
              unfold lstAt at e1 ⊢
              rw [List.getElem?_set_ne (Ne.symm hij)]
              exact e1
            obtain ⟨a', vs', q1', q2', q3', q4'⟩ := s2.lst_at hi e1'
            rw [q1] at q1'
            cases q1'
            exact ⟨a, vs', u, rfl, rfl, q2', by rw [q3'.length]; exact szLt hz, z _ _ _ (s2.write hi (lstAt_of e1') rfl q1 (.lst upd_same (q3'.append (.cons ru .nil)) (by rw [List.length_append, List.length_singleton]; omega)))⟩
          · cases e3
        · cases e3
      · cases e3
    · cases e3
  · exact z.elim
end
end P5

namespace P5
open PySem L2 PyProof.Rows
def g_mixed : SM :=
  (sSeq (sParFF [2, 3] 2 3 (dCall opList (dCons (dVar 1) dNil)) (dLst dNil))
  (sSeq (sWhile (dB (dBin opNe (dVar 2) (dLst dNil)))
  (sAppPop 3 2 (dCallM 2 takeM (dCons (dVar 0) (dCons (dCall opLen (dCons (dVar 2) dNil)) dNil)))))
  (sRet (dVar 3))))
def mixedM : List D → M D
  | [.bag, d] => match opList [d] with
    | some (.lst xs) => if okD (.lst xs) = true ∧ xs.length ≤ 1000000 then M.any (fun e => ∃ ys : List D, ys.Perm xs ∧ e = .lst ys) else M.fail
    | _ => M.fail
  | _ => M.fail
theorem e_varK {ρ : Env'} {i : Nat} {d : D} (h : ρ[i]? = some (some d)) : dVar i ρ = pure d := dVar_get h
theorem lay_mem : ∀ {xs : List D}, PyData.canLayAll0 (toPyL xs) = true ↔ ∀ x ∈ xs, (toPy x).canLay0 = true
  | [] => ⟨(fun _ _ h => nomatch h), fun _ => rfl⟩
  | x :: xs => by
    show ((toPy x).canLay0 && PyData.canLayAll0 (toPyL xs)) = true ↔ _
    rw [Bool.and_eq_true, lay_mem]
    simp
theorem dep_mem {n : Nat} : ∀ {xs : List D}, PyData.depthAll (toPyL xs) ≤ n ↔ ∀ x ∈ xs, (toPy x).depth ≤ n
  | [] => ⟨(fun _ _ h => nomatch h), fun _ => Nat.zero_le _⟩
  | x :: xs => by
    show max (toPy x).depth (PyData.depthAll (toPyL xs)) ≤ n ↔ _
    rw [Nat.max_le, dep_mem]
    simp
theorem ok_sub {xs ys : List D} (h : okD (.lst xs) = true) (hs : ∀ y ∈ ys, y ∈ xs) : okD (.lst ys) = true := by
  have h' : (PyData.canLayAll0 (toPyL xs) && decide (PyData.depthAll (toPyL xs) + 1 ≤ 64)) = true := h
  rw [Bool.and_eq_true, lay_mem, decide_eq_true_iff] at h'
  show (PyData.canLayAll0 (toPyL ys) && decide (PyData.depthAll (toPyL ys) + 1 ≤ 64)) = true
  rw [Bool.and_eq_true, lay_mem, decide_eq_true_iff]
  have h2 : PyData.depthAll (toPyL xs) ≤ 63 := by omega
  have h3 : PyData.depthAll (toPyL ys) ≤ 63 := dep_mem.mpr fun y hy => dep_mem.mp h2 y (hs y hy)
  exact ⟨fun y hy => h'.1 y (hs y hy), by omega⟩
theorem ne_nil_lst {xs : List D} (h : okD (.lst xs) = true) : opNe (.lst xs) (.lst []) = some (.bl (!xs.isEmpty)) := by
  show (if okD (.lst xs) && okD (.lst []) then some (D.bl (!PyData.eqv (.list (toPyL xs)) (.list []))) else _) = _
  rw [h, show okD (D.lst []) = true from rfl, Bool.and_self, if_pos rfl]
  cases xs <;> rfl
theorem mixed_ok (ds : List D) (Q : D → Prop) (E : Err → Prop) (h : (mixedM ds).wp Q E) : (runFn 4 g_mixed ds).wp Q E := by
  unfold mixedM at h
  split at h
  · rename_i d
    split at h
    · rename_i xs hx
      split at h
      · rename_i hk
        obtain ⟨hok, hlen⟩ := hk
        rw [wp_run]
        show (g_mixed [some .bag, some d, none, none]).wp _ _
        unfold g_mixed
        refine wp_seq (ρ' := [some .bag, some d, some (.lst xs), some (.lst [])]) ?_ ?_
        · unfold sParFF
          have e1 : hide [2, 3] [some .bag, some d, none, none] = [some D.bag, some d, none, none] := by
            simp only [hide_eq, hideG, List.contains_cons, List.contains_nil, Nat.reduceBEq, Nat.reduceAdd, Bool.or_false, Bool.false_or, Bool.or_true, Bool.true_or, if_true, if_false, Bool.false_eq_true]
          rw [e1, e_call (r := .lst xs) (e_cons (e_varK (d := d) rfl) e_nil) hx, liftF_pure, pure_bind, e_lst e_nil, liftF_pure, pure_bind]
          rfl
        show (sSeq _ _ _).wp _ _
        unfold sSeq
        rw [wp_bind]
        refine while_inv (fun n ρ => ∃ ls fs : List D, ρ = [some .bag, some d, some (.lst ls), some (.lst fs)] ∧ (fs ++ ls).Perm xs ∧ n = ls.length) ?_ (n := xs.length) ⟨xs, [], rfl, List.Perm.refl _, rfl⟩
        rintro n ρ ⟨ls, fs, rfl, hp, rfl⟩
        have hsz := hp.length_eq
        rw [List.length_append] at hsz
        have hokl : okD (.lst ls) = true := ok_sub hok fun y hy => hp.mem_iff.mp (List.mem_append_right _ hy)
        rw [e_B (e_bin (e_varK (d := .lst ls) rfl) (e_lst e_nil) (ne_nil_lst hokl)), liftI_pure, wp_pure]
        cases ls with
        | nil =>
          show (if false = true then _ else _)
          rw [if_neg Bool.false_ne_true]
          show (sRet (dVar 3) _).wp _ _
          rw [s_ret_pure (e_varK (d := .lst fs) rfl), wp_pure]
          rw [List.append_nil] at hp
          exact h (.lst fs) ⟨fs, hp, rfl⟩
        | cons l ls =>
          show (if true = true then _ else _)
          rw [if_pos rfl]
          unfold sAppPop
          show (M.opt (some fs) >>= fun xs => M.opt (some (l :: ls)) >>= fun ys => _ : MS Fl).wp _ _
          rw [M.opt_some, pure_bind, M.opt_some, pure_bind]
          rw [wp_bind, wp_liftI]
          rw [e_callM (n := 2) (xs := [.bag, .int ((l :: ls).length : Nat)]) (e_cons (e_varK (d := .bag) rfl) (e_cons (e_call (e_cons (e_varK (d := .lst (l :: ls)) rfl) e_nil) rfl) e_nil)) rfl]
          rw [List.length_cons] at hsz
          refine wp_take (by rw [List.length_cons]; omega) (by rw [List.length_cons]; omega) fun k h0 hk => ?_
          obtain ⟨j, rfl⟩ : ∃ j : Nat, k = j := ⟨k.toNat, by omega⟩
          have hj : j < (l :: ls).length := by omega
          have hpop : popAt (l :: ls) (.int j) = some ((l :: ls)[j], (l :: ls).eraseIdx j) := by
            unfold popAt
            dsimp only
            have e1 : (l :: ls).length = ls.length + 1 := rfl
            rw [if_pos ⟨by omega, by omega⟩]
            have e2 : seqIndex? (j : Int) (l :: ls).length = some j := by
              unfold seqIndex?
              dsimp only
              rw [if_neg (by omega : ¬ (j : Int) < 0), if_pos, Int.toNat_natCast]
              rw [Bool.and_eq_true, decide_eq_true_iff, decide_eq_true_iff]
              omega
            rw [e2]
            dsimp only
            rw [List.getElem?_eq_getElem hj]
          rw [hpop, M.opt_some, pure_bind, if_pos (by omega), wp_pure]
          have hle : ((l :: ls).eraseIdx j).length = ls.length := by
            rw [List.length_eraseIdx_of_lt hj]
            rfl
          refine ⟨ls.length, Nat.lt_succ_self _, (l :: ls).eraseIdx j, fs ++ [(l :: ls)[j]], rfl, ?_, hle.symm⟩
          refine List.Perm.trans ?_ hp
          rw [List.append_assoc]
          refine List.Perm.append_left fs ?_
          have hpe : ∀ (l : List D) (j : Nat) (hj : j < l.length), (l[j] :: l.eraseIdx j).Perm l := fun l => by
            induction l with
            | nil => exact fun j hj => absurd hj (Nat.not_lt_zero _)
            | cons a l ih =>
              intro j hj
              cases j with
              | zero => exact List.Perm.refl _
              | succ j => exact (List.Perm.swap _ _ _).trans ((ih j (Nat.lt_of_succ_lt_succ hj)).cons a)
          exact hpe _ j hj
      · exact h.elim
    · exact h.elim
  · exact h.elim
end P5

namespace P5
open PySem L2 PyProof.Rows
variable [Tb]
def stepD {α : Type} (xs : List α) (lo hi st : Option Int) : List α := (sliceRange (sliceBounds lo hi st xs.length).1 (sliceBounds lo hi st xs.length).2.1 (sliceBounds lo hi st xs.length).2.2).filterMap (xs[·]?)
theorem step_pick (its : List Value) (lo hi st : Option Int) : slicePick its.toArray lo hi st = (stepD its lo hi st).toArray := by
  unfold slicePick stepD
  rw [List.size_toArray]
  refine congrArg List.toArray (congrArg (fun f => List.filterMap f _) ?_)
  funext i
  exact List.getElem?_toArray
theorem step_len {α : Type} (xs : List α) (lo hi st : Option Int) (h : st ≠ some 0) : (stepD xs lo hi st).length ≤ xs.length := by
  have h1 := slicePick_size_le (xs.map fun _ => Value.none).toArray lo hi st
  rw [step_pick, List.size_toArray, List.size_toArray, List.length_map] at h1
  refine Nat.le_trans (Nat.le_of_eq ?_) h1
  unfold stepD
  rw [List.length_map, ← List.length_map (f := fun _ => Value.none), List.map_filterMap]
  refine congrArg List.length (congrArg (fun f => List.filterMap f _) ?_)
  funext i
  rw [List.getElem?_map]
theorem Vals.pick {xs : List V} {its : List Value} (r : Vals xs its) : ∀ L : List Nat, Vals (L.filterMap (xs[·]?)) (L.filterMap (its[·]?))
  | [] => .nil
  | i :: L => by
    cases h : xs[i]? with
    | none =>
      have h2 : its[i]? = none := List.getElem?_eq_none (by
        have := List.getElem?_eq_none_iff.mp h
        have := r.length
        omega)
      rw [List.filterMap_cons_none h, List.filterMap_cons_none h2]
      exact Vals.pick r L
    | some x =>
      obtain ⟨u, hu, ru⟩ := r.get h
      rw [List.filterMap_cons_some h, List.filterMap_cons_some hu]
      exact .cons ru (Vals.pick r L)
theorem RepL.pick {K : K'} {mg : Mg} {F : Hp} {vs : List V} {ds : List D} (r : RepL K mg F vs ds) : ∀ L : List Nat, RepL K mg F (L.filterMap (vs[·]?)) (L.filterMap (ds[·]?))
  | [] => .nil
  | i :: L => by
    cases h : ds[i]? with
    | none =>
      have h2 : vs[i]? = none := List.getElem?_eq_none (by
        have := List.getElem?_eq_none_iff.mp h
        have := r.length
        omega)
      rw [List.filterMap_cons_none h, List.filterMap_cons_none h2]
      exact RepL.pick r L
    | some d =>
      obtain ⟨v, hv, rv⟩ := r.get h
      rw [List.filterMap_cons_some h, List.filterMap_cons_some hv]
      exact .cons rv (RepL.pick r L)
def tSlS (K : PySem.W.Frag) (te : TE) (tl th ts : L2.St → Hp → (Option Int → Hp → Prop) → Prop) : TE := fun σ H Q => te σ H fun x H1 => tl σ H1 fun lo H2 => th σ H2 fun hi H3 => ts σ H3 fun st H4 =>
  ∃ a xs, x = .ref a ∧ st ≠ some 0 ∧ SqL K H4 a xs ∧ ∀ p, H4 p = none → Q (.ref p) (upd H4 p (.lst (stepD xs lo hi st)))
section
variable {X : Cx} {W : WX} {e : Expr} {te : TE} {lo hi : Option Expr} {se : Expr} {tl th ts : L2.St → Hp → (Option Int → Hp → Prop) → Prop} {p3 pos : Pos} {f : EM} {fl fh fs : Env' → M (Option Int)}
theorem pe_sliceS (he : PE X e te) (hl : PO X lo tl) (hu : PO X hi th) (hs : PO X (some se) ts) : PE X (.Subscript e (.Slice lo hi (some se) p3) pos) (tSlS X.K te tl th ts) := by
  refine ⟨fun pins s σ H Q I h => ?_⟩
  refine Subscript_ (thn (he.run pins s σ H _ I h) fun v s1 ⟨x, H1, I1, r1, q1⟩ => ?_)
  refine wpAny_Slice (thn (hl.run pins s1 σ H1 _ I1 q1) fun vl s2 ⟨l, H2, I2, pl, q2⟩ => ?_)
  refine thn (hu.run pins s2 σ H2 _ I2 q2) fun vu s3 ⟨u, H3, I3, pu, q3⟩ => ?_
  refine thn (hs.run pins s3 σ H3 _ I3 q3) fun vs s4 ⟨o, H4, I4, ps, q4⟩ => ?_
  obtain ⟨a, xs, ex, hz0, hx, q⟩ := q4
  subst ex
  cases r1
  have I5 : Inv X pins σ H4 { s4 with heap := s4.heap.push { cls := .type "slice", data := .fields #[vl, vu, vs] } } := I4.kept (t' := s4.toks) fun b ob q => Heap.get?_push_of_some _ q
  obtain ⟨its, r, ht, hz⟩ := I5.list hx
  have hlen := r.length
  show wpAny (model X.prog X.w) X.A (subscriptTail e (.Slice lo hi (some se) p3) (.ref a) (.ref s4.heap.objs.size)) (EP X pins σ Q) X.xe { s4 with heap := s4.heap.push { cls := .type "slice", data := .fields #[vl, vu, vs] } }
  refine tail_any (ops := [.ref a, .ref s4.heap.objs.size]) ht.isList.typeIs (PySem.slot_list_getitem.lookup) ?_ (by with_unfolding_all rfl)
  refine wpAny_getItem_list_slice ht.isList (Heap.IsSliceOf.new _ vl vu vs) pl pu ps hz0 ?_ (by rw [List.size_toArray]; omega)
  rw [step_pick]
  have hle := step_len xs l u o hz0
  refine ⟨.ref _, _, I5.laid (t' := s4.toks) (o := .lst (stepD xs l u o)) (fun b ob q => Heap.get?_push_of_some _ q) (Nat.le_refl _) ?_, rfl, q _ (I5.hok.fresh (Nat.le_refl _))⟩
  refine ⟨Nat.le_trans hle hz, stepD its l u o, 0, ?_, Heap.get?_push_size _ rfl⟩
  unfold stepD
  rw [← hlen]
  exact Vals.pick r _
def opSlS (d : D) (lo hi st : Option Int) : Option D := match d with
  | .lst xs => if st = some 0 then none else some (.lst (stepD xs lo hi st))
  | _ => none
def dSlS (f : EM) (lo hi st : Env' → M (Option Int)) : EM := fun ρ => f ρ >>= fun d => lo ρ >>= fun l => hi ρ >>= fun h => st ρ >>= fun t => M.opt (opSlS d l h t)
theorem u_slS (he : PuE X W e f) (hl : PuO X W lo fl) (hh : PuO X W hi fh) (hs : PuO X W (some se) fs) : PuE X W (.Subscript e (.Slice lo hi (some se) p3) pos) (dSlS f fl fh fs) := by
  refine PE_imp (pe_sliceS he hl hh hs) fun σ H Q ⟨F, ρ, sF, er, h⟩ => ?_
  refine TEo.bind sF er h fun d v F1 H1 g1 r1 h1 => ?_
  refine ⟨F1, ρ, g1.sub, er.grow g1.fs, (fl ρ).mono (fun l h2 F2 H2 g2 => ?_) (fun _ z => z.grow g1) h1⟩
  refine ⟨F2, ρ, g2.sub, er.grow (g1.trans g2).fs, (fh ρ).mono (fun u h3 F3 H3 g3 => ?_) (fun _ z => z.grow (g1.trans g2)) h2⟩
  refine ⟨F3, ρ, g3.sub, er.grow ((g1.trans g2).trans g3).fs, (fs ρ).mono (fun t h4 F4 H4 g4 => ?_) (fun _ z => z.grow ((g1.trans g2).trans g3)) h3⟩
  obtain ⟨r, e1, q⟩ := wp_opt h4
  have g := ((g1.trans g2).trans g3).trans g4
  have r4 := r1.grow ((g2.trans g3).trans g4).fs
  unfold opSlS at e1
  split at e1
  · rename_i ys
    split at e1
    · cases e1
    · rename_i hz
      cases e1
      obtain ⟨p, vs, rfl, hp, rp⟩ := r4.lst_inv
      refine ⟨p, vs, rfl, hz, SqL.of (g4.sub _ _ hp), ?_⟩
      have hrp : RepL X.K X.mg F4 (stepD vs l u t) (stepD ys l u t) := by
        unfold stepD
        rw [rp.length]
        exact rp.pick _
      exact new_lst g4.sub hrp (Nat.le_trans (step_len _ _ _ _ hz) r4.sz) (q.grow g)
  · cases e1
theorem rg_rep {K : K'} {mg : Mg} {F : Hp} (a b : Int) : RepL K mg F (rgV a b) (rangeD a b) := by
  unfold rgV rangeD
  generalize List.range (b - a).toNat = l
  induction l with
  | nil => exact .nil
  | cons x l ih => exact .cons (.int _) ih
def TRo (X : Cx) (W : WX) (f : Env' → M (List D)) : L2.St → Hp → (Int → Int → Hp → Prop) → Prop := fun σ H Q => ∃ F ρ, Sub F H ∧ ER X.K X.mg F σ ρ ∧
  (f ρ).wp (fun ds => ∀ a b, ds = rangeD a b → RgOk a b → ∀ F' H', Grow F H F' H' → Q a b H') (EW X W F H σ)
def PuRg (X : Cx) (W : WX) (e : Expr) (f : Env' → M (List D)) : Prop := PRg X e (fun σ H Q => ∃ F ρ, Sub F H ∧ ER X.K X.mg F σ ρ ∧ (f ρ).wp (fun ds => ∃ i j, ds = [.int i, .int j] ∧ ∀ F' H', Grow F H F' H' → Q i j H') (EW X W F H σ))
theorem PRg_imp {e : Expr} {t t' : L2.St → Hp → (Int → Int → Hp → Prop) → Prop} (h : PRg X e t) (i : ∀ σ H Q, t' σ H Q → t σ H Q) : PRg X e t' := fun pins s σ H Q I q => h pins s σ H Q I (i σ H Q q)
def bnd1 (f : EM) : Env' → M (List D) := fun ρ => f ρ >>= fun d => M.opt (asI d) >>= fun i => pure [.int 0, .int i]
def bnd2 (f g : EM) : Env' → M (List D) := fun ρ => f ρ >>= fun d => g ρ >>= fun e => M.opt (asI d) >>= fun i => M.opt (asI e) >>= fun j => pure [.int i, .int j]
theorem asI_inv {K : K'} {mg : Mg} {F : Hp} {v : V} {d : D} {i : Int} (r : Rep K mg F v d) (h : asI d = some i) : v = .int i := by
  cases d with
  | int j =>
    cases h
    exact r.int_inv
  | _ => cases h
theorem rg_1 {a : Expr} {p : Pos} (hg : Gl X "range") (hm : X.mg "range" = none) (ha : PuE X W a f) (na : starEach [a] X.env = (false, eval a X.env) :: starEach [] X.env := by rfl) : PuRg X W (.Call (.Name "range" p) [a] [] pos) (bnd1 f) := by
  refine PRg_imp (prg_1 hg hm ha na) fun σ H Q ⟨F, ρ, sF, er, h⟩ => ?_
  refine TEo.bind sF er h fun d v F1 H1 g1 r1 h1 => ?_
  obtain ⟨i, e1, q⟩ := wp_opt h1
  obtain ⟨i', j', e2, q⟩ := q
  cases e2
  exact ⟨i, asI_inv r1 e1, q F1 H1 g1⟩
theorem rg_2 {a b : Expr} {g : EM} {p : Pos} (hg : Gl X "range") (hm : X.mg "range" = none) (ha : PuE X W a f) (hb : PuE X W b g) (na : starEach [a, b] X.env = (false, eval a X.env) :: starEach [b] X.env := by rfl)
    (nb : starEach [b] X.env = (false, eval b X.env) :: starEach [] X.env := by rfl) (hp : (backTo pos (starEach [b] X.env)).any (·.1) = false := by rfl) : PuRg X W (.Call (.Name "range" p) [a, b] [] pos) (bnd2 f g) := by
  refine PRg_imp (prg_2 hg hm ha hb na nb hp) fun σ H Q ⟨F, ρ, sF, er, h⟩ => ?_
  refine TEo.bind sF er h fun d v F1 H1 g1 r1 h1 => ?_
  refine ⟨F1, ρ, g1.sub, er.grow g1.fs, (g ρ).mono (fun e h2 u F2 H2 g2 r2 => ?_) (fun _ z => z.grow g1) h1⟩
  obtain ⟨i, e1, h3⟩ := wp_opt h2
  obtain ⟨j, e2, q⟩ := wp_opt h3
  obtain ⟨i', j', e3, q⟩ := q
  cases e3
  exact ⟨i, j, asI_inv (r1.grow g2.fs) e1, asI_inv r2 e2, q F2 H2 (g1.trans g2)⟩
def rgOk' (i j : Int) : Bool := decide (-(2 ^ 62) ≤ i ∧ i < 2 ^ 62 ∧ -(2 ^ 62) ≤ j ∧ j < 2 ^ 62 ∧ (j - i).toNat ≤ 16777216)
def opLstRg : List D → Option D
  | [.int i, .int j] => if rgOk' i j then some (.lst (rangeD i j)) else none
  | _ => none
def opTupRg : List D → Option D
  | [.int i, .int j] => if rgOk' i j then some (.tup (rangeD i j)) else none
  | _ => none
theorem range_len (i j : Int) : (rangeD i j).length = (j - i).toNat := by
  unfold rangeD
  rw [List.length_map, List.length_range]
theorem rgOk_of {i j : Int} (h : rgOk' i j = true) : RgOk i j ∧ (rangeD i j).length ≤ 16777216 := by
  unfold rgOk' at h
  have h := of_decide_eq_true h
  rw [range_len]
  exact ⟨⟨h.1, h.2.1, h.2.2.1, h.2.2.2.1, h.2.2.2.2⟩, h.2.2.2.2⟩
variable {g : Env' → M (List D)} {p : Pos}
theorem fr_listRg (hc : X.calm = true) (hg : Gl X "list") (hm : X.mg "list" = none) (he : PuRg X W e g) (na : starEach [e] X.env = (false, eval e X.env) :: starEach [] X.env := by rfl) : PuFr X W (.Call (.Name "list" p) [e] [] pos) (dCall opLstRg g) := by
  refine PE_imp (pe_listRg hc hg hm he na) fun σ H Q ⟨F, ρ, sF, er, h⟩ => ?_
  refine ⟨F, ρ, sF, er, (g ρ).mono (fun ds h1 => ?_) (fun _ z => z) h⟩
  obtain ⟨r, e1, q⟩ := wp_opt h1
  unfold opLstRg at e1
  split at e1
  · rename_i i j
    split at e1
    · rename_i hk
      cases e1
      obtain ⟨hk1, hk2⟩ := rgOk_of hk
      refine ⟨i, j, rfl, fun F' H' gr => ⟨hk1, fun a ha => ?_⟩⟩
      exact q a F' _ (gr.trans (Grow.wild gr.sub ha)) (gr.sub.free ha) (gr.hs.free ha) (.lst upd_same (rg_rep i j) hk2)
    · cases e1
  · cases e1
theorem u_tupRg (hc : X.calm = true) (hg : Gl X "tuple") (hm : X.mg "tuple" = none) (he : PuRg X W e g) (na : starEach [e] X.env = (false, eval e X.env) :: starEach [] X.env := by rfl) : PuE X W (.Call (.Name "tuple" p) [e] [] pos) (dCall opTupRg g) := by
  refine PE_imp (pe_tupRg hc hg hm he na) fun σ H Q ⟨F, ρ, sF, er, h⟩ => ?_
  refine ⟨F, ρ, sF, er, (g ρ).mono (fun ds h1 => ?_) (fun _ z => z) h⟩
  obtain ⟨r, e1, q⟩ := wp_opt h1
  unfold opTupRg at e1
  split at e1
  · rename_i i j
    split at e1
    · rename_i hk
      cases e1
      obtain ⟨hk1, hk2⟩ := rgOk_of hk
      exact ⟨i, j, rfl, fun F' H' gr => ⟨hk1, new_tup gr.sub (rg_rep i j) hk2 (q.grow gr)⟩⟩
    · cases e1
  · cases e1
end
end P5

namespace P5T
open PySem PySem.Spec PyProof.Rows HT
def stepT {α : Type} (xs : List α) (lo hi : Option Int) (c : Int) : List α :=
  (List.range (Builtin.Slice.slicePlaces (Builtin.Slice.sliceAdjust lo hi c (xs.length : Int)).1 (Builtin.Slice.sliceAdjust lo hi c (xs.length : Int)).2 c)).filterMap fun (m : Nat) => xs[((Builtin.Slice.sliceAdjust lo hi c (xs.length : Int)).1 + (m : Int) * c).toNat]?
section
variable {prog : Program} {w : World} {A : Around} {E : Value → Shared → Prop} {s : Shared}
theorem sliceApplied_st {sl : Addr} {vl vu vs : Value} {lo hi : Option Int} {c : Int} {n : Nat} {Q : Int × Int × Nat → Shared → Prop} (hs : s.heap.IsSliceOf sl vl vu vs) (pl : IsPart vl lo) (pu : IsPart vu hi) (ps : IsPart vs (some c)) (hc : c ≠ 0)
    (h : Q ((Builtin.Slice.sliceAdjust lo hi c (n : Int)).1, c, Builtin.Slice.slicePlaces (Builtin.Slice.sliceAdjust lo hi c (n : Int)).1 (Builtin.Slice.sliceAdjust lo hi c (n : Int)).2 c) s) : wpAny (model prog w) A (Builtin.Slice.sliceApplied (.ref sl) (pure (n : Int))) Q E s := by
  obtain ⟨os, hos, hcs, hds⟩ := id hs
  unfold Builtin.Slice.sliceApplied Builtin.Slice.sliceFields
  refine wpAny_bind (wpAny_bind (wpAny_field hos hds (x := vl) rfl (wpAny_bind (wpAny_field hos hds (x := vu) rfl (wpAny_bind (wpAny_field hos hds (x := vs) rfl (wpAny_pure ?_)))))))
  refine wpAny_bind (slicePart_ ps ?_)
  show wpAny _ _ (if (c == 0) = true then _ else _) _ _ s
  rw [if_neg (by simpa using hc)]
  refine wpAny_bind (slicePart_ pl (wpAny_bind (slicePart_ pu (wpAny_bind (wpAny_pure ?_)))))
  exact wpAny_pure h
theorem getItem_tuple_step {t sl : Addr} {its : List Value} {vl vu vs : Value} {lo hi : Option Int} {c : Int} {Q : Value → Shared → Prop} (ht : IsTup s.heap t its.toArray) (hs : s.heap.IsSliceOf sl vl vu vs) (pl : IsPart vl lo) (pu : IsPart vu hi) (ps : IsPart vs (some c)) (hc : c ≠ 0) (hc1 : c ≠ 1)
    (h : Q (.ref s.heap.objs.size) { s with heap := s.heap.push { cls := .type "tuple", data := .seq (stepT its lo hi c).toArray } })
    (hsz : (stepT its lo hi c).length ≤ sizeLine) : wpAny (model prog w) A (getItem (.ref t) (.ref sl)) Q E s := by
  have htake : sizeOk (.seq (stepT its lo hi c).toArray) := by
    show (stepT its lo hi c).toArray.size ≤ sizeLine
    rw [List.size_toArray]
    exact hsz
  obtain ⟨os, hos, hcs, hds⟩ := id hs
  have hTs : s.TypeIs (.ref sl) "slice" := ⟨os, hos, hcs⟩
  unfold getItem
  try with_reducible refine wpAny_holding ?_
  first | refine wpAny_bind (wpAny_pure ?_) | skip
  refine wpAny_bind (wpAny_sequenceKey ht.typeIs (by decide) ?_)
  refine wpAny_bind (wpAny_callSpecial?_slot (name := Str.ofString "__getitem__") ht.typeIs PyProof.Rows.slot_tuple_getitem
    (wpAny_call_entry PyProof.Rows.slot_tuple_getitem ht.typeIs PyProof.Rows.entry_tuple_getitem ?_ (PyProof.Rows.args_tuple_getitem _ _)))
  show wpAny _ _ (Builtin.Tuple.tupleItemsOf (.ref t) >>= _) _ _ s
  refine wpAny_bind (tupleItemsOf_ ht ?_)
  refine wpAny_bind (wpAny_typeOf hTs ?_)
  rw [if_pos (by decide)]
  refine wpAny_bind (sliceApplied_st (n := its.toArray.size) hs pl pu ps hc ?_)
  have hno : ∀ (a : Int) (n : Nat), ¬ ((a == 0 && c == 1 && n == its.toArray.size) = true) := by
    intro a n q
    rw [Bool.and_eq_true, Bool.and_eq_true] at q
    exact hc1 (eq_of_beq q.1.2)
  show wpAny _ _ (if (_ == (0 : Int) && c == 1 && _ == its.toArray.size) = true then _ else _) _ _ s
  rw [if_neg (hno _ _)]
  have e : ((List.range (Builtin.Slice.slicePlaces (Builtin.Slice.sliceAdjust lo hi c (its.toArray.size : Int)).1 (Builtin.Slice.sliceAdjust lo hi c (its.toArray.size : Int)).2 c)).filterMap fun (k : Nat) => its.toArray[((Builtin.Slice.sliceAdjust lo hi c (its.toArray.size : Int)).1 + (k : Int) * c).toNat]?).toArray = (stepT its lo hi c).toArray := by
    unfold stepT
    rw [List.size_toArray]
    refine congrArg List.toArray (congrArg (fun f => List.filterMap f _) ?_)
    funext k
    exact List.getElem?_toArray
  show wpAny _ _ (Builtin.Tuple.tupleExact ((List.range _).filterMap fun (k : Nat) => its.toArray[((Builtin.Slice.sliceAdjust lo hi c (its.toArray.size : Int)).1 + (k : Int) * c).toNat]?).toArray >>= _) _ _ s
  rw [e]
  first
    | exact wpAny_bind (m := Builtin.Tuple.tupleExact _) (wpAny_newObj_type (wpAny_pure ⟨_, rfl, wpAny_pure h⟩) htake)
    | exact wpAny_bind (m := Builtin.Tuple.tupleExact _) (wpAny_newObj_type (wpAny_bind (wpAny_pure (wpAny_pure ⟨_, rfl, wpAny_pure h⟩))) htake)
    | exact wpAny_bind (wpAny_bind (m := Builtin.Tuple.tupleExact _) (wpAny_newObj_type (wpAny_pure (wpAny_pure ⟨_, rfl, wpAny_pure h⟩)) htake))
    | exact wpAny_bind (wpAny_bind (m := Builtin.Tuple.tupleExact _) (wpAny_newObj_type (wpAny_pure ⟨_, rfl, wpAny_pure h⟩) htake))
end
theorem fm_congr {α β : Type} {f g : α → Option β} : ∀ {l : List α}, (∀ x ∈ l, f x = g x) → l.filterMap f = l.filterMap g
  | [], _ => rfl
  | x :: l, h => by
    rw [List.filterMap_cons, List.filterMap_cons, h x List.mem_cons_self, fm_congr fun y hy => h y (List.mem_cons_of_mem _ hy)]
theorem step_rev {α : Type} (xs : List α) : stepT xs none none (-1) = xs.reverse := by
  unfold stepT
  have e1 : Builtin.Slice.sliceAdjust none none (-1) (xs.length : Int) = ((xs.length : Int) - 1, -1) := rfl
  rw [e1]
  have e2 : Builtin.Slice.slicePlaces ((xs.length : Int) - 1) (-1) (-1) = xs.length := by
    unfold Builtin.Slice.slicePlaces
    rw [if_neg (by decide)]
    by_cases h : (xs.length : Int) - 1 > -1
    · rw [if_pos h, show (- -1 : Int) = 1 by decide, Int.ediv_one]
      omega
    · rw [if_neg h]
      have : xs.length = 0 := by omega
      rw [this]
      rfl
  dsimp only
  rw [e2]
  have e3 : ((List.range xs.length).filterMap fun (m : Nat) => xs[((xs.length : Int) - 1 + (m : Int) * -1).toNat]?) = (List.range xs.length).filterMap fun m => xs.reverse[m]? := by
    refine fm_congr fun m hm => ?_
    have hm := List.mem_range.mp hm
    have : ((xs.length : Int) - 1 + (m : Int) * -1).toNat = xs.length - 1 - m := by omega
    rw [this, List.getElem?_reverse hm]
  rw [e3]
  have := PySem.W.krv_all xs.reverse.toArray
  rw [List.size_toArray, List.length_reverse] at this
  refine Eq.trans ?_ this
  refine congrArg (fun f => List.filterMap f _) ?_
  funext i
  exact (List.getElem?_toArray).symm
end P5T
namespace P5
open PySem L2 PyProof.Rows
variable [Tb]
theorem Vals.pickT {xs : List V} {its : List Value} (r : Vals xs its) (lo hi : Option Int) (c : Int) : Vals (P5T.stepT xs lo hi c) (P5T.stepT its lo hi c) := by
  have h := Vals.pick r ((List.range (Builtin.Slice.slicePlaces (Builtin.Slice.sliceAdjust lo hi c (xs.length : Int)).1 (Builtin.Slice.sliceAdjust lo hi c (xs.length : Int)).2 c)).map fun (m : Nat) => ((Builtin.Slice.sliceAdjust lo hi c (xs.length : Int)).1 + (m : Int) * c).toNat)
  rw [List.filterMap_map, List.filterMap_map] at h
  unfold P5T.stepT
  rw [← r.length]
  exact h
theorem RepL.pickT {K : K'} {mg : Mg} {F : Hp} {vs : List V} {ds : List D} (r : RepL K mg F vs ds) (lo hi : Option Int) (c : Int) : RepL K mg F (P5T.stepT vs lo hi c) (P5T.stepT ds lo hi c) := by
  have h := RepL.pick r ((List.range (Builtin.Slice.slicePlaces (Builtin.Slice.sliceAdjust lo hi c (vs.length : Int)).1 (Builtin.Slice.sliceAdjust lo hi c (vs.length : Int)).2 c)).map fun (m : Nat) => ((Builtin.Slice.sliceAdjust lo hi c (vs.length : Int)).1 + (m : Int) * c).toNat)
  rw [List.filterMap_map, List.filterMap_map] at h
  unfold P5T.stepT
  rw [← r.length]
  exact h
def tSlA (K : PySem.W.Frag) (te : TE) (tl th ts : L2.St → Hp → (Option Int → Hp → Prop) → Prop) : TE := fun σ H Q => te σ H fun x H1 => tl σ H1 fun lo H2 => th σ H2 fun hi H3 => ts σ H3 fun st H4 =>
  ∃ a xs, x = .ref a ∧ ((st ≠ some 0 ∧ SqL K H4 a xs ∧ ∀ p, H4 p = none → Q (.ref p) (upd H4 p (.lst (stepD xs lo hi st)))) ∨
    ∃ c, st = some c ∧ c ≠ 0 ∧ c ≠ 1 ∧ SqT K H4 a xs ∧ (P5T.stepT xs lo hi c).length ≤ sizeLine ∧ ∀ p, H4 p = none → Q (.ref p) (upd H4 p (.tup (P5T.stepT xs lo hi c))))
section
variable {X : Cx} {W : WX} {e : Expr} {te : TE} {lo hi : Option Expr} {se : Expr} {tl th ts : L2.St → Hp → (Option Int → Hp → Prop) → Prop} {p3 pos : Pos} {f : EM} {fl fh fs : Env' → M (Option Int)}
theorem pe_sliceA (he : PE X e te) (hl : PO X lo tl) (hu : PO X hi th) (hs : PO X (some se) ts) : PE X (.Subscript e (.Slice lo hi (some se) p3) pos) (tSlA X.K te tl th ts) := by
  refine ⟨fun pins s σ H Q I h => ?_⟩
  refine Subscript_ (thn (he.run pins s σ H _ I h) fun v s1 ⟨x, H1, I1, r1, q1⟩ => ?_)
  refine wpAny_Slice (thn (hl.run pins s1 σ H1 _ I1 q1) fun vl s2 ⟨l, H2, I2, pl, q2⟩ => ?_)
  refine thn (hu.run pins s2 σ H2 _ I2 q2) fun vu s3 ⟨u, H3, I3, pu, q3⟩ => ?_
  refine thn (hs.run pins s3 σ H3 _ I3 q3) fun vs s4 ⟨o, H4, I4, ps, q4⟩ => ?_
  obtain ⟨a, xs, ex, q⟩ := q4
  subst ex
  cases r1
  have I5 : Inv X pins σ H4 { s4 with heap := s4.heap.push { cls := .type "slice", data := .fields #[vl, vu, vs] } } := I4.kept (t' := s4.toks) fun b ob q => Heap.get?_push_of_some _ q
  show wpAny (model X.prog X.w) X.A (subscriptTail e (.Slice lo hi (some se) p3) (.ref a) (.ref s4.heap.objs.size)) (EP X pins σ Q) X.xe { s4 with heap := s4.heap.push { cls := .type "slice", data := .fields #[vl, vu, vs] } }
  rcases q with ⟨hz0, hx, q⟩ | ⟨c, rfl, hc0, hc1, hx, hsz, q⟩
  · obtain ⟨its, r, ht, hz⟩ := I5.list hx
    have hlen := r.length
    refine tail_any (ops := [.ref a, .ref s4.heap.objs.size]) ht.isList.typeIs (PySem.slot_list_getitem.lookup) ?_ (by with_unfolding_all rfl)
    refine wpAny_getItem_list_slice ht.isList (Heap.IsSliceOf.new _ vl vu vs) pl pu ps hz0 ?_ (by rw [List.size_toArray]; omega)
    rw [step_pick]
    have hle := step_len xs l u o hz0
    refine ⟨.ref _, _, I5.laid (t' := s4.toks) (o := .lst (stepD xs l u o)) (fun b ob q => Heap.get?_push_of_some _ q) (Nat.le_refl _) ?_, rfl, q _ (I5.hok.fresh (Nat.le_refl _))⟩
    refine ⟨Nat.le_trans hle hz, stepD its l u o, 0, ?_, Heap.get?_push_size _ rfl⟩
    unfold stepD
    rw [← hlen]
    exact Vals.pick r _
  · obtain ⟨its, r, ht, hz⟩ := I5.tuple hx
    have rt := Vals.pickT r l u c
    have hl2 := rt.length
    refine tail_any (ops := [.ref a, .ref s4.heap.objs.size]) ht.typeIs (PyProof.Rows.slot_tuple_getitem.lookup) ?_ (by with_unfolding_all rfl)
    refine P5T.getItem_tuple_step ht (Heap.IsSliceOf.new _ vl vu vs) pl pu ps hc0 hc1 ?_ (by rw [← hl2]; exact hsz)
    exact ⟨.ref _, _, I5.laid (t' := s4.toks) (o := .tup (P5T.stepT xs l u c)) (fun b ob q => Heap.get?_push_of_some _ q) (Nat.le_refl _) ⟨hsz, _, rt, IsTup.new _ _⟩, rfl, q _ (I5.hok.fresh (Nat.le_refl _))⟩
def opSlA (d : D) (lo hi st : Option Int) : Option D := match d with
  | .lst xs => if st = some 0 then none else some (.lst (stepD xs lo hi st))
  | .tup xs => (match st with
    | some c => if c ≠ 0 ∧ c ≠ 1 ∧ (P5T.stepT xs lo hi c).length ≤ 16777216 then some (.tup (P5T.stepT xs lo hi c)) else none
    | none => none)
  | _ => none
def dSlA (f : EM) (lo hi st : Env' → M (Option Int)) : EM := fun ρ => f ρ >>= fun d => lo ρ >>= fun l => hi ρ >>= fun h => st ρ >>= fun t => M.opt (opSlA d l h t)
theorem u_slA (he : PuE X W e f) (hl : PuO X W lo fl) (hh : PuO X W hi fh) (hs : PuO X W (some se) fs) : PuE X W (.Subscript e (.Slice lo hi (some se) p3) pos) (dSlA f fl fh fs) := by
  refine PE_imp (pe_sliceA he hl hh hs) fun σ H Q ⟨F, ρ, sF, er, h⟩ => ?_
  refine TEo.bind sF er h fun d v F1 H1 g1 r1 h1 => ?_
  refine ⟨F1, ρ, g1.sub, er.grow g1.fs, (fl ρ).mono (fun l h2 F2 H2 g2 => ?_) (fun _ z => z.grow g1) h1⟩
  refine ⟨F2, ρ, g2.sub, er.grow (g1.trans g2).fs, (fh ρ).mono (fun u h3 F3 H3 g3 => ?_) (fun _ z => z.grow (g1.trans g2)) h2⟩
  refine ⟨F3, ρ, g3.sub, er.grow ((g1.trans g2).trans g3).fs, (fs ρ).mono (fun t h4 F4 H4 g4 => ?_) (fun _ z => z.grow ((g1.trans g2).trans g3)) h3⟩
  obtain ⟨r, e1, q⟩ := wp_opt h4
  have g := ((g1.trans g2).trans g3).trans g4
  have r4 := r1.grow ((g2.trans g3).trans g4).fs
  unfold opSlA at e1
  split at e1
  · rename_i ys
    split at e1
    · cases e1
    · rename_i hz
      cases e1
      obtain ⟨p, vs, rfl, hp, rp⟩ := r4.lst_inv
      refine ⟨p, vs, rfl, .inl ⟨hz, SqL.of (g4.sub _ _ hp), ?_⟩⟩
      have hrp : RepL X.K X.mg F4 (stepD vs l u t) (stepD ys l u t) := by
        unfold stepD
        rw [rp.length]
        exact rp.pick _
      exact new_lst g4.sub hrp (Nat.le_trans (step_len _ _ _ _ hz) r4.sz) (q.grow g)
  · rename_i ys
    split at e1
    · rename_i c
      split at e1
      · rename_i hk
        cases e1
        obtain ⟨p, vs, rfl, hp, rp⟩ := r4.tup_inv
        have rt := rp.pickT l u c
        refine ⟨p, vs, rfl, .inr ⟨c, rfl, hk.1, hk.2.1, SqT.of (g4.sub _ _ hp), by rw [rt.length]; exact szOk hk.2.2, new_tup g4.sub rt hk.2.2 (q.grow g)⟩⟩
      · cases e1
    · cases e1
  · cases e1
end
end P5

namespace P5
open PySem L2 PyProof.Rows
variable [Tb]
theorem upd_two (H : Hp) (p : Addr) (a b : HO) : upd (upd H p a) p b = upd H p b := by
  funext q
  by_cases h : q = p
  · rw [h, upd_same, upd_same]
  · rw [upd_ne h, upd_ne h, upd_ne h]
section
variable {X : Cx} {W : WX} {pos p1 p2 : Pos}
theorem u_disp0 : PuE X W (.Dict [] [] pos) (dCon (.dct 0 [])) := PuFr.frz fr_dnewK
theorem u_disp1 {x : Str} {i : Int} {k1 k2 : Nat} : PuE X W (.Dict [some (.Constant (.str x) k1 p1)] [.Constant (.int i) k2 p2] pos) (dCon (.dct 0 [(.str x, .int i)])) := by
  refine PE_imp (pe_disp (pps_cons pe_str pe_int pps_nil) rfl rfl (by simp) (by show 1 ≤ 15; decide)) fun σ H Q ⟨F, ρ, sF, er, q⟩ => ?_
  intro p hp
  refine ⟨upd_same, [(.inr x, .int i)], rfl, by show 1 ≤ 15; decide, ?_⟩
  rw [upd_two]
  exact q (.ref p) (upd F p (.dK [(.inr x, .int i)])) _ (Grow.made sF hp) (.dctK upd_same (.consS (.int i) .nil) (by show 1 ≤ 16777216; decide))
end
def opNeE (d e : D) : Option D := match e with
  | .tup [] => (match tupD d with
    | some xs => some (.bl (!xs.isEmpty))
    | none => opNe d e)
  | _ => opNe d e
def opEqE (d e : D) : Option D := match e with
  | .tup [] => (match tupD d with
    | some xs => some (.bl xs.isEmpty)
    | none => opEq d e)
  | _ => opEq d e
section
variable {X : Cx}
theorem o_neE (hu : X.A.units + 64 < cLine) : OpR X (compareOp .NotEq) (rOf X opNeE) := by
  intro pins s σ H x y v u Q I rx ry h
  obtain ⟨F, d, e, r, sF, rd, re, eq, q⟩ := h
  have old : opNe d e = some r → wpAny (model X.prog X.w) X.A (compareOp .NotEq v u) (EP X pins σ Q) X.xe s := fun eq => o_ne hu pins s σ H x y v u Q I rx ry ⟨F, d, e, r, sF, rd, re, eq, q⟩
  unfold opNeE at eq
  split at eq
  · split at eq
    · rename_i xs ht
      cases eq
      obtain ⟨a, vs, rfl, ha, rl, hz⟩ := rd.tupD_inv ht
      obtain ⟨b, ws, rfl, hb, rb⟩ := re.tup_inv
      cases rb
      cases rx
      cases ry
      obtain ⟨its, rv, pl, _⟩ := I.tuple (seqT sF.s ha)
      obtain ⟨its2, rv2, pl2, _⟩ := I.tuple (SqT.of (sF _ _ hb))
      cases rv2
      have hl1 := rl.length
      have hl2 := rv.length
      refine PySem.SeqAt.RcNeAt.tuples (e := fun _ => true) pl pl2 (by omega) (fun j j1 j2 => absurd j2 (by simp)) _ _ _ _ ?_
      have hb : (!((List.range (min its.toArray.size ([] : List Value).toArray.size)).all (fun _ => true) && its.toArray.size == ([] : List Value).toArray.size)) = !xs.isEmpty := by
        have hs : its.toArray.size = xs.length := by rw [List.size_toArray, ← hl2, hl1]
        rw [hs]
        cases xs with
        | nil => rfl
        | cons x xs =>
          rw [List.all_eq_true.mpr fun _ _ => rfl]
          rfl
      rw [hb]
      exact ⟨.bl _, H, I, rfl, old_v sF (.bl _) q⟩
    · exact old eq
  · exact old eq
theorem o_eqE (hu : X.A.units + 64 < cLine) : OpR X (compareOp .Eq) (rOf X opEqE) := by
  intro pins s σ H x y v u Q I rx ry h
  obtain ⟨F, d, e, r, sF, rd, re, eq, q⟩ := h
  have old : opEq d e = some r → wpAny (model X.prog X.w) X.A (compareOp .Eq v u) (EP X pins σ Q) X.xe s := fun eq => o_eq hu pins s σ H x y v u Q I rx ry ⟨F, d, e, r, sF, rd, re, eq, q⟩
  unfold opEqE at eq
  split at eq
  · split at eq
    · rename_i xs ht
      cases eq
      obtain ⟨a, vs, rfl, ha, rl, hz⟩ := rd.tupD_inv ht
      obtain ⟨b, ws, rfl, hb, rb⟩ := re.tup_inv
      cases rb
      cases rx
      cases ry
      obtain ⟨its, rv, pl, _⟩ := I.tuple (seqT sF.s ha)
      obtain ⟨its2, rv2, pl2, _⟩ := I.tuple (SqT.of (sF _ _ hb))
      cases rv2
      have hl1 := rl.length
      have hl2 := rv.length
      refine PySem.SeqAt.RcAt.tuples (e := fun _ => true) pl pl2 (by omega) (fun j j1 j2 => absurd j2 (by simp)) _ _ _ _ ?_
      have hb : ((List.range (min its.toArray.size ([] : List Value).toArray.size)).all (fun _ => true) && its.toArray.size == ([] : List Value).toArray.size) = xs.isEmpty := by
        have hs : its.toArray.size = xs.length := by rw [List.size_toArray, ← hl2, hl1]
        rw [hs]
        cases xs with
        | nil => rfl
        | cons x xs =>
          rw [List.all_eq_true.mpr fun _ _ => rfl]
          rfl
      rw [hb]
      exact ⟨.bl _, H, I, rfl, old_v sF (.bl _) q⟩
    · exact old eq
  · exact old eq
end
end P5

namespace P5T
open PySem PySem.Spec PyProof.Rows L2
section
variable {prog : Program} {w : World} {A : Around} {E : Value → Shared → Prop} {s : Shared} {l : Addr} {xs : Array (Int × Tok)} {its : List Value} {ns : List Int}
theorem iter_intTup {Q : Value → Shared → Prop} (hl : s.heap.IsTuple l (intItems xs))
    (h : ∀ s₂ : Shared, s₂ = { s with heap := s.heap.push { cls := .type "tuple_iterator", data := .fields #[.ref l, .int 0 0] } } →
      (s₂.heap.IsTupleIter s.heap.objs.size l 0 ∧ s₂.heap.IsTuple l (intItems xs)) → (∀ b ∈ [s.heap.objs.size, l], b < s₂.heap.objs.size) → l ≠ s.heap.objs.size → Q (.ref s.heap.objs.size) s₂) :
    wpAny (model prog w) A (pyIter (.ref l)) Q E s := by
  have hlt : l < s.heap.objs.size := by obtain ⟨_, e, _⟩ := hl; exact Heap.lt_size e
  refine wpAny_pyIter_tuple hl (h _ rfl ⟨⟨_, Heap.get?_push_size _ rfl, rfl, rfl⟩, hl.at fun o e => Heap.get?_push_of_some _ e⟩ (fun b hb => ?_) (Nat.ne_of_lt hlt))
  show b < (s.heap.push _).objs.size
  rw [Heap.size_push]
  rcases List.mem_cons.mp hb with rfl | hb
  · exact Nat.lt_succ_self _
  · rcases List.mem_cons.mp hb with rfl | hb
    · exact Nat.lt_succ_of_lt hlt
    · cases hb
theorem old_keptT {h' : Heap} (hk : ∀ b o, b ∉ [s.heap.objs.size] → (s.heap.push { cls := .type "tuple_iterator", data := .fields #[.ref l, .int 0 0] }).get? b = some o → h'.get? b = some o) :
    ∀ b o, s.heap.get? b = some o → h'.get? b = some o := fun b o e => by
  refine hk b o (fun hm => ?_) (Heap.get?_push_of_some _ e)
  rcases List.mem_cons.mp hm with e1 | hm
  · exact absurd (e1 ▸ Heap.lt_size e) (Nat.lt_irrefl _)
  · cases hm
theorem sum_tup {Q : Value → Shared → Prop} (hh : A.handled = none) (hl : s.heap.IsTuple l its.toArray) (hi : IntsAre its ns)
    (h : ∀ h' tk t', (∀ b o, s.heap.get? b = some o → h'.get? b = some o) → Q (.int ns.sum t') { s with heap := h', toks := tk }) : wpAny (model prog w) A (call (.builtin "sum") [.ref l]) Q E s := by
  obtain ⟨xs, e⟩ := hi.allInts.items
  have hn : numsOf (intItems xs).toList = ns := by rw [← e]; exact hi.numsOf
  rw [nums_intItems] at hn
  rw [e] at hl
  refine call_sum_walkAnyS (iter_intTup hl fun s₂ e st hfp hlI => ?_)
  subst e
  refine ⟨_, _, _, _, _, _, _, numAt xs, rfl, (Walks.tuple (A := A.in1) hh _ l hlI (intItems xs)).toS, st, hfp, (fun _ _ => intItems_at), fun s' t' hm => ?_⟩
  rw [Moved.eq_with hm]
  have := h s'.heap s'.toks t' (old_keptT (l := l) fun b o hb e => hm.heap b o hb e)
  have e2 : preSum (numAt xs) (intItems xs).size = ns.sum := by
    rw [preSum_eq, List.take_of_length_le (by simp [intItems]), hn]
  rw [e2]
  exact this
theorem max_tup {Q : Value → Shared → Prop} (hh : A.handled = none) (hl : s.heap.IsTuple l its.toArray) (hi : IntsAre its ns) (hne : 0 < ns.length)
    (h : ∀ h' tk M t', (∀ b o, s.heap.get? b = some o → h'.get? b = some o) → M ∈ ns → (∀ a, a ∈ ns → a ≤ M) → Q (.int M t') { s with heap := h', toks := tk }) : wpAny (model prog w) A (call (.builtin "max") [.ref l]) Q E s := by
  obtain ⟨xs, e⟩ := hi.allInts.items
  have hn : numsOf (intItems xs).toList = ns := by rw [← e]; exact hi.numsOf
  rw [nums_intItems] at hn
  subst hn
  rw [e] at hl
  have hsz : 0 < xs.size := by simpa using hne
  refine call_max_walk (iter_intTup hl fun s₂ e st hfp hlI => ?_)
  subst e
  refine ⟨_, _, _, _, _, _, _, rfl, Walks.tuple (A := A.in1) hh _ l hlI (intItems xs), st, hfp, by simpa [intItems] using hsz, CmpOf.ints_gt (numAt xs) (fun _ _ => intItems_at), fun v h' tk hP hk => ?_⟩
  obtain ⟨t, rfl⟩ := intItems_at hP
  have hs2 : (intItems xs).size - 1 = xs.size - 1 := by simp [intItems]
  obtain ⟨h1, h2⟩ := argBest_gt (numAt xs) ((intItems xs).size - 1)
  rw [hs2] at h1 h2 ⊢
  refine h h' tk _ t (old_keptT (l := l) hk) ?_ fun a ha => ?_
  · rw [numAt_eq]; exact PySem.getD_mem (by rw [List.length_map, Array.length_toList]; omega)
  · obtain ⟨j, hj, rfl⟩ := mem_getD ha
    rw [List.length_map, Array.length_toList] at hj
    rw [← numAt_eq]; exact h2 j (by omega)
theorem min_tup {Q : Value → Shared → Prop} (hh : A.handled = none) (hl : s.heap.IsTuple l its.toArray) (hi : IntsAre its ns) (hne : 0 < ns.length)
    (h : ∀ h' tk M t', (∀ b o, s.heap.get? b = some o → h'.get? b = some o) → M ∈ ns → (∀ a, a ∈ ns → M ≤ a) → Q (.int M t') { s with heap := h', toks := tk }) : wpAny (model prog w) A (call (.builtin "min") [.ref l]) Q E s := by
  obtain ⟨xs, e⟩ := hi.allInts.items
  have hn : numsOf (intItems xs).toList = ns := by rw [← e]; exact hi.numsOf
  rw [nums_intItems] at hn
  subst hn
  rw [e] at hl
  have hsz : 0 < xs.size := by simpa using hne
  refine call_min_walk (iter_intTup hl fun s₂ e st hfp hlI => ?_)
  subst e
  refine ⟨_, _, _, _, _, _, _, rfl, Walks.tuple (A := A.in1) hh _ l hlI (intItems xs), st, hfp, by simpa [intItems] using hsz, CmpOf.ints_lt (numAt xs) (fun _ _ => intItems_at), fun v h' tk hP hk => ?_⟩
  obtain ⟨t, rfl⟩ := intItems_at hP
  have hs2 : (intItems xs).size - 1 = xs.size - 1 := by simp [intItems]
  obtain ⟨h1, h2⟩ := argBest_lt (numAt xs) ((intItems xs).size - 1)
  rw [hs2] at h1 h2 ⊢
  refine h h' tk _ t (old_keptT (l := l) hk) ?_ fun a ha => ?_
  · rw [numAt_eq]; exact PySem.getD_mem (by rw [List.length_map, Array.length_toList]; omega)
  · obtain ⟨j, hj, rfl⟩ := mem_getD ha
    rw [List.length_map, Array.length_toList] at hj
    rw [← numAt_eq]; exact h2 j (by omega)
end
end P5T
namespace P5
open PySem L2 PyProof.Rows
variable [Tb]
def opSumT : List D → Option D
  | [d] => match tupD d with
    | some xs => (asInts xs).map fun ns => .int ns.sum
    | none => opSum [d]
  | _ => none
def maxI : List Int → Int
  | [] => 0
  | x :: xs => xs.foldl (fun a b => max a b) x
def minI : List Int → Int
  | [] => 0
  | x :: xs => xs.foldl (fun a b => min a b) x
theorem fold_max : ∀ (xs : List Int) (x : Int), x ≤ xs.foldl (fun a b => max a b) x ∧ (∀ y ∈ xs, y ≤ xs.foldl (fun a b => max a b) x) ∧ (xs.foldl (fun a b => max a b) x = x ∨ xs.foldl (fun a b => max a b) x ∈ xs)
  | [], x => ⟨Int.le_refl _, (fun _ h => nomatch h), .inl rfl⟩
  | y :: ys, x => by
    obtain ⟨h1, h2, h3⟩ := fold_max ys (max x y)
    show x ≤ ys.foldl (fun a b => max a b) (max x y) ∧ (∀ z ∈ y :: ys, z ≤ ys.foldl (fun a b => max a b) (max x y)) ∧ (ys.foldl (fun a b => max a b) (max x y) = x ∨ ys.foldl (fun a b => max a b) (max x y) ∈ y :: ys)
    refine ⟨by omega, fun z hz => ?_, ?_⟩
    · rcases List.mem_cons.mp hz with rfl | hz
      · omega
      · exact h2 z hz
    · rcases h3 with h | h
      · rw [h]
        by_cases hxy : x ≤ y
        · exact .inr (by rw [show max x y = y by omega]; exact List.mem_cons_self)
        · exact .inl (by omega)
      · exact .inr (List.mem_cons_of_mem _ h)
theorem fold_min : ∀ (xs : List Int) (x : Int), xs.foldl (fun a b => min a b) x ≤ x ∧ (∀ y ∈ xs, xs.foldl (fun a b => min a b) x ≤ y) ∧ (xs.foldl (fun a b => min a b) x = x ∨ xs.foldl (fun a b => min a b) x ∈ xs)
  | [], x => ⟨Int.le_refl _, (fun _ h => nomatch h), .inl rfl⟩
  | y :: ys, x => by
    obtain ⟨h1, h2, h3⟩ := fold_min ys (min x y)
    show ys.foldl (fun a b => min a b) (min x y) ≤ x ∧ (∀ z ∈ y :: ys, ys.foldl (fun a b => min a b) (min x y) ≤ z) ∧ (ys.foldl (fun a b => min a b) (min x y) = x ∨ ys.foldl (fun a b => min a b) (min x y) ∈ y :: ys)
    refine ⟨by omega, fun z hz => ?_, ?_⟩
    · rcases List.mem_cons.mp hz with rfl | hz
      · omega
      · exact h2 z hz
    · rcases h3 with h | h
      · rw [h]
        by_cases hxy : x ≤ y
        · exact .inl (by omega)
        · exact .inr (by rw [show min x y = y by omega]; exact List.mem_cons_self)
      · exact .inr (List.mem_cons_of_mem _ h)
theorem maxI_eq {ns : List Int} {m : Int} (hm : m ∈ ns) (h : ∀ y ∈ ns, y ≤ m) : m = maxI ns := by
  cases ns with
  | nil => cases hm
  | cons x xs =>
    obtain ⟨h1, h2, h3⟩ := fold_max xs x
    show m = xs.foldl (fun a b => max a b) x
    have a1 : xs.foldl (fun a b => max a b) x ≤ m := by
      rcases h3 with e | e
      · rw [e]
        exact h x List.mem_cons_self
      · exact h _ (List.mem_cons_of_mem _ e)
    have a2 : m ≤ xs.foldl (fun a b => max a b) x := by
      rcases List.mem_cons.mp hm with rfl | e
      · exact h1
      · exact h2 m e
    omega
theorem minI_eq {ns : List Int} {m : Int} (hm : m ∈ ns) (h : ∀ y ∈ ns, m ≤ y) : m = minI ns := by
  cases ns with
  | nil => cases hm
  | cons x xs =>
    obtain ⟨h1, h2, h3⟩ := fold_min xs x
    show m = xs.foldl (fun a b => min a b) x
    have a1 : m ≤ xs.foldl (fun a b => min a b) x := by
      rcases h3 with e | e
      · rw [e]
        exact h x List.mem_cons_self
      · exact h _ (List.mem_cons_of_mem _ e)
    have a2 : xs.foldl (fun a b => min a b) x ≤ m := by
      rcases List.mem_cons.mp hm with rfl | e
      · exact h1
      · exact h2 m e
    omega
def opMaxT : List D → Option D
  | [d] => match tupD d with
    | some xs => (asInts xs).bind fun ns => if 0 < ns.length then some (.int (maxI ns)) else none
    | none => opMax [d]
  | _ => none
def opMinT : List D → Option D
  | [d] => match tupD d with
    | some xs => (asInts xs).bind fun ns => if 0 < ns.length then some (.int (minI ns)) else none
    | none => opMin [d]
  | _ => none
section
variable {X : Cx}
theorem c_sumT (hc : X.calm = true) : CallR X (.builtin "sum") (cOf X opSumT) := by
  intro pins s σ H vs us Q I rv h
  obtain ⟨F, ds, r, sF, rd, eq, q⟩ := h
  unfold opSumT at eq
  split at eq
  · rename_i d
    split at eq
    · rename_i xs ht
      obtain ⟨ns, e1, e2⟩ := map_some eq
      subst e2
      obtain ⟨v, rfl, r1⟩ := rd.one
      obtain ⟨a, ws, rfl, ha, rl, hz⟩ := r1.tupD_inv ht
      have e := asInts_of rl e1
      subst e
      obtain ⟨its, rvs, pl, _⟩ := I.tuple (seqT sF.s ha)
      rw [Vals.ref1 rv]
      exact P5T.sum_tup (I.ok.hd hc) pl rvs.ints fun h' tk t' hk => ⟨.int _, H, I.kept hk, ⟨_, rfl⟩, old_v sF (.int _) q⟩
    · exact c_sum hc pins s σ H vs us Q I rv ⟨F, [d], r, sF, rd, eq, q⟩
  · cases eq
theorem bind_some' {α β : Type} {o : Option α} {f : α → Option β} {r : β} (h : o.bind f = some r) : ∃ a, o = some a ∧ f a = some r := by
  cases o with
  | none => cases h
  | some a => exact ⟨a, rfl, h⟩
theorem c_maxT (hc : X.calm = true) (hu : X.A.units + 66 < cLine) : CallR X (.builtin "max") (cOf X opMaxT) := by
  intro pins s σ H vs us Q I rv h
  obtain ⟨F, ds, r, sF, rd, eq, q⟩ := h
  unfold opMaxT at eq
  split at eq
  · rename_i d
    split at eq
    · rename_i xs ht
      obtain ⟨ns, e1, e2⟩ := bind_some' eq
      split at e2
      · rename_i hn
        cases e2
        obtain ⟨v, rfl, r1⟩ := rd.one
        obtain ⟨a, ws, rfl, ha, rl, hz⟩ := r1.tupD_inv ht
        have e := asInts_of rl e1
        subst e
        obtain ⟨its, rvs, pl, _⟩ := I.tuple (seqT sF.s ha)
        rw [Vals.ref1 rv]
        refine P5T.max_tup (I.ok.hd hc) pl rvs.ints hn fun h' tk m t' hk h1 h2 => ⟨.int _, H, I.kept hk, ⟨_, rfl⟩, ?_⟩
        rw [maxI_eq h1 h2]
        exact old_v sF (.int _) q
      · cases e2
    · exact c_max hc hu pins s σ H vs us Q I rv ⟨F, [d], r, sF, rd, eq, q⟩
  · cases eq
theorem c_minT (hc : X.calm = true) (hu : X.A.units + 66 < cLine) : CallR X (.builtin "min") (cOf X opMinT) := by
  intro pins s σ H vs us Q I rv h
  obtain ⟨F, ds, r, sF, rd, eq, q⟩ := h
  unfold opMinT at eq
  split at eq
  · rename_i d
    split at eq
    · rename_i xs ht
      obtain ⟨ns, e1, e2⟩ := bind_some' eq
      split at e2
      · rename_i hn
        cases e2
        obtain ⟨v, rfl, r1⟩ := rd.one
        obtain ⟨a, ws, rfl, ha, rl, hz⟩ := r1.tupD_inv ht
        have e := asInts_of rl e1
        subst e
        obtain ⟨its, rvs, pl, _⟩ := I.tuple (seqT sF.s ha)
        rw [Vals.ref1 rv]
        refine P5T.min_tup (I.ok.hd hc) pl rvs.ints hn fun h' tk m t' hk h1 h2 => ⟨.int _, H, I.kept hk, ⟨_, rfl⟩, ?_⟩
        rw [minI_eq h1 h2]
        exact old_v sF (.int _) q
      · cases e2
    · exact c_min hc hu pins s σ H vs us Q I rv ⟨F, [d], r, sF, rd, eq, q⟩
  · cases eq
end
theorem Own.none {P : Program} {w : World} {K : K'} {mg : Mg} {base : Heap} {k : Nat} {x : Str} {ps : List Str} {f : Addr} {fd : FuncData} {st : Stmt} (F : Fun K x x st f fd) (b : Binds K fd ps []) (g : mg x = some (.ref f)) : Own P w K mg base k x ps (fun _ => M.fail) := by
  have no : ∀ (vs : List V) (H : Hp) (Q : VK) (E : XK), ¬ spOf K mg ps.length (fun _ => (M.fail : M D)) vs H Q E := fun vs H Q E ⟨_, _, _, _, _, z⟩ => z
  exact ⟨⟨f, fd, g, ⟨fun vs H Q E h => (no _ _ _ _ h).elim, fun A outer s H args us vs Q E hr e0 hb rv hsp => (no _ _ _ _ hsp).elim⟩, F.kp, b⟩⟩
end P5

namespace P5
def subs : Nat → List (List Nat)
  | 0 => [[]]
  | n + 1 => subs n ++ (subs n).map (· ++ [n])
theorem mem_subs : ∀ {n : Nat} {l : List Nat}, l ∈ subs n ↔ l.Pairwise (· < ·) ∧ ∀ x ∈ l, x < n
  | 0, l => by
    constructor
    · intro h
      have : l = [] := by simpa [subs] using h
      subst this
      exact ⟨.nil, fun _ h => nomatch h⟩
    · rintro ⟨_, h⟩
      cases l with
      | nil => simp [subs]
      | cons x l => exact absurd (h x List.mem_cons_self) (Nat.not_lt_zero _)
  | n + 1, l => by
    rw [subs, List.mem_append, List.mem_map]
    constructor
    · rintro (h | ⟨m, h, rfl⟩)
      · obtain ⟨h1, h2⟩ := mem_subs.mp h
        exact ⟨h1, fun x hx => Nat.lt_succ_of_lt (h2 x hx)⟩
      · obtain ⟨h1, h2⟩ := mem_subs.mp h
        refine ⟨List.pairwise_append.mpr ⟨h1, List.pairwise_singleton _ _, fun a ha b hb => ?_⟩, fun x hx => ?_⟩
        · rw [List.mem_singleton] at hb
          subst hb
          exact h2 a ha
        · rcases List.mem_append.mp hx with h | h
          · exact Nat.lt_succ_of_lt (h2 x h)
          · rw [List.mem_singleton] at h
            omega
    · rintro ⟨h1, h2⟩
      rcases List.eq_nil_or_concat l with rfl | ⟨m, x, rfl⟩
      · exact .inl (mem_subs.mpr ⟨.nil, fun _ h => nomatch h⟩)
      · rw [List.concat_eq_append] at h1 h2 ⊢
        obtain ⟨p1, _, p3⟩ := List.pairwise_append.mp h1
        have hx := h2 x (List.mem_append_right _ (List.mem_singleton.mpr rfl))
        by_cases e : x = n
        · subst e
          exact .inr ⟨m, mem_subs.mpr ⟨p1, fun y hy => p3 y hy x (List.mem_singleton.mpr rfl)⟩, rfl⟩
        · refine .inl (mem_subs.mpr ⟨h1, fun y hy => ?_⟩)
          rcases List.mem_append.mp hy with h | h
          · have := p3 y h x (List.mem_singleton.mpr rfl)
            omega
          · rw [List.mem_singleton] at h
            omega
theorem subs_nodup : ∀ n, (subs n).Nodup
  | 0 => by simp [subs]
  | n + 1 => by
    rw [subs, List.nodup_append]
    refine ⟨subs_nodup n, ?_, ?_⟩
    · refine List.Pairwise.map _ (fun a b h => ?_) (subs_nodup n)
      intro z
      exact h (List.append_cancel_right z)
    · intro a ha b hb z
      subst z
      obtain ⟨m, _, rfl⟩ := List.mem_map.mp hb
      have := (mem_subs.mp ha).2 n (List.mem_append_right _ (List.mem_singleton.mpr rfl))
      omega
theorem subs_len : ∀ n, (subs n).length = 2 ^ n
  | 0 => rfl
  | n + 1 => by
    rw [subs, List.length_append, List.length_map, subs_len n]
    omega

theorem nodup_len : ∀ (n : Nat) (l : List Nat), l.Nodup → (∀ x ∈ l, x < n) → l.length ≤ n := by
  intro n
  induction n with
  | zero =>
    intro l _ h
    cases l with
    | nil => exact Nat.le_refl _
    | cons x l => exact absurd (h x List.mem_cons_self) (Nat.not_lt_zero _)
  | succ n ih =>
    intro l h1 h2
    have h3 := ih (l.erase n) (h1.erase n) fun x hx => by
      have h4 := h2 x (List.mem_of_mem_erase hx)
      have : x ≠ n := fun z => by
        subst z
        exact (List.Nodup.not_mem_erase h1) hx
      omega
    by_cases hn : n ∈ l
    · rw [List.length_erase_of_mem hn] at h3
      omega
    · rw [List.erase_of_not_mem hn] at h3
      omega
theorem subs_nd {n : Nat} {l : List Nat} (h : l ∈ subs n) : l.Nodup := (mem_subs.mp h).1.imp fun h => Nat.ne_of_lt h
theorem subs_le {n : Nat} {l : List Nat} (h : l ∈ subs n) : l.length ≤ n := nodup_len n l (subs_nd h) (mem_subs.mp h).2
def sm (v : Nat → Nat) (t : List Nat) : Nat := (t.map v).sum
theorem sm_nil (v : Nat → Nat) : sm v [] = 0 := rfl
theorem sm_cons (v : Nat → Nat) (x : Nat) (t : List Nat) : sm v (x :: t) = v x + sm v t := by
  unfold sm
  rw [List.map_cons, List.sum_cons]
theorem sm_perm {v : Nat → Nat} {a b : List Nat} (h : a.Perm b) : sm v a = sm v b := (h.map v).sum_nat
theorem sm_app (v : Nat → Nat) (a b : List Nat) : sm v (a ++ b) = sm v a + sm v b := by
  unfold sm
  rw [List.map_append, List.sum_append]
theorem sm_erase {v : Nat → Nat} {x : Nat} {t : List Nat} (h : x ∈ t) : sm v t = v x + sm v (t.erase x) := (sm_perm (List.perm_cons_erase h)).trans (sm_cons v x _)
theorem sm_sub (v : Nat → Nat) : ∀ (l t : List Nat), l.Nodup → (∀ x ∈ l, x ∈ t) → sm v l ≤ sm v t
  | [], t, _, _ => Nat.zero_le _
  | x :: l, t, h, hs => by
    have hx := hs x List.mem_cons_self
    obtain ⟨h1, h2⟩ := List.nodup_cons.mp h
    have ih := sm_sub v l (t.erase x) h2 fun y hy => (List.mem_erase_of_ne (fun z => h1 (by rw [← z]; exact hy))).mpr (hs y (List.mem_cons_of_mem _ hy))
    rw [sm_cons, sm_erase hx]
    omega
def wo (t : List Nat) (x : Nat) : List Nat := t.filter fun y => !decide (y = x)
theorem mem_wo {t : List Nat} {x y : Nat} : y ∈ wo t x ↔ y ∈ t ∧ y ≠ x := by
  unfold wo
  rw [List.mem_filter]
  simp
theorem wo_sub {n : Nat} {t : List Nat} (x : Nat) (h : t ∈ subs n) : wo t x ∈ subs n := by
  obtain ⟨h1, h2⟩ := mem_subs.mp h
  exact mem_subs.mpr ⟨h1.filter _, fun y hy => h2 y (mem_wo.mp hy).1⟩
theorem wo_erase {t : List Nat} (h : t.Nodup) (x : Nat) : wo t x = t.erase x := by
  rw [h.erase_eq_filter]
  unfold wo
  refine List.filter_congr fun y _ => ?_
  rw [Bool.eq_iff_iff]
  simp
theorem sm_wo {v : Nat → Nat} {t : List Nat} {x : Nat} (h : t.Nodup) (hx : x ∈ t) : sm v t = v x + sm v (wo t x) := by
  rw [wo_erase h, sm_erase hx]
theorem wo_len {t : List Nat} {x : Nat} (h : t.Nodup) (hx : x ∈ t) : (wo t x).length + 1 = t.length := by
  rw [wo_erase h, List.length_erase_of_mem hx]
  have := List.length_pos_of_mem hx
  omega
def wi (t : List Nat) (x : Nat) : List Nat := (t ++ [x]).mergeSort fun a b => decide (a ≤ b)
theorem wi_perm (t : List Nat) (x : Nat) : (wi t x).Perm (t ++ [x]) := List.mergeSort_perm _ _
theorem mem_wi {t : List Nat} {x y : Nat} : y ∈ wi t x ↔ y ∈ t ∨ y = x := by
  rw [(wi_perm t x).mem_iff]
  simp
theorem wi_len (t : List Nat) (x : Nat) : (wi t x).length = t.length + 1 := by
  rw [(wi_perm t x).length_eq]
  simp
theorem sm_wi {v : Nat → Nat} {t : List Nat} {x : Nat} : sm v (wi t x) = sm v t + v x := by
  rw [sm_perm (wi_perm t x), sm_app, sm_cons, sm_nil]
  omega
theorem wi_sub {n : Nat} {t : List Nat} {x : Nat} (h : t ∈ subs n) (hx : x < n) (hn : x ∉ t) : wi t x ∈ subs n := by
  obtain ⟨p, q⟩ := mem_subs.mp h
  refine mem_subs.mpr ⟨?_, fun y hy => ?_⟩
  · have s1 : (wi t x).Pairwise (· ≤ ·) := (List.pairwise_mergeSort (fun a b c h1 h2 => by rw [decide_eq_true_iff] at *; omega) (fun a b => by rw [Bool.or_eq_true, decide_eq_true_iff, decide_eq_true_iff]; omega) (t ++ [x])).imp fun {a b} h => by rw [decide_eq_true_iff] at h; exact h
    have s2 : (wi t x).Nodup := by
      refine (wi_perm t x).nodup_iff.mpr (List.nodup_append.mpr ⟨subs_nd h, by simp, ?_⟩)
      intro a ha b hb z
      subst z
      simp at hb
      subst hb
      exact hn ha
    exact (s1.and s2).imp fun h => Nat.lt_of_le_of_ne h.1 h.2
  · rcases mem_wi.mp hy with h | rfl
    · exact q y h
    · exact hx
def bare (v : Nat → Nat) (L : Nat) (t : List Nat) : Bool := decide (L ≤ sm v t) && !(t.any fun i => decide ((L : Int) ≤ (sm v t : Int) - v i))
def bars (n : Nat) (v : Nat → Nat) (L : Nat) (t : List Nat) : Bool := decide (sm v t < L) && (((List.range n).filter fun i => !decide (i ∈ t)).all fun i => decide (L ≤ sm v t + v i))
theorem bare_iff {v : Nat → Nat} {L : Nat} {t : List Nat} (hn : t.Nodup) : bare v L t = true ↔ L ≤ sm v t ∧ ∀ i ∈ t, sm v (wo t i) < L := by
  unfold bare
  simp only [Bool.and_eq_true, decide_eq_true_iff, Bool.not_eq_true', List.any_eq_false]
  refine and_congr_right fun _ => ⟨fun h i hi => ?_, fun h i hi => ?_⟩
  · have h1 := h i hi
    have h2 := sm_wo (v := v) hn hi
    omega
  · have h1 := h i hi
    have h2 := sm_wo (v := v) hn hi
    omega
theorem bars_iff {n : Nat} {v : Nat → Nat} {L : Nat} {t : List Nat} : bars n v L t = true ↔ sm v t < L ∧ ∀ i, i < n → i ∉ t → L ≤ sm v (wi t i) := by
  unfold bars
  simp only [Bool.and_eq_true, decide_eq_true_iff, List.all_eq_true, List.mem_filter, List.mem_range, Bool.not_eq_true', decide_eq_false_iff_not]
  refine and_congr_right fun _ => ⟨fun h i h1 h2 => ?_, fun h i hi => ?_⟩
  · rw [sm_wi]
    exact h i ⟨h1, h2⟩
  · have h1 := h i hi.1 hi.2
    rw [sm_wi] at h1
    exact h1
theorem bare_in {n : Nat} {v : Nat → Nat} {L : Nat} : ∀ (k : Nat) {t : List Nat}, t.length ≤ k → t ∈ subs n → L ≤ sm v t → ∃ l ∈ subs n, bare v L l = true ∧ ∀ x ∈ l, x ∈ t
  | k, t, hk, ht, hL => by
    by_cases hb : bare v L t = true
    · exact ⟨t, ht, hb, fun _ h => h⟩
    · rw [bare_iff (subs_nd ht)] at hb
      have ⟨i, hi, hs⟩ : ∃ i ∈ t, L ≤ sm v (wo t i) := by
        refine Classical.byContradiction fun z => hb ⟨hL, fun i hi => ?_⟩
        exact Nat.lt_of_not_le fun h => z ⟨i, hi, h⟩
      have hl := wo_len (subs_nd ht) hi
      cases k with
      | zero => omega
      | succ k =>
        obtain ⟨l, h1, h2, h3⟩ := bare_in k (by omega) (wo_sub i ht) hs
        exact ⟨l, h1, h2, fun x hx => (mem_wo.mp (h3 x hx)).1⟩
theorem bars_in {n : Nat} {v : Nat → Nat} {L : Nat} : ∀ (k : Nat) {t : List Nat}, n ≤ t.length + k → t ∈ subs n → sm v t < L → ∃ u ∈ subs n, bars n v L u = true ∧ ∀ x ∈ t, x ∈ u
  | k, t, hk, ht, hL => by
    by_cases hb : bars n v L t = true
    · exact ⟨t, ht, hb, fun _ h => h⟩
    · rw [bars_iff] at hb
      have ⟨i, hi, hn, hs⟩ : ∃ i, i < n ∧ i ∉ t ∧ sm v (wi t i) < L := by
        refine Classical.byContradiction fun z => hb ⟨hL, fun i hi hn => ?_⟩
        exact Nat.le_of_not_lt fun h => z ⟨i, hi, hn, h⟩
      have hm := wi_sub ht hi hn
      have h1 := subs_le hm
      have h2 := wi_len t i
      cases k with
      | zero => omega
      | succ k =>
        obtain ⟨u, h3, h4, h5⟩ := bars_in k (by omega) hm hs
        exact ⟨u, h3, h4, fun x hx => h5 x (mem_wi.mpr (.inl hx))⟩
theorem strongest (v : Nat → Nat) : ∀ (s b : List Nat), s.Pairwise (fun x y => v y ≤ v x) → b.Nodup → (∀ x ∈ b, x ∈ s) → sm v b ≤ sm v (s.take b.length)
  | _, [], _, _, _ => Nat.zero_le _
  | [], y :: b, _, _, h => nomatch h y List.mem_cons_self
  | x :: s, y :: b, hs, hb, h => by
    obtain ⟨s1, s2⟩ := List.pairwise_cons.mp hs
    obtain ⟨b1, b2⟩ := List.nodup_cons.mp hb
    by_cases hx : x ∈ y :: b
    · have ih := strongest v s ((y :: b).erase x) s2 (hb.erase x) fun z hz => by
        rcases List.mem_cons.mp (h z (List.mem_of_mem_erase hz)) with e | e
        · subst e
          exact absurd hz (List.Nodup.not_mem_erase hb)
        · exact e
      rw [List.length_erase_of_mem hx] at ih
      rw [sm_erase hx, List.length_cons, List.take_succ_cons, sm_cons]
      have : (y :: b).length - 1 = b.length := rfl
      rw [this] at ih
      omega
    · have hy : y ∈ s := by
        rcases List.mem_cons.mp (h y List.mem_cons_self) with e | e
        · exact absurd (e ▸ List.mem_cons_self) hx
        · exact e
      have ih := strongest v s b s2 b2 fun z hz => by
        rcases List.mem_cons.mp (h z (List.mem_cons_of_mem _ hz)) with e | e
        · exact absurd (e ▸ List.mem_cons_of_mem _ hz) hx
        · exact e
      rw [List.length_cons, List.take_succ_cons, sm_cons, sm_cons]
      have := s1 y hy
      omega
def lexN : List Nat → List Nat → Bool
  | _, [] => false
  | [], _ :: _ => true
  | a :: as, b :: bs => if a = b then lexN as bs else decide (a < b)
theorem lexN_anti : ∀ a b : List Nat, lexN a b = false → lexN b a = false → a = b
  | [], [], _, _ => rfl
  | [], _ :: _, h, _ => by simp [lexN] at h
  | _ :: _, [], _, h => by simp [lexN] at h
  | a :: as, b :: bs, h, h' => by
    unfold lexN at h h'
    by_cases e : a = b
    · subst e
      rw [if_pos rfl] at h h'
      rw [lexN_anti as bs h h']
    · rw [if_neg e, decide_eq_false_iff_not] at h
      rw [if_neg (Ne.symm e), decide_eq_false_iff_not] at h'
      omega
end P5

namespace P5
open PySem L2 PyProof.Rows
abbrev iD (n : Nat) : D := .int n
abbrev lotD (l : List Nat) : D := .tup (l.map iD)
theorem py_ints : ∀ l : List Nat, toPyL (l.map iD) = l.map fun n : Nat => PyData.int n
  | [] => rfl
  | n :: l => by
    rw [List.map_cons, toPyL, py_ints l]
    rfl
theorem lay_ints : ∀ l : List Nat, PyData.canLayAll0 (l.map fun n : Nat => PyData.int n) = true ∧ PyData.depthAll (l.map fun n : Nat => PyData.int n) = 0
  | [] => ⟨rfl, rfl⟩
  | n :: l => ⟨(lay_ints l).1, by
    show max 0 (PyData.depthAll (l.map fun n : Nat => PyData.int n)) = 0
    rw [(lay_ints l).2]
    rfl⟩
theorem ok_tup (l : List Nat) : okD (.tup (l.map iD)) = true := by
  unfold okD
  show (PyData.canLayAll0 (toPyL (l.map iD)) && decide (PyData.depthAll (toPyL (l.map iD)) + 1 ≤ 64)) = true
  rw [py_ints, (lay_ints l).1, (lay_ints l).2]
  rfl
theorem ok_lst (l : List Nat) : okD (.lst (l.map iD)) = true := by
  unfold okD
  show (PyData.canLayAll0 (toPyL (l.map iD)) && decide (PyData.depthAll (toPyL (l.map iD)) + 1 ≤ 64)) = true
  rw [py_ints, (lay_ints l).1, (lay_ints l).2]
  rfl
theorem ok_i (n : Nat) : okD (iD n) = true := rfl
theorem eq_i (a b : Nat) : eqD (iD a) (iD b) = decide (a = b) := by
  show ((a : Int) == (b : Int)) = _
  rw [Bool.eq_iff_iff, beq_iff_eq, decide_eq_true_iff]
  omega
theorem any_i (k : Nat) : ∀ l : List Nat, ((l.map iD).any fun y => eqD y (iD k)) = decide (k ∈ l)
  | [] => rfl
  | n :: l => by
    rw [List.map_cons, List.any_cons, any_i k l, eq_i, Bool.eq_iff_iff]
    simp only [Bool.or_eq_true, decide_eq_true_iff, List.mem_cons]
    exact ⟨fun h => h.imp Eq.symm id, fun h => h.imp Eq.symm id⟩
theorem in_tup (k : Nat) (l : List Nat) : opIn (iD k) (lotD l) = some (.bl (decide (k ∈ l))) := by
  show (if okD (iD k) && okD (.tup (l.map iD)) then some (D.bl ((l.map iD).any fun y => eqD y (iD k))) else none) = _
  rw [ok_tup, ok_i, any_i]
  rfl
theorem in_lst (k : Nat) (l : List Nat) : opIn (iD k) (.lst (l.map iD)) = some (.bl (decide (k ∈ l))) := by
  show (if okD (iD k) && okD (.lst (l.map iD)) then some (D.bl ((l.map iD).any fun y => eqD y (iD k))) else none) = _
  rw [ok_lst, ok_i, any_i]
  rfl
theorem nin_tup (k : Nat) (l : List Nat) : opNotIn (iD k) (lotD l) = some (.bl (!decide (k ∈ l))) := by
  unfold opNotIn
  rw [in_tup]
  rfl
theorem nin_lst (k : Nat) (l : List Nat) : opNotIn (iD k) (.lst (l.map iD)) = some (.bl (!decide (k ∈ l))) := by
  unfold opNotIn
  rw [in_lst]
  rfl
theorem keyEqL_i : ∀ a b : List Nat, keyEqL (a.map iD) (b.map iD) = decide (a = b)
  | [], [] => rfl
  | [], _ :: _ => rfl
  | _ :: _, [] => rfl
  | x :: a, y :: b => by
    show (decide ((x : Int) = (y : Int)) && keyEqL (a.map iD) (b.map iD)) = _
    rw [keyEqL_i a b, Bool.eq_iff_iff]
    simp only [Bool.and_eq_true, decide_eq_true_iff, List.cons.injEq]
    exact ⟨fun h => ⟨by omega, h.2⟩, fun h => ⟨by omega, h.2⟩⟩
theorem keyEq_lot (a b : List Nat) : keyEq (lotD a) (lotD b) = decide (a = b) := keyEqL_i a b
theorem key_ok (l : List Nat) : keyOk 1 (lotD l) = true := by
  show (l.map iD).all flatKey = true
  rw [List.all_map]
  exact List.all_eq_true.mpr fun _ _ => rfl
theorem imm_ints : ∀ l : List Nat, immD.immL (l.map iD) = true
  | [] => rfl
  | n :: l => imm_ints l
theorem imm_lot (l : List Nat) : immD (lotD l) = true := imm_ints l
theorem alike_ints : ∀ a b : List Nat, PySem.W.alikeAll (a.map fun n : Nat => PyData.int n) (b.map fun n : Nat => PyData.int n) = true
  | [], [] => by simp [PySem.W.alikeAll]
  | [], _ :: _ => by simp [PySem.W.alikeAll]
  | _ :: _, [] => by simp [PySem.W.alikeAll]
  | x :: a, y :: b => by
    rw [List.map_cons, List.map_cons, PySem.W.alikeAll, alike_ints a b]
    simp [PySem.W.alike]
theorem py_lot (l : List Nat) : toPy (lotD l) = .tuple (l.map fun n : Nat => PyData.int n) := by
  show PyData.tuple (toPyL (l.map iD)) = _
  rw [py_ints]

theorem le_trans_D (a b c : D) (h1 : leD a b = true) (h2 : leD b c = true) : leD a c = true := (PySem.W.sortLe_total (listOrd itemOrd) false fun d : D => PySem.W.keyToks (toPy d)).trans a b c h1 h2
theorem le_total_D (a b : D) : (leD a b || leD b a) = true := Bool.or_eq_true_iff.mpr ((PySem.W.sortLe_total (listOrd itemOrd) false fun d : D => PySem.W.keyToks (toPy d)).total a b)
def leN (a b : Nat) : Bool := leD (iD a) (iD b)
theorem leN_eq (a b : Nat) : leN a b = decide (a ≤ b) := by
  unfold leN leD
  show (!ltD (.int b) (.int a)) = _
  rw [ltD_int, Bool.eq_iff_iff]
  simp
theorem sorted_ints (l : List Nat) : opSortedT [.tup (l.map iD)] = some (.lst ((l.mergeSort leN).map iD)) := by
  have h : sortOk (l.map iD) = true := by
    unfold sortOk
    simp only [Bool.and_eq_true, Bool.or_eq_true, List.all_map, List.all_eq_true, Function.comp]
    exact ⟨⟨fun _ _ _ _ => by simp [iD, toPy, PySem.W.alike], fun _ _ => rfl⟩, .inr fun _ _ => rfl⟩
  show (if sortOk (l.map iD) = true then some (D.lst ((l.map iD).mergeSort leD)) else none) = _
  rw [if_pos h, ← List.map_mergeSort (r := leN) (f := iD) (l := l) fun _ _ _ _ => rfl]

theorem e_var {ρ : Env'} {i : Nat} {d : D} (h : ρ[i]? = some (some d)) : dVar i ρ = pure d := dVar_get h
theorem e_lc {vs : List Nat} {fi : Env' → M (List D)} {gd : GD} {tt : Env' → M Bool} {fe : EM} {ρ : Env'} {xs ys : List D} (h1 : fi ρ = pure xs) (h2 : lcL vs gd tt fe ρ xs = pure ys) : dLc vs fi gd tt fe ρ = pure (.lst ys) := by
  unfold dLc
  rw [h1, pure_bind, h2, pure_bind]
theorem rng1 {n : Nat} (h : n ≤ 1000) : opRng1 [iD n] = some ((List.range n).map iD) := by
  have e : rngOk 0 (n : Int) = true := by
    unfold rngOk
    rw [show (2 : Int) ^ 62 = 4611686018427387904 from by decide +kernel]
    exact decide_eq_true ⟨by omega, by omega, by omega, by omega, by omega⟩
  show (if rngOk 0 (n : Int) = true then some (rangeD 0 n) else none) = _
  rw [if_pos e]
  unfold rangeD
  rw [Int.sub_zero, Int.toNat_natCast]
  refine congrArg some (List.map_congr_left fun i _ => ?_)
  rw [Int.zero_add]

section
variable {ρ ρ' : Env'} {mu : List Nat} {i n : Nat} {f fk : EM} {a d v k : D} {xs : List D} {s : SM} {fi : Env' → M (List D)} {gd : GD} {kvs : List (D × D)}
theorem forL_goM (h0 : okSets mu [(i, a)] = true) (h1 : s (ρ.set i (some a)) = pure (.nx ρ')) : forL mu (gdName i) s (a :: xs) ρ = forL mu (gdName i) s xs ρ' := by
  rw [forL]
  show (if okSets mu [(i, a)] = true then (s (ρ.set i (some a)) >>= _) else M.fail : MS Fl) = _
  rw [if_pos h0, h1, pure_bind]
theorem s_for_pureM (h1 : fi (hide mu ρ) = pure xs) : sFor mu fi gd s ρ = forL mu gd s xs ρ := by
  unfold sFor
  rw [h1, liftF_pure, pure_bind]
theorem s_set_pureM (h1 : f (hide mu ρ) = pure a) (h2 : okSets mu [(i, a)] = true) : sSetF mu f (gdName i) ρ = pure (.nx (ρ.set i (some a))) := by
  unfold sSetF
  rw [h1, liftF_pure, pure_bind]
  show (if okSets mu [(i, a)] = true then pure (.nx (ρ.set i (some a))) else M.fail : MS Fl) = _
  rw [if_pos h2]
theorem s_ownF_pure (h1 : f (hide mu ρ) = pure d) : sOwnF mu i f ρ = pure (.nx (ρ.set i (some d))) := by
  unfold sOwnF
  rw [h1, liftF_pure, pure_bind]
theorem s_ownI_pure (h1 : f ρ = pure d) (h2 : immIn d = true) : sOwnI mu i f ρ = pure (.nx (ρ.set i (some d))) := by
  unfold sOwnI
  rw [h1, liftI_pure, pure_bind, if_pos h2]
theorem s_putI_pure (h0 : ρ[i]? = some (some (.dct n kvs))) (h1 : f ρ = pure v) (h2 : fk ρ = pure k) (h3 : immD v = true ∧ immD k = true ∧ keyOk n k = true ∧ kvs.length < 16777216) : sPutI i fk f ρ = pure (.nx (ρ.set i (some (.dct n (putD kvs k v))))) := by
  unfold sPutI dctAt
  rw [h0, M.opt_some, pure_bind, h1, liftI_pure, pure_bind, h2, liftI_pure, pure_bind, if_pos h3]
end
theorem lcL_fm {α : Type} {vs : List Nat} {gd : GD} {tt : Env' → M Bool} {fe : EM} {ρ : Env'} {h f : α → D} {p : α → Bool} : ∀ {L : List α}, (∀ x ∈ L, ∃ l, gd (h x) = some l ∧ (l.all fun p => vs.contains p.1) = true ∧ tt (setsD (wipeD ρ vs) l) = pure (p x) ∧ (p x = true → fe (setsD (wipeD ρ vs) l) = pure (f x))) →
    lcL vs gd tt fe ρ (L.map h) = pure ((L.filter p).map f)
  | [], _ => rfl
  | x :: xs, hh => by
    obtain ⟨l, h1, h2, h3, h4⟩ := hh x List.mem_cons_self
    have ih := lcL_fm (tt := tt) (fe := fe) (ρ := ρ) (gd := gd) (vs := vs) (h := h) (f := f) (p := p) fun y hy => hh y (List.mem_cons_of_mem _ hy)
    rw [List.map_cons, lcL, h1, M.opt_some, pure_bind, if_pos h2, h3, quiet_pure, pure_bind, ih]
    cases hp : p x with
    | false => rw [if_neg (by decide), List.filter_cons_of_neg (by rw [hp]; decide)]
    | true =>
      rw [if_pos rfl, h4 hp, quiet_pure, pure_bind, pure_bind, List.filter_cons_of_pos hp]
      rfl
theorem lcL_mm {α : Type} {vs : List Nat} {gd : GD} {tt : Env' → M Bool} {fe : EM} {ρ : Env'} {h f : α → D} {L : List α} (hh : ∀ x ∈ L, ∃ l, gd (h x) = some l ∧ (l.all fun p => vs.contains p.1) = true ∧ tt (setsD (wipeD ρ vs) l) = pure true ∧ fe (setsD (wipeD ρ vs) l) = pure (f x)) :
    lcL vs gd tt fe ρ (L.map h) = pure (L.map f) := by
  have := lcL_fm (vs := vs) (gd := gd) (tt := tt) (fe := fe) (ρ := ρ) (h := h) (f := f) (p := fun _ => true) (L := L) fun x hx => by
    obtain ⟨l, h1, h2, h3, h4⟩ := hh x hx
    exact ⟨l, h1, h2, h3, fun _ => h4⟩
  rw [this, List.filter_eq_self.mpr fun _ _ => rfl]


theorem lex_lots : ∀ a b : List Nat, PyProof.Rows.lexLt itemOrd (PySem.W.keyToksAll (a.map fun n : Nat => PyData.int n)) (PySem.W.keyToksAll (b.map fun n : Nat => PyData.int n)) = lexN a b
  | [], [] => PyProof.Rows.lex_irrefl _
  | [], y :: b => by
    show PyProof.Rows.lexLt itemOrd (PySem.W.keyToksAll []) (PySem.W.keyToksAll (PyData.int y :: b.map fun n : Nat => PyData.int n)) = true
    rw [PySem.W.toks_all_cons]
    simp only [PySem.W.keyToksAll]
    rw [PyProof.Rows.lex_diff (O := itemOrd) (by simp)]
    simp [PyProof.Rows.itemLt]
  | x :: a, [] => by
    show PyProof.Rows.lexLt itemOrd (PySem.W.keyToksAll (PyData.int x :: a.map fun n : Nat => PyData.int n)) (PySem.W.keyToksAll []) = false
    rw [PySem.W.toks_all_cons]
    simp only [PySem.W.keyToksAll]
    rw [PyProof.Rows.lex_diff (O := itemOrd) (by simp)]
    simp [PyProof.Rows.itemLt]
  | x :: a, y :: b => by
    rw [List.map_cons, List.map_cons, PySem.W.dataLt_cons (by simp [PySem.W.alike]), lex_lots a b, PySem.W.dataLt_int, lexN]
    by_cases h : x = y
    · subst h
      rw [if_pos rfl, if_pos]
      show ((x : Int) == (x : Int)) = true
      exact beq_self_eq_true _
    · rw [if_neg h, if_neg]
      · exact decide_eq_decide.mpr (by omega)
      · show ¬ ((x : Int) == (y : Int)) = true
        rw [beq_iff_eq]
        omega
theorem lt_lot (a b : List Nat) : ltD (lotD a) (lotD b) = lexN a b := by
  unfold ltD
  rw [py_lot, py_lot, PySem.W.dataLt_tuple, lex_lots]
def leT (a b : List Nat) : Bool := leD (lotD a) (lotD b)
theorem leT_anti {a b : List Nat} (h : leT a b = true) (h' : leT b a = true) : a = b := by
  unfold leT leD at h h'
  rw [lt_lot, Bool.not_eq_true'] at h h'
  exact lexN_anti a b h' h
theorem eq_lot (a b : List Nat) : eqD (lotD a) (lotD b) = decide (a = b) := by
  have h : ∀ a b : List Nat, PyData.eqvAll (a.map fun n : Nat => PyData.int n) (b.map fun n : Nat => PyData.int n) = decide (a = b) := by
    intro a
    induction a with
    | nil =>
      intro b
      cases b with
      | nil => rfl
      | cons y b => rfl
    | cons x a ih =>
      intro b
      cases b with
      | nil => rfl
      | cons y b =>
        show (((x : Int) == (y : Int)) && PyData.eqvAll (a.map fun n : Nat => PyData.int n) (b.map fun n : Nat => PyData.int n)) = _
        rw [ih b, Bool.eq_iff_iff, Bool.and_eq_true, beq_iff_eq, decide_eq_true_iff, decide_eq_true_iff, List.cons.injEq]
        exact and_congr_left fun _ => by omega
  unfold eqD
  rw [py_lot, py_lot]
  exact h a b
theorem py_lots : ∀ l : List (List Nat), toPyL (l.map lotD) = l.map fun t => PyData.tuple (t.map fun n : Nat => PyData.int n)
  | [] => rfl
  | t :: l => by
    rw [List.map_cons, toPyL, py_lots l, py_lot]
    rfl
theorem lay_lots : ∀ l : List (List Nat), PyData.canLayAll0 (l.map fun t => PyData.tuple (t.map fun n : Nat => PyData.int n)) = true ∧ PyData.depthAll (l.map fun t => PyData.tuple (t.map fun n : Nat => PyData.int n)) ≤ 1
  | [] => ⟨rfl, Nat.zero_le _⟩
  | t :: l => ⟨by
    show (PyData.canLayAll0 (t.map fun n : Nat => PyData.int n) && PyData.canLayAll0 (l.map fun t => PyData.tuple (t.map fun n : Nat => PyData.int n))) = true
    rw [(lay_ints t).1, (lay_lots l).1]
    rfl, by
    show max (PyData.depthAll (t.map fun n : Nat => PyData.int n) + 1) (PyData.depthAll (l.map fun t => PyData.tuple (t.map fun n : Nat => PyData.int n))) ≤ 1
    rw [(lay_ints t).2]
    exact Nat.max_le.mpr ⟨Nat.le_refl _, (lay_lots l).2⟩⟩
theorem ok_lots (l : List (List Nat)) : okD (.lst (l.map lotD)) = true := by
  unfold okD
  show (PyData.canLayAll0 (toPyL (l.map lotD)) && decide (PyData.depthAll (toPyL (l.map lotD)) + 1 ≤ 64)) = true
  rw [py_lots, (lay_lots l).1]
  have := (lay_lots l).2
  exact decide_eq_true (by omega)
theorem any_lot (k : List Nat) : ∀ l : List (List Nat), ((l.map lotD).any fun y => eqD y (lotD k)) = decide (k ∈ l)
  | [] => rfl
  | n :: l => by
    rw [List.map_cons, List.any_cons, any_lot k l, eq_lot, Bool.eq_iff_iff]
    simp only [Bool.or_eq_true, decide_eq_true_iff, List.mem_cons]
    exact ⟨fun h => h.imp Eq.symm id, fun h => h.imp Eq.symm id⟩
theorem in_lots (k : List Nat) (l : List (List Nat)) : opIn (lotD k) (.lst (l.map lotD)) = some (.bl (decide (k ∈ l))) := by
  show (if okD (lotD k) && okD (.lst (l.map lotD)) then some (D.bl ((l.map lotD).any fun y => eqD y (lotD k))) else none) = _
  rw [ok_lots, any_lot, show okD (lotD k) = true from ok_tup k]
  rfl
theorem nin_lots (k : List Nat) (l : List (List Nat)) : opNotIn (lotD k) (.lst (l.map lotD)) = some (.bl (!decide (k ∈ l))) := by
  unfold opNotIn
  rw [in_lots]
  rfl
theorem sorted_teams (ls : List (List Nat)) : opSortedT [.lst (ls.map lotD)] = some (.lst ((ls.mergeSort leT).map lotD)) := by
  have h : sortOk (ls.map lotD) = true := by
    unfold sortOk
    simp only [Bool.and_eq_true, Bool.or_eq_true, List.all_map, List.all_eq_true, Function.comp]
    refine ⟨⟨fun a _ b _ => ?_, fun a _ => ok_tup a⟩, .inl fun _ _ => rfl⟩
    rw [py_lot, py_lot, PySem.W.alike]
    exact alike_ints a b
  show (if sortOk (ls.map lotD) = true then some (D.lst ((ls.map lotD).mergeSort leD)) else none) = _
  rw [if_pos h, ← List.map_mergeSort (r := leT) (f := lotD) (l := ls) fun _ _ _ _ => rfl]
theorem leT_trans (a b c : List Nat) (h1 : leT a b = true) (h2 : leT b c = true) : leT a c = true := le_trans_D _ _ _ h1 h2
theorem leT_total (a b : List Nat) : (leT a b || leT b a) = true := le_total_D _ _
theorem teams_sorted (l : List (List Nat)) : (l.mergeSort leT).Pairwise fun a b => leT a b = true := List.pairwise_mergeSort leT_trans leT_total l
theorem teams_eq {a b : List (List Nat)} (h : a.Perm b) (ha : a.Pairwise fun a b => leT a b = true) (hb : b.Pairwise fun a b => leT a b = true) : a = b :=
  h.eq_of_pairwise (fun _ _ _ _ h1 h2 => leT_anti h1 h2) ha hb
theorem asInts_nat : ∀ l : List Nat, asInts (l.map iD) = some (l.map fun n : Nat => (n : Int))
  | [] => rfl
  | x :: l => by
    show (asInts (l.map iD)).map ((x : Int) :: ·) = _
    rw [asInts_nat l]
    rfl
theorem sum_nat : ∀ l : List Nat, (l.map fun n : Nat => (n : Int)).sum = (l.sum : Nat)
  | [] => rfl
  | x :: l => by
    rw [List.map_cons, List.sum_cons, List.sum_cons, sum_nat l]
    omega
theorem sum_ints (l : List Nat) : opSum [.lst (l.map iD)] = some (iD l.sum) := by
  show (asInts (l.map iD)).map (fun ns => D.int ns.sum) = _
  rw [asInts_nat]
  show some (D.int _) = _
  rw [sum_nat]
end P5

namespace P5
open PySem L2 PyProof.Rows
def isI : D → Bool
  | .int _ => true
  | _ => false
theorem isB_tab : isB "NoneType" "int" = false ∧ isB "bool" "int" = true ∧ isB "bool" "bool" = true ∧ isB "int" "int" = true ∧ isB "int" "bool" = false ∧ isB "str" "int" = false ∧ isB "tuple" "int" = false ∧ isB "list" "int" = false ∧ isB "dict" "int" = false := by
  refine ⟨?_, ?_, ?_, ?_, ?_, ?_, ?_, ?_, ?_⟩ <;> decide +kernel
theorem isB_tup : isB "tuple" "tuple" = true ∧ isB "list" "tuple" = false ∧ isB "NoneType" "tuple" = false ∧ isB "str" "tuple" = false ∧ isB "int" "tuple" = false ∧ isB "bool" "tuple" = false ∧ isB "dict" "tuple" = false := by
  refine ⟨?_, ?_, ?_, ?_, ?_, ?_, ?_⟩ <;> decide +kernel
theorem isi_of {d : D} {t T : String} (h : tyD d = some t) : opIsi T d = some (.bl (isB t T)) := by
  unfold opIsi
  rw [h]
  rfl
theorem e_isInt {d : D} {ρ : Env'} {i : Nat} (hi : ρ[i]? = some (some d)) (h : (tyD d).isSome = true) : dAnd (dUn (opIsi "int") (dVar i)) (dNot (dUn (opIsi "bool") (dVar i))) ρ = pure (.bl (isI d)) := by
  obtain ⟨i1, i2, i3, i4, i5, i6, i7, i8, i9⟩ := isB_tab
  have no : ∀ t, tyD d = some t → isB t "int" = false → dAnd (dUn (opIsi "int") (dVar i)) (dNot (dUn (opIsi "bool") (dVar i))) ρ = pure (.bl false) := fun t ht hb =>
    e_and_f (e_un (e_var hi) (by rw [isi_of ht, hb])) rfl
  cases d with
  | non => exact no _ rfl i1
  | bl b => exact (e_and_t (e_un (e_var hi) (by rw [isi_of (t := "bool") rfl, i2])) rfl).trans (e_not (t := true) (e_un (e_var hi) (by rw [isi_of (t := "bool") rfl, i3])) rfl)
  | int n => exact (e_and_t (e_un (e_var hi) (by rw [isi_of (t := "int") rfl, i4])) rfl).trans (e_not (t := false) (e_un (e_var hi) (by rw [isi_of (t := "int") rfl, i5])) rfl)
  | str x => exact no _ rfl i6
  | tup xs => exact no _ rfl i7
  | ktup xs => exact no _ rfl i7
  | lst xs => exact no _ rfl i8
  | dct n kvs => exact no _ rfl i9
  | scr ns => cases h
  | fn x => cases h
  | bag => cases h
  | exc a b c d e => cases h
  | lam f => cases h
theorem v_isInt {d : D} (h : (tyD d).isSome = true) : runFn 1 (sRet (dAnd (dUn (opIsi "int") (dVar 0)) (dNot (dUn (opIsi "bool") (dVar 0))))) [d] = pure (.bl (isI d)) :=
  run_rt (s_ret_pure (e_isInt (ρ := [some d]) rfl h))
theorem e_callT {ρ : Env'} {i n : Nat} {T : Tab} {x : Str} {fM : List D → M D} {g : Env' → M (List D)} {xs : List D} {r : D} (h1 : ρ[i]? = some (some (.fn x))) (h2 : T x = some (n, fM)) (h3 : g ρ = pure xs) (h4 : xs.length = n) (h5 : fM xs = pure r) : dCallT i T g ρ = pure r := by
  unfold dCallT
  rw [h1]
  dsimp only
  rw [h2]
  dsimp only
  rw [h3, pure_bind]
  unfold callM
  rw [if_pos h4, h5]
  rfl
theorem asB_bl {α : Type} (p : α → Bool) : ∀ xs : List α, asBools (xs.map fun x => D.bl (p x)) = some (xs.map p)
  | [] => rfl
  | x :: xs => by
    show (asBools (xs.map fun x => D.bl (p x))).map _ = _
    rw [asB_bl p xs]
    rfl
theorem all_bl {α : Type} (p : α → Bool) (xs : List α) : opAll [.lst (xs.map fun x => D.bl (p x))] = some (.bl (xs.all p)) := by
  show (asBools (xs.map fun x => D.bl (p x))).map (fun ns => D.bl (ns.all id)) = _
  rw [asB_bl]
  show some (D.bl _) = _
  rw [List.all_map]
  rfl
theorem any_bl {α : Type} (p : α → Bool) (xs : List α) : opAny [.lst (xs.map fun x => D.bl (p x))] = some (.bl (xs.any p)) := by
  show (asBools (xs.map fun x => D.bl (p x))).map (fun ns => D.bl (ns.any id)) = _
  rw [asB_bl]
  show some (D.bl _) = _
  rw [List.any_map]
  rfl
theorem seq_tup {d : D} {xs : List D} (h : tupD d = some xs) : seqD d = some xs := by
  cases d <;> first | (cases h; done) | (cases h; rfl)
theorem ty_tup {d : D} {xs : List D} (h : tupD d = some xs) : tyD d = some "tuple" := by
  cases d <;> first | (cases h; done) | rfl
def allS2 (TAB : Tab) : SM := (sRet (dAnd (dUn (opIsi "tuple") (dVar 0)) (dCall opAll (dCons (dLc [2] (iSeq (dVar 0)) (gdName 2) dYes (dCallT 1 TAB (dCons (dVar 2) dNil))) dNil))))
theorem v_all {TAB : Tab} {x : Str} {fM : List D → M D} {p : D → Bool} {d : D} {xs : List D} (ht : tupD d = some xs) (hT : TAB x = some (1, fM)) (h : ∀ y ∈ xs, fM [y] = pure (.bl (p y))) : runFn 3 (allS2 TAB) [d, .fn x] = pure (.bl (xs.all p)) := by
  refine run_rt (s_ret_pure ?_)
  show dAnd _ _ [some d, some (.fn x), none] = _
  refine (e_and_t (a := .bl true) (e_un rfl (by rw [isi_of (ty_tup ht), isB_tup.1])) rfl).trans ?_
  refine e_call (e_cons (e_lc (ys := xs.map fun y => D.bl (p y)) (e_seq (e_var rfl) (seq_tup ht)) (lcL_map (fun y => D.bl (p y)) fun y hy => ⟨[(2, y)], rfl, rfl, rfl, ?_⟩)) e_nil) (all_bl p xs)
  exact e_callT rfl hT (e_cons rfl e_nil) rfl (h y hy)
theorem v_all_no {TAB : Tab} {x : Str} {d : D} {t : String} (ht : tyD d = some t) (hb : isB t "tuple" = false) : runFn 3 (allS2 TAB) [d, .fn x] = pure (.bl false) := by
  refine run_rt (s_ret_pure ?_)
  show dAnd _ _ [some d, some (.fn x), none] = _
  exact e_and_f (a := .bl false) (e_un rfl (by rw [isi_of ht, hb])) rfl
theorem e_chain {o o' : D → D → Option D} {f g h : EM} {ρ : Env'} {a b c : D} {k k' : Bool} (h1 : f ρ = pure a) (h2 : g ρ = pure b) (h3 : h ρ = pure c) (h4 : o a b = some (.bl k)) (h5 : o' b c = some (.bl k')) : dChain o o' f g h ρ = pure (.bl (k && k')) := by
  unfold dChain
  rw [h1, pure_bind, h2, pure_bind, h4, M.opt_some, pure_bind]
  cases k with
  | false => rfl
  | true =>
    show (if true = true then h ρ >>= fun w => M.opt (o' b w) else pure (.bl false) : M D) = _
    rw [if_pos rfl, h3, pure_bind, h5]
    rfl
section
variable {ρ : Env'} {f g : EM} {e : Err} {n : Nat} {s s' : SM}
theorem run_nx {ρ' : Env'} {ds : List D} (h : s (startD n ds) = pure (.nx ρ')) : runFn n s ds = pure .non := by
  refine MM.ext fun Q E => ?_
  rw [wp_run, h]
  exact Iff.rfl
theorem run_raise {ρ' : Env'} {ds : List D} (h : s (startD n ds) = M.raise (e, ρ')) : runFn n s ds = M.raise e := by
  refine MM.ext fun Q E => ?_
  rw [wp_run, h]
  exact Iff.rfl
theorem s_seq_raise (h : s ρ = M.raise (e, ρ)) : sSeq s s' ρ = M.raise (e, ρ) := by
  unfold sSeq
  rw [h, raise_bind]
theorem s_drop_raise (hi : immE e = true) (h : f ρ = M.raise e) : sDrop f ρ = M.raise (e, ρ) := by
  unfold sDrop
  rw [h, liftI_raise, if_pos hi, raise_bind]
theorem s_drop_pure {a : D} (h : f ρ = pure a) : sDrop f ρ = pure (.nx ρ) := by
  unfold sDrop
  rw [h, liftI_pure, pure_bind]
theorem s_ret_raise (hi : immE e = true) (h : f ρ = M.raise e) : sRet f ρ = M.raise (e, ρ) := by
  unfold sRet
  rw [h, liftI_raise, if_pos hi, raise_bind]
theorem e_bin_raise {op : D → D → Option D} (h : f ρ = M.raise e) : dBin op f g ρ = M.raise e := by
  unfold dBin
  rw [h, raise_bind]
end
def heardB (S : Subs) : Addr → M D → SM := fun f am => sTryAs S 1 (sAct 0 f (toldW "told") am) (fun a d => (sRet (dTup (dCons (dCon (.str "refused")) (dCons (dFld 1 a d "why") dNil)))))
theorem heard_raise {S : Subs} {fE : EM} {ρ : Env'} {x : Str} (hS : S "Refused" = some true) (h : fE ρ = M.raise ⟨"Refused", [("why", .str x)]⟩) : dHeard 2 (heardB S) fE ρ = pure (.tup [.str "refused", .str x]) := by
  have key : ∀ f : Addr, runFn 2 (heardB S f (fE ρ)) [.lam f] = pure (.tup [.str "refused", .str x]) := fun f => by
    refine MM.ext fun Q E => ?_
    rw [wp_run, h]
    have e1 : sAct 0 f (toldW "told") (M.raise ⟨"Refused", [("why", .str x)]⟩) (startD 2 [.lam f]) = M.raise ((⟨"Refused", [("why", .str x)]⟩ : Err), startD 2 [.lam f]) := by
      unfold sAct
      show (if f = f then _ else _ : MS Fl) = _
      rw [if_pos rfl]
      rfl
    show (sAct 0 f (toldW "told") (M.raise ⟨"Refused", [("why", .str x)]⟩) (startD 2 [.lam f])).wp _ _ ↔ _
    rw [e1]
    refine Iff.trans (b := (match S "Refused" with
      | some true => ([((("why" : Str)), (D.str x))] : List (Str × D)) ≠ [] ∧ ∀ a d, ((sRet (dTup (dCons (dCon (.str "refused")) (dCons (dFld 1 a d "why") dNil)))) ((startD 2 [.lam f]).set 1 (some (.exc a d "Refused" ["why"] [.str x])))).wp (fun r => (match Fl.gone 1 r with
        | .rt d => Q d
        | .nx _ => Q .non
        | _ => False)) (fun _ => False)
      | some false => E ⟨"Refused", [("why", .str x)]⟩
      | none => False)) Iff.rfl ?_
    rw [hS]
    dsimp only
    constructor
    · rintro ⟨_, z⟩
      have z' := z 0 0
      have e2 : (sRet (dTup (dCons (dCon (.str "refused")) (dCons (dFld 1 0 0 "why") dNil)))) ((startD 2 [.lam f]).set 1 (some (.exc 0 0 "Refused" ["why"] [.str x]))) = pure (.rt (.tup [.str "refused", .str x])) :=
        s_ret_pure (e_tup (e_cons rfl (e_cons rfl e_nil)))
      have z2 : ((sRet (dTup (dCons (dCon (.str "refused")) (dCons (dFld 1 0 0 "why") dNil)))) ((startD 2 [.lam f]).set 1 (some (.exc 0 0 "Refused" ["why"] [.str x])))).wp _ _ := z'
      rw [e2] at z2
      exact z2
    · intro z
      refine ⟨(fun z => nomatch z), fun a d => ?_⟩
      have e2 : (sRet (dTup (dCons (dCon (.str "refused")) (dCons (dFld 1 a d "why") dNil)))) ((startD 2 [.lam f]).set 1 (some (.exc a d "Refused" ["why"] [.str x]))) = pure (.rt (.tup [.str "refused", .str x])) := by
        refine s_ret_pure (e_tup (e_cons rfl (e_cons ?_ e_nil)))
        show (if a = a ∧ d = d then _ else _ : M D) = _
        rw [if_pos ⟨rfl, rfl⟩]
        rfl
      show ((sRet (dTup (dCons (dCon (.str "refused")) (dCons (dFld 1 a d "why") dNil)))) ((startD 2 [.lam f]).set 1 (some (.exc a d "Refused" ["why"] [.str x])))).wp _ _
      rw [e2]
      exact z
  refine MM.ext fun Q E => ?_
  show (∀ f : Addr, True → (runFn 2 (heardB S f (fE ρ)) [.lam f]).wp Q E) ↔ _
  constructor
  · intro z
    have := z 0 trivial
    rw [key] at this
    exact this
  · intro z f _
    rw [key]
    exact z
end P5

namespace P5
open PySem L2 PyProof.Rows
def lk (l : List Nat) : D := .tup [.int (-(l.length : Int)), lotD l]
def leLot (a b : List Nat) : Bool := leD (lk a) (lk b)
theorem py_lk (l : List Nat) : toPy (lk l) = .tuple [.int (-(l.length : Int)), .tuple (l.map fun n : Nat => PyData.int n)] := by
  show PyData.tuple [.int (-(l.length : Int)), toPy (lotD l)] = _
  rw [py_lot]
theorem ok_lk (l : List Nat) : okD (lk l) = true := by
  unfold okD
  rw [py_lk]
  show ((PyData.canLayAll0 (l.map fun n : Nat => PyData.int n) && true) && decide (max 0 (max (PyData.depthAll (l.map fun n : Nat => PyData.int n) + 1) 0) + 1 ≤ 64)) = true
  rw [(lay_ints l).1, (lay_ints l).2]
  rfl
theorem alike_lk (a b : List Nat) : PySem.W.alike (toPy (lk a)) (toPy (lk b)) = true := by
  rw [py_lk, py_lk]
  simp [PySem.W.alike, PySem.W.alikeAll, alike_ints]
theorem sorted_lots (ls : List (List Nat)) : opSortedT [.lst (ls.map lk)] = some (.lst ((ls.mergeSort leLot).map lk)) := by
  have h : sortOk (ls.map lk) = true := by
    unfold sortOk
    simp only [Bool.and_eq_true, Bool.or_eq_true, List.all_map, List.all_eq_true, Function.comp]
    exact ⟨⟨fun _ _ _ _ => alike_lk _ _, fun _ _ => ok_lk _⟩, .inl fun _ _ => rfl⟩
  show (if sortOk (ls.map lk) = true then some (D.lst ((ls.map lk).mergeSort leD)) else none) = _
  rw [if_pos h, ← List.map_mergeSort (r := leLot) (f := lk) (l := ls) fun _ _ _ _ => rfl]
def lots (n : Nat) : List (List Nat) := (subs n).mergeSort leLot
theorem leLot_len {a b : List Nat} (h : leLot a b = true) : b.length ≤ a.length := by
  refine Nat.le_of_not_lt fun hl => ?_
  have h1 : ltD (lk b) (lk a) = true := by
    unfold ltD
    rw [py_lk, py_lk, PySem.W.dataLt_pair (by simp [PySem.W.alike]) (by rw [PySem.W.alike]; exact alike_ints _ _)]
    have e : PyData.eqv (.int (-(b.length : Int))) (.int (-(a.length : Int))) = false := by
      show ((-(b.length : Int)) == (-(a.length : Int))) = false
      rw [beq_eq_false_iff_ne]
      omega
    rw [e, if_neg Bool.false_ne_true, PySem.W.dataLt_int]
    exact decide_eq_true (by omega)
  unfold leLot leD at h
  rw [h1] at h
  cases h
theorem lots_sorted (n : Nat) : (lots n).Pairwise fun a b => b.length ≤ a.length :=
  (List.pairwise_mergeSort (fun a b c => le_trans_D (lk a) (lk b) (lk c)) (fun a b => le_total_D (lk a) (lk b)) (subs n)).imp fun h => leLot_len h
theorem mem_lots {n : Nat} {l : List Nat} : l ∈ lots n ↔ l.Pairwise (· < ·) ∧ ∀ x ∈ l, x < n := List.mem_mergeSort.trans mem_subs
theorem lots_nodup (n : Nat) : (lots n).Nodup := (List.mergeSort_perm _ _).nodup_iff.mpr (subs_nodup n)
theorem lots_len (n : Nat) : (lots n).length = 2 ^ n := by
  unfold lots
  rw [List.length_mergeSort, subs_len]
def allB (fe : EM) : SM := (sSetF [] (dBin opAdd (dVar 1) (dLc [3] (iSeq (dVar 1)) (gdName 3) dYes fe)) (gdName 1))
def allS (fe fk : EM) : SM :=
  (sSeq (sSetF [] (dLst (dCons (dTup dNil) dNil)) (gdName 1))
  (sSeq (sFor [] (iArgs opRng1 (dCons (dVar 0) dNil)) (gdName 2) (allB fe))
  (sRet (dLc [4, 3] (iSeq (dCall opSortedT (dCons (dLc [3] (iSeq (dVar 1)) (gdName 3) dYes fk) dNil))) (gdTup 2 (gsCons (gdName 4) (gsCons (gdName 3) gsNil))) dYes (dVar 3)))))
theorem all_loop {fe : EM} (n : D) (hfe : ∀ (i : Nat) (l : List Nat) (o : D), l.length ≤ i → i ≤ 20 → fe [some n, some o, some (iD i), some (lotD l), none] = pure (lotD (l ++ [i]))) :
    ∀ (k i : Nat) (o2 : Option D), i + k ≤ 20 → ∃ o2', forL [] (gdName 2) (allB fe) ((List.range' i k).map iD) [some n, some (.lst ((subs i).map lotD)), o2, none, none] = pure (.nx [some n, some (.lst ((subs (i + k)).map lotD)), o2', none, none])
  | 0, i, o2, _ => ⟨o2, rfl⟩
  | k + 1, i, o2, h => by
    obtain ⟨o2', ih⟩ := all_loop n hfe k (i + 1) (some (iD i)) (by omega)
    refine ⟨o2', ?_⟩
    rw [List.range'_succ, List.map_cons]
    have hl : ∀ l ∈ subs i, l.length ≤ i := fun l hl => subs_le hl
    have e1 : dLc [3] (iSeq (dVar 1)) (gdName 3) dYes fe [some n, some (.lst ((subs i).map lotD)), some (iD i), none, none] = pure (.lst (((subs i).map (· ++ [i])).map lotD)) := by
      refine e_lc (e_seq (e_var rfl) rfl) ?_
      refine (lcL_map (fun d => match d with
        | .tup xs => .tup (xs ++ [iD i])
        | _ => .non) fun x hx => ?_).trans ?_
      · obtain ⟨l, hl', rfl⟩ := List.mem_map.mp hx
        refine ⟨[(3, lotD l)], rfl, rfl, rfl, ?_⟩
        have h2 := hfe i l (.lst ((subs i).map lotD)) (hl l hl') (by omega)
        refine Eq.trans h2 ?_
        show (pure (D.tup ((l ++ [i]).map iD)) : M D) = pure (D.tup (l.map iD ++ [iD i]))
        rw [List.map_append]
        rfl
      · rw [List.map_map, List.map_map]
        congr 1
        refine List.map_congr_left fun l _ => ?_
        show D.tup (l.map iD ++ [iD i]) = D.tup ((l ++ [i]).map iD)
        rw [List.map_append]
        rfl
    refine (forL_go (ρ' := [some n, some (.lst ((subs (i + 1)).map lotD)), some (iD i), none, none]) ?_).trans ?_
    · refine (s_set_pure (e_bin (e_var rfl) e1 ?_)).trans rfl
      show (if ((subs i).map lotD).length + (((subs i).map (· ++ [i])).map lotD).length ≤ 16777216 then some (D.lst (((subs i).map lotD) ++ (((subs i).map (· ++ [i])).map lotD))) else none) = some (D.lst ((subs (i + 1)).map lotD))
      rw [if_pos, subs, List.map_append]
      rw [List.length_map, List.length_map, List.length_map, subs_len]
      have : 2 ^ i ≤ 2 ^ 20 := Nat.pow_le_pow_right (by decide) (by omega)
      omega
    · rw [ih, Nat.add_assoc, Nat.add_comm 1 k]
def lkD : D → D
  | .tup xs => .tup [.int (-(xs.length : Int)), .tup xs]
  | d => d
theorem lkD_eq (l : List Nat) : lkD (lotD l) = lk l := by
  show D.tup [.int (-((l.map iD).length : Int)), .tup (l.map iD)] = _
  rw [List.length_map]
  rfl
theorem all_ok {fe fk : EM} {n : Nat} (hn : n ≤ 20) (hfe : ∀ (i : Nat) (l : List Nat) (o : D), l.length ≤ i → i ≤ 20 → fe [some (iD n), some o, some (iD i), some (lotD l), none] = pure (lotD (l ++ [i])))
    (hfk : ∀ (l : List Nat) (o1 : D) (o2 : Option D), fk [some (iD n), some o1, o2, some (lotD l), none] = pure (lk l)) : runFn 5 (allS fe fk) [iD n] = pure (.lst ((lots n).map lotD)) := by
  obtain ⟨o2, e⟩ := all_loop (iD n) hfe n 0 none (by omega)
  rw [Nat.zero_add] at e
  refine run_rt ?_
  show allS fe fk [some (iD n), none, none, none, none] = _
  refine (s_seq (ρ' := [some (iD n), some (.lst [.tup []]), none, none, none]) (s_set_pure (e_lst (e_cons (e_tup e_nil) e_nil)))).trans ?_
  refine (s_seq (ρ' := [some (iD n), some (.lst ((subs n).map lotD)), o2, none, none]) ((s_for_pure (e_args (e_cons (e_var rfl) e_nil) (rng1 (by omega)))).trans ?_)).trans ?_
  · rw [List.range_eq_range']
    exact e
  · refine s_ret_pure (e_lc (xs := (lots n).map lk) (e_seq (e_call (e_cons (e_lc (xs := (subs n).map lotD) (ys := (subs n).map lk) (e_seq (e_var rfl) rfl) ?_) e_nil) (sorted_lots _)) rfl) ?_)
    · refine (lcL_map lkD fun x hx => ?_).trans ?_
      · obtain ⟨l, _, rfl⟩ := List.mem_map.mp hx
        refine ⟨[(3, lotD l)], rfl, rfl, rfl, ?_⟩
        rw [lkD_eq]
        exact hfk l _ _
      · rw [List.map_map]
        exact congrArg pure (List.map_congr_left fun l _ => lkD_eq l)
    · refine (lcL_map (fun d => match d with
        | .tup [_, x] => x
        | _ => .non) fun x hx => ?_).trans ?_
      · obtain ⟨l, _, rfl⟩ := List.mem_map.mp hx
        exact ⟨[(4, .int (-(l.length : Int))), (3, lotD l)], rfl, rfl, rfl, rfl⟩
      · rw [List.map_map]
        exact congrArg pure (List.map_congr_left fun l _ => rfl)

theorem maxD_in : ∀ (ds : List D) (d : D), maxD d ds ∈ d :: ds
  | [], d => List.mem_singleton.mpr rfl
  | y :: ds, d => by
    have h := maxD_in ds (if ltD d y = true then y else d)
    show maxD (if ltD d y = true then y else d) ds ∈ _
    rcases List.mem_cons.mp h with e | e
    · rw [e]
      split
      · exact List.mem_cons_of_mem _ List.mem_cons_self
      · exact List.mem_cons_self
    · exact List.mem_cons_of_mem _ (List.mem_cons_of_mem _ e)
theorem leD_refl (a : D) : leD a a = true := by
  have := le_total_D a a
  rwa [Bool.or_self] at this
theorem maxD_ge : ∀ (ds : List D) (d : D), leD d (maxD d ds) = true ∧ ∀ x ∈ ds, leD x (maxD d ds) = true
  | [], d => ⟨leD_refl d, fun _ h => nomatch h⟩
  | y :: ds, d => by
    obtain ⟨h1, h2⟩ := maxD_ge ds (if ltD d y = true then y else d)
    show leD d (maxD (if ltD d y = true then y else d) ds) = true ∧ ∀ x ∈ y :: ds, leD x (maxD (if ltD d y = true then y else d) ds) = true
    have hk : leD d (if ltD d y = true then y else d) = true ∧ leD y (if ltD d y = true then y else d) = true := by
      split
      · rename_i h
        refine ⟨?_, leD_refl y⟩
        rcases Bool.or_eq_true_iff.mp (le_total_D d y) with z | z
        · exact z
        · unfold leD at z
          rw [h] at z
          cases z
      · rename_i h
        refine ⟨leD_refl d, ?_⟩
        unfold leD
        rw [Bool.not_eq_true']
        exact Bool.eq_false_iff.mpr h
    refine ⟨le_trans_D _ _ _ hk.1 h1, fun x hx => ?_⟩
    rcases List.mem_cons.mp hx with rfl | hx
    · exact le_trans_D _ _ _ hk.2 h1
    · exact h2 x hx
theorem max_ints {l : List Int} {m : Int} (hm : m ∈ l) (h : ∀ x ∈ l, x ≤ m) : opMax [.lst (l.map D.int)] = some (.int m) := by
  cases l with
  | nil => cases hm
  | cons x l =>
    have ha : alAll (D.int x :: l.map D.int) = true := by
      unfold alAll
      rw [List.all_eq_true]
      intro a ha
      have : ∃ i, a = D.int i := by
        rcases List.mem_cons.mp ha with rfl | h
        · exact ⟨_, rfl⟩
        · obtain ⟨i, _, rfl⟩ := List.mem_map.mp h
          exact ⟨i, rfl⟩
      obtain ⟨i, rfl⟩ := this
      rw [Bool.and_eq_true]
      refine ⟨rfl, List.all_eq_true.mpr fun b hb => ?_⟩
      rcases List.mem_cons.mp hb with rfl | h
      · rfl
      · obtain ⟨j, _, rfl⟩ := List.mem_map.mp h
        rfl
    show (if alAll (D.int x :: l.map D.int) = true then some (maxD (D.int x) (l.map D.int)) else none) = _
    rw [if_pos ha]
    have h1 : maxD (D.int x) (l.map D.int) ∈ (x :: l).map D.int := maxD_in (l.map D.int) (D.int x)
    obtain ⟨y, hy, e⟩ := List.mem_map.mp h1
    have h2 : ∀ z ∈ x :: l, leD (.int z) (.int y) = true := fun z hz => by
      rw [e]
      rcases List.mem_cons.mp hz with rfl | hz
      · exact (maxD_ge _ _).1
      · exact (maxD_ge _ _).2 _ (List.mem_map.mpr ⟨z, hz, rfl⟩)
    have h3 := h2 m hm
    unfold leD at h3
    rw [ltD_int, Bool.not_eq_true', decide_eq_false_iff_not] at h3
    have h4 := h y hy
    rw [← e, show y = m by omega]
end P5

namespace P5
open PySem L2 PyProof.Rows
theorem nr {α : Sort _} {a b : α} (h : a = b) : a = b := h
section
variable {ρ : Env'} {f g h : EM} {p q : Env' → M Bool} {ga : Env' → M (List D)} {op op' : D → D → Option D} {u : D → Option D} {a b c : D} {i j l n : Nat} {mu vs : List Nat} {gd : GD} {s s' : SM} {xs ys : List D} {t : Bool} {e : Err}
def vK : Option (Option D) → M D
  | some (some d) => pure d
  | _ => M.fail
def binK (op : D → D → Option D) (m n : M D) : M D := m >>= fun a => n >>= fun b => M.opt (op a b)
def unK (u : D → Option D) (m : M D) : M D := m >>= fun a => M.opt (u a)
def consK (m : M D) (n : M (List D)) : M (List D) := m >>= fun d => n >>= fun ds => pure (d :: ds)
def starK (m : M D) (n : M (List D)) : M (List D) := m >>= fun d => M.opt (itemsD d) >>= fun xs => n >>= fun ds => pure (xs ++ ds)
def tupK (m : M (List D)) : M D := m >>= fun ds => M.opt (mkTup ds)
def lstK (m : M (List D)) : M D := m >>= fun ds => M.opt (mkLst ds)
def callK (o : List D → Option D) (m : M (List D)) : M D := m >>= fun ds => M.opt (o ds)
def callMK (n : Nat) (fM : List D → M D) (m : M (List D)) : M D := m >>= callM n fM
def bK (m : M D) : M Bool := m >>= fun d => M.opt (asB d)
def tK (m : M D) : M Bool := m >>= fun d => M.opt (truD d)
def ntK (m : M Bool) : M Bool := m >>= fun b => pure (!b)
def andTK (m : M Bool) (q : Env' → M Bool) (ρ : Env') : M Bool := m >>= fun b => if b = true then q ρ else pure false
def orTK (m : M Bool) (q : Env' → M Bool) (ρ : Env') : M Bool := m >>= fun b => if b = true then pure true else q ρ
def notK (m : M D) : M D := m >>= fun d => M.opt (truD d) >>= fun b => pure (.bl (!b))
def andK (m : M D) (g : EM) (ρ : Env') : M D := m >>= fun d => M.opt (truD d) >>= fun b => if b = true then g ρ else pure d
def and2K (o : Option Bool) (d : D) (g : EM) (ρ : Env') : M D := M.opt o >>= fun b => if b = true then g ρ else pure d
def orK (m : M D) (g : EM) (ρ : Env') : M D := m >>= fun d => M.opt (truD d) >>= fun b => if b = true then pure d else g ρ
def or2K (o : Option Bool) (d : D) (g : EM) (ρ : Env') : M D := M.opt o >>= fun b => if b = true then pure d else g ρ
def ifK (m : M Bool) (f g : EM) (ρ : Env') : M D := m >>= fun b => if b = true then f ρ else g ρ
def chK (o o' : D → D → Option D) (m n : M D) (h : EM) (ρ : Env') : M D := m >>= fun x => n >>= fun y => M.opt (o x y) >>= fun z => M.opt (asB z) >>= fun k => if k = true then h ρ >>= fun w => M.opt (o' y w) else pure (.bl false)
def ch2K (o : Option D) (o' : D → D → Option D) (y : D) (h : EM) (ρ : Env') : M D := M.opt o >>= fun z => M.opt (asB z) >>= fun k => if k = true then h ρ >>= fun w => M.opt (o' y w) else pure (.bl false)
def ch3K (o' : D → D → Option D) (y : D) (m : M D) : M D := m >>= fun w => M.opt (o' y w)
def slK (m : M D) (l h : M (Option Int)) : M D := m >>= fun d => l >>= fun l => h >>= fun h => M.opt (opSl d l h)
def slSK (m : M D) (l h st : M (Option Int)) : M D := m >>= fun d => l >>= fun l => h >>= fun h => st >>= fun t => M.opt (opSlS d l h t)
def slAK (m : M D) (l h st : M (Option Int)) : M D := m >>= fun d => l >>= fun l => h >>= fun h => st >>= fun t => M.opt (opSlA d l h t)
def someK (m : M D) : M (Option Int) := m >>= fun d => M.opt (asI d) >>= fun i => pure (some i)
def lcK (vs : List Nat) (gd : GD) (tt : Env' → M Bool) (fe : EM) (ρ : Env') (m : M (List D)) : M D := m >>= fun ds => lcL vs gd tt fe ρ ds >>= fun r => pure (.lst r)
def lcF (m : M (List D)) : M D := m >>= fun r => pure (.lst r)
def seqIK (m : M D) : M (List D) := m >>= fun d => M.opt (seqD d)
def argsK (o : List D → Option (List D)) (m : M (List D)) : M (List D) := m >>= fun ds => M.opt (o ds)
def b1K (m : M D) : M (List D) := m >>= fun d => M.opt (asI d) >>= fun i => pure [.int 0, .int i]
def b2K (m n : M D) : M (List D) := m >>= fun d => n >>= fun e => M.opt (asI d) >>= fun i => M.opt (asI e) >>= fun j => pure [.int i, .int j]
theorem ev1 : dVar i ρ = vK ρ[i]? := by
  unfold dVar vK
  cases ρ[i]? with
  | none => rfl
  | some o => cases o <;> rfl
theorem ev2 : vK (some (some a)) = pure a := nr rfl
theorem ev3 : dCon a ρ = pure a := nr rfl
theorem ev4 : dBin op f g ρ = binK op (f ρ) (g ρ) := nr rfl
theorem ev5 : binK op (pure a) (pure b) = M.opt (op a b) := nr rfl
theorem ev6 : dUn u f ρ = unK u (f ρ) := nr rfl
theorem ev7 : unK u (pure a) = M.opt (u a) := nr rfl
theorem ev8 : dNil ρ = pure [] := nr rfl
theorem ev9 : dCons f ga ρ = consK (f ρ) (ga ρ) := nr rfl
theorem ev10 : consK (pure a) (pure xs) = pure (a :: xs) := nr rfl
theorem ev11 : dStar f ga ρ = starK (f ρ) (ga ρ) := nr rfl
theorem ev12 : starK (pure (.tup ys)) (pure xs) = pure (ys ++ xs) := nr rfl
theorem ev13 : starK (pure (.lst ys)) (pure xs) = pure (ys ++ xs) := nr rfl
theorem ev14 : dTup ga ρ = tupK (ga ρ) := nr rfl
theorem ev15 : tupK (pure xs) = M.opt (mkTup xs) := nr rfl
theorem ev16 : dLst ga ρ = lstK (ga ρ) := nr rfl
theorem ev17 : lstK (pure xs) = M.opt (mkLst xs) := nr rfl
theorem ev18 (h : xs.length ≤ 16777216) : mkTup xs = some (.tup xs) := nr (if_pos h)
theorem ev19 (h : xs.length ≤ 16777216) : mkLst xs = some (.lst xs) := nr (if_pos h)
theorem ev20 {o : List D → Option D} : dCall o ga ρ = callK o (ga ρ) := nr rfl
theorem ev21 {o : List D → Option D} : callK o (pure xs) = M.opt (o xs) := nr rfl
theorem ev22 {fM : List D → M D} : dCallM n fM ga ρ = callMK n fM (ga ρ) := nr rfl
theorem ev23 {fM : List D → M D} {a : D} : callMK 1 fM (pure [a]) = fM [a] := nr rfl
theorem ev24 {fM : List D → M D} {a b : D} : callMK 2 fM (pure [a, b]) = fM [a, b] := nr rfl
theorem ev25 {fM : List D → M D} {a b c : D} : callMK 3 fM (pure [a, b, c]) = fM [a, b, c] := nr rfl
theorem ev26 {fM : List D → M D} {a b c d : D} : callMK 4 fM (pure [a, b, c, d]) = fM [a, b, c, d] := nr rfl
theorem ev27 {fM : List D → M D} {a b c d e : D} : callMK 5 fM (pure [a, b, c, d, e]) = fM [a, b, c, d, e] := nr rfl
theorem ev28 : dB f ρ = bK (f ρ) := nr rfl
theorem ev29 : bK (pure (.bl t)) = pure t := nr rfl
theorem ev30 : dT f ρ = tK (f ρ) := nr rfl
theorem ev31 : tK (pure a) = M.opt (truD a) := nr rfl
theorem ev32 : dNotT p ρ = ntK (p ρ) := nr rfl
theorem ev33 : ntK (pure t) = pure (!t) := nr rfl
theorem ev34 : dAndT p q ρ = andTK (p ρ) q ρ := nr rfl
theorem ev35 : andTK (pure true) q ρ = q ρ := nr rfl
theorem ev36 : andTK (pure false) q ρ = pure false := nr rfl
theorem ev37 : dOrT p q ρ = orTK (p ρ) q ρ := nr rfl
theorem ev38 : orTK (pure true) q ρ = pure true := nr rfl
theorem ev39 : orTK (pure false) q ρ = q ρ := nr rfl
theorem ev40 : dNot f ρ = notK (f ρ) := nr rfl
theorem ev41 : dAnd f g ρ = andK (f ρ) g ρ := nr rfl
theorem ev42 : andK (pure a) g ρ = and2K (truD a) a g ρ := nr rfl
theorem ev43 : and2K (some true) a g ρ = g ρ := nr rfl
theorem ev44 : and2K (some false) a g ρ = pure a := nr rfl
theorem ev45 : dOr f g ρ = orK (f ρ) g ρ := nr rfl
theorem ev46 : orK (pure a) g ρ = or2K (truD a) a g ρ := nr rfl
theorem ev47 : or2K (some true) a g ρ = pure a := nr rfl
theorem ev48 : or2K (some false) a g ρ = g ρ := nr rfl
theorem ev49 : dIf p f g ρ = ifK (p ρ) f g ρ := nr rfl
theorem ev50 : ifK (pure true) f g ρ = f ρ := nr rfl
theorem ev51 : ifK (pure false) f g ρ = g ρ := nr rfl
theorem ev52 : dChain op op' f g h ρ = chK op op' (f ρ) (g ρ) h ρ := nr rfl
theorem ev53 : chK op op' (pure a) (pure b) h ρ = ch2K (op a b) op' b h ρ := nr rfl
theorem ev54 : ch2K (some (.bl true)) op' b h ρ = ch3K op' b (h ρ) := nr rfl
theorem ev55 : ch2K (some (.bl false)) op' b h ρ = pure (.bl false) := nr rfl
theorem ev56 : ch3K op b (pure c) = M.opt (op b c) := nr rfl
theorem ev57 {lo hi : Env' → M (Option Int)} : dSl f lo hi ρ = slK (f ρ) (lo ρ) (hi ρ) := nr rfl
theorem ev58 {lo hi : Option Int} : slK (pure a) (pure lo) (pure hi) = M.opt (opSl a lo hi) := nr rfl
theorem ev59 {lo hi st : Env' → M (Option Int)} : dSlS f lo hi st ρ = slSK (f ρ) (lo ρ) (hi ρ) (st ρ) := nr rfl
theorem ev60 {lo hi st : Option Int} : slSK (pure a) (pure lo) (pure hi) (pure st) = M.opt (opSlS a lo hi st) := nr rfl
theorem ev61 {lo hi st : Env' → M (Option Int)} : dSlA f lo hi st ρ = slAK (f ρ) (lo ρ) (hi ρ) (st ρ) := nr rfl
theorem ev62 {lo hi st : Option Int} : slAK (pure a) (pure lo) (pure hi) (pure st) = M.opt (opSlA a lo hi st) := nr rfl
theorem ev63 : dNone ρ = pure none := nr rfl
theorem ev64 : dSome f ρ = someK (f ρ) := nr rfl
theorem ev65 {i : Int} : someK (pure (.int i)) = pure (some i) := nr rfl
theorem ev66 {fi : Env' → M (List D)} {tt : Env' → M Bool} {fe : EM} : dLc vs fi gd tt fe ρ = lcK vs gd tt fe ρ (fi ρ) := nr rfl
theorem ev67 {tt : Env' → M Bool} {fe : EM} : lcK vs gd tt fe ρ (pure xs) = lcF (lcL vs gd tt fe ρ xs) := nr rfl
theorem ev68 : lcF (pure xs) = pure (.lst xs) := nr rfl
theorem ev69 : iSeq f ρ = seqIK (f ρ) := nr rfl
theorem ev70 : seqIK (pure a) = M.opt (seqD a) := nr rfl
theorem ev71 {o : List D → Option (List D)} : iArgs o ga ρ = argsK o (ga ρ) := nr rfl
theorem ev72 {o : List D → Option (List D)} : argsK o (pure xs) = M.opt (o xs) := nr rfl
theorem ev73 : bnd1 f ρ = b1K (f ρ) := nr rfl
theorem ev74 {i : Int} : b1K (pure (.int i)) = pure [.int 0, .int i] := nr rfl
theorem ev75 : bnd2 f g ρ = b2K (f ρ) (g ρ) := nr rfl
theorem ev76 {i j : Int} : b2K (pure (.int i)) (pure (.int j)) = pure [.int i, .int j] := nr rfl
theorem ev77 {α : Type} {x : α} : (M.opt (some x) : M α) = pure x := nr rfl
theorem ev78 {t : Bool} : truD (.bl t) = some t := nr rfl
theorem ev79 : truD .non = some false := nr rfl
theorem ev80 : truD (.tup xs) = some (!xs.isEmpty) := nr rfl
theorem ev81 : truD (.lst xs) = some (!xs.isEmpty) := nr rfl
theorem ev82 : notK (pure (.bl t)) = pure (.bl (!t)) := nr rfl
theorem ev83 : seqD (.tup xs) = some xs := nr rfl
theorem ev84 : seqD (.lst xs) = some xs := nr rfl
theorem ev85 : opLen [.tup xs] = some (.int xs.length) := nr rfl
theorem ev86 : opLen [.lst xs] = some (.int xs.length) := nr rfl
theorem ev87 : opTuple [.lst xs] = some (.tup xs) := nr rfl
theorem ev88 : opTuple [.tup xs] = some (.tup xs) := nr rfl
theorem ev89 : opList [.lst xs] = some (.lst xs) := nr rfl
theorem ev90 : opList [.tup xs] = some (.lst xs) := nr rfl
theorem ev91 (h : xs.length + ys.length ≤ 16777216) : opAdd (.tup xs) (.tup ys) = some (.tup (xs ++ ys)) := nr (if_pos h)
theorem ev92 (h : xs.length + ys.length ≤ 16777216) : opAdd (.lst xs) (.lst ys) = some (.lst (xs ++ ys)) := nr (if_pos h)
theorem ev93 {i : Int} : opNeg (.int i) = some (.int (-i)) := nr rfl
theorem ev94 {lo hi : Option Int} : opSl (.tup xs) lo hi = some (.tup (cutD xs lo hi)) := nr rfl
theorem ev95 {lo hi : Option Int} : opSl (.lst xs) lo hi = some (.lst (cutD xs lo hi)) := nr rfl
theorem ev96 : opIsN a .non = some (.bl (isNon a)) := nr rfl
theorem ev97 : opNotN a .non = some (.bl (!isNon a)) := nr rfl
theorem ev98 : isNon .non = true := nr rfl
theorem ev99 {i : Int} : isNon (.int i) = false := nr rfl
theorem ev100 : isNon (.tup xs) = false := nr rfl
theorem ev101 : isNon (.lst xs) = false := nr rfl
theorem ev102 {i j : Int} : opMin2 [.int i, .int j] = some (.int (min i j)) := by
  show some (D.int (if j < i then j else i)) = _
  rw [show (if j < i then j else i) = min i j by split <;> omega]
theorem ev103 {i j : Int} : opMax2 [.int i, .int j] = some (.int (max i j)) := by
  show some (D.int (if j > i then j else i)) = _
  rw [show (if j > i then j else i) = max i j by split <;> omega]
theorem ev104 {fM : List D → M D} {a b c d e e' : D} : callMK 6 fM (pure [a, b, c, d, e, e']) = fM [a, b, c, d, e, e'] := nr rfl
theorem ev105 {i j : Int} : opLe (.int i) (.int j) = some (.bl (decide (i ≤ j))) := by
  rw [opLe_int, ← decide_not]
  exact congrArg (fun b => some (D.bl b)) (decide_eq_decide.mpr Int.not_lt)
theorem ev106 {i j : Int} : opGe (.int i) (.int j) = some (.bl (decide (j ≤ i))) := by
  rw [opGe_int, ← decide_not]
  exact congrArg (fun b => some (D.bl b)) (decide_eq_decide.mpr Int.not_lt)
theorem ev107 {i : Int} : opInt [.int i] = some (.int i) := nr rfl
theorem ev108 {t : Bool} : opInt [.bl t] = some (.int (if t = true then 1 else 0)) := nr rfl
theorem ev109 {t : Bool} : isNon (.bl t) = false := nr rfl
end
section
variable {ρ ρ' : Env'} {f g h : EM} {p q : Env' → M Bool} {ga : Env' → M (List D)} {op op' : D → D → Option D} {u : D → Option D} {a b c : D} {i j l n : Nat} {mu vs : List Nat} {gd : GD} {s s' : SM} {xs ys : List D} {t : Bool} {e : Err}
def seqK (m : MS Fl) (s' : SM) : MS Fl := m >>= fun r => match r with
  | .nx ρ' => s' ρ'
  | o => pure o
def retK (ρ : Env') (m : M D) : MS Fl := liftI ρ m >>= fun d => pure (.rt d)
def dropK (ρ : Env') (m : M D) : MS Fl := liftI ρ m >>= fun _ => pure (.nx ρ)
def sifK (m : M Bool) (s s' : SM) (ρ : Env') : MS Fl := liftI ρ m >>= fun b => if b = true then s ρ else s' ρ
def setFK (mu : List Nat) (gd : GD) (ρ : Env') (m : M D) : MS Fl := liftF ρ m >>= fun d => M.opt (gd d) >>= fun l => if okSets mu l = true then pure (.nx (setsD ρ l)) else M.fail
def setIK (mu : List Nat) (gd : GD) (ρ : Env') (m : M D) : MS Fl := liftI ρ m >>= fun d => if immD d = true then M.opt (gd d) >>= fun l => if okSets mu l = true then pure (.nx (setsD ρ l)) else M.fail else M.fail
def set2K (mu : List Nat) (ρ : Env') (o : Option (List (Nat × D))) : MS Fl := M.opt o >>= fun l => if okSets mu l = true then pure (.nx (setsD ρ l)) else M.fail
def set3K (t : Bool) (ρ : Env') : MS Fl := if t = true then pure (.nx ρ) else M.fail
def augK (i : Nat) (op : D → D → Option D) (ρ : Env') (m n : M D) : MS Fl := liftI ρ m >>= fun a => liftI ρ n >>= fun b => M.opt (op a b) >>= fun r => if immD r = true then pure (.nx (ρ.set i (some r))) else M.fail
def aug2K (i : Nat) (ρ : Env') (o : Option D) : MS Fl := M.opt o >>= fun r => if immD r = true then pure (.nx (ρ.set i (some r))) else M.fail
def parFK (mu : List Nat) (i j : Nat) (ρ : Env') (m : M (List D)) : MS Fl := liftF ρ m >>= fun ds => match ds with
  | [a, b] => if okSets mu [(i, a), (j, b)] = true then pure (.nx ((ρ.set i (some a)).set j (some b))) else M.fail
  | _ => M.fail
def parK (i j : Nat) (ρ : Env') (m : M (List D)) : MS Fl := liftI ρ m >>= fun ds => match ds with
  | [a, b] => if immD a = true ∧ immD b = true then pure (.nx ((ρ.set i (some a)).set j (some b))) else M.fail
  | _ => M.fail
def par3K (mu : List Nat) (i j l : Nat) (ρ : Env') (m : M (List D)) : MS Fl := liftF ρ m >>= fun ds => match ds with
  | [a, b, c] => if okSets mu [(i, a), (j, b), (l, c)] = true then pure (.nx (((ρ.set i (some a)).set j (some b)).set l (some c))) else M.fail
  | _ => M.fail
def forK (mu : List Nat) (gd : GD) (s : SM) (ρ : Env') (m : M (List D)) : MS Fl := liftF ρ m >>= fun ds => forL mu gd s ds ρ
def ownFK (i : Nat) (ρ : Env') (m : M D) : MS Fl := liftF ρ m >>= fun d => pure (.nx (ρ.set i (some d)))
def ownIK (i : Nat) (ρ : Env') (m : M D) : MS Fl := liftI ρ m >>= fun d => if immIn d = true then pure (.nx (ρ.set i (some d))) else M.fail
def appFK (i : Nat) (ρ : Env') (o : Option (List D)) (m : M D) : MS Fl := M.opt o >>= fun xs => liftF ρ m >>= fun d => if xs.length < 16777216 then pure (.nx (ρ.set i (some (.lst (xs ++ [d]))))) else M.fail
def appIK (i : Nat) (ρ : Env') (o : Option (List D)) (m : M D) : MS Fl := M.opt o >>= fun xs => liftI ρ m >>= fun d => if immD d = true ∧ xs.length < 16777216 then pure (.nx (ρ.set i (some (.lst (xs ++ [d]))))) else M.fail
def extFK (i : Nat) (ρ : Env') (o : Option (List D)) (m : M D) : MS Fl := M.opt o >>= fun xs => liftF ρ m >>= fun d => M.opt (asL d) >>= fun zs => if xs.length + zs.length ≤ 16777216 then pure (.nx (ρ.set i (some (.lst (xs ++ zs))))) else M.fail
def putIK (i : Nat) (ρ : Env') (o : Option (Nat × List (D × D))) (m n : M D) : MS Fl := M.opt o >>= fun c => liftI ρ m >>= fun v => liftI ρ n >>= fun k =>
  if immD v = true ∧ immD k = true ∧ keyOk c.1 k = true ∧ c.2.length < 16777216 then pure (.nx (ρ.set i (some (.dct c.1 (putD c.2 k v))))) else M.fail
def raiseK (nm : Str) (ns : List Str) (ρ : Env') (m : M (List D)) : MS Fl := liftI ρ m >>= fun ds => if ds.length = ns.length ∧ immD.immL ds = true then M.raise (⟨nm, ns.zip ds⟩, ρ) else M.fail
def runK (m : MS Fl) : M D := ⟨fun Q E => m.wp (fun r => match r with
  | .rt d => Q d
  | .nx _ => Q .non
  | _ => False) (fun e => E e.1), fun q e h => MM.mono _ (fun r z => by
    cases r with
    | rt d => exact q _ z
    | nx ρ => exact q _ z
    | bk ρ => exact z
    | ct ρ => exact z) (fun _ z => e _ z) h⟩
def fill : Nat → List D → Env'
  | 0, _ => []
  | n + 1, [] => none :: fill n []
  | n + 1, d :: ds => some d :: fill n ds
def lstA : Option (Option D) → Option (List D)
  | some (some (.lst xs)) => some xs
  | _ => none
def dctA : Option (Option D) → Option (Nat × List (D × D))
  | some (some (.dct n kvs)) => some (n, kvs)
  | _ => none
theorem fill_eq : ∀ (n : Nat) (ds : List D), ds.length ≤ n → startD n ds = fill n ds
  | 0, [], _ => rfl
  | n + 1, [], _ => by
    have ih := fill_eq n [] (Nat.zero_le _)
    unfold startD at ih ⊢
    rw [List.map_nil, List.nil_append, List.length_nil, Nat.sub_zero] at ih ⊢
    rw [List.replicate_succ, fill, ih]
  | n + 1, d :: ds, h => by
    have ih := fill_eq n ds (Nat.le_of_succ_le_succ h)
    unfold startD at ih ⊢
    rw [List.map_cons, List.cons_append, List.length_cons, fill, ← ih, Nat.add_sub_add_right]
theorem es1 : sNil ρ = pure (.nx ρ) := nr rfl
theorem es2 : sSeq s s' ρ = seqK (s ρ) s' := nr rfl
theorem es3 : seqK (pure (.nx ρ)) s' = s' ρ := nr rfl
theorem es4 : seqK (pure (.rt a)) s' = pure (.rt a) := nr rfl
theorem es5 : seqK (pure (.ct ρ)) s' = pure (.ct ρ) := nr rfl
theorem es6 : seqK (pure (.bk ρ)) s' = pure (.bk ρ) := nr rfl
theorem es7 : sRet f ρ = retK ρ (f ρ) := nr rfl
theorem es8 : retK ρ (pure a) = pure (.rt a) := nr rfl
theorem es9 : sDrop f ρ = dropK ρ (f ρ) := nr rfl
theorem es10 : dropK ρ (pure a) = pure (.nx ρ) := nr rfl
theorem es11 : sIf p s s' ρ = sifK (p ρ) s s' ρ := nr rfl
theorem es12 : sifK (pure true) s s' ρ = s ρ := nr rfl
theorem es13 : sifK (pure false) s s' ρ = s' ρ := nr rfl
theorem es14 : sSetF mu f gd ρ = setFK mu gd ρ (f (hide mu ρ)) := nr rfl
theorem es15 : setFK mu gd ρ (pure a) = set2K mu ρ (gd a) := nr rfl
theorem es16 {l : List (Nat × D)} : set2K mu ρ (some l) = set3K (okSets mu l) (setsD ρ l) := nr rfl
theorem es17 : set3K true ρ = pure (.nx ρ) := nr rfl
theorem es18 : sSetI mu f gd ρ = setIK mu gd ρ (f ρ) := nr rfl
theorem es19 (h : immD a = true) : setIK mu gd ρ (pure a) = set2K mu ρ (gd a) := nr (if_pos h)
theorem es20 : gdName i a = some [(i, a)] := nr rfl
theorem es21 {l : List (Nat × D)} : setsD ρ ((i, a) :: l) = setsD (ρ.set i (some a)) l := nr rfl
theorem es22 : setsD ρ [] = ρ := nr rfl
theorem es23 {l : List (Nat × D)} : okSets mu ((i, a) :: l) = (!(mu.contains i && isMut a) && okSets mu l) := nr rfl
theorem es24 : okSets mu [] = true := nr rfl
theorem es25 {l : List (Nat × D)} : okSets [] l = true := by
  unfold okSets
  exact List.all_eq_true.mpr fun _ _ => rfl
theorem es26 : sAug mu i op f ρ = augK i op ρ (dVar i ρ) (f ρ) := nr rfl
theorem es27 : augK i op ρ (pure a) (pure b) = aug2K i ρ (op a b) := nr rfl
theorem es28 (h : immD a = true) : aug2K i ρ (some a) = pure (.nx (ρ.set i (some a))) := nr (if_pos h)
theorem es29 : sParF mu i j ga ρ = parFK mu i j ρ (ga (hide mu ρ)) := nr rfl
theorem es30 : parFK mu i j ρ (pure [a, b]) = set3K (okSets mu [(i, a), (j, b)]) ((ρ.set i (some a)).set j (some b)) := nr rfl
theorem es31 : sPar mu i j ga ρ = parK i j ρ (ga ρ) := nr rfl
theorem es32 (h : immD a = true) (h' : immD b = true) : parK i j ρ (pure [a, b]) = pure (.nx ((ρ.set i (some a)).set j (some b))) := nr (if_pos ⟨h, h'⟩)
theorem es33 : sPar3F mu i j l ga ρ = par3K mu i j l ρ (ga (hide mu ρ)) := nr rfl
theorem es34 : par3K mu i j l ρ (pure [a, b, c]) = set3K (okSets mu [(i, a), (j, b), (l, c)]) (((ρ.set i (some a)).set j (some b)).set l (some c)) := nr rfl
theorem es35 {fi : Env' → M (List D)} : sFor mu fi gd s ρ = forK mu gd s ρ (fi (hide mu ρ)) := nr rfl
theorem es36 : forK mu gd s ρ (pure xs) = forL mu gd s xs ρ := nr rfl
theorem es37 : forL mu gd s [] ρ = pure (.nx ρ) := nr rfl
theorem es38 : sOwnF mu i f ρ = ownFK i ρ (f (hide mu ρ)) := nr rfl
theorem es39 : ownFK i ρ (pure a) = pure (.nx (ρ.set i (some a))) := nr rfl
theorem es40 : sOwnI mu i f ρ = ownIK i ρ (f ρ) := nr rfl
theorem es41 (h : immIn a = true) : ownIK i ρ (pure a) = pure (.nx (ρ.set i (some a))) := nr (if_pos h)
theorem lstAt_eq : lstAt ρ i = lstA ρ[i]? := by
  unfold lstAt lstA
  cases ρ[i]? with
  | none => rfl
  | some o => cases o with
    | none => rfl
    | some d => cases d <;> rfl
theorem dctAt_eq : dctAt ρ i = dctA ρ[i]? := by
  unfold dctAt dctA
  cases ρ[i]? with
  | none => rfl
  | some o => cases o with
    | none => rfl
    | some d => cases d <;> rfl
theorem es42 : sAppF mu i f ρ = appFK i ρ (lstA ρ[i]?) (f (hide mu ρ)) := by
  rw [← lstAt_eq]
  rfl
theorem es43 (h : xs.length < 16777216) : appFK i ρ (some xs) (pure a) = pure (.nx (ρ.set i (some (.lst (xs ++ [a]))))) := nr (if_pos h)
theorem es44 : sAppI i f ρ = appIK i ρ (lstA ρ[i]?) (f ρ) := by
  rw [← lstAt_eq]
  rfl
theorem es45 (h : xs.length < 16777216) (h' : immD a = true) : appIK i ρ (some xs) (pure a) = pure (.nx (ρ.set i (some (.lst (xs ++ [a]))))) := nr (if_pos ⟨h', h⟩)
theorem es46 : lstA (some (some (.lst xs))) = some xs := nr rfl
theorem es47 : sExtF mu i f ρ = extFK i ρ (lstA ρ[i]?) (f (hide mu ρ)) := by
  rw [← lstAt_eq]
  rfl
theorem es48 (h : xs.length + ys.length ≤ 16777216) : extFK i ρ (some xs) (pure (.lst ys)) = pure (.nx (ρ.set i (some (.lst (xs ++ ys))))) := nr (if_pos h)
theorem es49 : sPutI i f g ρ = putIK i ρ (dctA ρ[i]?) (g ρ) (f ρ) := by
  rw [← dctAt_eq]
  rfl
theorem es50 {kvs : List (D × D)} : dctA (some (some (.dct n kvs))) = some (n, kvs) := nr rfl
theorem es51 {kvs : List (D × D)} (h1 : immD a = true) (h2 : immD b = true) (h3 : keyOk n b = true) (h4 : kvs.length < 16777216) : putIK i ρ (some (n, kvs)) (pure a) (pure b) = pure (.nx (ρ.set i (some (.dct n (putD kvs b a))))) := nr (if_pos ⟨h1, h2, h3, h4⟩)
theorem es52 {nm : Str} {ns : List Str} : sRaise nm ns ga ρ = raiseK nm ns ρ (ga ρ) := nr rfl
theorem es53 {nm x : Str} {ns : List Str} {k : Str} : raiseK nm [k] ρ (pure [.str x]) = M.raise (⟨nm, [(k, .str x)]⟩, ρ) := nr rfl
theorem es54 : seqK (M.raise (e, ρ)) s' = M.raise (e, ρ) := MM.ext fun _ _ => Iff.rfl
theorem es55 : runFn n s xs = runK (s (startD n xs)) := nr rfl
theorem es56 : runK (pure (.rt a)) = pure a := nr rfl
theorem es57 : runK (pure (.nx ρ)) = pure .non := nr rfl
theorem es58 : runK (M.raise (e, ρ)) = M.raise e := nr rfl
theorem es59 {a : D} : startD (n + 1) [a] = some a :: fill n [] := (fill_eq _ _ (by simp)).trans rfl
theorem es60 {a b : D} : startD (n + 2) [a, b] = some a :: some b :: fill n [] := (fill_eq _ _ (by simp)).trans rfl
theorem es61 {a b c : D} : startD (n + 3) [a, b, c] = some a :: some b :: some c :: fill n [] := (fill_eq _ _ (by simp)).trans rfl
theorem es62 {a b c d : D} : startD (n + 4) [a, b, c, d] = some a :: some b :: some c :: some d :: fill n [] := (fill_eq _ _ (by simp)).trans rfl
theorem es63 {a b c d e : D} : startD (n + 5) [a, b, c, d, e] = some a :: some b :: some c :: some d :: some e :: fill n [] := (fill_eq _ _ (by simp)).trans rfl
theorem es64 : fill (n + 1) [] = none :: fill n [] := nr rfl
theorem es65 : fill 0 [] = [] := nr rfl
theorem es66 : hide [] ρ = ρ := hide_none ρ
theorem es67 {i : Int} : immD (.int i) = true := nr rfl
theorem es67' {i : Int} : immD (.int i) = true := nr rfl
theorem es68 : immD .non = true := nr rfl
theorem es69 : immD (.bl t) = true := nr rfl
theorem es70 : immD (.tup xs) = immD.immL xs := nr rfl
theorem es71 : immD.immL [] = true := nr rfl
theorem es72 : immD.immL (a :: xs) = (immD a && immD.immL xs) := nr rfl
theorem es73 {x : Str} : immD (.str x) = true := nr rfl
theorem es74 {i j : Int} : opAddI (.int i) (.int j) = some (.int (i + j)) := nr rfl
theorem es75 : sifK (pure (!t)) s s' ρ = sifK (pure t) s' s ρ := by cases t <;> rfl
def fl1 (mu : List Nat) (gd : GD) (s : SM) (xs : List D) (m : MS Fl) : MS Fl := m >>= fun r => match r with
      | .nx ρ' => forL mu gd s xs ρ'
      | .ct ρ' => forL mu gd s xs ρ'
      | .bk ρ' => pure (.nx ρ')
      | .rt d => pure (.rt d)
theorem es76 (h : okSets mu [(i, a)] = true) : forL mu (gdName i) s (a :: xs) ρ = fl1 mu (gdName i) s xs (s (ρ.set i (some a))) := by
  show (if okSets mu [(i, a)] = true then _ else _) = _
  rw [if_pos h]
  rfl
theorem es77 : fl1 mu gd s xs (pure (.nx ρ)) = forL mu gd s xs ρ := nr rfl
theorem es78 : fl1 mu gd s xs (pure (.ct ρ)) = forL mu gd s xs ρ := nr rfl
theorem es79 : fl1 mu gd s xs (pure (.bk ρ)) = pure (.nx ρ) := nr rfl
theorem es80 : fl1 mu gd s xs (pure (.rt a)) = pure (.rt a) := nr rfl
theorem es81 {L : List (Nat × D)} (h : gd a = some L) (h' : okSets mu L = true) : forL mu gd s (a :: xs) ρ = fl1 mu gd s xs (s (setsD ρ L)) := by
  show (M.opt (gd a) >>= fun l => if okSets mu l = true then _ else _) = _
  rw [h, M.opt_some, pure_bind, if_pos h']
  rfl
end

section
variable {ρ ρ' : Env'} {vs : List Nat} {gd : GD} {tt : Env' → M Bool} {fe : EM} {xs ys : List D} {a b : D} {i : Nat} {t : Bool}
def lc1K (vs : List Nat) (gd : GD) (tt : Env' → M Bool) (fe : EM) (ρ : Env') (xs : List D) (m : M Bool) (ρ' : Env') : M (List D) :=
  quiet m >>= fun b => if b = true then (quiet (fe ρ') >>= fun y => lcL vs gd tt fe ρ xs >>= fun r => pure (y :: r)) else lcL vs gd tt fe ρ xs
def lc2K (m : M D) (n : M (List D)) : M (List D) := quiet m >>= fun y => n >>= fun r => pure (y :: r)
theorem el1 : lcL vs gd tt fe ρ [] = pure [] := nr rfl
theorem el2 : lcL [i] (gdName i) tt fe ρ (a :: xs) = lc1K [i] (gdName i) tt fe ρ xs (tt ((wipeD ρ [i]).set i (some a))) ((wipeD ρ [i]).set i (some a)) := by
  show (if (([(i, a)] : List (Nat × D)).all fun p => [i].contains p.1) = true then _ else _) = _
  rw [if_pos (by simp)]
  rfl
theorem el3 {L : List (Nat × D)} (h : gd a = some L) (h' : (L.all fun p => vs.contains p.1) = true) : lcL vs gd tt fe ρ (a :: xs) = lc1K vs gd tt fe ρ xs (tt (setsD (wipeD ρ vs) L)) (setsD (wipeD ρ vs) L) := by
  show (M.opt (gd a) >>= fun l => if (l.all fun p => vs.contains p.1) = true then _ else _) = _
  rw [h, M.opt_some, pure_bind, if_pos h']
  rfl
theorem el4 : lc1K vs gd tt fe ρ xs (pure true) ρ' = lc2K (fe ρ') (lcL vs gd tt fe ρ xs) := nr rfl
theorem el5 : lc1K vs gd tt fe ρ xs (pure false) ρ' = lcL vs gd tt fe ρ xs := nr rfl
theorem el6 : lc2K (pure a) (pure xs) = pure (a :: xs) := nr rfl
theorem el7 : dYes ρ = pure true := nr rfl
theorem el8 {l : List Nat} : wipeD ρ (i :: l) = (wipeD ρ l).set i none := nr rfl
theorem el9 : wipeD ρ [] = ρ := nr rfl
end
section
variable {ρ ρ' : Env'} {f g h : EM} {p q : Env' → M Bool} {ga : Env' → M (List D)} {op op' : D → D → Option D} {u : D → Option D} {a b c : D} {i j l n : Nat} {mu vs : List Nat} {gd : GD} {s s' : SM} {xs ys : List D} {t : Bool} {e : Err}
variable {Q : D → Prop} {QL : List D → Prop} {QB : Bool → Prop} {E : Err → Prop} {QF : Fl → Prop} {EF : Err × Env' → Prop} {m n : M D} {ml nl : M (List D)} {mb : M Bool} {mf : MS Fl}
theorem ew1 {ε α : Type} {a : α} {Q : α → Prop} {E : ε → Prop} : WP (pure a) Q E ↔ Q a := by unfold WP; exact Iff.rfl
theorem ew2 : WP (binK op m n) Q E ↔ WP m (fun a => WP n (fun b => WP (M.opt (op a b)) Q E) E) E := by unfold WP; exact Iff.rfl
theorem ew3 : WP (unK u m) Q E ↔ WP m (fun a => WP (M.opt (u a)) Q E) E := by unfold WP; exact Iff.rfl
theorem ew4 : WP (consK m ml) QL E ↔ WP m (fun a => WP ml (fun b => QL (a :: b)) E) E := by unfold WP; exact Iff.rfl
theorem ew5 : WP (tupK ml) Q E ↔ WP ml (fun a => WP (M.opt (mkTup a)) Q E) E := by unfold WP; exact Iff.rfl
theorem ew6 : WP (lstK ml) Q E ↔ WP ml (fun a => WP (M.opt (mkLst a)) Q E) E := by unfold WP; exact Iff.rfl
theorem ew7 {o : List D → Option D} : WP (callK o ml) Q E ↔ WP ml (fun a => WP (M.opt (o a)) Q E) E := by unfold WP; exact Iff.rfl
theorem ew9 : WP (bK m) QB E ↔ WP m (fun a => WP (M.opt (asB a)) QB E) E := by unfold WP; exact Iff.rfl
theorem ew10 : WP (tK m) QB E ↔ WP m (fun a => WP (M.opt (truD a)) QB E) E := by unfold WP; exact Iff.rfl
theorem ew11 : WP (ntK mb) QB E ↔ WP mb (fun a => QB (!a)) E := by unfold WP; exact Iff.rfl
theorem ew15 : WP (lcF ml) Q E ↔ WP ml (fun a => Q (.lst a)) E := by unfold WP; exact Iff.rfl
theorem ew16 : WP (seqIK m) QL E ↔ WP m (fun a => WP (M.opt (seqD a)) QL E) E := by unfold WP; exact Iff.rfl
theorem ew17 {o : List D → Option (List D)} : WP (argsK o ml) QL E ↔ WP ml (fun a => WP (M.opt (o a)) QL E) E := by unfold WP; exact Iff.rfl
theorem ew18 {tt : Env' → M Bool} {fe : EM} : WP (lcK vs gd tt fe ρ ml) Q E ↔ WP ml (fun a => WP (lcF (lcL vs gd tt fe ρ a)) Q E) E := by unfold WP; exact Iff.rfl
theorem ew19 : WP (slK m (pure none) (pure none)) Q E ↔ WP m (fun a => WP (M.opt (opSl a none none)) Q E) E := by unfold WP; exact Iff.rfl
theorem ew20 {lo hi : Option Int} : WP (slK m (pure lo) (pure hi)) Q E ↔ WP m (fun a => WP (M.opt (opSl a lo hi)) Q E) E := by unfold WP; exact Iff.rfl
def seqR : Fl → SM → MS Fl
  | .nx ρ', s' => s' ρ'
  | o, _ => pure o
theorem ew21 : WP (seqK mf s') QF EF ↔ WP mf (fun r => WP (seqR r s') QF EF) EF := by
  have e : ∀ r : Fl, (match r with | .nx ρ' => s' ρ' | o => pure o : MS Fl) = seqR r s' := fun r => by cases r <;> rfl
  unfold WP seqK
  simp only [e]
  exact Iff.rfl
theorem ew22 : seqR (.nx ρ') s' = s' ρ' := nr rfl
theorem ew23 : seqR (.rt a) s' = pure (.rt a) := nr rfl
theorem ew24 : WP (retK ρ m) QF EF ↔ WP m (fun a => QF (.rt a)) (fun e => immE e = true ∧ EF (e, ρ)) := by unfold WP; exact Iff.rfl
theorem ew26 : WP (setFK mu gd ρ m) QF EF ↔ WP m (fun a => WP (set2K mu ρ (gd a)) QF EF) (fun e => EF (e, ρ)) := by unfold WP; exact Iff.rfl
theorem ew28 : WP (forK mu gd s ρ ml) QF EF ↔ WP ml (fun a => WP (forL mu gd s a ρ) QF EF) (fun e => EF (e, ρ)) := by unfold WP; exact Iff.rfl
theorem ew29 : WP (ownFK i ρ m) QF EF ↔ WP m (fun a => QF (.nx (ρ.set i (some a)))) (fun e => EF (e, ρ)) := by unfold WP; exact Iff.rfl
theorem ew30 (h : xs.length < 16777216) : WP (appFK i ρ (some xs) m) QF EF ↔ WP m (fun a => QF (.nx (ρ.set i (some (.lst (xs ++ [a])))))) (fun e => EF (e, ρ)) := by
  unfold WP
  show m.wp (fun d => (if xs.length < 16777216 then _ else _ : MS Fl).wp QF EF) _ ↔ _
  simp only [if_pos h]
  exact Iff.rfl
theorem ew31 {m : Int} (h1 : 1 ≤ m) (h2 : m < 1073741824) : WP (takeM [.bag, .int m]) Q E ↔ ∀ n : Int, 0 ≤ n → n < m → Q (.int n) := by
  have e : takeM [.bag, .int m] = M.any fun d => ∃ n : Int, d = .int n ∧ 0 ≤ n ∧ n < m := if_pos ⟨h1, h2⟩
  rw [e]
  unfold WP
  exact ⟨fun h n a b => h _ ⟨n, rfl, a, b⟩, fun h d ⟨n, e, a, b⟩ => e ▸ h n a b⟩
theorem ew32 : WP (runK mf) Q E ↔ WP mf (fun r => match r with
  | .rt d => Q d
  | .nx _ => Q .non
  | _ => False) (fun e => E e.1) := by unfold WP; exact Iff.rfl
theorem ew34 : WP (lc2K m ml) QL E ↔ WP m (fun a => WP ml (fun b => QL (a :: b)) E) (fun _ => False) := by unfold WP; exact Iff.rfl
theorem ew35 : WP (augK i op ρ (pure a) m) QF EF ↔ WP m (fun b => WP (aug2K i ρ (op a b)) QF EF) (fun e => immE e = true ∧ EF (e, ρ)) := by unfold WP; exact Iff.rfl
theorem ew36 : WP (andK m g ρ) Q E ↔ WP m (fun a => WP (and2K (truD a) a g ρ) Q E) E := by unfold WP; exact Iff.rfl
theorem ew37 : WP (orK m g ρ) Q E ↔ WP m (fun a => WP (or2K (truD a) a g ρ) Q E) E := by unfold WP; exact Iff.rfl
theorem ew39 {k : Bool} : WP (sifK (pure k) s s' ρ) QF EF ↔ (k = true → WP (s ρ) QF EF) ∧ (k = false → WP (s' ρ) QF EF) := by
  cases k
  · refine ⟨fun h => ⟨fun z => Bool.noConfusion z, fun _ => h⟩, fun h => h.2 rfl⟩
  · refine ⟨fun h => ⟨fun _ => h, fun z => Bool.noConfusion z⟩, fun h => h.1 rfl⟩
end
section
variable {ρ ρ' : Env'} {f g h : EM} {a b c : D} {i j l n : Nat} {mu : List Nat} {xs ys : List D} {gd : GD} {m n' : M D} {QF : Fl → Prop} {EF : Err × Env' → Prop}
def parFOK (mu : List Nat) (i j : Nat) (ρ : Env') (m n : M D) : MS Fl := liftF ρ m >>= fun d => liftF ρ n >>= fun e => if okSets mu [(j, e)] = true then pure (.nx ((ρ.set i (some d)).set j (some e))) else M.fail
def parOFK (mu : List Nat) (i j : Nat) (ρ : Env') (m n : M D) : MS Fl := liftF ρ m >>= fun d => liftF ρ n >>= fun e => if okSets mu [(i, d)] = true then pure (.nx ((ρ.set i (some d)).set j (some e))) else M.fail
def parFFK (i j : Nat) (ρ : Env') (m n : M D) : MS Fl := liftF ρ m >>= fun d => liftF ρ n >>= fun e => pure (.nx ((ρ.set i (some d)).set j (some e)))
theorem es82 : sParFO mu i j f g ρ = parFOK mu i j ρ (f (hide mu ρ)) (g (hide mu ρ)) := nr rfl
theorem es83 : parFOK mu i j ρ (pure a) (pure b) = set3K (okSets mu [(j, b)]) ((ρ.set i (some a)).set j (some b)) := nr rfl
theorem es84 : sParOF mu i j f g ρ = parOFK mu i j ρ (f (hide mu ρ)) (g (hide mu ρ)) := nr rfl
theorem es85 : parOFK mu i j ρ (pure a) (pure b) = set3K (okSets mu [(i, a)]) ((ρ.set i (some a)).set j (some b)) := nr rfl
theorem es86 : sParFF mu i j f g ρ = parFFK i j ρ (f (hide mu ρ)) (g (hide mu ρ)) := nr rfl
theorem es87 : parFFK i j ρ (pure a) (pure b) = pure (.nx ((ρ.set i (some a)).set j (some b))) := nr rfl
def ixFK (mu : List Nat) (gd : GD) (ρ : Env') (o : Option (List D)) (m : M D) : MS Fl := M.opt o >>= fun xs => liftI ρ m >>= fun d => M.opt (opIx (.lst xs) d) >>= fun v => M.opt (gd v) >>= fun l => if okSets mu l = true then pure (.nx (setsD ρ l)) else M.fail
def ix2K (mu : List Nat) (gd : GD) (ρ : Env') (o : Option D) : MS Fl := M.opt o >>= fun v => M.opt (gd v) >>= fun l => if okSets mu l = true then pure (.nx (setsD ρ l)) else M.fail
theorem es88 : sIxF mu i f gd ρ = ixFK mu gd ρ (lstA ρ[i]?) (f ρ) := by
  rw [← lstAt_eq]
  rfl
theorem es89 : ixFK mu gd ρ (some xs) (pure a) = ix2K mu gd ρ (opIx (.lst xs) a) := nr rfl
theorem es90 : ix2K mu gd ρ (some a) = set2K mu ρ (gd a) := nr rfl
theorem es91 {l : Int} : okSets mu [(i, .int l)] = true := by
  show (!(mu.contains i && false) && true) = true
  rw [Bool.and_false]
  rfl
theorem es92 {t : Bool} : okSets mu [(i, .bl t)] = true := by
  show (!(mu.contains i && false) && true) = true
  rw [Bool.and_false]
  rfl
theorem es93 {gs : List D → Option (List (Nat × D))} (h : xs.length = n) : gdTup n gs (.tup xs) = gs xs := nr (if_pos h)
theorem es94 {L M : List (Nat × D)} {gs : List D → Option (List (Nat × D))} (h : gd a = some L) (h' : gs xs = some M) : gsCons gd gs (a :: xs) = some (L ++ M) := by
  show ((gd a).bind fun l => (gs xs).map fun m => l ++ m) = _
  rw [h, h']
  rfl
theorem es95 : gsNil [] = some [] := nr rfl
theorem es96 : gdTup 2 (gsCons (gdName i) (gsCons (gdName j) gsNil)) (.tup [a, b]) = some [(i, a), (j, b)] := nr rfl
theorem es97 : gdTup 3 (gsCons (gdName i) (gsCons (gdName j) (gsCons (gdName l) gsNil))) (.tup [a, b, c]) = some [(i, a), (j, b), (l, c)] := nr rfl
end
section
variable {ρ ρ' : Env'} {f g h : EM} {a b c : D} {i j l n : Nat} {mu : List Nat} {xs ys : List D} {k : Int} {x : Str} {kvs : List (D × D)} {o : Option D} {t t' : Bool}
theorem eh1 {o : Option D} : hide mu (o :: ρ) = hideG mu 0 (o :: ρ) := hide_eq mu _
theorem eh2 {o : Option D} : hideG mu i (o :: ρ) = (if mu.contains i = true then none else o) :: hideG mu (i + 1) ρ := nr rfl
theorem eh3 : hideG mu i [] = [] := nr rfl
def allO : Option (List Bool) → Option D
  | some bs => some (.bl (bs.all id))
  | none => none
def anyO : Option (List Bool) → Option D
  | some bs => some (.bl (bs.any id))
  | none => none
def consB (t : Bool) : Option (List Bool) → Option (List Bool)
  | some bs => some (t :: bs)
  | none => none
theorem eo1 : opAll [.lst xs] = allO (asBools xs) := by
  show (asBools xs).map _ = _
  cases asBools xs <;> rfl
theorem eo2 : opAny [.lst xs] = anyO (asBools xs) := by
  show (asBools xs).map _ = _
  cases asBools xs <;> rfl
theorem eo3 : asBools [] = some [] := nr rfl
theorem eo4 : asBools (.bl t :: xs) = consB t (asBools xs) := by
  show (asBools xs).map _ = _
  cases asBools xs <;> rfl
theorem eo5 {bs : List Bool} : consB t (some bs) = some (t :: bs) := nr rfl
theorem eo6 {bs : List Bool} : allO (some bs) = some (.bl (bs.all id)) := nr rfl
theorem eo7 {bs : List Bool} : anyO (some bs) = some (.bl (bs.any id)) := nr rfl
theorem eo8 : opIx (.tup (a :: xs)) (.int 0) = some a := at0 a xs
theorem eo9 : opIx (.tup (a :: b :: xs)) (.int 1) = some b := at1 a b xs
theorem eo10 : opIx (.tup (a :: b :: c :: xs)) (.int 2) = some c := at2 a b c xs
theorem eo11 : opIx (.lst (a :: xs)) (.int 0) = some a := at0 a xs
theorem eo12 : opIx (.lst (a :: b :: xs)) (.int 1) = some b := at1 a b xs
theorem atI_nat {α : Type} (xs : List α) (k : Nat) (h : k < xs.length) : atI xs (k : Int) = xs[k]? := (atI_of xs k xs[k] (List.getElem?_eq_getElem h)).trans (List.getElem?_eq_getElem h).symm
theorem eo13 (h : i < xs.length) : opIx (.tup xs) (.int (i : Int)) = xs[i]? := atI_nat xs i h
theorem eo14 (h : i < xs.length) : opIx (.lst xs) (.int (i : Int)) = xs[i]? := atI_nat xs i h
theorem eo15 : opNeE (.tup xs) (.tup []) = some (.bl (!xs.isEmpty)) := nr rfl
theorem eo16 : opEqE (.tup xs) (.tup []) = some (.bl xs.isEmpty) := nr rfl
theorem eqv_nil (xs : List PyData) : PyData.eqv (.list xs) (.list []) = xs.isEmpty := by
  cases xs <;> rfl
theorem pyL_empty (xs : List D) : (toPyL xs).isEmpty = xs.isEmpty := by
  cases xs <;> rfl
theorem eq_nilL {xs : List D} (h : okD (.lst xs) = true) : opEq (.lst xs) (.lst []) = some (.bl xs.isEmpty) := by
  show (if okD (.lst xs) && okD (.lst []) then some (D.bl (PyData.eqv (.list (toPyL xs)) (.list []))) else _) = _
  rw [h, show okD (D.lst []) = true from rfl, Bool.and_self, if_pos rfl, eqv_nil, pyL_empty]
theorem ne_nilL {xs : List D} (h : okD (.lst xs) = true) : opNe (.lst xs) (.lst []) = some (.bl (!xs.isEmpty)) := by
  show (if okD (.lst xs) && okD (.lst []) then some (D.bl (!PyData.eqv (.list (toPyL xs)) (.list []))) else _) = _
  rw [h, show okD (D.lst []) = true from rfl, Bool.and_self, if_pos rfl, eqv_nil, pyL_empty]
theorem ok_ones {α : Type} (L : List α) : okD (.lst (L.map fun _ => D.int 1)) = true := by
  have e : (L.map fun _ : α => D.int 1) = (L.map fun _ : α => (1 : Nat)).map iD := by
    rw [List.map_map]
    rfl
  rw [e]
  exact ok_lst _
theorem eo17 {α : Type} {L : List α} : opEq (.lst (L.map fun _ => D.int 1)) (.lst []) = some (.bl L.isEmpty) := (eq_nilL (ok_ones L)).trans (by rw [List.isEmpty_map])
theorem eo18 {α : Type} {L : List α} : opNe (.lst (L.map fun _ => D.int 1)) (.lst []) = some (.bl (!L.isEmpty)) := (ne_nilL (ok_ones L)).trans (by rw [List.isEmpty_map])
theorem eo19 : opNe (.bl t) (.bl t') = some (.bl (t != t')) := opNe_bl t t'
theorem eo20 : opEq (.bl t) (.bl t') = some (.bl (t == t')) := by cases t <;> cases t' <;> rfl
theorem sumT_ints (l : List Nat) : opSumT [.tup (l.map iD)] = some (.int l.sum) := by
  show (asInts (l.map iD)).map (fun ns => D.int ns.sum) = _
  rw [asInts_nat, ← sum_nat]
  rfl
theorem sumL_ints (l : List Nat) : opSumT [.lst (l.map iD)] = some (.int l.sum) := sum_ints l
theorem cut_nat {α : Type} (xs : List α) (a b : Nat) : P5.cutD xs (some (a : Int)) (some (b : Int)) = (xs.drop a).take (b - a) := by
  unfold P5.cutD
  rw [HT.sIx_nat, HT.sIx_nat]
  by_cases ha : a ≤ xs.length
  · rw [Nat.min_eq_left ha]
    by_cases hb : b ≤ xs.length
    · rw [Nat.min_eq_left hb]
    · rw [Nat.min_eq_right (by omega), List.take_of_length_le (by rw [List.length_drop]; omega), List.take_of_length_le (by rw [List.length_drop]; omega)]
  · rw [List.drop_of_length_le (by omega), List.drop_of_length_le (by omega), List.take_nil, List.take_nil]
theorem cut_take {α : Type} (xs : List α) (k : Nat) : P5.cutD xs none (some (k : Int)) = xs.take k := by
  unfold P5.cutD
  show (xs.drop 0).take (HT.sIx xs.length xs.length (some (k : Int)) - 0) = _
  rw [HT.sIx_nat, List.drop_zero, Nat.sub_zero, ← List.take_take, List.take_length]
theorem cut_drop {α : Type} (xs : List α) (k : Nat) : P5.cutD xs (some (k : Int)) none = xs.drop k := by
  unfold P5.cutD
  show (xs.drop (HT.sIx xs.length 0 (some (k : Int)))).take (xs.length - HT.sIx xs.length 0 (some (k : Int))) = _
  rw [HT.sIx_nat]
  by_cases hk : k ≤ xs.length
  · rw [Nat.min_eq_left hk, List.take_of_length_le (by rw [List.length_drop]; omega)]
  · rw [Nat.min_eq_right (by omega), List.drop_of_length_le (by omega), List.drop_of_length_le (by omega), List.take_nil]
theorem mn (a b : Nat) : min (a : Int) (b : Int) = ((min a b : Nat) : Int) := by omega
theorem mx (a b : Nat) : max (a : Int) (b : Int) = ((max a b : Nat) : Int) := by omega
theorem rng2 {a b : Nat} (ha : a ≤ 1000000) (hb : b ≤ 1000000) : opRng2 [.int (a : Int), .int (b : Int)] = some ((List.range' a (b - a)).map iD) := by
  have e : rngOk (a : Int) (b : Int) = true := by
    unfold rngOk
    rw [show (2 : Int) ^ 62 = 4611686018427387904 from by decide +kernel]
    exact decide_eq_true ⟨by omega, by omega, by omega, by omega, by omega⟩
  show (if rngOk (a : Int) (b : Int) = true then some (rangeD a b) else none) = _
  rw [if_pos e]
  unfold rangeD
  rw [show ((b : Int) - a).toNat = b - a by omega, List.range'_eq_map_range, List.map_map]
  rfl
theorem rgL {a b : Nat} (ha : a ≤ 1000000) (hb : b ≤ 1000000) : opLstRg [.int (a : Int), .int (b : Int)] = some (.lst ((List.range' a (b - a)).map iD)) := by
  have e : rgOk' (a : Int) (b : Int) = true := by
    unfold rgOk'
    rw [show (2 : Int) ^ 62 = 4611686018427387904 from by decide +kernel]
    exact decide_eq_true ⟨by omega, by omega, by omega, by omega, by omega⟩
  show (if rgOk' (a : Int) (b : Int) = true then some (D.lst (rangeD a b)) else none) = _
  rw [if_pos e]
  unfold rangeD
  rw [show ((b : Int) - a).toNat = b - a by omega, List.range'_eq_map_range, List.map_map]
  rfl
theorem ei1 : opIsi "int" .non = some (.bl false) := (isi_of rfl).trans (congrArg (fun b => some (D.bl b)) (by decide +kernel))
theorem ei2 : opIsi "int" (.bl t) = some (.bl true) := (isi_of rfl).trans (congrArg (fun b => some (D.bl b)) (by decide +kernel))
theorem ei3 : opIsi "int" (.int k) = some (.bl true) := (isi_of rfl).trans (congrArg (fun b => some (D.bl b)) (by decide +kernel))
theorem ei4 : opIsi "int" (.str x) = some (.bl false) := (isi_of rfl).trans (congrArg (fun b => some (D.bl b)) (by decide +kernel))
theorem ei5 : opIsi "int" (.tup xs) = some (.bl false) := (isi_of rfl).trans (congrArg (fun b => some (D.bl b)) (by decide +kernel))
theorem ei6 : opIsi "int" (.lst xs) = some (.bl false) := (isi_of rfl).trans (congrArg (fun b => some (D.bl b)) (by decide +kernel))
theorem ei7 : opIsi "int" (.dct n kvs) = some (.bl false) := (isi_of rfl).trans (congrArg (fun b => some (D.bl b)) (by decide +kernel))
theorem ei8 : opIsi "bool" .non = some (.bl false) := (isi_of rfl).trans (congrArg (fun b => some (D.bl b)) (by decide +kernel))
theorem ei9 : opIsi "bool" (.bl t) = some (.bl true) := (isi_of rfl).trans (congrArg (fun b => some (D.bl b)) (by decide +kernel))
theorem ei10 : opIsi "bool" (.int k) = some (.bl false) := (isi_of rfl).trans (congrArg (fun b => some (D.bl b)) (by decide +kernel))
theorem ei11 : opIsi "bool" (.str x) = some (.bl false) := (isi_of rfl).trans (congrArg (fun b => some (D.bl b)) (by decide +kernel))
theorem ei12 : opIsi "bool" (.tup xs) = some (.bl false) := (isi_of rfl).trans (congrArg (fun b => some (D.bl b)) (by decide +kernel))
theorem ei13 : opIsi "bool" (.lst xs) = some (.bl false) := (isi_of rfl).trans (congrArg (fun b => some (D.bl b)) (by decide +kernel))
theorem ei14 : opIsi "bool" (.dct n kvs) = some (.bl false) := (isi_of rfl).trans (congrArg (fun b => some (D.bl b)) (by decide +kernel))
theorem ei15 : opIsi "str" .non = some (.bl false) := (isi_of rfl).trans (congrArg (fun b => some (D.bl b)) (by decide +kernel))
theorem ei16 : opIsi "str" (.bl t) = some (.bl false) := (isi_of rfl).trans (congrArg (fun b => some (D.bl b)) (by decide +kernel))
theorem ei17 : opIsi "str" (.int k) = some (.bl false) := (isi_of rfl).trans (congrArg (fun b => some (D.bl b)) (by decide +kernel))
theorem ei18 : opIsi "str" (.str x) = some (.bl true) := (isi_of rfl).trans (congrArg (fun b => some (D.bl b)) (by decide +kernel))
theorem ei19 : opIsi "str" (.tup xs) = some (.bl false) := (isi_of rfl).trans (congrArg (fun b => some (D.bl b)) (by decide +kernel))
theorem ei20 : opIsi "str" (.lst xs) = some (.bl false) := (isi_of rfl).trans (congrArg (fun b => some (D.bl b)) (by decide +kernel))
theorem ei21 : opIsi "str" (.dct n kvs) = some (.bl false) := (isi_of rfl).trans (congrArg (fun b => some (D.bl b)) (by decide +kernel))
theorem ei22 : opIsi "tuple" .non = some (.bl false) := (isi_of rfl).trans (congrArg (fun b => some (D.bl b)) (by decide +kernel))
theorem ei23 : opIsi "tuple" (.bl t) = some (.bl false) := (isi_of rfl).trans (congrArg (fun b => some (D.bl b)) (by decide +kernel))
theorem ei24 : opIsi "tuple" (.int k) = some (.bl false) := (isi_of rfl).trans (congrArg (fun b => some (D.bl b)) (by decide +kernel))
theorem ei25 : opIsi "tuple" (.str x) = some (.bl false) := (isi_of rfl).trans (congrArg (fun b => some (D.bl b)) (by decide +kernel))
theorem ei26 : opIsi "tuple" (.tup xs) = some (.bl true) := (isi_of rfl).trans (congrArg (fun b => some (D.bl b)) (by decide +kernel))
theorem ei27 : opIsi "tuple" (.lst xs) = some (.bl false) := (isi_of rfl).trans (congrArg (fun b => some (D.bl b)) (by decide +kernel))
theorem ei28 : opIsi "tuple" (.dct n kvs) = some (.bl false) := (isi_of rfl).trans (congrArg (fun b => some (D.bl b)) (by decide +kernel))
theorem ei29 : opIsi "list" .non = some (.bl false) := (isi_of rfl).trans (congrArg (fun b => some (D.bl b)) (by decide +kernel))
theorem ei30 : opIsi "list" (.bl t) = some (.bl false) := (isi_of rfl).trans (congrArg (fun b => some (D.bl b)) (by decide +kernel))
theorem ei31 : opIsi "list" (.int k) = some (.bl false) := (isi_of rfl).trans (congrArg (fun b => some (D.bl b)) (by decide +kernel))
theorem ei32 : opIsi "list" (.str x) = some (.bl false) := (isi_of rfl).trans (congrArg (fun b => some (D.bl b)) (by decide +kernel))
theorem ei33 : opIsi "list" (.tup xs) = some (.bl false) := (isi_of rfl).trans (congrArg (fun b => some (D.bl b)) (by decide +kernel))
theorem ei34 : opIsi "list" (.lst xs) = some (.bl true) := (isi_of rfl).trans (congrArg (fun b => some (D.bl b)) (by decide +kernel))
theorem ei35 : opIsi "list" (.dct n kvs) = some (.bl false) := (isi_of rfl).trans (congrArg (fun b => some (D.bl b)) (by decide +kernel))
theorem ei36 : opIsi "dict" .non = some (.bl false) := (isi_of rfl).trans (congrArg (fun b => some (D.bl b)) (by decide +kernel))
theorem ei37 : opIsi "dict" (.bl t) = some (.bl false) := (isi_of rfl).trans (congrArg (fun b => some (D.bl b)) (by decide +kernel))
theorem ei38 : opIsi "dict" (.int k) = some (.bl false) := (isi_of rfl).trans (congrArg (fun b => some (D.bl b)) (by decide +kernel))
theorem ei39 : opIsi "dict" (.str x) = some (.bl false) := (isi_of rfl).trans (congrArg (fun b => some (D.bl b)) (by decide +kernel))
theorem ei40 : opIsi "dict" (.tup xs) = some (.bl false) := (isi_of rfl).trans (congrArg (fun b => some (D.bl b)) (by decide +kernel))
theorem ei41 : opIsi "dict" (.lst xs) = some (.bl false) := (isi_of rfl).trans (congrArg (fun b => some (D.bl b)) (by decide +kernel))
theorem ei42 : opIsi "dict" (.dct n kvs) = some (.bl true) := (isi_of rfl).trans (congrArg (fun b => some (D.bl b)) (by decide +kernel))
end
section
variable {ρ ρ' : Env'} {f g h : EM} {p q : Env' → M Bool} {ga : Env' → M (List D)} {op op' : D → D → Option D} {u : D → Option D} {a b c : D} {i j l n : Nat} {mu vs : List Nat} {gd : GD} {s s' : SM} {xs ys : List D} {t : Bool} {e : Err} {m : M D} {ml : M (List D)}
theorem er1 : binK op (M.raise e) m = M.raise e := by unfold binK; rw [raise_bind]
theorem er2 : binK op (pure a) (M.raise e) = M.raise e := by unfold binK; rw [pure_bind, raise_bind]
theorem er3 : unK u (M.raise e) = M.raise e := by unfold unK; rw [raise_bind]
theorem er4 : consK (M.raise e) ml = M.raise e := by unfold consK; rw [raise_bind]
theorem er5 : consK (pure a) (M.raise e) = M.raise e := by unfold consK; rw [pure_bind, raise_bind]
theorem er6 : tupK (M.raise e) = M.raise e := by unfold tupK; rw [raise_bind]
theorem er7 : lstK (M.raise e) = M.raise e := by unfold lstK; rw [raise_bind]
theorem er8 {o : List D → Option D} : callK o (M.raise e) = M.raise e := by unfold callK; rw [raise_bind]
theorem er9 {fM : List D → M D} : callMK n fM (M.raise e) = M.raise e := by unfold callMK; rw [raise_bind]
theorem er10 : bK (M.raise e) = M.raise e := by unfold bK; rw [raise_bind]
theorem er11 : tK (M.raise e) = M.raise e := by unfold tK; rw [raise_bind]
theorem er12 : ntK (M.raise e) = M.raise e := by unfold ntK; rw [raise_bind]
theorem er13 : andTK (M.raise e) q ρ = M.raise e := by unfold andTK; rw [raise_bind]
theorem er14 : orTK (M.raise e) q ρ = M.raise e := by unfold orTK; rw [raise_bind]
theorem er15 : ifK (M.raise e) f g ρ = M.raise e := by unfold ifK; rw [raise_bind]
theorem er16 : notK (M.raise e) = M.raise e := by unfold notK; rw [raise_bind]
theorem er17 : andK (M.raise e) g ρ = M.raise e := by unfold andK; rw [raise_bind]
theorem er18 (h : immE e = true) : dropK ρ (M.raise e) = M.raise (e, ρ) := by unfold dropK; rw [liftI_raise, if_pos h, raise_bind]
theorem er19 (h : immE e = true) : retK ρ (M.raise e) = M.raise (e, ρ) := by unfold retK; rw [liftI_raise, if_pos h, raise_bind]
theorem er20 (h : immE e = true) : sifK (M.raise e) s s' ρ = M.raise (e, ρ) := by unfold sifK; rw [liftI_raise, if_pos h, raise_bind]
theorem er21 : setFK mu gd ρ (M.raise e) = M.raise (e, ρ) := MM.ext fun _ _ => Iff.rfl
theorem er22 {p : Err × Env'} : seqK (M.raise p) s' = M.raise p := by unfold seqK; rw [raise_bind]
theorem er23 {p : Err × Env'} : runK (M.raise p) = M.raise p.1 := MM.ext fun _ _ => Iff.rfl
theorem er24 {p : Err × Env'} : fl1 mu gd s xs (M.raise p) = M.raise p := by unfold fl1; rw [raise_bind]
theorem er25 : seqIK (M.raise e) = M.raise e := by unfold seqIK; rw [raise_bind]
theorem er26 {o : List D → Option (List D)} : argsK o (M.raise e) = M.raise e := by unfold argsK; rw [raise_bind]
theorem er27 : forK mu gd s ρ (M.raise e) = M.raise (e, ρ) := MM.ext fun _ _ => Iff.rfl
theorem er28 : lcF (M.raise e) = M.raise e := by unfold lcF; rw [raise_bind]
end
theorem w_goK {p : Env' → M Bool} {s : SM} {ρ ρ' : Env'} (h1 : p ρ = pure true) (h2 : s ρ = pure (.nx ρ')) : sWhile p s ρ = sWhile p s ρ' := while_go h1 h2
def askedB (S : Subs) : Addr → M D → SM := fun f am => sTryAs S 1 (sAct 0 f id am) (fun a d => (sRet (dFld 1 a d "why")))
theorem asked_raise {S : Subs} {fE : EM} {ρ : Env'} {x : Str} (hS : S "Refused" = some true) (h : fE ρ = M.raise ⟨"Refused", [("why", .str x)]⟩) : dHeard 2 (askedB S) fE ρ = pure (.str x) := by
  have key : ∀ f : Addr, runFn 2 (askedB S f (fE ρ)) [.lam f] = pure (.str x) := fun f => by
    refine MM.ext fun Q E => ?_
    rw [wp_run, h]
    have e1 : sAct 0 f id (M.raise ⟨"Refused", [("why", .str x)]⟩) (startD 2 [.lam f]) = M.raise ((⟨"Refused", [("why", .str x)]⟩ : Err), startD 2 [.lam f]) := by
      unfold sAct
      show (if f = f then _ else _ : MS Fl) = _
      rw [if_pos rfl]
      rfl
    show (sAct 0 f id (M.raise ⟨"Refused", [("why", .str x)]⟩) (startD 2 [.lam f])).wp _ _ ↔ _
    rw [e1]
    refine Iff.trans (b := (match S "Refused" with
      | some true => ([((("why" : Str)), (D.str x))] : List (Str × D)) ≠ [] ∧ ∀ a d, ((sRet (dFld 1 a d "why")) ((startD 2 [.lam f]).set 1 (some (.exc a d "Refused" ["why"] [.str x])))).wp (fun r => (match Fl.gone 1 r with
        | .rt d => Q d
        | .nx _ => Q .non
        | _ => False)) (fun _ => False)
      | some false => E ⟨"Refused", [("why", .str x)]⟩
      | none => False)) Iff.rfl ?_
    rw [hS]
    dsimp only
    have e2 : ∀ a d : Addr, (sRet (dFld 1 a d "why")) ((startD 2 [.lam f]).set 1 (some (.exc a d "Refused" ["why"] [.str x]))) = pure (.rt (.str x)) := fun a d => by
      refine s_ret_pure ?_
      show (if a = a ∧ d = d then M.opt ((([("why" : Str)].zip [D.str x])).lookup ("why" : Str)) else M.fail) = _
      rw [if_pos ⟨rfl, rfl⟩]
      have e4 : ([((("why" : Str)), (D.str x))] : List (Str × D)).lookup ("why" : Str) = some (.str x) := by
        rw [List.lookup_cons, show (("why" : Str) == ("why" : Str)) = true by decide +kernel]
      show M.opt (([((("why" : Str)), (D.str x))] : List (Str × D)).lookup ("why" : Str)) = _
      rw [e4]
      rfl
    constructor
    · intro z
      have := z.2 0 0
      rw [e2] at this
      exact this
    · intro z
      refine ⟨(fun z => nomatch z), fun a d => ?_⟩
      rw [e2]
      exact z
  refine MM.ext fun Q E => ?_
  show (∀ f : Addr, True → (runFn 2 (askedB S f (fE ρ)) [.lam f]).wp Q E) ↔ _
  constructor
  · intro z
    have := z 0 trivial
    rw [key] at this
    exact this
  · intro z f _
    rw [key]
    exact z
theorem fl_nx {mu : List Nat} {i : Nat} {s : SM} {a : D} {xs : List D} {ρ ρ' : Env'} (h0 : okSets mu [(i, a)] = true) (h : s (ρ.set i (some a)) = pure (.nx ρ')) : forL mu (gdName i) s (a :: xs) ρ = forL mu (gdName i) s xs ρ' := by
  rw [es76 h0, h, es77]
theorem fl_ct {mu : List Nat} {i : Nat} {s : SM} {a : D} {xs : List D} {ρ ρ' : Env'} (h0 : okSets mu [(i, a)] = true) (h : s (ρ.set i (some a)) = pure (.ct ρ')) : forL mu (gdName i) s (a :: xs) ρ = forL mu (gdName i) s xs ρ' := by
  rw [es76 h0, h, es78]
theorem fl_rt {mu : List Nat} {i : Nat} {s : SM} {a d : D} {xs : List D} {ρ : Env'} (h0 : okSets mu [(i, a)] = true) (h : s (ρ.set i (some a)) = pure (.rt d)) : forL mu (gdName i) s (a :: xs) ρ = pure (.rt d) := by
  rw [es76 h0, h, es80]
section
variable {ρ : Env'} {f g h : EM} {q : Env' → M Bool} {op' : D → D → Option D} {a b c : D} {t t' : Bool} {m : M D} {mb : M Bool}
def ch4K (t : Bool) (m : M D) : M D := if t = true then m else pure (.bl false)
def an4T (t : Bool) (m : M Bool) : M Bool := if t = true then m else pure false
def or4T (t : Bool) (m : M Bool) : M Bool := if t = true then pure true else m
def an4K (t : Bool) (a : D) (m : M D) : M D := if t = true then m else pure a
def or4K (t : Bool) (a : D) (m : M D) : M D := if t = true then pure a else m
def if4K (t : Bool) (m n : M D) : M D := if t = true then m else n
theorem ek1 : ch2K (some (.bl t)) op' b h ρ = ch4K t (ch3K op' b (h ρ)) := by cases t <;> rfl
theorem ek2 : ch4K t (pure (.bl t')) = pure (.bl (t && t')) := by cases t <;> rfl
theorem ek3 : ch4K true m = m := nr rfl
theorem ek4 : ch4K false m = pure (.bl false) := nr rfl
theorem ek5 : andTK (pure t) q ρ = an4T t (q ρ) := by cases t <;> rfl
theorem ek6 : an4T t (pure t') = pure (t && t') := by cases t <;> rfl
theorem ek7 : an4T true mb = mb := nr rfl
theorem ek8 : an4T false mb = pure false := nr rfl
theorem ek9 : orTK (pure t) q ρ = or4T t (q ρ) := by cases t <;> rfl
theorem ek10 : or4T t (pure t') = pure (t || t') := by cases t <;> rfl
theorem ek11 : or4T true mb = pure true := nr rfl
theorem ek12 : or4T false mb = mb := nr rfl
theorem ek13 : and2K (some t) a g ρ = an4K t a (g ρ) := by cases t <;> rfl
theorem ek14 : an4K t (.bl t) (pure (.bl t')) = pure (.bl (t && t')) := by cases t <;> rfl
theorem ek15 : an4K true a m = m := nr rfl
theorem ek16 : an4K false a m = pure a := nr rfl
theorem ek17 : or2K (some t) a g ρ = or4K t a (g ρ) := by cases t <;> rfl
theorem ek18 : or4K t (.bl t) (pure (.bl t')) = pure (.bl (t || t')) := by cases t <;> rfl
theorem ek19 : or4K true a m = pure a := nr rfl
theorem ek20 : or4K false a m = m := nr rfl
theorem ek21 : ifK (pure t) f g ρ = if4K t (f ρ) (g ρ) := by cases t <;> rfl
theorem ek22 : if4K t (pure a) (pure b) = pure (if t = true then a else b) := by cases t <;> rfl
theorem ek23 : if4K true m n = m := nr rfl
theorem ek24 : if4K false m n = n := nr rfl
end
theorem eo21 {α : Type} {p : α → Bool} {xs : List α} : asBools (xs.map fun x => D.bl (p x)) = some (xs.map p) := asB_bl p xs
theorem eo22 {α : Type} {p : α → Bool} {xs : List α} : (xs.map p).all id = xs.all p := by
  rw [List.all_map]
  rfl
theorem eo23 {α : Type} {p : α → Bool} {xs : List α} : (xs.map p).any id = xs.any p := by
  rw [List.any_map]
  rfl
theorem es98 {ρ : Env'} {m : M D} {s' : SM} : seqK (retK ρ m) s' = retK ρ m := by
  unfold seqK retK
  rw [bind_assoc]
  refine congrArg _ (funext fun d => ?_)
  rw [pure_bind]
section
variable {ρ ρ' : Env'} {f g h : EM} {p q : Env' → M Bool} {a b c : D} {i j l n k : Nat} {mu vs : List Nat} {gd : GD} {s s' : SM} {xs ys : List D} {t : Bool} {tt : Env' → M Bool} {fe : EM}
variable {Q : D → Prop} {QL : List D → Prop} {QB : Bool → Prop} {E : Err → Prop} {QF : Fl → Prop} {EF : Err × Env' → Prop} {m : M D} {ml : M (List D)} {mb : M Bool} {fM : List D → M D}
def sif4 (t : Bool) (s s' : SM) (ρ : Env') : MS Fl := if t = true then s ρ else s' ρ
def parF2 (mu : List Nat) (i j : Nat) (ρ : Env') (ds : List D) : MS Fl := match ds with
  | [a, b] => if okSets mu [(i, a), (j, b)] = true then pure (.nx ((ρ.set i (some a)).set j (some b))) else M.fail
  | _ => M.fail
def lc1B (vs : List Nat) (gd : GD) (tt : Env' → M Bool) (fe : EM) (ρ : Env') (xs : List D) (b : Bool) (ρ' : Env') : M (List D) :=
  if b = true then (quiet (fe ρ') >>= fun y => lcL vs gd tt fe ρ xs >>= fun r => pure (y :: r)) else lcL vs gd tt fe ρ xs
theorem ew40 : WP (callMK k fM ml) Q E ↔ WP ml (fun a => WP (callM k fM a) Q E) E := by unfold WP; exact Iff.rfl
theorem ew41 {a : D} : callM 1 fM [a] = fM [a] := nr rfl
theorem ew42 {a b : D} : callM 2 fM [a, b] = fM [a, b] := nr rfl
theorem ew43 {a b c : D} : callM 3 fM [a, b, c] = fM [a, b, c] := nr rfl
theorem ew44 {a b c d : D} : callM 4 fM [a, b, c, d] = fM [a, b, c, d] := nr rfl
theorem ew45 {a b c d e : D} : callM 5 fM [a, b, c, d, e] = fM [a, b, c, d, e] := nr rfl
theorem ew46 : WP (andTK mb q ρ) QB E ↔ WP mb (fun a => WP (an4T a (q ρ)) QB E) E := by unfold WP; exact Iff.rfl
theorem ew47 : WP (orTK mb q ρ) QB E ↔ WP mb (fun a => WP (or4T a (q ρ)) QB E) E := by unfold WP; exact Iff.rfl
theorem ew48 : WP (ifK mb f g ρ) Q E ↔ WP mb (fun a => WP (if4K a (f ρ) (g ρ)) Q E) E := by unfold WP; exact Iff.rfl
theorem ew49 : WP (sifK mb s s' ρ) QF EF ↔ WP mb (fun a => WP (sif4 a s s' ρ) QF EF) (fun e => immE e = true ∧ EF (e, ρ)) := by unfold WP; exact Iff.rfl
theorem ew50 : sif4 true s s' ρ = s ρ := nr rfl
theorem ew51 : sif4 false s s' ρ = s' ρ := nr rfl
theorem ew52 : WP (parFK mu i j ρ ml) QF EF ↔ WP ml (fun a => WP (parF2 mu i j ρ a) QF EF) (fun e => EF (e, ρ)) := by unfold WP; exact Iff.rfl
theorem ew53 : parF2 mu i j ρ [a, b] = set3K (okSets mu [(i, a), (j, b)]) ((ρ.set i (some a)).set j (some b)) := nr rfl
theorem ew54 : WP (lc1K vs gd tt fe ρ xs mb ρ') QL E ↔ WP mb (fun a => WP (lc1B vs gd tt fe ρ xs a ρ') QL E) (fun _ => False) := by unfold WP; exact Iff.rfl
theorem ew55 : lc1B vs gd tt fe ρ xs true ρ' = lc2K (fe ρ') (lcL vs gd tt fe ρ xs) := nr rfl
theorem ew56 : lc1B vs gd tt fe ρ xs false ρ' = lcL vs gd tt fe ρ xs := nr rfl
theorem ew57 : WP (notK m) Q E ↔ WP m (fun a => WP (M.opt (truD a)) (fun b => Q (.bl (!b))) E) E := by unfold WP; exact Iff.rfl
theorem ew58 {t : Bool} : asB (.bl t) = some t := nr rfl
theorem ew59 : sif4 (!t) s s' ρ = sif4 t s' s ρ := by cases t <;> rfl
theorem ew60 {t : Bool} {m : M Bool} : WP (an4T t m) QB E ↔ (t = true → WP m QB E) ∧ (t = false → QB false) := by
  cases t
  · refine ⟨fun h => ⟨fun z => Bool.noConfusion z, fun _ => by rw [WP_eq] at h; exact h⟩, fun h => by rw [WP_eq]; exact h.2 rfl⟩
  · refine ⟨fun h => ⟨fun _ => h, fun z => Bool.noConfusion z⟩, fun h => h.1 rfl⟩
end
theorem W_seq2 {s s' : SM} {ρ : Env'} {T QF : Fl → Prop} {EF : Err × Env' → Prop} (h1 : WP (s ρ) T EF) (h2 : ∀ r, T r → WP (seqR r s') QF EF) : WP (sSeq s s' ρ) QF EF := by
  rw [es2, ew21]
  exact W_mono h1 h2 fun _ z => z
theorem W_sif {p : Env' → M Bool} {s s' : SM} {ρ : Env'} {QF : Fl → Prop} {EF : Err × Env' → Prop} (h : WP (p ρ) (fun _ => True) (fun _ => False)) (h1 : WP (s ρ) QF EF) (h2 : WP (s' ρ) QF EF) : WP (sIf p s s' ρ) QF EF := by
  rw [es11, ew49]
  refine W_mono h (fun t _ => ?_) fun _ z => z.elim
  cases t
  · exact h2
  · exact h1
theorem W_runK {n : Nat} {s : SM} {ds : List D} {T : Fl → Prop} {Q : D → Prop} {E : Err → Prop} (h : WP (s (startD n ds)) T (fun e => E e.1)) (h2 : ∀ r, T r → match r with
  | .rt d => Q d
  | .nx _ => Q .non
  | _ => False) : WP (runFn n s ds) Q E := by
  rw [es55, ew32]
  exact W_mono h h2 fun _ z => z
def heardK (n : Nat) (hm : Addr → M D → SM) (m : M D) : M D := M.any (fun _ : Addr => True) >>= fun f => runFn n (hm f m) [.lam f]
theorem ev111 {n : Nat} {hm : Addr → M D → SM} {fE : EM} {ρ : Env'} : dHeard n hm fE ρ = heardK n hm (fE ρ) := nr rfl
theorem asked_why {S : Subs} {x : Str} (hS : S "Refused" = some true) : heardK 2 (askedB S) (M.raise ⟨"Refused", [("why", .str x)]⟩) = pure (.str x) := asked_raise (fE := fun _ => M.raise ⟨"Refused", [("why", .str x)]⟩) (ρ := []) hS rfl
theorem heard_why {S : Subs} {x : Str} (hS : S "Refused" = some true) : heardK 2 (heardB S) (M.raise ⟨"Refused", [("why", .str x)]⟩) = pure (.tup [.str "refused", .str x]) := heard_raise (fE := fun _ => M.raise ⟨"Refused", [("why", .str x)]⟩) (ρ := []) hS rfl
theorem act_told {S : Subs} {i : Nat} {w : D → D} {gs : Addr → Addr → SM} {d : D} : heardK 2 (fun f am => sTryAs S i (sAct 0 f w am) gs) (pure d) = pure (w d) := by
  have key : ∀ f : Addr, runFn 2 (sTryAs S i (sAct 0 f w (pure d)) gs) [.lam f] = pure (w d) := fun f => by
    refine MM.ext fun Q E => ?_
    rw [wp_run]
    have e1 : sAct 0 f w (pure d) (startD 2 [.lam f]) = pure (.rt (w d)) := by
      unfold sAct
      show (if f = f then _ else _ : MS Fl) = _
      rw [if_pos rfl]
      rfl
    show (sAct 0 f w (pure d) (startD 2 [.lam f])).wp _ _ ↔ _
    rw [e1]
    exact Iff.rfl
  refine MM.ext fun Q E => ?_
  show (∀ f : Addr, True → (runFn 2 (sTryAs S i (sAct 0 f w (pure d)) gs) [.lam f]).wp Q E) ↔ _
  constructor
  · intro z
    have := z 0 trivial
    rw [key] at this
    exact this
  · intro z f _
    rw [key]
    exact z
theorem asked_told {S : Subs} {d : D} : heardK 2 (askedB S) (pure d) = pure d := act_told
theorem heard_told {S : Subs} {d : D} : heardK 2 (heardB S) (pure d) = pure (.tup [.str "told", d]) := act_told
end P5

namespace P5
open PySem L2 PyProof.Rows
section
variable {α : Type} {ρ : Env'} {fe : EM} {tt : Env' → M Bool} {i j : Nat} {h h2 f : α → D} {p : α → Bool} {L : List α}
theorem lc_filter (H : ∀ x ∈ L, tt ((ρ.set i none).set i (some (h x))) = pure (p x) ∧ (p x = true → fe ((ρ.set i none).set i (some (h x))) = pure (f x))) : lcL [i] (gdName i) tt fe ρ (L.map h) = pure ((L.filter p).map f) :=
  lcL_fm fun x hx => ⟨[(i, h x)], rfl, by simp, (H x hx).1, (H x hx).2⟩
theorem lc_map (H : ∀ x ∈ L, fe ((ρ.set i none).set i (some (h x))) = pure (f x)) : lcL [i] (gdName i) dYes fe ρ (L.map h) = pure (L.map f) :=
  lcL_mm fun x hx => ⟨[(i, h x)], rfl, by simp, rfl, H x hx⟩
theorem lc_filter2 (H : ∀ x ∈ L, tt ((((ρ.set j none).set i none).set i (some (h x))).set j (some (h2 x))) = pure (p x) ∧ (p x = true → fe ((((ρ.set j none).set i none).set i (some (h x))).set j (some (h2 x))) = pure (f x))) :
    lcL [i, j] (gdTup 2 (gsCons (gdName i) (gsCons (gdName j) gsNil))) tt fe ρ (L.map fun x => .tup [h x, h2 x]) = pure ((L.filter p).map f) :=
  lcL_fm fun x hx => ⟨[(i, h x), (j, h2 x)], rfl, by simp, (H x hx).1, (H x hx).2⟩
theorem lc_map2 (H : ∀ x ∈ L, fe ((((ρ.set j none).set i none).set i (some (h x))).set j (some (h2 x))) = pure (f x)) :
    lcL [i, j] (gdTup 2 (gsCons (gdName i) (gsCons (gdName j) gsNil))) dYes fe ρ (L.map fun x => .tup [h x, h2 x]) = pure (L.map f) :=
  lcL_mm fun x hx => ⟨[(i, h x), (j, h2 x)], rfl, by simp, rfl, H x hx⟩
theorem lc_filterD {L : List D} {f : D → D} {p : D → Bool} (H : ∀ x ∈ L, tt ((ρ.set i none).set i (some x)) = pure (p x) ∧ (p x = true → fe ((ρ.set i none).set i (some x)) = pure (f x))) : lcL [i] (gdName i) tt fe ρ L = pure ((L.filter p).map f) := by
  have := lc_filter (h := id) (f := f) (p := p) (L := L) H
  rwa [List.map_id] at this
theorem lc_mapD {L : List D} {f : D → D} (H : ∀ x ∈ L, fe ((ρ.set i none).set i (some x)) = pure (f x)) : lcL [i] (gdName i) dYes fe ρ L = pure (L.map f) := by
  have := lc_map (h := id) (f := f) (L := L) H
  rwa [List.map_id] at this
end
theorem zip_pairs {α : Type} (f : α → D) (xs ys : List α) : pairsD ((xs.map f).zip (ys.map f)) = (xs.zip ys).map fun p => .tup [f p.1, f p.2] := by
  unfold pairsD
  rw [List.zip_map, List.map_map]
  rfl
theorem opZip_lst (xs ys : List D) : opZip [.lst xs, .lst ys] = some (pairsD (xs.zip ys)) := rfl
theorem opZip_tup (xs ys : List D) : opZip [.tup xs, .tup ys] = some (pairsD (xs.zip ys)) := rfl
theorem minD_in : ∀ (ds : List D) (d : D), minD d ds ∈ d :: ds
  | [], d => List.mem_singleton.mpr rfl
  | y :: ds, d => by
    have h := minD_in ds (if ltD y d = true then y else d)
    show minD (if ltD y d = true then y else d) ds ∈ _
    rcases List.mem_cons.mp h with e | e
    · rw [e]
      split
      · exact List.mem_cons_of_mem _ List.mem_cons_self
      · exact List.mem_cons_self
    · exact List.mem_cons_of_mem _ (List.mem_cons_of_mem _ e)
theorem minD_le : ∀ (ds : List D) (d : D), leD (minD d ds) d = true ∧ ∀ x ∈ ds, leD (minD d ds) x = true
  | [], d => ⟨leD_refl d, fun _ h => nomatch h⟩
  | y :: ds, d => by
    obtain ⟨h1, h2⟩ := minD_le ds (if ltD y d = true then y else d)
    show leD (minD (if ltD y d = true then y else d) ds) d = true ∧ ∀ x ∈ y :: ds, leD (minD (if ltD y d = true then y else d) ds) x = true
    have hk : leD (if ltD y d = true then y else d) d = true ∧ leD (if ltD y d = true then y else d) y = true := by
      split
      · rename_i h
        refine ⟨?_, leD_refl y⟩
        rcases Bool.or_eq_true_iff.mp (le_total_D y d) with z | z
        · exact z
        · unfold leD at z
          rw [h] at z
          cases z
      · rename_i h
        refine ⟨leD_refl d, ?_⟩
        unfold leD
        rw [Bool.not_eq_true']
        exact Bool.eq_false_iff.mpr h
    refine ⟨le_trans_D _ _ _ h1 hk.1, fun x hx => ?_⟩
    rcases List.mem_cons.mp hx with rfl | hx
    · exact le_trans_D _ _ _ h1 hk.2
    · exact h2 x hx
theorem alAll_ints (l : List Int) : alAll (l.map D.int) = true := by
  unfold alAll
  rw [List.all_eq_true]
  intro a ha
  obtain ⟨i, _, rfl⟩ := List.mem_map.mp ha
  rw [Bool.and_eq_true]
  refine ⟨rfl, List.all_eq_true.mpr fun b hb => ?_⟩
  obtain ⟨j, _, rfl⟩ := List.mem_map.mp hb
  rfl
theorem leD_int (i j : Int) : leD (.int i) (.int j) = decide (i ≤ j) := by
  unfold leD
  rw [ltD_int, ← decide_not]
  exact decide_eq_decide.mpr Int.not_lt
theorem min_ints {l : List Int} {m : Int} (hm : m ∈ l) (h : ∀ x ∈ l, m ≤ x) : opMin [.lst (l.map D.int)] = some (.int m) := by
  cases l with
  | nil => cases hm
  | cons x l =>
    show (if alAll (D.int x :: l.map D.int) = true then some (minD (D.int x) (l.map D.int)) else none) = _
    rw [show alAll (D.int x :: l.map D.int) = true from alAll_ints (x :: l), if_pos rfl]
    have h1 : minD (D.int x) (l.map D.int) ∈ (x :: l).map D.int := minD_in (l.map D.int) (D.int x)
    obtain ⟨i, hi, e⟩ := List.mem_map.mp h1
    rw [← e]
    have h2 := minD_le (l.map D.int) (D.int x)
    rw [← e] at h2
    have h3 : i ≤ m := by
      rcases List.mem_cons.mp hm with rfl | hm
      · have := h2.1
        rw [leD_int, decide_eq_true_iff] at this
        exact this
      · have := h2.2 _ (List.mem_map.mpr ⟨m, hm, rfl⟩)
        rw [leD_int, decide_eq_true_iff] at this
        exact this
    have := h i hi
    rw [show i = m by omega]
theorem minT_nats {l : List Nat} {m : Nat} (hm : m ∈ l) (h : ∀ x ∈ l, m ≤ x) : opMinT [.lst (l.map iD)] = some (.int m) := by
  have e : l.map iD = (l.map fun n : Nat => (n : Int)).map D.int := by rw [List.map_map]; rfl
  show opMin [.lst (l.map iD)] = _
  rw [e]
  refine min_ints (List.mem_map.mpr ⟨m, hm, rfl⟩) fun x hx => ?_
  obtain ⟨n, hn, rfl⟩ := List.mem_map.mp hx
  exact Int.ofNat_le.mpr (h n hn)
theorem maxT_nats {l : List Nat} {m : Nat} (hm : m ∈ l) (h : ∀ x ∈ l, x ≤ m) : opMaxT [.lst (l.map iD)] = some (.int m) := by
  have e : l.map iD = (l.map fun n : Nat => (n : Int)).map D.int := by rw [List.map_map]; rfl
  show opMax [.lst (l.map iD)] = _
  rw [e]
  refine max_ints (List.mem_map.mpr ⟨m, hm, rfl⟩) fun x hx => ?_
  obtain ⟨n, hn, rfl⟩ := List.mem_map.mp hx
  exact Int.ofNat_le.mpr (h n hn)
theorem mulBool (xs : List D) (h : xs.length ≤ 1000) (t : Bool) : opMul (.lst xs) (.int (if t = true then 1 else 0)) = some (.lst (if t = true then xs else [])) := by
  cases t
  · show (if 0 ≤ (0 : Int) ∧ (0 : Int) < 16777217 ∧ xs.length * (0 : Int).toNat ≤ 16777216 then some (D.lst (List.replicate (0 : Int).toNat xs).flatten) else none) = _
    rw [if_pos ⟨by decide, by decide, by show xs.length * 0 ≤ _; omega⟩]
    rfl
  · show (if 0 ≤ (1 : Int) ∧ (1 : Int) < 16777217 ∧ xs.length * (1 : Int).toNat ≤ 16777216 then some (D.lst (List.replicate (1 : Int).toNat xs).flatten) else none) = _
    rw [if_pos ⟨by decide, by decide, by show xs.length * 1 ≤ _; omega⟩]
    show some (D.lst (xs ++ [])) = _
    rw [List.append_nil]
    rfl
section
variable {gd : GD} {f : EM} {ρ : Env'} {mu : List Nat} {i : Nat} {s : SM} {xs : List D}
theorem W_lcany {vs : List Nat} {tt : Env' → M Bool} {fe : EM} {Q : List D → Prop} {E : Err → Prop} (R : D → Prop) (h : ∀ x ∈ xs, ∃ l, gd x = some l ∧ (l.all fun p => vs.contains p.1) = true ∧ tt (setsD (wipeD ρ vs) l) = pure true ∧ WP (fe (setsD (wipeD ρ vs) l)) R (fun _ => False))
    (q : ∀ ys, ys.length = xs.length → (∀ y ∈ ys, R y) → Q ys) : WP (lcL vs gd tt fe ρ xs) Q E := by
  rw [WP_eq]
  refine lcL_any R (fun x hx => ?_) q
  obtain ⟨l, h1, h2, h3, h4⟩ := h x hx
  rw [WP_eq] at h4
  exact ⟨l, h1, h2, h3, h4⟩
theorem nats_in {P : Nat → Prop} : ∀ {ys : List D}, (∀ y ∈ ys, ∃ n : Nat, P n ∧ y = iD n) → ∃ l : List Nat, ys = l.map iD ∧ ∀ x ∈ l, P x
  | [], _ => ⟨[], rfl, fun _ h => nomatch h⟩
  | y :: ys, h => by
    obtain ⟨n, hn, rfl⟩ := h y List.mem_cons_self
    obtain ⟨l, rfl, hl⟩ := nats_in fun y hy => h y (List.mem_cons_of_mem _ hy)
    refine ⟨n :: l, rfl, fun x hx => ?_⟩
    rcases List.mem_cons.mp hx with rfl | hx
    · exact hn
    · exact hl x hx
theorem W_draws {fe : EM} {Q : List D → Prop} {E : Err → Prop} (P : Nat → Prop) (h : ∀ x ∈ xs, WP (fe ((ρ.set i none).set i (some x))) (fun y => ∃ n : Nat, P n ∧ y = iD n) (fun _ => False))
    (q : ∀ l : List Nat, l.length = xs.length → (∀ x ∈ l, P x) → Q (l.map iD)) : WP (lcL [i] (gdName i) dYes fe ρ xs) Q E := by
  refine W_lcany (fun y => ∃ n : Nat, P n ∧ y = iD n) (fun x hx => ⟨[(i, x)], rfl, by simp, rfl, h x hx⟩) fun ys hl hy => ?_
  obtain ⟨l, rfl, hP⟩ := nats_in hy
  rw [List.length_map] at hl
  exact q l hl hP
theorem W_loop {QF : Fl → Prop} {EF : Err × Env' → Prop} (I : Nat → Env' → Prop) (hok : ∀ x ∈ xs, okSets mu [(i, x)] = true) (hstep : ∀ x ∈ xs, ∀ n ρ, I (n + 1) ρ → WP (s (ρ.set i (some x))) (fun r => ∃ ρ', r = .nx ρ' ∧ I n ρ') EF)
    (h : I xs.length ρ) (hend : ∀ ρ', I 0 ρ' → QF (.nx ρ')) : WP (forL mu (gdName i) s xs ρ) QF EF := by
  induction xs generalizing ρ with
  | nil =>
    rw [es37]
    exact W_pure (hend ρ h)
  | cons x xs ih =>
    rw [es76 (hok x List.mem_cons_self)]
    unfold fl1
    apply W_bind
    refine W_mono (hstep x List.mem_cons_self xs.length ρ h) (fun r z => ?_) fun _ z => z
    obtain ⟨ρ', rfl, h'⟩ := z
    exact ih (fun y hy => hok y (List.mem_cons_of_mem _ hy)) (fun y hy => hstep y (List.mem_cons_of_mem _ hy)) h'
theorem W_cut {s' : SM} {QF : Fl → Prop} {EF : Err × Env' → Prop} (R : Env' → Prop) (h1 : WP (s ρ) (fun r => ∃ ρ', r = .nx ρ' ∧ R ρ') EF) (h2 : ∀ ρ', R ρ' → WP (s' ρ') QF EF) : WP (sSeq s s' ρ) QF EF :=
  W_seq2 h1 fun r ⟨ρ', e, hr⟩ => by
    subst e
    rw [ew22]
    exact h2 ρ' hr
theorem maxP (a b : Int) : opMaxT [.tup [.int a, .int b]] = some (.int (max a b)) := rfl
theorem minP (a b : Int) : opMinT [.tup [.int a, .int b]] = some (.int (min a b)) := rfl
end
def mxl (l : List Nat) : Nat := l.foldr max 0
theorem mxl_ge : ∀ (l : List Nat), ∀ x ∈ l, x ≤ mxl l
  | y :: l, x, h => by
    show x ≤ max y (mxl l)
    rcases List.mem_cons.mp h with rfl | h
    · omega
    · have := mxl_ge l x h
      omega
theorem mxl_in : ∀ (l : List Nat), mxl l = 0 ∨ mxl l ∈ l
  | [] => .inl rfl
  | y :: l => by
    show max y (mxl l) = 0 ∨ max y (mxl l) ∈ y :: l
    rcases mxl_in l with h | h
    · rw [h, Nat.max_eq_left (Nat.zero_le _)]
      exact .inr List.mem_cons_self
    · by_cases c : y ≤ mxl l
      · rw [Nat.max_eq_right c]
        exact .inr (List.mem_cons_of_mem _ h)
      · rw [Nat.max_eq_left (by omega)]
        exact .inr List.mem_cons_self
theorem plL_map {α : Type} {f : α → D} (h : ∀ x, plD (f x) = true) : ∀ L : List α, plL (L.map f) = true
  | [] => rfl
  | x :: L => by
    show (plD (f x) && plL (L.map f)) = true
    rw [h x, plL_map h L]
    rfl
theorem szL_map {α : Type} {f : α → D} {c : Nat} (h : ∀ x, szD (f x) ≤ c) : ∀ L : List α, szL (L.map f) ≤ c * L.length
  | [] => Nat.le_refl _
  | x :: L => by
    have h1 := h x
    have h2 := szL_map h L
    show szD (f x) + szL (L.map f) ≤ c * (L.length + 1)
    rw [Nat.mul_add, Nat.mul_one]
    omega
theorem opNe_refl {d : D} (h : okD d = true) (h' : eqD d d = true) : opNe d d = some (.bl false) := by
  unfold opNe
  rw [h, Bool.and_self, if_pos rfl, h']
  rfl
theorem opEq_refl {d : D} (h : okD d = true) (h' : eqD d d = true) : opEq d d = some (.bl true) := by
  unfold opEq
  rw [h, Bool.and_self, if_pos rfl, h']
theorem head_filter {p : Nat → Bool} {m : Nat} (hm : p m = true) : ∀ (n s : Nat), s ≤ m → m < s + n → (∀ c, s ≤ c → c < m → p c = false) → ∃ rest, (List.range' s n).filter p = m :: rest
  | 0, s, h1, h2, _ => by omega
  | n + 1, s, h1, h2, h3 => by
    rw [List.range'_succ]
    by_cases e : s = m
    · subst e
      rw [List.filter_cons_of_pos hm]
      exact ⟨_, rfl⟩
    · have := h3 s (Nat.le_refl _) (by omega)
      rw [List.filter_cons_of_neg (by rw [this]; decide)]
      exact head_filter hm n (s + 1) (by omega) (by omega) fun c h4 h5 => h3 c (by omega) h5
end P5

namespace L02
open PySem L2 PyProof.Rows P5
open LamX (TabB lamS_by)
section
variable [Tb]
def topS (i : Nat) : Stmt := PySem.Challenge.pw_lifthall_k02_stairs_steps_and_rests.main.body.getD i (.Pass ⟨0, 0, 0, 0⟩)
structure Bl (K : K') (mg : Mg) : Prop where
  n_abs : mg "abs" = none
  n_all : mg "all" = none
  n_bool : mg "bool" = none
  n_int : mg "int" = none
  n_isinstance : mg "isinstance" = none
  n_len : mg "len" = none
  n_list : mg "list" = none
  n_max : mg "max" = none
  n_min : mg "min" = none
  n_range : mg "range" = none
  n_str : mg "str" = none
  n_sum : mg "sum" = none
  n_tuple : mg "tuple" = none
  n_zip : mg "zip" = none
  k_MOST_FLIGHTS : ∃ t, mg "MOST_FLIGHTS" = some (.int 12 t)
  k_MOST_MOVES : ∃ t, mg "MOST_MOVES" = some (.int 20 t)
  k_MOST_STEPS : ∃ t, mg "MOST_STEPS" = some (.int 99 t)
def S_Refused : Subs := fun x => if x = "Refused" then some true else none
abbrev s_is_integer : Stmt := topS 5
theorem sc_is_integer : FnScope ["thing"] ["thing"] (defScope s_is_integer) := ⟨rfl, rfl, rfl, by decide +kernel, rfl, by decide +kernel, by decide +kernel⟩
def g_is_integer : SM :=
  (sRet (dAnd (dUn (opIsi "int") (dVar 0)) (dNot (dUn (opIsi "bool") (dVar 0)))))
def m_is_integer : List D → M D := runFn 1 g_is_integer
theorem k_is_integer {P : Program} {w : World} {K : K'} {mg : Mg} {base : Heap} {f : Addr} {fd : FuncData} (F : Fun K "is_integer" "is_integer" s_is_integer f fd) (b : Binds K fd ["thing"] []) (g : mg "is_integer" = some (.ref f)) (B : Bl K mg) :
    Own P w K mg base 2 "is_integer" ["thing"] m_is_integer :=
  own_of ["thing"] ["thing"] 1 g_is_integer [] F sc_is_integer b g (by decide) fun cdv A outer s H F0 E hr =>
  (b_one (s_ret (u_and (u_isi rfl B.n_isinstance PyProof.Rows.Boot.«isinstance» rfl B.n_int PyProof.Rows.Boot.«int» kits_int (u_var (i := 0) rfl (.inl rfl))) (u_one (u_not (u_isi rfl B.n_isinstance PyProof.Rows.Boot.«isinstance» rfl B.n_bool PyProof.Rows.Boot.«bool» kits_bool (u_var (i := 0) rfl (.inl rfl))))))))
abbrev s_is_within : Stmt := topS 6
theorem sc_is_within : FnScope ["thing", "least", "most"] ["thing", "least", "most"] (defScope s_is_within) := ⟨rfl, rfl, rfl, by decide +kernel, rfl, by decide +kernel, by decide +kernel⟩
def g_is_within : SM :=
  (sRet (dAnd (dCallM 1 m_is_integer (dCons (dVar 0) dNil)) (dChain opLe opLe (dVar 1) (dVar 0) (dVar 2))))
def m_is_within : List D → M D := runFn 3 g_is_within
theorem k_is_within {P : Program} {w : World} {K : K'} {mg : Mg} {base : Heap} {f : Addr} {fd : FuncData} (F : Fun K "is_within" "is_within" s_is_within f fd) (b : Binds K fd ["thing", "least", "most"] []) (g : mg "is_within" = some (.ref f)) (B : Bl K mg) (O_is_integer : Own P w K mg base 2 "is_integer" ["thing"] m_is_integer) :
    Own P w K mg base 3 "is_within" ["thing", "least", "most"] m_is_within :=
  own_of ["thing", "least", "most"] ["thing", "least", "most"] 2 g_is_within [] F sc_is_within b g (by decide) fun cdv A outer s H F0 E hr =>
  (b_one (s_ret (u_and (u_own O_is_integer rfl tk_of hr (by decide) rfl (a_cons (u_var (i := 0) rfl (.inl rfl)) a_nil)) (u_one (u_chain (o_le (hu64 (A := A.deeper _) hr)) (o_le (hu64 (A := A.deeper _) hr)) (u_var (i := 1) rfl (.inl rfl)) (u_var (i := 0) rfl (.inl rfl)) (u_var (i := 2) rfl (.inl rfl)))))))
abbrev s_are_all : Stmt := topS 7
theorem sc_are_all : FnScope ["thing", "fits", "member"] ["thing", "fits"] (defScope s_are_all) := ⟨rfl, rfl, rfl, by decide +kernel, rfl, by decide +kernel, by decide +kernel⟩
def g_are_all (TAB : Tab) : SM :=
  (sRet (dAnd (dUn (opIsi "tuple") (dVar 0)) (dCall opAll (dCons (dLc [2] (iSeq (dVar 0)) (gdName 2) dYes (dCallT 1 TAB (dCons (dVar 2) dNil))) dNil))))
def m_are_all (TAB : Tab) : List D → M D := runFn 3 (g_are_all TAB)
theorem k_are_all {P : Program} {w : World} {K : K'} {mg : Mg} {base : Heap} {f : Addr} {fd : FuncData} (F : Fun K "are_all" "are_all" s_are_all f fd) (b : Binds K fd ["thing", "fits"] []) (g : mg "are_all" = some (.ref f)) (B : Bl K mg) (L : Nat) (TAB : Tab) (OT : TabOk P w K mg base L TAB) :
    Own P w K mg base (L + 2) "are_all" ["thing", "fits"] (m_are_all TAB) :=
  own_of ["thing", "fits", "member"] ["thing", "fits"] (L + 1) (g_are_all TAB) [] F sc_are_all b g (by decide) fun cdv A outer s H F0 E hr =>
  (b_one (s_ret (u_and (u_isi rfl B.n_isinstance PyProof.Rows.Boot.«isinstance» rfl B.n_tuple PyProof.Rows.Boot.«tuple» kits_tuple (u_var (i := 0) rfl (.inl rfl))) (u_one (u_callB (c_all rfl) rfl B.n_all PyProof.Rows.Boot.«all» (a_cons (u_lc (own := [("member", 2)]) rfl sc_are_all.nd (i_seq (u_var (i := 0) rfl (.inl rfl))) (blk_ok ["thing", "fits", "member"] (sc := defScope s_are_all) (by decide +kernel)) ⟨fun _ _ _ _ _ => (g_name (i := 2) sc_are_all.nd rfl (.inl rfl)), fun _ _ _ _ _ => ts_nil, fun _ _ _ _ _ => (u_callT (i := 1) OT (hr.mono (by omega)) rfl (.inr (.inl rfl)) (a_cons (u_var (i := 2) rfl (.inl rfl)) a_nil))⟩) a_nil))))))
abbrev s_are_integers : Stmt := topS 8
theorem sc_are_integers : FnScope ["thing"] ["thing"] (defScope s_are_integers) := ⟨rfl, rfl, rfl, by decide +kernel, rfl, by decide +kernel, by decide +kernel⟩
def g_are_integers : SM :=
  (sRet (dCallM 2 (m_are_all (tab1 "is_integer" 1 m_is_integer)) (dCons (dVar 0) (dCons (dCon (.fn "is_integer")) dNil))))
def m_are_integers : List D → M D := runFn 1 g_are_integers
theorem k_are_integers {P : Program} {w : World} {K : K'} {mg : Mg} {base : Heap} {f : Addr} {fd : FuncData} (F : Fun K "are_integers" "are_integers" s_are_integers f fd) (b : Binds K fd ["thing"] []) (g : mg "are_integers" = some (.ref f)) (B : Bl K mg) (O_is_integer : Own P w K mg base 2 "is_integer" ["thing"] m_is_integer) (O_are_all : ∀ (L : Nat) (TAB : Tab), TabOk P w K mg base L TAB → Own P w K mg base (L + 2) "are_all" ["thing", "fits"] (m_are_all TAB)) :
    Own P w K mg base 5 "are_integers" ["thing"] m_are_integers :=
  own_of ["thing"] ["thing"] 4 g_are_integers [] F sc_are_integers b g (by decide) fun cdv A outer s H F0 E hr =>
  (b_one (s_ret (u_own (O_are_all _ _ (tab1_ok O_is_integer rfl)) rfl tk_of hr (by decide) rfl (a_cons (u_var (i := 0) rfl (.inl rfl)) (a_cons (u_ownF (n := 0) O_is_integer rfl) a_nil)))))
abbrev s_is_pair : Stmt := topS 9
theorem sc_is_pair : FnScope ["thing"] ["thing"] (defScope s_is_pair) := ⟨rfl, rfl, rfl, by decide +kernel, rfl, by decide +kernel, by decide +kernel⟩
def g_is_pair : SM :=
  (sRet (dAnd (dCallM 1 m_are_integers (dCons (dVar 0) dNil)) (dBin opEq (dCall opLen (dCons (dVar 0) dNil)) (dCon (.int 2)))))
def m_is_pair : List D → M D := runFn 1 g_is_pair
theorem k_is_pair {P : Program} {w : World} {K : K'} {mg : Mg} {base : Heap} {f : Addr} {fd : FuncData} (F : Fun K "is_pair" "is_pair" s_is_pair f fd) (b : Binds K fd ["thing"] []) (g : mg "is_pair" = some (.ref f)) (B : Bl K mg) (O_are_integers : Own P w K mg base 5 "are_integers" ["thing"] m_are_integers) :
    Own P w K mg base 6 "is_pair" ["thing"] m_is_pair :=
  own_of ["thing"] ["thing"] 5 g_is_pair [] F sc_is_pair b g (by decide) fun cdv A outer s H F0 E hr =>
  (b_one (s_ret (u_and (u_own O_are_integers rfl tk_of hr (by decide) rfl (a_cons (u_var (i := 0) rfl (.inl rfl)) a_nil)) (u_one (u_cmp (o_eq (hu64 (A := A.deeper _) hr)) (u_callB c_len rfl B.n_len PyProof.Rows.Boot.«len» (a_cons (u_var (i := 0) rfl (.inl rfl)) a_nil)) u_int)))))
abbrev s_are_pairs : Stmt := topS 10
theorem sc_are_pairs : FnScope ["thing"] ["thing"] (defScope s_are_pairs) := ⟨rfl, rfl, rfl, by decide +kernel, rfl, by decide +kernel, by decide +kernel⟩
def g_are_pairs : SM :=
  (sRet (dCallM 2 (m_are_all (tab1 "is_pair" 1 m_is_pair)) (dCons (dVar 0) (dCons (dCon (.fn "is_pair")) dNil))))
def m_are_pairs : List D → M D := runFn 1 g_are_pairs
theorem k_are_pairs {P : Program} {w : World} {K : K'} {mg : Mg} {base : Heap} {f : Addr} {fd : FuncData} (F : Fun K "are_pairs" "are_pairs" s_are_pairs f fd) (b : Binds K fd ["thing"] []) (g : mg "are_pairs" = some (.ref f)) (B : Bl K mg) (O_are_all : ∀ (L : Nat) (TAB : Tab), TabOk P w K mg base L TAB → Own P w K mg base (L + 2) "are_all" ["thing", "fits"] (m_are_all TAB)) (O_is_pair : Own P w K mg base 6 "is_pair" ["thing"] m_is_pair) :
    Own P w K mg base 9 "are_pairs" ["thing"] m_are_pairs :=
  own_of ["thing"] ["thing"] 8 g_are_pairs [] F sc_are_pairs b g (by decide) fun cdv A outer s H F0 E hr =>
  (b_one (s_ret (u_own (O_are_all _ _ (tab1_ok O_is_pair rfl)) rfl tk_of hr (by decide) rfl (a_cons (u_var (i := 0) rfl (.inl rfl)) (a_cons (u_ownF (n := 0) O_is_pair rfl) a_nil)))))
abbrev s_is_house : Stmt := topS 15
theorem sc_is_house : FnScope ["thing", "steps"] ["thing"] (defScope s_is_house) := ⟨rfl, rfl, rfl, by decide +kernel, rfl, by decide +kernel, by decide +kernel⟩
def c_is_house_1 : EM :=
  (dLc [1] (iSeq (dVar 0)) (gdName 1) dYes (dChain opLe opLe (dCon (.int 1)) (dVar 1) (dCon (.int 99))))
def g_is_house : SM :=
  (sSeq (sIf (dOrT (dNotT (dT (dCallM 1 m_are_integers (dCons (dVar 0) dNil)))) (dNotT (dB (dChain opLe opLe (dCon (.int 1)) (dCall opLen (dCons (dVar 0) dNil)) (dCon (.int 12))))))
  (sRet (dCon (.bl false)))
  sNil)
  (sRet (dCall opAll (dCons c_is_house_1 dNil))))
def m_is_house : List D → M D := runFn 2 g_is_house
theorem k_is_house {P : Program} {w : World} {K : K'} {mg : Mg} {base : Heap} {f : Addr} {fd : FuncData} (F : Fun K "is_house" "is_house" s_is_house f fd) (b : Binds K fd ["thing"] []) (g : mg "is_house" = some (.ref f)) (B : Bl K mg) (O_are_integers : Own P w K mg base 5 "are_integers" ["thing"] m_are_integers) :
    Own P w K mg base 6 "is_house" ["thing"] m_is_house :=
  own_of ["thing", "steps"] ["thing"] 5 g_is_house [] F sc_is_house b g (by decide) fun cdv A outer s H F0 E hr =>
  (b_cons (s_if (t_w (w_or (t_not (t_tru (u_own O_are_integers rfl tk_of hr (by decide) rfl (a_cons (u_var (i := 0) rfl (.inl rfl)) a_nil)))) (w_or1 (t_not (t_chain (o_le (hu64 (A := A.deeper _) hr)) (o_le (hu64 (A := A.deeper _) hr)) u_int (u_callB c_len rfl B.n_len PyProof.Rows.Boot.«len» (a_cons (u_var (i := 0) rfl (.inl rfl)) a_nil)) (u_kint rfl (B.k_MOST_FLIGHTS)))))))
  (b_one (s_ret u_bl))
  b_nil)
  (b_one (s_ret (u_callB (c_all rfl) rfl B.n_all PyProof.Rows.Boot.«all» (a_cons (u_lc (own := [("steps", 1)]) rfl sc_is_house.nd (i_seq (u_var (i := 0) rfl (.inl rfl))) (blk_ok ["thing", "steps"] (sc := defScope s_is_house) (by decide +kernel)) ⟨fun _ _ _ _ _ => (g_name (i := 1) sc_is_house.nd rfl (.inl rfl)), fun _ _ _ _ _ => ts_nil, fun _ _ _ _ _ => (u_chain (o_le (hu64 (A := A.deeper _) hr)) (o_le (hu64 (A := A.deeper _) hr)) u_int (u_var (i := 1) rfl (.inl rfl)) (u_kint rfl (B.k_MOST_STEPS)))⟩) a_nil)))))
abbrev s_is_move : Stmt := topS 16
theorem sc_is_move : FnScope ["house", "move", "floor"] ["house", "move"] (defScope s_is_move) := ⟨rfl, rfl, rfl, by decide +kernel, rfl, by decide +kernel, by decide +kernel⟩
def c_is_move_1 : EM :=
  (dLc [2] (iSeq (dVar 1)) (gdName 2) dYes (dChain opLe opLe (dCon (.int 0)) (dVar 2) (dCall opLen (dCons (dVar 0) dNil))))
def g_is_move : SM :=
  (sRet (dAnd (dCall opAll (dCons c_is_move_1 dNil)) (dBin opNe (dBin opIx (dVar 1) (dCon (.int 0))) (dBin opIx (dVar 1) (dCon (.int 1))))))
def m_is_move : List D → M D := runFn 3 g_is_move
theorem k_is_move {P : Program} {w : World} {K : K'} {mg : Mg} {base : Heap} {f : Addr} {fd : FuncData} (F : Fun K "is_move" "is_move" s_is_move f fd) (b : Binds K fd ["house", "move"] []) (g : mg "is_move" = some (.ref f)) (B : Bl K mg) :
    Own P w K mg base 2 "is_move" ["house", "move"] m_is_move :=
  own_of ["house", "move", "floor"] ["house", "move"] 1 g_is_move [] F sc_is_move b g (by decide) fun cdv A outer s H F0 E hr =>
  (b_one (s_ret (u_and (u_callB (c_all rfl) rfl B.n_all PyProof.Rows.Boot.«all» (a_cons (u_lc (own := [("floor", 2)]) rfl sc_is_move.nd (i_seq (u_var (i := 1) rfl (.inl rfl))) (blk_ok ["house", "move", "floor"] (sc := defScope s_is_move) (by decide +kernel)) ⟨fun _ _ _ _ _ => (g_name (i := 2) sc_is_move.nd rfl (.inl rfl)), fun _ _ _ _ _ => ts_nil, fun _ _ _ _ _ => (u_chain (o_le (hu64 (A := A.deeper _) hr)) (o_le (hu64 (A := A.deeper _) hr)) u_int (u_var (i := 2) rfl (.inl rfl)) (u_callB c_len rfl B.n_len PyProof.Rows.Boot.«len» (a_cons (u_var (i := 0) rfl (.inr (.inl rfl))) a_nil)))⟩) a_nil)) (u_one (u_cmp (o_ne (hu64 (A := A.deeper _) hr)) (u_ix (hu1 (A := A.deeper _) hr) (u_var (i := 1) rfl (.inl rfl)) u_int) (u_ix (hu1 (A := A.deeper _) hr) (u_var (i := 1) rfl (.inl rfl)) u_int))))))
abbrev s_are_moves : Stmt := topS 17
theorem sc_are_moves : FnScope ["house", "thing", "move"] ["house", "thing"] (defScope s_are_moves) := ⟨rfl, rfl, rfl, by decide +kernel, rfl, by decide +kernel, by decide +kernel⟩
def c_are_moves_1 : EM :=
  (dLc [2] (iSeq (dVar 1)) (gdName 2) dYes (dCallM 2 m_is_move (dCons (dVar 0) (dCons (dVar 2) dNil))))
def g_are_moves : SM :=
  (sRet (dAnd (dCallM 1 m_are_pairs (dCons (dVar 1) dNil)) (dAnd (dBin opLe (dCall opLen (dCons (dVar 1) dNil)) (dCon (.int 20))) (dCall opAll (dCons c_are_moves_1 dNil)))))
def m_are_moves : List D → M D := runFn 3 g_are_moves
theorem k_are_moves {P : Program} {w : World} {K : K'} {mg : Mg} {base : Heap} {f : Addr} {fd : FuncData} (F : Fun K "are_moves" "are_moves" s_are_moves f fd) (b : Binds K fd ["house", "thing"] []) (g : mg "are_moves" = some (.ref f)) (B : Bl K mg) (O_are_pairs : Own P w K mg base 9 "are_pairs" ["thing"] m_are_pairs) (O_is_move : Own P w K mg base 2 "is_move" ["house", "move"] m_is_move) :
    Own P w K mg base 10 "are_moves" ["house", "thing"] m_are_moves :=
  own_of ["house", "thing", "move"] ["house", "thing"] 9 g_are_moves [] F sc_are_moves b g (by decide) fun cdv A outer s H F0 E hr =>
  (b_one (s_ret (u_and (u_own O_are_pairs rfl tk_of hr (by decide) rfl (a_cons (u_var (i := 1) rfl (.inl rfl)) a_nil)) (u_and (u_cmp (o_le (hu64 (A := A.deeper _) hr)) (u_callB c_len rfl B.n_len PyProof.Rows.Boot.«len» (a_cons (u_var (i := 1) rfl (.inl rfl)) a_nil)) (u_kint rfl (B.k_MOST_MOVES))) (u_one (u_callB (c_all rfl) rfl B.n_all PyProof.Rows.Boot.«all» (a_cons (u_lc (own := [("move", 2)]) rfl sc_are_moves.nd (i_seq (u_var (i := 1) rfl (.inl rfl))) (blk_ok ["house", "thing", "move"] (sc := defScope s_are_moves) (by decide +kernel)) ⟨fun _ _ _ _ _ => (g_name (i := 2) sc_are_moves.nd rfl (.inl rfl)), fun _ _ _ _ _ => ts_nil, fun _ _ _ _ _ => (u_own O_is_move rfl takes0 hr (by decide) rfl (a_cons (u_var (i := 0) rfl (.inr (.inl rfl))) (a_cons (u_var (i := 2) rfl (.inl rfl)) a_nil)))⟩) a_nil)))))))
abbrev s_need_floors : Stmt := topS 18
theorem sc_need_floors : FnScope ["house", "some", "floor"] ["house", "some"] (defScope s_need_floors) := ⟨rfl, rfl, rfl, by decide +kernel, rfl, by decide +kernel, by decide +kernel⟩
def c_need_floors_1 : EM :=
  (dLc [2] (iSeq (dVar 1)) (gdName 2) dYes (dCallM 3 m_is_within (dCons (dVar 2) (dCons (dCon (.int 0)) (dCons (dCall opLen (dCons (dVar 0) dNil)) dNil)))))
def g_need_floors : SM :=
  (sIf (dNotT (dT (dCall opAll (dCons c_need_floors_1 dNil))))
  (sRaise "Refused" ["why"] (dCons (dCon (.str "floor")) dNil))
  sNil)
def m_need_floors : List D → M D := runFn 3 g_need_floors
theorem k_need_floors {P : Program} {w : World} {K : K'} {mg : Mg} {base : Heap} {f : Addr} {fd : FuncData} (F : Fun K "need_floors" "need_floors" s_need_floors f fd) (b : Binds K fd ["house", "some"] []) (g : mg "need_floors" = some (.ref f)) (B : Bl K mg) (O_is_within : Own P w K mg base 3 "is_within" ["thing", "least", "most"] m_is_within) {C_Refused : Addr} (R_Refused : Raisable P w K mg "Refused" C_Refused ["why"]) :
    Own P w K mg base 4 "need_floors" ["house", "some"] m_need_floors :=
  own_of ["house", "some", "floor"] ["house", "some"] 3 g_need_floors [] F sc_need_floors b g (by decide) fun cdv A outer s H F0 E hr =>
  (b_one (s_if (t_not (t_tru (u_callB (c_all rfl) rfl B.n_all PyProof.Rows.Boot.«all» (a_cons (u_lc (own := [("floor", 2)]) rfl sc_need_floors.nd (i_seq (u_var (i := 1) rfl (.inl rfl))) (blk_ok ["house", "some", "floor"] (sc := defScope s_need_floors) (by decide +kernel)) ⟨fun _ _ _ _ _ => (g_name (i := 2) sc_need_floors.nd rfl (.inl rfl)), fun _ _ _ _ _ => ts_nil, fun _ _ _ _ _ => (u_own O_is_within rfl takes0 hr (by decide) rfl (a_cons (u_var (i := 2) rfl (.inl rfl)) (a_cons u_int (a_cons (u_callB c_len rfl B.n_len PyProof.Rows.Boot.«len» (a_cons (u_var (i := 0) rfl (.inr (.inl rfl))) a_nil)) a_nil))))⟩) a_nil))))
  (b_one (s_raise rfl R_Refused tk_of hr rfl (a_cons u_str a_nil)))
  b_nil))
abbrev s_steps_of_way : Stmt := topS 19
theorem sc_steps_of_way : FnScope ["house", "one", "other"] ["house", "one", "other"] (defScope s_steps_of_way) := ⟨rfl, rfl, rfl, by decide +kernel, rfl, by decide +kernel, by decide +kernel⟩
def g_steps_of_way : SM :=
  (sRet (dCall opSumT (dCons (dSl (dVar 0) (dSome (dCall opMin2 (dCons (dVar 1) (dCons (dVar 2) dNil)))) (dSome (dCall opMax2 (dCons (dVar 1) (dCons (dVar 2) dNil))))) dNil)))
def m_steps_of_way : List D → M D := runFn 3 g_steps_of_way
theorem k_steps_of_way {P : Program} {w : World} {K : K'} {mg : Mg} {base : Heap} {f : Addr} {fd : FuncData} (F : Fun K "steps_of_way" "steps_of_way" s_steps_of_way f fd) (b : Binds K fd ["house", "one", "other"] []) (g : mg "steps_of_way" = some (.ref f)) (B : Bl K mg) :
    Own P w K mg base 2 "steps_of_way" ["house", "one", "other"] m_steps_of_way :=
  own_of ["house", "one", "other"] ["house", "one", "other"] 1 g_steps_of_way [] F sc_steps_of_way b g (by decide) fun cdv A outer s H F0 E hr =>
  (b_one (s_ret (u_callB (c_sumT rfl) rfl B.n_sum PyProof.Rows.Boot.«sum» (a_cons (u_sl (u_var (i := 0) rfl (.inl rfl)) (so_some (u_callB (c_min2 rfl) rfl B.n_min PyProof.Rows.Boot.«min» (a_cons (u_var (i := 1) rfl (.inl rfl)) (a_cons (u_var (i := 2) rfl (.inl rfl)) a_nil)))) (so_some (u_callB (c_max2 rfl) rfl B.n_max PyProof.Rows.Boot.«max» (a_cons (u_var (i := 1) rfl (.inl rfl)) (a_cons (u_var (i := 2) rfl (.inl rfl)) a_nil))))) a_nil))))
abbrev s_steps_between : Stmt := topS 20
theorem sc_steps_between : FnScope ["house", "one", "other"] ["house", "one", "other"] (defScope s_steps_between) := ⟨rfl, rfl, rfl, by decide +kernel, rfl, by decide +kernel, by decide +kernel⟩
def g_steps_between : SM :=
  (sSeq (sDrop (dCallM 2 m_need_floors (dCons (dVar 0) (dCons (dTup (dCons (dVar 1) (dCons (dVar 2) dNil))) dNil))))
  (sRet (dCallM 3 m_steps_of_way (dCons (dVar 0) (dCons (dVar 1) (dCons (dVar 2) dNil))))))
def m_steps_between : List D → M D := runFn 3 g_steps_between
theorem k_steps_between {P : Program} {w : World} {K : K'} {mg : Mg} {base : Heap} {f : Addr} {fd : FuncData} (F : Fun K "steps_between" "steps_between" s_steps_between f fd) (b : Binds K fd ["house", "one", "other"] []) (g : mg "steps_between" = some (.ref f)) (B : Bl K mg) (O_need_floors : Own P w K mg base 4 "need_floors" ["house", "some"] m_need_floors) (O_steps_of_way : Own P w K mg base 2 "steps_of_way" ["house", "one", "other"] m_steps_of_way) :
    Own P w K mg base 5 "steps_between" ["house", "one", "other"] m_steps_between :=
  own_of ["house", "one", "other"] ["house", "one", "other"] 4 g_steps_between [] F sc_steps_between b g (by decide) fun cdv A outer s H F0 E hr =>
  (b_cons (s_expr (u_own O_need_floors rfl tk_of hr (by decide) rfl (a_cons (u_var (i := 0) rfl (.inl rfl)) (a_cons (u_tup (a_cons (u_var (i := 1) rfl (.inl rfl)) (a_cons (u_var (i := 2) rfl (.inl rfl)) a_nil))) a_nil))))
  (b_one (s_ret (u_own O_steps_of_way rfl tk_of hr (by decide) rfl (a_cons (u_var (i := 0) rfl (.inl rfl)) (a_cons (u_var (i := 1) rfl (.inl rfl)) (a_cons (u_var (i := 2) rfl (.inl rfl)) a_nil)))))))
abbrev s_carried_steps : Stmt := topS 21
theorem sc_carried_steps : FnScope ["house", "moves", "here", "there"] ["house", "moves"] (defScope s_carried_steps) := ⟨rfl, rfl, rfl, by decide +kernel, rfl, by decide +kernel, by decide +kernel⟩
def c_carried_steps_1 : EM :=
  (dLc [2, 3] (iSeq (dVar 1)) (gdTup 2 (gsCons (gdName 2) (gsCons (gdName 3) gsNil))) dYes (dCallM 3 m_steps_of_way (dCons (dVar 0) (dCons (dVar 2) (dCons (dVar 3) dNil)))))
def g_carried_steps : SM :=
  (sRet (dCall opSumT (dCons c_carried_steps_1 dNil)))
def m_carried_steps : List D → M D := runFn 4 g_carried_steps
theorem k_carried_steps {P : Program} {w : World} {K : K'} {mg : Mg} {base : Heap} {f : Addr} {fd : FuncData} (F : Fun K "carried_steps" "carried_steps" s_carried_steps f fd) (b : Binds K fd ["house", "moves"] []) (g : mg "carried_steps" = some (.ref f)) (B : Bl K mg) (O_steps_of_way : Own P w K mg base 2 "steps_of_way" ["house", "one", "other"] m_steps_of_way) :
    Own P w K mg base 3 "carried_steps" ["house", "moves"] m_carried_steps :=
  own_of ["house", "moves", "here", "there"] ["house", "moves"] 2 g_carried_steps [] F sc_carried_steps b g (by decide) fun cdv A outer s H F0 E hr =>
  (b_one (s_ret (u_callB (c_sumT rfl) rfl B.n_sum PyProof.Rows.Boot.«sum» (a_cons (u_lc (own := [("here", 2), ("there", 3)]) rfl sc_carried_steps.nd (i_seq (u_var (i := 1) rfl (.inl rfl))) (blk_ok ["house", "moves", "here", "there"] (sc := defScope s_carried_steps) (by decide +kernel)) ⟨fun _ _ _ _ _ => (g_tup rfl (gs_cons (g_name (i := 2) sc_carried_steps.nd rfl (.inl rfl)) (gs_cons (g_name (i := 3) sc_carried_steps.nd rfl (.inl rfl)) gs_nil))), fun _ _ _ _ _ => ts_nil, fun _ _ _ _ _ => (u_own O_steps_of_way rfl takes0 hr (by decide) rfl (a_cons (u_var (i := 0) rfl (.inr (.inl rfl))) (a_cons (u_var (i := 2) rfl (.inl rfl)) (a_cons (u_var (i := 3) rfl (.inl rfl)) a_nil))))⟩) a_nil))))
abbrev s_highest : Stmt := topS 22
theorem sc_highest : FnScope ["house", "moves", "move"] ["house", "moves"] (defScope s_highest) := ⟨rfl, rfl, rfl, by decide +kernel, rfl, by decide +kernel, by decide +kernel⟩
def c_highest_1 : EM :=
  (dLc [2] (iSeq (dVar 1)) (gdName 2) dYes (dCall opMaxT (dCons (dVar 2) dNil)))
def g_highest : SM :=
  (sRet (dCall opMaxT (dCons (dLst (dCons (dCon (.int 0)) (dStar c_highest_1 dNil))) dNil)))
def m_highest : List D → M D := runFn 3 g_highest
theorem k_highest {P : Program} {w : World} {K : K'} {mg : Mg} {base : Heap} {f : Addr} {fd : FuncData} (F : Fun K "highest" "highest" s_highest f fd) (b : Binds K fd ["house", "moves"] []) (g : mg "highest" = some (.ref f)) (B : Bl K mg) :
    Own P w K mg base 2 "highest" ["house", "moves"] m_highest :=
  own_of ["house", "moves", "move"] ["house", "moves"] 1 g_highest [] F sc_highest b g (by decide) fun cdv A outer s H F0 E hr =>
  (b_one (s_ret (u_callB (c_maxT rfl (hu66 (A := A.deeper _) hr)) rfl B.n_max PyProof.Rows.Boot.«max» (a_cons (u_lst (a_cons u_int (a_star (u_lc (own := [("move", 2)]) rfl sc_highest.nd (i_seq (u_var (i := 1) rfl (.inl rfl))) (blk_ok ["house", "moves", "move"] (sc := defScope s_highest) (by decide +kernel)) ⟨fun _ _ _ _ _ => (g_name (i := 2) sc_highest.nd rfl (.inl rfl)), fun _ _ _ _ _ => ts_nil, fun _ _ _ _ _ => (u_callB (c_maxT rfl (hu66 (A := A.deeper _) hr)) rfl B.n_max PyProof.Rows.Boot.«max» (a_cons (u_var (i := 2) rfl (.inl rfl)) a_nil))⟩) a_nil))) a_nil))))
abbrev s_crossings : Stmt := topS 23
theorem sc_crossings : FnScope ["house", "moves", "found", "flight", "ups", "downs", "here", "there"] ["house", "moves"] (defScope s_crossings) := ⟨rfl, rfl, rfl, by decide +kernel, rfl, by decide +kernel, by decide +kernel⟩
def c_crossings_1 : EM :=
  (dLc [6, 7] (iSeq (dVar 1)) (gdTup 2 (gsCons (gdName 6) (gsCons (gdName 7) gsNil))) (dB (dChain opLe opLt (dVar 6) (dVar 3) (dVar 7))) (dCon (.int 1)))
def c_crossings_2 : EM :=
  (dLc [6, 7] (iSeq (dVar 1)) (gdTup 2 (gsCons (gdName 6) (gsCons (gdName 7) gsNil))) (dB (dChain opLe opLt (dVar 7) (dVar 3) (dVar 6))) (dCon (.int 1)))
def b_crossings_1 : SM :=
  (sSeq (sSetF [2] (dCall opLen (dCons c_crossings_1 dNil)) (gdName 4))
  (sSeq (sSetF [2] (dCall opLen (dCons c_crossings_2 dNil)) (gdName 5))
  (sAppF [2] 2 (dTup (dCons (dVar 4) (dCons (dVar 5) dNil))))))
def g_crossings : SM :=
  (sSeq (sOwnF [2] 2 (dLst dNil))
  (sSeq (sFor [2] (iArgs opRng1 (dCons (dCall opLen (dCons (dVar 0) dNil)) dNil)) (gdName 3)
  b_crossings_1)
  (sRet (dCall opTuple (dCons (dVar 2) dNil)))))
def m_crossings : List D → M D := runFn 8 g_crossings
theorem k_crossings {P : Program} {w : World} {K : K'} {mg : Mg} {base : Heap} {f : Addr} {fd : FuncData} (F : Fun K "crossings" "crossings" s_crossings f fd) (b : Binds K fd ["house", "moves"] []) (g : mg "crossings" = some (.ref f)) (B : Bl K mg) :
    Own P w K mg base 2 "crossings" ["house", "moves"] m_crossings :=
  own_of ["house", "moves", "found", "flight", "ups", "downs", "here", "there"] ["house", "moves"] 1 g_crossings [2] F sc_crossings b g (by decide) fun cdv A outer s H F0 E hr =>
  (b_cons (s_ownF (i := 2) (by decide) sc_crossings.nd rfl (.inl rfl) (fr_lst a_nil))
  (b_cons (s_for po_of rfl (i_range1 rfl B.n_range (a_cons (u_callB c_len rfl B.n_len PyProof.Rows.Boot.«len» (a_cons (u_var (i := 0) rfl (.inl rfl)) a_nil)) a_nil)) (g_name (i := 3) sc_crossings.nd rfl (.inr rfl))
  (b_cons (s_asgF (u_callB c_len rfl B.n_len PyProof.Rows.Boot.«len» (a_cons (u_lc (own := [("here", 6), ("there", 7)]) rfl sc_crossings.nd (i_seq (u_var (i := 1) rfl (.inl rfl))) (blk_ok ["house", "moves", "found", "flight", "ups", "downs", "here", "there"] (sc := defScope s_crossings) (by decide +kernel)) ⟨fun _ _ _ _ _ => (g_tup rfl (gs_cons (g_name (i := 6) sc_crossings.nd rfl (.inl rfl)) (gs_cons (g_name (i := 7) sc_crossings.nd rfl (.inl rfl)) gs_nil))), fun _ _ _ _ _ => (ts_one (t_chain (o_le (hu64 (A := A.deeper _) hr)) (o_lt (hu64 (A := A.deeper _) hr)) (u_var (i := 6) rfl (.inl rfl)) (u_var (i := 3) rfl (.inr (.inl rfl))) (u_var (i := 7) rfl (.inl rfl)))), fun _ _ _ _ _ => u_int⟩) a_nil)) (g_name (i := 4) sc_crossings.nd rfl (.inl rfl)))
  (b_cons (s_asgF (u_callB c_len rfl B.n_len PyProof.Rows.Boot.«len» (a_cons (u_lc (own := [("here", 6), ("there", 7)]) rfl sc_crossings.nd (i_seq (u_var (i := 1) rfl (.inl rfl))) (blk_ok ["house", "moves", "found", "flight", "ups", "downs", "here", "there"] (sc := defScope s_crossings) (by decide +kernel)) ⟨fun _ _ _ _ _ => (g_tup rfl (gs_cons (g_name (i := 6) sc_crossings.nd rfl (.inl rfl)) (gs_cons (g_name (i := 7) sc_crossings.nd rfl (.inl rfl)) gs_nil))), fun _ _ _ _ _ => (ts_one (t_chain (o_le (hu64 (A := A.deeper _) hr)) (o_lt (hu64 (A := A.deeper _) hr)) (u_var (i := 7) rfl (.inl rfl)) (u_var (i := 3) rfl (.inr (.inl rfl))) (u_var (i := 6) rfl (.inl rfl)))), fun _ _ _ _ _ => u_int⟩) a_nil)) (g_name (i := 5) sc_crossings.nd rfl (.inl rfl)))
  (b_one (s_appF (i := 2) (by decide) rfl (.inl rfl) (u_tup (a_cons (u_var (i := 4) rfl (.inl rfl)) (a_cons (u_var (i := 5) rfl (.inl rfl)) a_nil))))))))
  (b_one (s_ret (u_callTy c_tuple rfl B.n_tuple PyProof.Rows.Boot.«tuple» (a_cons (u_var (i := 2) rfl (.inl rfl)) a_nil))))))
abbrev s_rests_up : Stmt := topS 24
theorem sc_rests_up : FnScope ["house", "one", "other", "breath", "found", "left", "floor"] ["house", "one", "other", "breath"] (defScope s_rests_up) := ⟨rfl, rfl, rfl, by decide +kernel, rfl, by decide +kernel, by decide +kernel⟩
def b_rests_up_1 : SM :=
  (sSeq (sIf (dB (dBin opGt (dBin opIx (dVar 0) (dVar 6)) (dVar 3)))
  (sRet (dCon .non))
  sNil)
  (sSeq (sIf (dB (dBin opGt (dBin opIx (dVar 0) (dVar 6)) (dVar 5)))
  (sSeq (sAppF [4] 4 (dVar 6))
  (sSetF [4] (dVar 3) (gdName 5)))
  sNil)
  (sAug [4] 5 opSub (dBin opIx (dVar 0) (dVar 6)))))
def g_rests_up : SM :=
  (sSeq (sParFO [4] 4 5 (dLst dNil) (dVar 3))
  (sSeq (sFor [4] (iArgs opRng2 (dCons (dVar 1) (dCons (dVar 2) dNil))) (gdName 6)
  b_rests_up_1)
  (sRet (dVar 4))))
def m_rests_up : List D → M D := runFn 7 g_rests_up
theorem k_rests_up {P : Program} {w : World} {K : K'} {mg : Mg} {base : Heap} {f : Addr} {fd : FuncData} (F : Fun K "rests_up" "rests_up" s_rests_up f fd) (b : Binds K fd ["house", "one", "other", "breath"] []) (g : mg "rests_up" = some (.ref f)) (B : Bl K mg) :
    Own P w K mg base 2 "rests_up" ["house", "one", "other", "breath"] m_rests_up :=
  own_of ["house", "one", "other", "breath", "found", "left", "floor"] ["house", "one", "other", "breath"] 1 g_rests_up [4] F sc_rests_up b g (by decide) fun cdv A outer s H F0 E hr =>
  (b_cons (s_parFO (i := 4) (j := 5) (by decide) rfl sc_rests_up.nd rfl rfl (by decide) rfl rfl (fr_lst a_nil) (u_var (i := 3) rfl (.inl rfl)))
  (b_cons (s_for po_of rfl (i_range2 rfl B.n_range (a_cons (u_var (i := 1) rfl (.inl rfl)) (a_cons (u_var (i := 2) rfl (.inl rfl)) a_nil))) (g_name (i := 6) sc_rests_up.nd rfl (.inl rfl))
  (b_cons (s_if (t_cmp (o_gt (hu64 (A := A.deeper _) hr)) (u_ix (hu1 (A := A.deeper _) hr) (u_var (i := 0) rfl (.inl rfl)) (u_var (i := 6) rfl (.inl rfl))) (u_var (i := 3) rfl (.inl rfl)))
  (b_one (s_ret u_non))
  b_nil)
  (b_cons (s_if (t_cmp (o_gt (hu64 (A := A.deeper _) hr)) (u_ix (hu1 (A := A.deeper _) hr) (u_var (i := 0) rfl (.inl rfl)) (u_var (i := 6) rfl (.inl rfl))) (u_var (i := 5) rfl (.inl rfl)))
  (b_cons (s_appF (i := 4) (by decide) rfl (.inl rfl) (u_var (i := 6) rfl (.inl rfl)))
  (b_one (s_asgF (u_var (i := 3) rfl (.inl rfl)) (g_name (i := 5) sc_rests_up.nd rfl (.inl rfl)))))
  b_nil)
  (b_one (s_augSub (i := 5) sc_rests_up.nd rfl (.inl rfl) (u_ix (hu1 (A := A.deeper _) hr) (u_var (i := 0) rfl (.inl rfl)) (u_var (i := 6) rfl (.inl rfl))))))))
  (b_one (s_ret (u_var (i := 4) rfl (.inl rfl))))))
abbrev s_rest_floors : Stmt := topS 25
theorem sc_rest_floors : FnScope ["house", "one", "other", "breath", "found"] ["house", "one", "other", "breath"] (defScope s_rest_floors) := ⟨rfl, rfl, rfl, by decide +kernel, rfl, by decide +kernel, by decide +kernel⟩
def g_rest_floors : SM :=
  (sSeq (sDrop (dCallM 2 m_need_floors (dCons (dVar 0) (dCons (dTup (dCons (dVar 1) (dCons (dVar 2) dNil))) dNil))))
  (sSeq (sSetF [] (dCallM 4 m_rests_up (dCons (dVar 0) (dCons (dVar 1) (dCons (dVar 2) (dCons (dVar 3) dNil))))) (gdName 4))
  (sRet (dIf (dB (dBin opIsN (dVar 4) (dCon .non))) (dCon .non) (dCall opTuple (dCons (dVar 4) dNil))))))
def m_rest_floors : List D → M D := runFn 5 g_rest_floors
theorem k_rest_floors {P : Program} {w : World} {K : K'} {mg : Mg} {base : Heap} {f : Addr} {fd : FuncData} (F : Fun K "rest_floors" "rest_floors" s_rest_floors f fd) (b : Binds K fd ["house", "one", "other", "breath"] []) (g : mg "rest_floors" = some (.ref f)) (B : Bl K mg) (O_need_floors : Own P w K mg base 4 "need_floors" ["house", "some"] m_need_floors) (O_rests_up : Own P w K mg base 2 "rests_up" ["house", "one", "other", "breath"] m_rests_up) :
    Own P w K mg base 5 "rest_floors" ["house", "one", "other", "breath"] m_rest_floors :=
  own_of ["house", "one", "other", "breath", "found"] ["house", "one", "other", "breath"] 4 g_rest_floors [] F sc_rest_floors b g (by decide) fun cdv A outer s H F0 E hr =>
  (b_cons (s_expr (u_own O_need_floors rfl tk_of hr (by decide) rfl (a_cons (u_var (i := 0) rfl (.inl rfl)) (a_cons (u_tup (a_cons (u_var (i := 1) rfl (.inl rfl)) (a_cons (u_var (i := 2) rfl (.inl rfl)) a_nil))) a_nil))))
  (b_cons (s_asgF (u_own O_rests_up rfl tk_of hr (by decide) rfl (a_cons (u_var (i := 0) rfl (.inl rfl)) (a_cons (u_var (i := 1) rfl (.inl rfl)) (a_cons (u_var (i := 2) rfl (.inl rfl)) (a_cons (u_var (i := 3) rfl (.inl rfl)) a_nil))))) (g_name (i := 4) sc_rest_floors.nd rfl (.inl rfl)))
  (b_one (s_ret (u_if (t_cmp (o_isN) (u_var (i := 4) rfl (.inl rfl)) u_non) u_non (u_callTy c_tuple rfl B.n_tuple PyProof.Rows.Boot.«tuple» (a_cons (u_var (i := 4) rfl (.inl rfl)) a_nil)))))))
abbrev s_fewest_rests : Stmt := topS 26
theorem sc_fewest_rests : FnScope ["house", "one", "other", "breath", "found"] ["house", "one", "other", "breath"] (defScope s_fewest_rests) := ⟨rfl, rfl, rfl, by decide +kernel, rfl, by decide +kernel, by decide +kernel⟩
def g_fewest_rests : SM :=
  (sSeq (sSetF [] (dCallM 4 m_rest_floors (dCons (dVar 0) (dCons (dVar 1) (dCons (dVar 2) (dCons (dVar 3) dNil))))) (gdName 4))
  (sRet (dIf (dB (dBin opIsN (dVar 4) (dCon .non))) (dCon .non) (dCall opLen (dCons (dVar 4) dNil)))))
def m_fewest_rests : List D → M D := runFn 5 g_fewest_rests
theorem k_fewest_rests {P : Program} {w : World} {K : K'} {mg : Mg} {base : Heap} {f : Addr} {fd : FuncData} (F : Fun K "fewest_rests" "fewest_rests" s_fewest_rests f fd) (b : Binds K fd ["house", "one", "other", "breath"] []) (g : mg "fewest_rests" = some (.ref f)) (B : Bl K mg) (O_rest_floors : Own P w K mg base 5 "rest_floors" ["house", "one", "other", "breath"] m_rest_floors) :
    Own P w K mg base 6 "fewest_rests" ["house", "one", "other", "breath"] m_fewest_rests :=
  own_of ["house", "one", "other", "breath", "found"] ["house", "one", "other", "breath"] 5 g_fewest_rests [] F sc_fewest_rests b g (by decide) fun cdv A outer s H F0 E hr =>
  (b_cons (s_asgF (u_own O_rest_floors rfl tk_of hr (by decide) rfl (a_cons (u_var (i := 0) rfl (.inl rfl)) (a_cons (u_var (i := 1) rfl (.inl rfl)) (a_cons (u_var (i := 2) rfl (.inl rfl)) (a_cons (u_var (i := 3) rfl (.inl rfl)) a_nil))))) (g_name (i := 4) sc_fewest_rests.nd rfl (.inl rfl)))
  (b_one (s_ret (u_if (t_cmp (o_isN) (u_var (i := 4) rfl (.inl rfl)) u_non) u_non (u_callB c_len rfl B.n_len PyProof.Rows.Boot.«len» (a_cons (u_var (i := 4) rfl (.inl rfl)) a_nil))))))
abbrev s_least_breath : Stmt := topS 27
theorem sc_least_breath : FnScope ["house", "one", "other", "rests", "low", "high", "middle", "found"] ["house", "one", "other", "rests"] (defScope s_least_breath) := ⟨rfl, rfl, rfl, by decide +kernel, rfl, by decide +kernel, by decide +kernel⟩
def w_least_breath_1 : Env' → M Bool :=
  (dB (dBin opLt (dVar 4) (dVar 5)))
def b_least_breath_1 : SM :=
  (sSeq (sSetF [] (dBin opDiv (dBin opAdd (dVar 4) (dVar 5)) (dCon (.int 2))) (gdName 6))
  (sSeq (sSetF [] (dCallM 4 m_rests_up (dCons (dVar 0) (dCons (dVar 1) (dCons (dVar 2) (dCons (dVar 6) dNil))))) (gdName 7))
  (sIf (dAndT (dB (dBin opNotN (dVar 7) (dCon .non))) (dB (dBin opLe (dCall opLen (dCons (dVar 7) dNil)) (dVar 3))))
  (sSetF [] (dVar 6) (gdName 5))
  (sSetF [] (dBin opAdd (dVar 6) (dCon (.int 1))) (gdName 4)))))
def g_least_breath : SM :=
  (sSeq (sDrop (dCallM 2 m_need_floors (dCons (dVar 0) (dCons (dTup (dCons (dVar 1) (dCons (dVar 2) dNil))) dNil))))
  (sSeq (sParF [] 4 5 (dCons (dCon (.int 1)) (dCons (dCall opMax2 (dCons (dCon (.int 1)) (dCons (dCallM 3 m_steps_of_way (dCons (dVar 0) (dCons (dVar 1) (dCons (dVar 2) dNil)))) dNil))) dNil)))
  (sSeq (sWhile w_least_breath_1
  b_least_breath_1)
  (sRet (dIf (dB (dBin opLt (dVar 1) (dVar 2))) (dVar 4) (dCon (.int 1)))))))
def m_least_breath : List D → M D := runFn 8 g_least_breath
theorem k_least_breath {P : Program} {w : World} {K : K'} {mg : Mg} {base : Heap} {f : Addr} {fd : FuncData} (F : Fun K "least_breath" "least_breath" s_least_breath f fd) (b : Binds K fd ["house", "one", "other", "rests"] []) (g : mg "least_breath" = some (.ref f)) (B : Bl K mg) (O_need_floors : Own P w K mg base 4 "need_floors" ["house", "some"] m_need_floors) (O_steps_of_way : Own P w K mg base 2 "steps_of_way" ["house", "one", "other"] m_steps_of_way) (O_rests_up : Own P w K mg base 2 "rests_up" ["house", "one", "other", "breath"] m_rests_up) :
    Own P w K mg base 5 "least_breath" ["house", "one", "other", "rests"] m_least_breath :=
  own_of ["house", "one", "other", "rests", "low", "high", "middle", "found"] ["house", "one", "other", "rests"] 4 g_least_breath [] F sc_least_breath b g (by decide) fun cdv A outer s H F0 E hr =>
  (b_cons (s_expr (u_own O_need_floors rfl tk_of hr (by decide) rfl (a_cons (u_var (i := 0) rfl (.inl rfl)) (a_cons (u_tup (a_cons (u_var (i := 1) rfl (.inl rfl)) (a_cons (u_var (i := 2) rfl (.inl rfl)) a_nil))) a_nil))))
  (b_cons (s_parF (i := 4) (j := 5) rfl sc_least_breath.nd rfl rfl (by decide) rfl rfl (a_cons u_int (a_cons (u_callB (c_max2 rfl) rfl B.n_max PyProof.Rows.Boot.«max» (a_cons u_int (a_cons (u_own O_steps_of_way rfl tk_of hr (by decide) rfl (a_cons (u_var (i := 0) rfl (.inl rfl)) (a_cons (u_var (i := 1) rfl (.inl rfl)) (a_cons (u_var (i := 2) rfl (.inl rfl)) a_nil)))) a_nil))) a_nil)))
  (b_cons (s_while po_of (t_cmp (o_lt (hu64 (A := A.deeper _) hr)) (u_var (i := 4) rfl (.inl rfl)) (u_var (i := 5) rfl (.inl rfl)))
  (b_cons (s_asgF (u_bin o_div (u_bin o_add (u_var (i := 4) rfl (.inl rfl)) (u_var (i := 5) rfl (.inl rfl))) u_int) (g_name (i := 6) sc_least_breath.nd rfl (.inl rfl)))
  (b_cons (s_asgF (u_own O_rests_up rfl tk_of hr (by decide) rfl (a_cons (u_var (i := 0) rfl (.inl rfl)) (a_cons (u_var (i := 1) rfl (.inl rfl)) (a_cons (u_var (i := 2) rfl (.inl rfl)) (a_cons (u_var (i := 6) rfl (.inl rfl)) a_nil))))) (g_name (i := 7) sc_least_breath.nd rfl (.inl rfl)))
  (b_one (s_if (t_w (w_and (t_cmp (o_notN) (u_var (i := 7) rfl (.inl rfl)) u_non) (w_and1 (t_cmp (o_le (hu64 (A := A.deeper _) hr)) (u_callB c_len rfl B.n_len PyProof.Rows.Boot.«len» (a_cons (u_var (i := 7) rfl (.inl rfl)) a_nil)) (u_var (i := 3) rfl (.inl rfl))))))
  (b_one (s_asgF (u_var (i := 6) rfl (.inl rfl)) (g_name (i := 5) sc_least_breath.nd rfl (.inl rfl))))
  (b_one (s_asgF (u_bin o_add (u_var (i := 6) rfl (.inl rfl)) u_int) (g_name (i := 4) sc_least_breath.nd rfl (.inl rfl)))))))))
  (b_one (s_ret (u_if (t_cmp (o_lt (hu64 (A := A.deeper _) hr)) (u_var (i := 1) rfl (.inl rfl)) (u_var (i := 2) rfl (.inl rfl))) (u_var (i := 4) rfl (.inl rfl)) u_int))))))
abbrev s__law_bag : Stmt := topS 29
theorem sc__law_bag : FnScope ["script", "cell"] ["script"] (defScope s__law_bag) := ⟨rfl, rfl, rfl, by decide +kernel, rfl, by decide +kernel, by decide +kernel⟩
theorem k__law_bag {P : Program} {w : World} {K : K'} {mg : Mg} {base : Heap} {f : Addr} {fd : FuncData} (F : Fun K "_law_bag" "_law_bag" s__law_bag f fd) (b : Binds K fd ["script"] []) (g : mg "_law_bag" = some (.ref f)) (B : Bl K mg) :
    Own P w K mg base 2 "_law_bag" ["script"] bagM :=
  bag_of ["script", "cell"] 1 f_bag F sc__law_bag b g rfl (fun cdv A outer s H E hr => ⟨(fr_lc (own := [("cell", 1)]) rfl sc__law_bag.nd (i_seq (u_sl (u_var (i := 0) rfl (.inl rfl)) so_none (so_some u_int))) (blk_ok ["script", "cell"] (sc := defScope s__law_bag) (by decide +kernel)) ⟨fun _ _ _ _ _ => (g_name (i := 1) sc__law_bag.nd rfl (.inl rfl)), fun _ _ _ _ _ => ts_nil, fun _ _ _ _ _ => (u_callB c_abs rfl B.n_abs PyProof.Rows.Boot.«abs» (a_cons (u_var (i := 1) rfl (.inl rfl)) a_nil))⟩), rfl⟩) bag_ok
abbrev s__law_take : Stmt := topS 30
theorem sc__law_take : FnScope ["bag", "many", "cell", "stirred", "value", "begin", "second"] ["bag", "many"] (defScope s__law_take) := ⟨rfl, rfl, rfl, by decide +kernel, rfl, by decide +kernel, by decide +kernel⟩
theorem k__law_take {P : Program} {w : World} {K : K'} {mg : Mg} {base : Heap} {f : Addr} {fd : FuncData} (F : Fun K "_law_take" "_law_take" s__law_take f fd) (b : Binds K fd ["bag", "many"] []) (g : mg "_law_take" = some (.ref f)) (B : Bl K mg) :
    Own P w K mg base 2 "_law_take" ["bag", "many"] takeM :=
  take_of ["bag", "many", "cell", "stirred", "value", "begin", "second"] 1 g_take F sc__law_take b g (by decide) (fun cdv A outer s H E hr =>
  (bb_cons (sb_if (t_cmp (o_eq (hu64 (A := A.deeper _) hr)) (u_ix (hu1 (A := A.deeper _) hr) (u_var (i := 0) rfl (.inl rfl)) u_int) u_int)
  (bb_cons (sb_set (i := 2) (by decide) sc__law_take.nd rfl (.inl rfl) (u_ix (hu1 (A := A.deeper _) hr) (u_bin o_add (u_sl (u_ix (hu1 (A := A.deeper _) hr) (u_var (i := 0) rfl (.inl rfl)) u_int) (so_some (u_ix (hu1 (A := A.deeper _) hr) (u_var (i := 0) rfl (.inl rfl)) u_int)) so_none) (u_lst (a_cons u_int a_nil))) u_int))
  (bb_cons (sb_aug (k := 2) rfl (by decide) rfl (.inl rfl) u_int)
  (bb_cons (sb_if (t_cmp (o_ge (hu64 (A := A.deeper _) hr)) (u_var (i := 2) rfl (.inl rfl)) (u_bin o_pow u_int u_int))
  (bb_one (sb_put (k := 0) rfl rfl (.inl rfl) (u_var (i := 2) rfl (.inl rfl))))
  bb_nil)
  (bb_cons (sb_set (i := 3) (by decide) sc__law_take.nd rfl (.inl rfl) (u_bin o_add (u_bin o_add (u_bin o_mul (u_ix (hu1 (A := A.deeper _) hr) (u_var (i := 0) rfl (.inl rfl)) u_int) u_int) (u_bin o_mod (u_callTy c_int rfl B.n_int PyProof.Rows.Boot.«int» (a_cons (u_var (i := 2) rfl (.inl rfl)) a_nil)) u_int)) (u_bin o_mul u_int (u_ix (hu1 (A := A.deeper _) hr) (u_var (i := 0) rfl (.inl rfl)) u_int))))
  (bb_one (sb_put (k := 1) rfl rfl (.inl rfl) (u_bin o_mod (u_callTy c_int rfl B.n_int PyProof.Rows.Boot.«int» (a_cons (u_var (i := 3) rfl (.inl rfl)) a_nil)) u_int)))))))
  bb_nil)
  (bb_cons (sb_if (t_cmp (o_gt (hu64 (A := A.deeper _) hr)) (u_ix (hu1 (A := A.deeper _) hr) (u_var (i := 0) rfl (.inl rfl)) u_int) u_int)
  (bb_cons (sb_set (i := 4) (by decide) sc__law_take.nd rfl (.inl rfl) (u_bin o_mod (u_callTy c_int rfl B.n_int PyProof.Rows.Boot.«int» (a_cons (u_ix (hu1 (A := A.deeper _) hr) (u_var (i := 0) rfl (.inl rfl)) u_int) a_nil)) (u_var (i := 1) rfl (.inl rfl))))
  (bb_cons (sb_put (k := 0) rfl rfl (.inl rfl) (u_bin o_div (u_callTy c_int rfl B.n_int PyProof.Rows.Boot.«int» (a_cons (u_ix (hu1 (A := A.deeper _) hr) (u_var (i := 0) rfl (.inl rfl)) u_int) a_nil)) (u_var (i := 1) rfl (.inl rfl))))
  (bb_one (sb_ret (u_var (i := 4) rfl (.inl rfl))))))
  bb_nil)
  (bb_cons (sb_set (i := 5) (by decide) sc__law_take.nd rfl (.inl rfl) (u_bin o_mod (u_callTy c_int rfl B.n_int PyProof.Rows.Boot.«int» (a_cons (u_bin o_mul (u_bin o_add (u_ix (hu1 (A := A.deeper _) hr) (u_var (i := 0) rfl (.inl rfl)) u_int) u_int) u_int) a_nil)) u_int))
  (bb_cons (sb_set (i := 6) (by decide) sc__law_take.nd rfl (.inl rfl) (u_bin o_mod (u_callTy c_int rfl B.n_int PyProof.Rows.Boot.«int» (a_cons (u_bin o_mul (u_bin o_mod (u_callTy c_int rfl B.n_int PyProof.Rows.Boot.«int» (a_cons (u_bin o_mul (u_var (i := 5) rfl (.inl rfl)) (u_var (i := 5) rfl (.inl rfl))) a_nil)) u_int) u_int) a_nil)) u_int))
  (bb_one (sb_ret (u_bin o_mod (u_callTy c_int rfl B.n_int PyProof.Rows.Boot.«int» (a_cons (u_bin o_div (u_var (i := 6) rfl (.inl rfl)) u_int) a_nil)) (u_var (i := 1) rfl (.inl rfl)))))))))) take_ok
abbrev s__law_some : Stmt := topS 31
theorem sc__law_some : FnScope ["bag", "things"] ["bag", "things"] (defScope s__law_some) := ⟨rfl, rfl, rfl, by decide +kernel, rfl, by decide +kernel, by decide +kernel⟩
def g__law_some : SM :=
  (sRet (dBin opIx (dVar 1) (dCallM 2 takeM (dCons (dVar 0) (dCons (dCall opLen (dCons (dVar 1) dNil)) dNil)))))
def m__law_some : List D → M D := runFn 2 g__law_some
theorem k__law_some {P : Program} {w : World} {K : K'} {mg : Mg} {base : Heap} {f : Addr} {fd : FuncData} (F : Fun K "_law_some" "_law_some" s__law_some f fd) (b : Binds K fd ["bag", "things"] []) (g : mg "_law_some" = some (.ref f)) (B : Bl K mg) (O__law_take : Own P w K mg base 2 "_law_take" ["bag", "many"] takeM) :
    Own P w K mg base 3 "_law_some" ["bag", "things"] m__law_some :=
  own_of ["bag", "things"] ["bag", "things"] 2 g__law_some [] F sc__law_some b g (by decide) fun cdv A outer s H F0 E hr =>
  (b_one (s_ret (u_ix (hu1 (A := A.deeper _) hr) (u_var (i := 1) rfl (.inl rfl)) (u_own O__law_take rfl tk_of hr (by decide) rfl (a_cons (u_var (i := 0) rfl (.inl rfl)) (a_cons (u_callB c_len rfl B.n_len PyProof.Rows.Boot.«len» (a_cons (u_var (i := 1) rfl (.inl rfl)) a_nil)) a_nil))))))
abbrev s__law_alike : Stmt := topS 32
theorem sc__law_alike : FnScope ["found", "due", "pairs", "at", "one", "other"] ["found", "due"] (defScope s__law_alike) := ⟨rfl, rfl, rfl, by decide +kernel, rfl, by decide +kernel, by decide +kernel⟩
theorem k__law_alike {P : Program} {w : World} {K : K'} {mg : Mg} {base : Heap} {f : Addr} {fd : FuncData} (F : Fun K "_law_alike" "_law_alike" s__law_alike f fd) (b : Binds K fd ["found", "due"] []) (g : mg "_law_alike" = some (.ref f)) (B : Bl K mg) :
    Own P w K mg base 2 "_law_alike" ["found", "due"] alikeM :=
  (own_of ["found", "due", "pairs", "at", "one", "other"] ["found", "due"] 1 g_alike [2] F sc__law_alike b g (by decide) fun cdv A outer s H F0 E hr =>
  (b_cons (s_parFO (i := 2) (j := 3) (by decide) rfl sc__law_alike.nd rfl rfl (by decide) rfl rfl (fr_lst (a_cons (u_tup (a_cons (u_var (i := 0) rfl (.inl rfl)) (a_cons (u_var (i := 1) rfl (.inl rfl)) a_nil))) a_nil)) u_int)
  (b_cons (s_while po_of (t_cmp (o_lt (hu64 (A := A.deeper _) hr)) (u_var (i := 3) rfl (.inl rfl)) (u_callB c_len rfl B.n_len PyProof.Rows.Boot.«len» (a_cons (u_var (i := 2) rfl (.inl rfl)) a_nil)))
  (b_cons (s_ixF (i := 2) (by decide) rfl (.inl rfl) (u_var (i := 3) rfl (.inl rfl)) (g_tup rfl (gs_cons (g_name (i := 4) sc__law_alike.nd rfl (.inl rfl)) (gs_cons (g_name (i := 5) sc__law_alike.nd rfl (.inl rfl)) gs_nil))))
  (b_cons (s_augAdd (i := 3) sc__law_alike.nd rfl (.inl rfl) u_int)
  (b_cons (s_if (t_w (w_or (t_cmp (o_ne (hu64 (A := A.deeper _) hr)) (u_isi rfl B.n_isinstance PyProof.Rows.Boot.«isinstance» rfl B.n_bool PyProof.Rows.Boot.«bool» kits_bool (u_var (i := 4) rfl (.inl rfl))) (u_isi rfl B.n_isinstance PyProof.Rows.Boot.«isinstance» rfl B.n_bool PyProof.Rows.Boot.«bool» kits_bool (u_var (i := 5) rfl (.inl rfl)))) (w_or1 (t_cmp (o_ne (hu64 (A := A.deeper _) hr)) (u_isi rfl B.n_isinstance PyProof.Rows.Boot.«isinstance» rfl B.n_str PyProof.Rows.Boot.«str» kits_str (u_var (i := 4) rfl (.inl rfl))) (u_isi rfl B.n_isinstance PyProof.Rows.Boot.«isinstance» rfl B.n_str PyProof.Rows.Boot.«str» kits_str (u_var (i := 5) rfl (.inl rfl)))))))
  (b_one (s_ret u_bl))
  b_nil)
  (b_cons (s_if (t_cmp (o_ne (hu64 (A := A.deeper _) hr)) (u_isi2 rfl B.n_isinstance PyProof.Rows.Boot.«isinstance» rfl B.n_tuple PyProof.Rows.Boot.«tuple» kits_tuple rfl B.n_list PyProof.Rows.Boot.«list» kits_list (u_var (i := 4) rfl (.inl rfl))) (u_isi2 rfl B.n_isinstance PyProof.Rows.Boot.«isinstance» rfl B.n_tuple PyProof.Rows.Boot.«tuple» kits_tuple rfl B.n_list PyProof.Rows.Boot.«list» kits_list (u_var (i := 5) rfl (.inl rfl))))
  (b_one (s_ret u_bl))
  b_nil)
  (b_one (s_if (t_tru (u_isi2 rfl B.n_isinstance PyProof.Rows.Boot.«isinstance» rfl B.n_tuple PyProof.Rows.Boot.«tuple» kits_tuple rfl B.n_list PyProof.Rows.Boot.«list» kits_list (u_var (i := 4) rfl (.inl rfl))))
  (b_cons (s_if (t_w (w_or (t_cmp (o_ne (hu64 (A := A.deeper _) hr)) (u_isi rfl B.n_isinstance PyProof.Rows.Boot.«isinstance» rfl B.n_tuple PyProof.Rows.Boot.«tuple» kits_tuple (u_var (i := 4) rfl (.inl rfl))) (u_isi rfl B.n_isinstance PyProof.Rows.Boot.«isinstance» rfl B.n_tuple PyProof.Rows.Boot.«tuple» kits_tuple (u_var (i := 5) rfl (.inl rfl)))) (w_or1 (t_cmp (o_ne (hu64 (A := A.deeper _) hr)) (u_callB c_len rfl B.n_len PyProof.Rows.Boot.«len» (a_cons (u_var (i := 4) rfl (.inl rfl)) a_nil)) (u_callB c_len rfl B.n_len PyProof.Rows.Boot.«len» (a_cons (u_var (i := 5) rfl (.inl rfl)) a_nil))))))
  (b_one (s_ret u_bl))
  b_nil)
  (b_one (s_extF (i := 2) (by decide) rfl (.inl rfl) (PuFr.frz (fr_listZip rfl rfl B.n_list rfl B.n_zip (a_cons (u_var (i := 4) rfl (.inl rfl)) (a_cons (u_var (i := 5) rfl (.inl rfl)) a_nil)))))))
  (b_one (s_if (t_cmp (o_ne (hu64 (A := A.deeper _) hr)) (u_var (i := 4) rfl (.inl rfl)) (u_var (i := 5) rfl (.inl rfl)))
  (b_one (s_ret u_bl))
  b_nil)))))))))
  (b_one (s_ret u_bl))))).imp alike_ok
abbrev s__law_is_int : Stmt := topS 33
theorem sc__law_is_int : FnScope ["thing"] ["thing"] (defScope s__law_is_int) := ⟨rfl, rfl, rfl, by decide +kernel, rfl, by decide +kernel, by decide +kernel⟩
def g__law_is_int : SM :=
  (sRet (dAnd (dUn (opIsi "int") (dVar 0)) (dNot (dUn (opIsi "bool") (dVar 0)))))
def m__law_is_int : List D → M D := runFn 1 g__law_is_int
theorem k__law_is_int {P : Program} {w : World} {K : K'} {mg : Mg} {base : Heap} {f : Addr} {fd : FuncData} (F : Fun K "_law_is_int" "_law_is_int" s__law_is_int f fd) (b : Binds K fd ["thing"] []) (g : mg "_law_is_int" = some (.ref f)) (B : Bl K mg) :
    Own P w K mg base 2 "_law_is_int" ["thing"] m__law_is_int :=
  own_of ["thing"] ["thing"] 1 g__law_is_int [] F sc__law_is_int b g (by decide) fun cdv A outer s H F0 E hr =>
  (b_one (s_ret (u_and (u_isi rfl B.n_isinstance PyProof.Rows.Boot.«isinstance» rfl B.n_int PyProof.Rows.Boot.«int» kits_int (u_var (i := 0) rfl (.inl rfl))) (u_one (u_not (u_isi rfl B.n_isinstance PyProof.Rows.Boot.«isinstance» rfl B.n_bool PyProof.Rows.Boot.«bool» kits_bool (u_var (i := 0) rfl (.inl rfl))))))))
abbrev s__law_odd : Stmt := topS 34
theorem sc__law_odd : FnScope ["bag", "some"] ["bag"] (defScope s__law_odd) := ⟨rfl, rfl, rfl, by decide +kernel, rfl, by decide +kernel, by decide +kernel⟩
def g__law_odd : SM :=
  (sSeq (sSetF [] (dLst (dCons (dCon .non) (dCons (dCon (.bl true)) (dCons (dCon (.bl false)) (dCons (dCon (.int 0)) (dCons (dUn opNeg (dCon (.int 1))) (dCons (dCon (.int 7)) (dCons (dBin opPow (dCon (.int 10)) (dCon (.int 30))) (dCons (dCon (.str "")) (dCons (dCon (.str "a")) (dCons (dCon (.str "beat")) (dCons (dTup dNil) (dCons (dLst dNil) (dCons (dCon (.dct 0 [])) (dCons (dTup (dCons (dCon (.int 0)) dNil)) (dCons (dTup (dCons (dTup dNil) dNil)) (dCons (dLst (dCons (dCon (.int 1)) dNil)) (dCons (dCon (.dct 0 [(.str "a", .int 1)])) (dCons (dTup (dCons (dTup (dCons (dCon (.int 1)) (dCons (dCon (.int 2)) dNil))) dNil)) (dCons (dTup (dCons (dCon (.str "a")) (dCons (dCon (.int 0)) dNil))) dNil)))))))))))))))))))) (gdName 1))
  (sRet (dCallM 2 m__law_some (dCons (dVar 0) (dCons (dVar 1) dNil)))))
def m__law_odd : List D → M D := runFn 2 g__law_odd
theorem k__law_odd {P : Program} {w : World} {K : K'} {mg : Mg} {base : Heap} {f : Addr} {fd : FuncData} (F : Fun K "_law_odd" "_law_odd" s__law_odd f fd) (b : Binds K fd ["bag"] []) (g : mg "_law_odd" = some (.ref f)) (B : Bl K mg) (O__law_some : Own P w K mg base 3 "_law_some" ["bag", "things"] m__law_some) :
    Own P w K mg base 4 "_law_odd" ["bag"] m__law_odd :=
  own_of ["bag", "some"] ["bag"] 3 g__law_odd [] F sc__law_odd b g (by decide) fun cdv A outer s H F0 E hr =>
  (b_cons (s_asgF (u_lst (a_cons u_non (a_cons u_bl (a_cons u_bl (a_cons u_int (a_cons (u_neg u_int) (a_cons u_int (a_cons (u_bin o_pow u_int u_int) (a_cons u_str (a_cons u_str (a_cons u_str (a_cons (u_tup a_nil) (a_cons (u_lst a_nil) (a_cons u_disp0 (a_cons (u_tup (a_cons u_int a_nil)) (a_cons (u_tup (a_cons (u_tup a_nil) a_nil)) (a_cons (u_lst (a_cons u_int a_nil)) (a_cons u_disp1 (a_cons (u_tup (a_cons (u_tup (a_cons u_int (a_cons u_int a_nil))) a_nil)) (a_cons (u_tup (a_cons u_str (a_cons u_int a_nil))) a_nil)))))))))))))))))))) (g_name (i := 1) sc__law_odd.nd rfl (.inl rfl)))
  (b_one (s_ret (u_own O__law_some rfl tk_of hr (by decide) rfl (a_cons (u_var (i := 0) rfl (.inl rfl)) (a_cons (u_var (i := 1) rfl (.inl rfl)) a_nil))))))
abbrev s__law_bent : Stmt := topS 35
theorem sc__law_bent : FnScope ["bag", "thing", "depth", "at", "longer"] ["bag", "thing", "depth"] (defScope s__law_bent) := ⟨rfl, rfl, rfl, by decide +kernel, rfl, by decide +kernel, by decide +kernel⟩
def g__law_bent (REC : List D → M D) : SM :=
  (sSeq (sIf (dAndT (dT (dUn (opIsi "tuple") (dVar 1))) (dAndT (dB (dBin opNeE (dVar 1) (dTup dNil))) (dAndT (dB (dBin opGt (dVar 2) (dCon (.int 0)))) (dB (dBin opGt (dCallM 2 takeM (dCons (dVar 0) (dCons (dCon (.int 4)) dNil))) (dCon (.int 0)))))))
  (sSeq (sSetF [] (dCallM 2 takeM (dCons (dVar 0) (dCons (dCall opLen (dCons (dVar 1) dNil)) dNil))) (gdName 3))
  (sRet (dBin opAdd (dBin opAdd (dSl (dVar 1) dNone (dSome (dVar 3))) (dTup (dCons (dCallM 3 REC (dCons (dVar 0) (dCons (dBin opIx (dVar 1) (dVar 3)) (dCons (dBin opSub (dVar 2) (dCon (.int 1))) dNil)))) dNil))) (dSl (dVar 1) (dSome (dBin opAdd (dVar 3) (dCon (.int 1)))) dNone))))
  sNil)
  (sSeq (sIf (dT (dUn (opIsi "bool") (dVar 1)))
  (sRet (dCallM 2 m__law_some (dCons (dVar 0) (dCons (dLst (dCons (dNot (dVar 1)) (dCons (dCall opInt (dCons (dVar 1) dNil)) (dCons (dCon .non) dNil)))) dNil))))
  sNil)
  (sSeq (sIf (dT (dUn (opIsi "int") (dVar 1)))
  (sRet (dCallM 2 m__law_some (dCons (dVar 0) (dCons (dLst (dCons (dBin opAdd (dVar 1) (dCon (.int 1))) (dCons (dBin opSub (dVar 1) (dCon (.int 1))) (dCons (dUn opNeg (dVar 1)) (dCons (dBin opEq (dVar 1) (dCon (.int 1))) (dCons (dTup (dCons (dVar 1) dNil)) (dCons (dBin opPow (dCon (.int 10)) (dCon (.int 30))) dNil))))))) dNil))))
  sNil)
  (sSeq (sIf (dAndT (dT (dUn (opIsi "tuple") (dVar 1))) (dB (dBin opNeE (dVar 1) (dTup dNil))))
  (sSeq (sSetF [] (dCallM 2 takeM (dCons (dVar 0) (dCons (dCall opLen (dCons (dVar 1) dNil)) dNil))) (gdName 3))
  (sSeq (sSetF [] (dBin opAdd (dBin opAdd (dSl (dVar 1) dNone (dSome (dVar 3))) (dTup (dCons (dBin opIx (dVar 1) (dVar 3)) dNil))) (dSl (dVar 1) (dSome (dVar 3)) dNone)) (gdName 4))
  (sRet (dCallM 2 m__law_some (dCons (dVar 0) (dCons (dLst (dCons (dCall opList (dCons (dVar 1) dNil)) (dCons (dBin opAdd (dSl (dVar 1) dNone (dSome (dVar 3))) (dSl (dVar 1) (dSome (dBin opAdd (dVar 3) (dCon (.int 1)))) dNone)) (dCons (dVar 4) (dCons (dSlA (dVar 1) dNone dNone (dSome (dUn opNeg (dCon (.int 1))))) (dCons (dCallM 1 m__law_odd (dCons (dVar 0) dNil)) dNil)))))) dNil))))))
  sNil)
  (sRet (dCallM 1 m__law_odd (dCons (dVar 0) dNil)))))))
def m__law_bent : Nat → List D → M D
  | 0 => fun _ => M.fail
  | d + 1 => runFn 5 (g__law_bent (m__law_bent d))
theorem k__law_bent {P : Program} {w : World} {K : K'} {mg : Mg} {base : Heap} {f : Addr} {fd : FuncData} (F : Fun K "_law_bent" "_law_bent" s__law_bent f fd) (b : Binds K fd ["bag", "thing", "depth"] []) (g : mg "_law_bent" = some (.ref f)) (B : Bl K mg) (O__law_take : Own P w K mg base 2 "_law_take" ["bag", "many"] takeM) (O__law_some : Own P w K mg base 3 "_law_some" ["bag", "things"] m__law_some) (O__law_odd : Own P w K mg base 4 "_law_odd" ["bag"] m__law_odd) :
    ∀ d : Nat, Own P w K mg base (5 + d) "_law_bent" ["bag", "thing", "depth"] (m__law_bent d) := fun d => Nat.rec (motive := fun d => Own P w K mg base (5 + d) "_law_bent" ["bag", "thing", "depth"] (m__law_bent d)) (Own.none F b g) (fun d OREC => own_of ["bag", "thing", "depth", "at", "longer"] ["bag", "thing", "depth"] (5 + d) (g__law_bent (m__law_bent d)) [] F sc__law_bent b g (by decide) fun cdv A outer s H F0 E hr =>
  (b_cons (s_if (t_w (w_and (t_tru (u_isi rfl B.n_isinstance PyProof.Rows.Boot.«isinstance» rfl B.n_tuple PyProof.Rows.Boot.«tuple» kits_tuple (u_var (i := 1) rfl (.inl rfl)))) (w_and (t_cmp (o_neE (hu64 (A := A.deeper _) hr)) (u_var (i := 1) rfl (.inl rfl)) (u_tup a_nil)) (w_and (t_cmp (o_gt (hu64 (A := A.deeper _) hr)) (u_var (i := 2) rfl (.inl rfl)) u_int) (w_and1 (t_cmp (o_gt (hu64 (A := A.deeper _) hr)) (u_own O__law_take rfl tk_of hr (by omega) rfl (a_cons (u_var (i := 0) rfl (.inl rfl)) (a_cons u_int a_nil))) u_int))))))
  (b_cons (s_asgF (u_own O__law_take rfl tk_of hr (by omega) rfl (a_cons (u_var (i := 0) rfl (.inl rfl)) (a_cons (u_callB c_len rfl B.n_len PyProof.Rows.Boot.«len» (a_cons (u_var (i := 1) rfl (.inl rfl)) a_nil)) a_nil))) (g_name (i := 3) sc__law_bent.nd rfl (.inl rfl)))
  (b_one (s_ret (u_bin o_add (u_bin o_add (u_sl (u_var (i := 1) rfl (.inl rfl)) so_none (so_some (u_var (i := 3) rfl (.inl rfl)))) (u_tup (a_cons (u_own OREC rfl tk_of hr (by omega) rfl (a_cons (u_var (i := 0) rfl (.inl rfl)) (a_cons (u_ix (hu1 (A := A.deeper _) hr) (u_var (i := 1) rfl (.inl rfl)) (u_var (i := 3) rfl (.inl rfl))) (a_cons (u_bin o_sub (u_var (i := 2) rfl (.inl rfl)) u_int) a_nil)))) a_nil))) (u_sl (u_var (i := 1) rfl (.inl rfl)) (so_some (u_bin o_add (u_var (i := 3) rfl (.inl rfl)) u_int)) so_none)))))
  b_nil)
  (b_cons (s_if (t_tru (u_isi rfl B.n_isinstance PyProof.Rows.Boot.«isinstance» rfl B.n_bool PyProof.Rows.Boot.«bool» kits_bool (u_var (i := 1) rfl (.inl rfl))))
  (b_one (s_ret (u_own O__law_some rfl tk_of hr (by omega) rfl (a_cons (u_var (i := 0) rfl (.inl rfl)) (a_cons (u_lst (a_cons (u_not (u_var (i := 1) rfl (.inl rfl))) (a_cons (u_callTy c_int rfl B.n_int PyProof.Rows.Boot.«int» (a_cons (u_var (i := 1) rfl (.inl rfl)) a_nil)) (a_cons u_non a_nil)))) a_nil)))))
  b_nil)
  (b_cons (s_if (t_tru (u_isi rfl B.n_isinstance PyProof.Rows.Boot.«isinstance» rfl B.n_int PyProof.Rows.Boot.«int» kits_int (u_var (i := 1) rfl (.inl rfl))))
  (b_one (s_ret (u_own O__law_some rfl tk_of hr (by omega) rfl (a_cons (u_var (i := 0) rfl (.inl rfl)) (a_cons (u_lst (a_cons (u_bin o_add (u_var (i := 1) rfl (.inl rfl)) u_int) (a_cons (u_bin o_sub (u_var (i := 1) rfl (.inl rfl)) u_int) (a_cons (u_neg (u_var (i := 1) rfl (.inl rfl))) (a_cons (u_cmp (o_eq (hu64 (A := A.deeper _) hr)) (u_var (i := 1) rfl (.inl rfl)) u_int) (a_cons (u_tup (a_cons (u_var (i := 1) rfl (.inl rfl)) a_nil)) (a_cons (u_bin o_pow u_int u_int) a_nil))))))) a_nil)))))
  b_nil)
  (b_cons (s_if (t_w (w_and (t_tru (u_isi rfl B.n_isinstance PyProof.Rows.Boot.«isinstance» rfl B.n_tuple PyProof.Rows.Boot.«tuple» kits_tuple (u_var (i := 1) rfl (.inl rfl)))) (w_and1 (t_cmp (o_neE (hu64 (A := A.deeper _) hr)) (u_var (i := 1) rfl (.inl rfl)) (u_tup a_nil)))))
  (b_cons (s_asgF (u_own O__law_take rfl tk_of hr (by omega) rfl (a_cons (u_var (i := 0) rfl (.inl rfl)) (a_cons (u_callB c_len rfl B.n_len PyProof.Rows.Boot.«len» (a_cons (u_var (i := 1) rfl (.inl rfl)) a_nil)) a_nil))) (g_name (i := 3) sc__law_bent.nd rfl (.inl rfl)))
  (b_cons (s_asgF (u_bin o_add (u_bin o_add (u_sl (u_var (i := 1) rfl (.inl rfl)) so_none (so_some (u_var (i := 3) rfl (.inl rfl)))) (u_tup (a_cons (u_ix (hu1 (A := A.deeper _) hr) (u_var (i := 1) rfl (.inl rfl)) (u_var (i := 3) rfl (.inl rfl))) a_nil))) (u_sl (u_var (i := 1) rfl (.inl rfl)) (so_some (u_var (i := 3) rfl (.inl rfl))) so_none)) (g_name (i := 4) sc__law_bent.nd rfl (.inl rfl)))
  (b_one (s_ret (u_own O__law_some rfl tk_of hr (by omega) rfl (a_cons (u_var (i := 0) rfl (.inl rfl)) (a_cons (u_lst (a_cons (u_callTy c_list rfl B.n_list PyProof.Rows.Boot.«list» (a_cons (u_var (i := 1) rfl (.inl rfl)) a_nil)) (a_cons (u_bin o_add (u_sl (u_var (i := 1) rfl (.inl rfl)) so_none (so_some (u_var (i := 3) rfl (.inl rfl)))) (u_sl (u_var (i := 1) rfl (.inl rfl)) (so_some (u_bin o_add (u_var (i := 3) rfl (.inl rfl)) u_int)) so_none)) (a_cons (u_var (i := 4) rfl (.inl rfl)) (a_cons (u_slA (u_var (i := 1) rfl (.inl rfl)) so_none so_none (so_some (u_neg u_int))) (a_cons (u_own O__law_odd rfl tk_of hr (by omega) rfl (a_cons (u_var (i := 0) rfl (.inl rfl)) a_nil)) a_nil)))))) a_nil)))))))
  b_nil)
  (b_one (s_ret (u_own O__law_odd rfl tk_of hr (by omega) rfl (a_cons (u_var (i := 0) rfl (.inl rfl)) a_nil))))))))) d
abbrev s__law_asked : Stmt := topS 36
theorem sc__law_asked : FnScope ["act", "error"] ["act"] (defScope s__law_asked) := ⟨rfl, rfl, rfl, by decide +kernel, rfl, by decide +kernel, by decide +kernel⟩
def g__law_asked (f : Addr) (am : M D) : SM :=
  (sTryAs S_Refused 1
  (sAct 0 f id am)
  (fun a d => (sRet (dFld 1 a d "why"))))
theorem k__law_asked {P : Program} {w : World} {K : K'} {mg : Mg} {base : Heap} {f : Addr} {fd : FuncData} (F : Fun K "_law_asked" "_law_asked" s__law_asked f fd) (b : Binds K fd ["act"] []) (g : mg "_law_asked" = some (.ref f)) (B : Bl K mg) {G0_Refused : Addr} (G_Refused : mg "Refused" = some (.ref G0_Refused)) (E_Refused : SubsOk K mg (.ref G0_Refused) S_Refused) (Fd_Refused : ∀ {nm : Str} {C : Addr}, S_Refused nm = some true → mg nm = some (.ref C) → XfC K C ∧ PySem.W.findIn K (.ref C) "why" = some none) :
    ∀ k : Nat, Heard P w K mg base (k + 1) ["act", "error"] "_law_asked" s__law_asked f "act" g__law_asked := fun k cdv A outer s H F0 E f am hr a1 a2 =>
  (b_one (s_tryAs (i := 1) rfl rfl sc__law_asked.nd rfl rfl ⟨rfl, by decide, .inl G_Refused⟩ tk_of E_Refused
  (fun W1 pn xe tk1 po1 => (b_one (a1 _ _ _ _ _ _ tk1)))
  (fun a oe C d pn nm hS hm hz hv => by
    have hfld := Fd_Refused hS hm
    exact (b_one (s_ret (u_fld (i := 1) (hfld.1) (hfld.2) hz hv rfl (.inl rfl)))))))
abbrev s__law_between : Stmt := topS 37
theorem sc__law_between : FnScope ["house", "one", "other"] ["house", "one", "other"] (defScope s__law_between) := ⟨rfl, rfl, rfl, by decide +kernel, rfl, by decide +kernel, by decide +kernel⟩
def g__law_between : SM :=
  (sRet (dCall opSumT (dCons (dSl (dVar 0) (dSome (dCall opMin2 (dCons (dVar 1) (dCons (dVar 2) dNil)))) (dSome (dCall opMax2 (dCons (dVar 1) (dCons (dVar 2) dNil))))) dNil)))
def m__law_between : List D → M D := runFn 3 g__law_between
theorem k__law_between {P : Program} {w : World} {K : K'} {mg : Mg} {base : Heap} {f : Addr} {fd : FuncData} (F : Fun K "_law_between" "_law_between" s__law_between f fd) (b : Binds K fd ["house", "one", "other"] []) (g : mg "_law_between" = some (.ref f)) (B : Bl K mg) :
    Own P w K mg base 2 "_law_between" ["house", "one", "other"] m__law_between :=
  own_of ["house", "one", "other"] ["house", "one", "other"] 1 g__law_between [] F sc__law_between b g (by decide) fun cdv A outer s H F0 E hr =>
  (b_one (s_ret (u_callB (c_sumT rfl) rfl B.n_sum PyProof.Rows.Boot.«sum» (a_cons (u_sl (u_var (i := 0) rfl (.inl rfl)) (so_some (u_callB (c_min2 rfl) rfl B.n_min PyProof.Rows.Boot.«min» (a_cons (u_var (i := 1) rfl (.inl rfl)) (a_cons (u_var (i := 2) rfl (.inl rfl)) a_nil)))) (so_some (u_callB (c_max2 rfl) rfl B.n_max PyProof.Rows.Boot.«max» (a_cons (u_var (i := 1) rfl (.inl rfl)) (a_cons (u_var (i := 2) rfl (.inl rfl)) a_nil))))) a_nil))))
abbrev s__law_lots : Stmt := topS 38
theorem sc__law_lots : FnScope ["some", "found", "one", "lot"] ["some"] (defScope s__law_lots) := ⟨rfl, rfl, rfl, by decide +kernel, rfl, by decide +kernel, by decide +kernel⟩
def c__law_lots_1 : EM :=
  (dLc [3] (iSeq (dVar 1)) (gdName 3) dYes (dBin opAdd (dVar 3) (dTup (dCons (dVar 2) dNil))))
def b__law_lots_1 : SM :=
  (sSetF [] (dBin opAdd (dVar 1) c__law_lots_1) (gdName 1))
def g__law_lots : SM :=
  (sSeq (sSetF [] (dLst (dCons (dTup dNil) dNil)) (gdName 1))
  (sSeq (sFor [] (iSeq (dVar 0)) (gdName 2)
  b__law_lots_1)
  (sRet (dVar 1))))
def m__law_lots : List D → M D := runFn 4 g__law_lots
theorem k__law_lots {P : Program} {w : World} {K : K'} {mg : Mg} {base : Heap} {f : Addr} {fd : FuncData} (F : Fun K "_law_lots" "_law_lots" s__law_lots f fd) (b : Binds K fd ["some"] []) (g : mg "_law_lots" = some (.ref f)) (B : Bl K mg) :
    Own P w K mg base 2 "_law_lots" ["some"] m__law_lots :=
  own_of ["some", "found", "one", "lot"] ["some"] 1 g__law_lots [] F sc__law_lots b g (by decide) fun cdv A outer s H F0 E hr =>
  (b_cons (s_asgF (u_lst (a_cons (u_tup a_nil) a_nil)) (g_name (i := 1) sc__law_lots.nd rfl (.inl rfl)))
  (b_cons (s_for po_of rfl (i_seq (u_var (i := 0) rfl (.inl rfl))) (g_name (i := 2) sc__law_lots.nd rfl (.inr rfl))
  (b_one (s_asgF (u_bin o_add (u_var (i := 1) rfl (.inl rfl)) (u_lc (own := [("lot", 3)]) rfl sc__law_lots.nd (i_seq (u_var (i := 1) rfl (.inl rfl))) (blk_ok ["some", "found", "one", "lot"] (sc := defScope s__law_lots) (by decide +kernel)) ⟨fun _ _ _ _ _ => (g_name (i := 3) sc__law_lots.nd rfl (.inl rfl)), fun _ _ _ _ _ => ts_nil, fun _ _ _ _ _ => (u_bin o_add (u_var (i := 3) rfl (.inl rfl)) (u_tup (a_cons (u_var (i := 2) rfl (.inr (.inl rfl))) a_nil)))⟩)) (g_name (i := 1) sc__law_lots.nd rfl (.inl rfl)))))
  (b_one (s_ret (u_var (i := 1) rfl (.inl rfl))))))
abbrev s__law_rests : Stmt := topS 39
theorem sc__law_rests : FnScope ["house", "one", "other", "breath", "good", "lot", "stops", "low", "high"] ["house", "one", "other", "breath"] (defScope s__law_rests) := ⟨rfl, rfl, rfl, by decide +kernel, rfl, by decide +kernel, by decide +kernel⟩
def c__law_rests_1 : EM :=
  (dLc [7, 8] (iArgs opZip (dCons (dVar 6) (dCons (dSl (dVar 6) (dSome (dCon (.int 1))) dNone) dNil))) (gdTup 2 (gsCons (gdName 7) (gsCons (gdName 8) gsNil))) (dB (dBin opGt (dCallM 3 m__law_between (dCons (dVar 0) (dCons (dVar 7) (dCons (dVar 8) dNil)))) (dVar 3))) (dCon (.int 1)))
def b__law_rests_1 : SM :=
  (sSeq (sSetF [] (dBin opAdd (dBin opAdd (dLst (dCons (dVar 1) dNil)) (dCall opList (dCons (dVar 5) dNil))) (dLst (dCons (dVar 2) dNil))) (gdName 6))
  (sSetF [] (dBin opAdd (dVar 4) (dBin opMul (dLst (dCons (dCall opLen (dCons (dVar 5) dNil)) dNil)) (dCall opInt (dCons (dBin opEq c__law_rests_1 (dLst dNil)) dNil)))) (gdName 4)))
def g__law_rests : SM :=
  (sSeq (sIf (dB (dBin opGe (dVar 1) (dVar 2)))
  (sRet (dCon (.int 0)))
  sNil)
  (sSeq (sSetF [] (dLst dNil) (gdName 4))
  (sSeq (sFor [] (iSeq (dCallM 1 m__law_lots (dCons (dCall opLstRg (bnd2 (dBin opAdd (dVar 1) (dCon (.int 1))) (dVar 2))) dNil))) (gdName 5)
  b__law_rests_1)
  (sRet (dIf (dB (dBin opNe (dVar 4) (dLst dNil))) (dCall opMinT (dCons (dVar 4) dNil)) (dCon .non))))))
def m__law_rests : List D → M D := runFn 9 g__law_rests
theorem k__law_rests {P : Program} {w : World} {K : K'} {mg : Mg} {base : Heap} {f : Addr} {fd : FuncData} (F : Fun K "_law_rests" "_law_rests" s__law_rests f fd) (b : Binds K fd ["house", "one", "other", "breath"] []) (g : mg "_law_rests" = some (.ref f)) (B : Bl K mg) (O__law_between : Own P w K mg base 2 "_law_between" ["house", "one", "other"] m__law_between) (O__law_lots : Own P w K mg base 2 "_law_lots" ["some"] m__law_lots) :
    Own P w K mg base 3 "_law_rests" ["house", "one", "other", "breath"] m__law_rests :=
  own_of ["house", "one", "other", "breath", "good", "lot", "stops", "low", "high"] ["house", "one", "other", "breath"] 2 g__law_rests [] F sc__law_rests b g (by decide) fun cdv A outer s H F0 E hr =>
  (b_cons (s_if (t_cmp (o_ge (hu64 (A := A.deeper _) hr)) (u_var (i := 1) rfl (.inl rfl)) (u_var (i := 2) rfl (.inl rfl)))
  (b_one (s_ret u_int))
  b_nil)
  (b_cons (s_asgF (u_lst a_nil) (g_name (i := 4) sc__law_rests.nd rfl (.inl rfl)))
  (b_cons (s_for po_of rfl (i_seq (u_own O__law_lots rfl tk_of hr (by decide) rfl (a_cons (PuFr.frz (fr_listRg rfl rfl B.n_list (rg_2 rfl B.n_range (u_bin o_add (u_var (i := 1) rfl (.inl rfl)) u_int) (u_var (i := 2) rfl (.inl rfl))))) a_nil))) (g_name (i := 5) sc__law_rests.nd rfl (.inl rfl))
  (b_cons (s_asgF (u_bin o_add (u_bin o_add (u_lst (a_cons (u_var (i := 1) rfl (.inl rfl)) a_nil)) (u_callTy c_list rfl B.n_list PyProof.Rows.Boot.«list» (a_cons (u_var (i := 5) rfl (.inl rfl)) a_nil))) (u_lst (a_cons (u_var (i := 2) rfl (.inl rfl)) a_nil))) (g_name (i := 6) sc__law_rests.nd rfl (.inl rfl)))
  (b_one (s_asgF (u_bin o_add (u_var (i := 4) rfl (.inl rfl)) (u_bin o_mul (u_lst (a_cons (u_callB c_len rfl B.n_len PyProof.Rows.Boot.«len» (a_cons (u_var (i := 5) rfl (.inl rfl)) a_nil)) a_nil)) (u_callTy c_int rfl B.n_int PyProof.Rows.Boot.«int» (a_cons (u_cmp (o_eq (hu64 (A := A.deeper _) hr)) (u_lc (own := [("low", 7), ("high", 8)]) rfl sc__law_rests.nd (i_zip rfl B.n_zip (a_cons (u_var (i := 6) rfl (.inl rfl)) (a_cons (u_sl (u_var (i := 6) rfl (.inl rfl)) (so_some u_int) so_none) a_nil))) (blk_ok ["house", "one", "other", "breath", "good", "lot", "stops", "low", "high"] (sc := defScope s__law_rests) (by decide +kernel)) ⟨fun _ _ _ _ _ => (g_tup rfl (gs_cons (g_name (i := 7) sc__law_rests.nd rfl (.inl rfl)) (gs_cons (g_name (i := 8) sc__law_rests.nd rfl (.inl rfl)) gs_nil))), fun _ _ _ _ _ => (ts_one (t_cmp (o_gt (hu64 (A := A.deeper _) hr)) (u_own O__law_between rfl takes0 hr (by decide) rfl (a_cons (u_var (i := 0) rfl (.inr (.inl rfl))) (a_cons (u_var (i := 7) rfl (.inl rfl)) (a_cons (u_var (i := 8) rfl (.inl rfl)) a_nil)))) (u_var (i := 3) rfl (.inr (.inl rfl))))), fun _ _ _ _ _ => u_int⟩) (u_lst a_nil)) a_nil)))) (g_name (i := 4) sc__law_rests.nd rfl (.inl rfl))))))
  (b_one (s_ret (u_if (t_cmp (o_ne (hu64 (A := A.deeper _) hr)) (u_var (i := 4) rfl (.inl rfl)) (u_lst a_nil)) (u_callB (c_minT rfl (hu66 (A := A.deeper _) hr)) rfl B.n_min PyProof.Rows.Boot.«min» (a_cons (u_var (i := 4) rfl (.inl rfl)) a_nil)) u_non))))))
abbrev s__law_farthest : Stmt := topS 40
theorem sc__law_farthest : FnScope ["house", "one", "other", "breath", "here", "found", "there", "floor"] ["house", "one", "other", "breath"] (defScope s__law_farthest) := ⟨rfl, rfl, rfl, by decide +kernel, rfl, by decide +kernel, by decide +kernel⟩
def c__law_farthest_1 : EM :=
  (dLc [7] (iArgs opRng2 (dCons (dBin opAdd (dVar 4) (dCon (.int 1))) (dCons (dBin opAdd (dVar 2) (dCon (.int 1))) dNil))) (gdName 7) (dB (dBin opLe (dCallM 3 m__law_between (dCons (dVar 0) (dCons (dVar 4) (dCons (dVar 7) dNil)))) (dVar 3))) (dVar 7))
def w__law_farthest_1 : Env' → M Bool :=
  (dB (dBin opLt (dVar 4) (dVar 2)))
def b__law_farthest_1 : SM :=
  (sSeq (sSetF [] (dCall opMaxT (dCons c__law_farthest_1 dNil)) (gdName 6))
  (sSeq (sSetF [] (dBin opAdd (dVar 5) (dBin opMul (dLst (dCons (dVar 6) dNil)) (dCall opInt (dCons (dBin opLt (dVar 6) (dVar 2)) dNil)))) (gdName 5))
  (sSetF [] (dVar 6) (gdName 4))))
def g__law_farthest : SM :=
  (sSeq (sSetF [] (dTup (dCons (dVar 1) (dCons (dLst dNil) dNil))) (gdTup 2 (gsCons (gdName 4) (gsCons (gdName 5) gsNil))))
  (sSeq (sWhile w__law_farthest_1
  b__law_farthest_1)
  (sRet (dCall opTuple (dCons (dVar 5) dNil)))))
def m__law_farthest : List D → M D := runFn 8 g__law_farthest
theorem k__law_farthest {P : Program} {w : World} {K : K'} {mg : Mg} {base : Heap} {f : Addr} {fd : FuncData} (F : Fun K "_law_farthest" "_law_farthest" s__law_farthest f fd) (b : Binds K fd ["house", "one", "other", "breath"] []) (g : mg "_law_farthest" = some (.ref f)) (B : Bl K mg) (O__law_between : Own P w K mg base 2 "_law_between" ["house", "one", "other"] m__law_between) :
    Own P w K mg base 3 "_law_farthest" ["house", "one", "other", "breath"] m__law_farthest :=
  own_of ["house", "one", "other", "breath", "here", "found", "there", "floor"] ["house", "one", "other", "breath"] 2 g__law_farthest [] F sc__law_farthest b g (by decide) fun cdv A outer s H F0 E hr =>
  (b_cons (s_asgF (u_tup (a_cons (u_var (i := 1) rfl (.inl rfl)) (a_cons (u_lst a_nil) a_nil))) (g_tup rfl (gs_cons (g_name (i := 4) sc__law_farthest.nd rfl (.inr rfl)) (gs_cons (g_name (i := 5) sc__law_farthest.nd rfl (.inl rfl)) gs_nil))))
  (b_cons (s_while po_of (t_cmp (o_lt (hu64 (A := A.deeper _) hr)) (u_var (i := 4) rfl (.inr (.inl rfl))) (u_var (i := 2) rfl (.inl rfl)))
  (b_cons (s_asgF (u_callB (c_maxT rfl (hu66 (A := A.deeper _) hr)) rfl B.n_max PyProof.Rows.Boot.«max» (a_cons (u_lc (own := [("floor", 7)]) rfl sc__law_farthest.nd (i_range2 rfl B.n_range (a_cons (u_bin o_add (u_var (i := 4) rfl (.inr (.inl rfl))) u_int) (a_cons (u_bin o_add (u_var (i := 2) rfl (.inl rfl)) u_int) a_nil))) (blk_ok ["house", "one", "other", "breath", "here", "found", "there", "floor"] (sc := defScope s__law_farthest) (by decide +kernel)) ⟨fun _ _ _ _ _ => (g_name (i := 7) sc__law_farthest.nd rfl (.inl rfl)), fun _ _ _ _ _ => (ts_one (t_cmp (o_le (hu64 (A := A.deeper _) hr)) (u_own O__law_between rfl takes0 hr (by decide) rfl (a_cons (u_var (i := 0) rfl (.inr (.inl rfl))) (a_cons (u_var (i := 4) rfl (.inr (.inl rfl))) (a_cons (u_var (i := 7) rfl (.inl rfl)) a_nil)))) (u_var (i := 3) rfl (.inr (.inl rfl))))), fun _ _ _ _ _ => (u_var (i := 7) rfl (.inl rfl))⟩) a_nil)) (g_name (i := 6) sc__law_farthest.nd rfl (.inl rfl)))
  (b_cons (s_asgF (u_bin o_add (u_var (i := 5) rfl (.inl rfl)) (u_bin o_mul (u_lst (a_cons (u_var (i := 6) rfl (.inl rfl)) a_nil)) (u_callTy c_int rfl B.n_int PyProof.Rows.Boot.«int» (a_cons (u_cmp (o_lt (hu64 (A := A.deeper _) hr)) (u_var (i := 6) rfl (.inl rfl)) (u_var (i := 2) rfl (.inl rfl))) a_nil)))) (g_name (i := 5) sc__law_farthest.nd rfl (.inl rfl)))
  (b_one (s_asgF (u_var (i := 6) rfl (.inl rfl)) (g_name (i := 4) sc__law_farthest.nd rfl (.inr rfl)))))))
  (b_one (s_ret (u_callTy c_tuple rfl B.n_tuple PyProof.Rows.Boot.«tuple» (a_cons (u_var (i := 5) rfl (.inl rfl)) a_nil))))))
abbrev s__law_is_house : Stmt := topS 41
theorem sc__law_is_house : FnScope ["thing", "one"] ["thing"] (defScope s__law_is_house) := ⟨rfl, rfl, rfl, by decide +kernel, rfl, by decide +kernel, by decide +kernel⟩
def c__law_is_house_1 : EM :=
  (dLc [1] (iSeq (dVar 0)) (gdName 1) (dOrT (dNotT (dT (dCallM 1 m__law_is_int (dCons (dVar 1) dNil)))) (dNotT (dB (dChain opLe opLe (dCon (.int 1)) (dVar 1) (dCon (.int 99)))))) (dCon (.int 1)))
def g__law_is_house : SM :=
  (sRet (dAnd (dUn (opIsi "tuple") (dVar 0)) (dAnd (dChain opLe opLe (dCon (.int 1)) (dCall opLen (dCons (dVar 0) dNil)) (dCon (.int 12))) (dBin opEq c__law_is_house_1 (dLst dNil)))))
def m__law_is_house : List D → M D := runFn 2 g__law_is_house
theorem k__law_is_house {P : Program} {w : World} {K : K'} {mg : Mg} {base : Heap} {f : Addr} {fd : FuncData} (F : Fun K "_law_is_house" "_law_is_house" s__law_is_house f fd) (b : Binds K fd ["thing"] []) (g : mg "_law_is_house" = some (.ref f)) (B : Bl K mg) (O__law_is_int : Own P w K mg base 2 "_law_is_int" ["thing"] m__law_is_int) :
    Own P w K mg base 3 "_law_is_house" ["thing"] m__law_is_house :=
  own_of ["thing", "one"] ["thing"] 2 g__law_is_house [] F sc__law_is_house b g (by decide) fun cdv A outer s H F0 E hr =>
  (b_one (s_ret (u_and (u_isi rfl B.n_isinstance PyProof.Rows.Boot.«isinstance» rfl B.n_tuple PyProof.Rows.Boot.«tuple» kits_tuple (u_var (i := 0) rfl (.inl rfl))) (u_and (u_chain (o_le (hu64 (A := A.deeper _) hr)) (o_le (hu64 (A := A.deeper _) hr)) u_int (u_callB c_len rfl B.n_len PyProof.Rows.Boot.«len» (a_cons (u_var (i := 0) rfl (.inl rfl)) a_nil)) u_int) (u_one (u_cmp (o_eq (hu64 (A := A.deeper _) hr)) (u_lc (own := [("one", 1)]) rfl sc__law_is_house.nd (i_seq (u_var (i := 0) rfl (.inl rfl))) (blk_ok ["thing", "one"] (sc := defScope s__law_is_house) (by decide +kernel)) ⟨fun _ _ _ _ _ => (g_name (i := 1) sc__law_is_house.nd rfl (.inl rfl)), fun _ _ _ _ _ => (ts_one (t_w (w_or (t_not (t_tru (u_own O__law_is_int rfl takes0 hr (by decide) rfl (a_cons (u_var (i := 1) rfl (.inl rfl)) a_nil)))) (w_or1 (t_not (t_chain (o_le (hu64 (A := A.deeper _) hr)) (o_le (hu64 (A := A.deeper _) hr)) u_int (u_var (i := 1) rfl (.inl rfl)) u_int)))))), fun _ _ _ _ _ => u_int⟩) (u_lst a_nil)))))))
abbrev s__law_are_moves : Stmt := topS 42
theorem sc__law_are_moves : FnScope ["house", "thing", "one", "here", "there"] ["house", "thing"] (defScope s__law_are_moves) := ⟨rfl, rfl, rfl, by decide +kernel, rfl, by decide +kernel, by decide +kernel⟩
def c__law_are_moves_1 : EM :=
  (dLc [2] (iSeq (dVar 1)) (gdName 2) (dOrT (dNotT (dT (dUn (opIsi "tuple") (dVar 2)))) (dB (dBin opNe (dCall opLen (dCons (dVar 2) dNil)) (dCon (.int 2))))) (dCon (.int 1)))
def c__law_are_moves_2 : EM :=
  (dLc [2] (iSeq (dVar 1)) (gdName 2) (dOrT (dNotT (dT (dCallM 1 m__law_is_int (dCons (dBin opIx (dVar 2) (dCon (.int 0))) dNil)))) (dNotT (dT (dCallM 1 m__law_is_int (dCons (dBin opIx (dVar 2) (dCon (.int 1))) dNil))))) (dCon (.int 1)))
def c__law_are_moves_3 : EM :=
  (dLc [3, 4] (iSeq (dVar 1)) (gdTup 2 (gsCons (gdName 3) (gsCons (gdName 4) gsNil))) (dOrT (dNotT (dB (dChain opLe opLe (dCon (.int 0)) (dVar 3) (dCall opLen (dCons (dVar 0) dNil))))) (dOrT (dNotT (dB (dChain opLe opLe (dCon (.int 0)) (dVar 4) (dCall opLen (dCons (dVar 0) dNil))))) (dB (dBin opEq (dVar 3) (dVar 4))))) (dCon (.int 1)))
def g__law_are_moves : SM :=
  (sSeq (sIf (dOrT (dNotT (dT (dUn (opIsi "tuple") (dVar 1)))) (dOrT (dB (dBin opGt (dCall opLen (dCons (dVar 1) dNil)) (dCon (.int 20)))) (dB (dBin opNe c__law_are_moves_1 (dLst dNil)))))
  (sRet (dCon (.bl false)))
  sNil)
  (sSeq (sIf (dB (dBin opNe c__law_are_moves_2 (dLst dNil)))
  (sRet (dCon (.bl false)))
  sNil)
  (sRet (dBin opEq c__law_are_moves_3 (dLst dNil)))))
def m__law_are_moves : List D → M D := runFn 5 g__law_are_moves
theorem k__law_are_moves {P : Program} {w : World} {K : K'} {mg : Mg} {base : Heap} {f : Addr} {fd : FuncData} (F : Fun K "_law_are_moves" "_law_are_moves" s__law_are_moves f fd) (b : Binds K fd ["house", "thing"] []) (g : mg "_law_are_moves" = some (.ref f)) (B : Bl K mg) (O__law_is_int : Own P w K mg base 2 "_law_is_int" ["thing"] m__law_is_int) :
    Own P w K mg base 3 "_law_are_moves" ["house", "thing"] m__law_are_moves :=
  own_of ["house", "thing", "one", "here", "there"] ["house", "thing"] 2 g__law_are_moves [] F sc__law_are_moves b g (by decide) fun cdv A outer s H F0 E hr =>
  (b_cons (s_if (t_w (w_or (t_not (t_tru (u_isi rfl B.n_isinstance PyProof.Rows.Boot.«isinstance» rfl B.n_tuple PyProof.Rows.Boot.«tuple» kits_tuple (u_var (i := 1) rfl (.inl rfl))))) (w_or (t_cmp (o_gt (hu64 (A := A.deeper _) hr)) (u_callB c_len rfl B.n_len PyProof.Rows.Boot.«len» (a_cons (u_var (i := 1) rfl (.inl rfl)) a_nil)) u_int) (w_or1 (t_cmp (o_ne (hu64 (A := A.deeper _) hr)) (u_lc (own := [("one", 2)]) rfl sc__law_are_moves.nd (i_seq (u_var (i := 1) rfl (.inl rfl))) (blk_ok ["house", "thing", "one", "here", "there"] (sc := defScope s__law_are_moves) (by decide +kernel)) ⟨fun _ _ _ _ _ => (g_name (i := 2) sc__law_are_moves.nd rfl (.inl rfl)), fun _ _ _ _ _ => (ts_one (t_w (w_or (t_not (t_tru (u_isi rfl B.n_isinstance PyProof.Rows.Boot.«isinstance» rfl B.n_tuple PyProof.Rows.Boot.«tuple» kits_tuple (u_var (i := 2) rfl (.inl rfl))))) (w_or1 (t_cmp (o_ne (hu64 (A := A.deeper _) hr)) (u_callB c_len rfl B.n_len PyProof.Rows.Boot.«len» (a_cons (u_var (i := 2) rfl (.inl rfl)) a_nil)) u_int))))), fun _ _ _ _ _ => u_int⟩) (u_lst a_nil))))))
  (b_one (s_ret u_bl))
  b_nil)
  (b_cons (s_if (t_cmp (o_ne (hu64 (A := A.deeper _) hr)) (u_lc (own := [("one", 2)]) rfl sc__law_are_moves.nd (i_seq (u_var (i := 1) rfl (.inl rfl))) (blk_ok ["house", "thing", "one", "here", "there"] (sc := defScope s__law_are_moves) (by decide +kernel)) ⟨fun _ _ _ _ _ => (g_name (i := 2) sc__law_are_moves.nd rfl (.inl rfl)), fun _ _ _ _ _ => (ts_one (t_w (w_or (t_not (t_tru (u_own O__law_is_int rfl takes0 hr (by decide) rfl (a_cons (u_ix (hu1 (A := A.deeper _) hr) (u_var (i := 2) rfl (.inl rfl)) u_int) a_nil)))) (w_or1 (t_not (t_tru (u_own O__law_is_int rfl takes0 hr (by decide) rfl (a_cons (u_ix (hu1 (A := A.deeper _) hr) (u_var (i := 2) rfl (.inl rfl)) u_int) a_nil)))))))), fun _ _ _ _ _ => u_int⟩) (u_lst a_nil))
  (b_one (s_ret u_bl))
  b_nil)
  (b_one (s_ret (u_cmp (o_eq (hu64 (A := A.deeper _) hr)) (u_lc (own := [("here", 3), ("there", 4)]) rfl sc__law_are_moves.nd (i_seq (u_var (i := 1) rfl (.inl rfl))) (blk_ok ["house", "thing", "one", "here", "there"] (sc := defScope s__law_are_moves) (by decide +kernel)) ⟨fun _ _ _ _ _ => (g_tup rfl (gs_cons (g_name (i := 3) sc__law_are_moves.nd rfl (.inl rfl)) (gs_cons (g_name (i := 4) sc__law_are_moves.nd rfl (.inl rfl)) gs_nil))), fun _ _ _ _ _ => (ts_one (t_w (w_or (t_not (t_chain (o_le (hu64 (A := A.deeper _) hr)) (o_le (hu64 (A := A.deeper _) hr)) u_int (u_var (i := 3) rfl (.inl rfl)) (u_callB c_len rfl B.n_len PyProof.Rows.Boot.«len» (a_cons (u_var (i := 0) rfl (.inr (.inl rfl))) a_nil)))) (w_or (t_not (t_chain (o_le (hu64 (A := A.deeper _) hr)) (o_le (hu64 (A := A.deeper _) hr)) u_int (u_var (i := 4) rfl (.inl rfl)) (u_callB c_len rfl B.n_len PyProof.Rows.Boot.«len» (a_cons (u_var (i := 0) rfl (.inr (.inl rfl))) a_nil)))) (w_or1 (t_cmp (o_eq (hu64 (A := A.deeper _) hr)) (u_var (i := 3) rfl (.inl rfl)) (u_var (i := 4) rfl (.inl rfl)))))))), fun _ _ _ _ _ => u_int⟩) (u_lst a_nil))))))
abbrev s_law : Stmt := topS 43
theorem sc_law : FnScope ["script", "bag", "turn", "house", "floors", "moves", "load", "here", "there", "one", "other", "cross", "flight", "up", "told", "tops", "breath", "few", "due", "rests", "enough", "odd", "found", "again", "thing", "bend", "move", "many"] ["script"] (defScope s_law) := ⟨rfl, rfl, rfl, by decide +kernel, rfl, by decide +kernel, by decide +kernel⟩
def c_law_1 : EM :=
  (dLc [12] (iArgs opRng1 (dCons (dBin opAdd (dCon (.int 1)) (dCallM 2 takeM (dCons (dVar 1) (dCons (dCon (.int 5)) dNil)))) dNil)) (gdName 12) dYes (dBin opAdd (dCon (.int 1)) (dCallM 2 takeM (dCons (dVar 1) (dCons (dCon (.int 9)) dNil)))))
def b_law_1 : SM :=
  (sSeq (sParF [11, 22] 7 8 (dCons (dCallM 2 takeM (dCons (dVar 1) (dCons (dVar 4) dNil))) (dCons (dCallM 2 takeM (dCons (dVar 1) (dCons (dVar 4) dNil))) dNil)))
  (sSetF [11, 22] (dBin opAdd (dVar 5) (dBin opMul (dLst (dCons (dTup (dCons (dVar 7) (dCons (dVar 8) dNil))) dNil)) (dCall opInt (dCons (dBin opNe (dVar 7) (dVar 8)) dNil)))) (gdName 5)))
def c_law_2 : EM :=
  (dLc [7, 8] (iSeq (dVar 5)) (gdTup 2 (gsCons (gdName 7) (gsCons (gdName 8) gsNil))) (dB (dChain opLe opLt (dVar 7) (dVar 12) (dVar 8))) (dCon (.int 1)))
def c_law_3 : EM :=
  (dLc [7, 8] (iSeq (dVar 5)) (gdTup 2 (gsCons (gdName 7) (gsCons (gdName 8) gsNil))) (dB (dChain opLe opLt (dVar 8) (dVar 12) (dVar 7))) (dCon (.int 1)))
def b_law_2 : SM :=
  (sSeq (sSetF [11, 22] (dCall opLen (dCons c_law_2 dNil)) (gdName 13))
  (sAppF [11, 22] 11 (dTup (dCons (dVar 13) (dCons (dCall opLen (dCons c_law_3 dNil)) dNil)))))
def c_law_4 : EM :=
  (dLc [26] (iSeq (dVar 5)) (gdName 26) dYes (dCall opMaxT (dCons (dVar 26) dNil)))
def c_law_5 : EM :=
  (dLc [7, 8] (iSeq (dVar 5)) (gdTup 2 (gsCons (gdName 7) (gsCons (gdName 8) gsNil))) dYes (dCallM 3 m__law_between (dCons (dVar 3) (dCons (dVar 7) (dCons (dVar 8) dNil)))))
def c_law_6 : EM :=
  (dLc [27] (iArgs opRng2 (dCons (dCon (.int 1)) (dCons (dCon (.int 60)) dNil))) (gdName 27) (dB (dBin opNotN (dCallM 4 m__law_rests (dCons (dVar 3) (dCons (dVar 9) (dCons (dVar 10) (dCons (dVar 27) dNil))))) (dCon .non))) (dVar 27))
def c_law_7 : EM :=
  (dLc [27] (iSeq (dVar 20)) (gdName 27) (dB (dBin opLe (dCallM 4 m__law_rests (dCons (dVar 3) (dCons (dVar 9) (dCons (dVar 10) (dCons (dVar 27) dNil))))) (dVar 19))) (dVar 27))
def b_law_3 : SM :=
  (sSeq (sOwnF [11, 22] 22 (dLst (dCons (dHeard 2 g__law_asked (dCallM 3 m_steps_between (dCons (dVar 3) (dCons (dVar 21) (dCons (dVar 9) dNil))))) dNil)))
  (sSeq (sAppF [11, 22] 22 (dHeard 2 g__law_asked (dCallM 4 m_fewest_rests (dCons (dVar 3) (dCons (dVar 9) (dCons (dVar 21) (dCons (dCon (.int 5)) dNil)))))))
  (sSeq (sAppF [11, 22] 22 (dHeard 2 g__law_asked (dCallM 4 m_rest_floors (dCons (dVar 3) (dCons (dVar 21) (dCons (dVar 9) (dCons (dCon (.int 5)) dNil)))))))
  (sSeq (sAppF [11, 22] 22 (dHeard 2 g__law_asked (dCallM 4 m_least_breath (dCons (dVar 3) (dCons (dVar 9) (dCons (dVar 21) (dCons (dCon (.int 1)) dNil)))))))
  (sIf (dB (dBin opNe (dVar 22) (dBin opMul (dLst (dCons (dCon (.str "floor")) dNil)) (dCon (.int 4)))))
  (sRet (dCon (.bl false)))
  sNil)))))
def b_law_4 : SM :=
  (sSetF [11, 22] (dCallM 3 (m__law_bent 6) (dCons (dVar 1) (dCons (dVar 24) (dCons (dCon (.int 2)) dNil)))) (gdName 24))
def b_law_5 : SM :=
  (sSeq (sSetF [11, 22] (dCallM 2 m__law_some (dCons (dVar 1) (dCons (dLst (dCons (dVar 3) (dCons (dVar 5) dNil))) dNil))) (gdName 24))
  (sSeq (sFor [11, 22] (iArgs opRng1 (dCons (dCallM 2 m__law_some (dCons (dVar 1) (dCons (dLst (dCons (dCon (.int 0)) (dCons (dCon (.int 1)) (dCons (dCon (.int 1)) dNil)))) dNil))) dNil)) (gdName 25)
  b_law_4)
  (sIf (dNotT (dT (dCallM 2 alikeM (dCons (dLst (dCons (dCallM 1 m_is_house (dCons (dVar 24) dNil)) (dCons (dCallM 2 m_are_moves (dCons (dVar 3) (dCons (dVar 24) dNil))) dNil))) (dCons (dLst (dCons (dCallM 1 m__law_is_house (dCons (dVar 24) dNil)) (dCons (dCallM 2 m__law_are_moves (dCons (dVar 3) (dCons (dVar 24) dNil))) dNil))) dNil)))))
  (sRet (dCon (.bl false)))
  sNil)))
def b_law_6 : SM :=
  (sSeq (sSetF [11, 22] (dCall opTuple (dCons c_law_1 dNil)) (gdName 3))
  (sSeq (sSetF [11, 22] (dBin opAdd (dCall opLen (dCons (dVar 3) dNil)) (dCon (.int 1))) (gdName 4))
  (sSeq (sSetF [11, 22] (dLst dNil) (gdName 5))
  (sSeq (sFor [11, 22] (iArgs opRng1 (dCons (dCallM 2 takeM (dCons (dVar 1) (dCons (dCon (.int 5)) dNil))) dNil)) (gdName 6)
  b_law_1)
  (sSeq (sSetF [11, 22] (dCall opTuple (dCons (dVar 5) dNil)) (gdName 5))
  (sSeq (sSetF [11, 22] (dTup (dCons (dCallM 2 takeM (dCons (dVar 1) (dCons (dVar 4) dNil))) (dCons (dCallM 2 takeM (dCons (dVar 1) (dCons (dVar 4) dNil))) dNil))) (gdTup 2 (gsCons (gdName 9) (gsCons (gdName 10) gsNil))))
  (sSeq (sOwnF [11, 22] 11 (dLst dNil))
  (sSeq (sFor [11, 22] (iArgs opRng1 (dCons (dCall opLen (dCons (dVar 3) dNil)) dNil)) (gdName 12)
  b_law_2)
  (sSeq (sSetF [11, 22] (dLst (dCons (dCallM 3 m_steps_between (dCons (dVar 3) (dCons (dVar 9) (dCons (dVar 10) dNil)))) (dCons (dCallM 2 m_carried_steps (dCons (dVar 3) (dCons (dVar 5) dNil))) (dCons (dCallM 2 m_crossings (dCons (dVar 3) (dCons (dVar 5) dNil))) (dCons (dCallM 2 m_highest (dCons (dVar 3) (dCons (dVar 5) dNil))) dNil))))) (gdName 14))
  (sSeq (sSetF [11, 22] c_law_4 (gdName 15))
  (sSeq (sIf (dNotT (dT (dCallM 2 alikeM (dCons (dVar 14) (dCons (dLst (dCons (dCallM 3 m__law_between (dCons (dVar 3) (dCons (dVar 9) (dCons (dVar 10) dNil)))) (dCons (dCall opSumT (dCons c_law_5 dNil)) (dCons (dCall opTuple (dCons (dVar 11) dNil)) (dCons (dCall opMaxT (dCons (dBin opAdd (dVar 15) (dLst (dCons (dCon (.int 0)) dNil))) dNil)) dNil))))) dNil)))))
  (sRet (dCon (.bl false)))
  sNil)
  (sSeq (sSetF [11, 22] (dBin opAdd (dCon (.int 1)) (dCallM 2 takeM (dCons (dVar 1) (dCons (dCon (.int 20)) dNil)))) (gdName 16))
  (sSeq (sSetF [11, 22] (dCallM 4 m__law_rests (dCons (dVar 3) (dCons (dVar 9) (dCons (dVar 10) (dCons (dVar 16) dNil))))) (gdName 17))
  (sSeq (sSetF [11, 22] (dIf (dB (dBin opIsN (dVar 17) (dCon .non))) (dCon .non) (dIf (dB (dBin opGe (dVar 9) (dVar 10))) (dTup dNil) (dCallM 4 m__law_farthest (dCons (dVar 3) (dCons (dVar 9) (dCons (dVar 10) (dCons (dVar 16) dNil))))))) (gdName 18))
  (sSeq (sIf (dNotT (dT (dCallM 2 alikeM (dCons (dLst (dCons (dCallM 4 m_fewest_rests (dCons (dVar 3) (dCons (dVar 9) (dCons (dVar 10) (dCons (dVar 16) dNil))))) (dCons (dCallM 4 m_rest_floors (dCons (dVar 3) (dCons (dVar 9) (dCons (dVar 10) (dCons (dVar 16) dNil))))) dNil))) (dCons (dLst (dCons (dVar 17) (dCons (dVar 18) dNil))) dNil)))))
  (sRet (dCon (.bl false)))
  sNil)
  (sSeq (sIf (dAndT (dB (dBin opNotN (dVar 17) (dCon .non))) (dB (dBin opNe (dCall opLen (dCons (dVar 18) dNil)) (dVar 17))))
  (sRet (dCon (.bl false)))
  sNil)
  (sSeq (sSetF [11, 22] (dCallM 2 takeM (dCons (dVar 1) (dCons (dCon (.int 4)) dNil))) (gdName 19))
  (sSeq (sSetF [11, 22] c_law_6 (gdName 20))
  (sSeq (sSetF [11, 22] c_law_7 (gdName 20))
  (sSeq (sIf (dB (dBin opNe (dCallM 4 m_least_breath (dCons (dVar 3) (dCons (dVar 9) (dCons (dVar 10) (dCons (dVar 19) dNil))))) (dBin opIx (dVar 20) (dCon (.int 0)))))
  (sRet (dCon (.bl false)))
  sNil)
  (sSeq (sFor [11, 22] (iSeq (dTup (dCons (dVar 4) (dCons (dUn opNeg (dCon (.int 1))) (dCons (dCon .non) (dCons (dCon (.str "0")) (dCons (dCon (.bl true)) dNil))))))) (gdName 21)
  b_law_3)
  (sFor [11, 22] (iArgs opRng1 (dCons (dCon (.int 3)) dNil)) (gdName 23)
  b_law_5))))))))))))))))))))))
def g_law : SM :=
  (sSeq (sSetF [11, 22] (dCallM 1 bagM (dCons (dVar 0) dNil)) (gdName 1))
  (sSeq (sFor [11, 22] (iArgs opRng1 (dCons (dCon (.int 4)) dNil)) (gdName 2)
  b_law_6)
  (sRet (dCon (.bl true)))))
def m_law : List D → M D := runFn 28 g_law
theorem k_law {P : Program} {w : World} {K : K'} {mg : Mg} {base : Heap} {f : Addr} {fd : FuncData} (F : Fun K "law" "law" s_law f fd) (b : Binds K fd ["script"] []) (g : mg "law" = some (.ref f)) (B : Bl K mg) (O_is_house : Own P w K mg base 6 "is_house" ["thing"] m_is_house) (O_are_moves : Own P w K mg base 10 "are_moves" ["house", "thing"] m_are_moves) (O_steps_between : Own P w K mg base 5 "steps_between" ["house", "one", "other"] m_steps_between) (O_carried_steps : Own P w K mg base 3 "carried_steps" ["house", "moves"] m_carried_steps) (O_highest : Own P w K mg base 2 "highest" ["house", "moves"] m_highest) (O_crossings : Own P w K mg base 2 "crossings" ["house", "moves"] m_crossings) (O_rest_floors : Own P w K mg base 5 "rest_floors" ["house", "one", "other", "breath"] m_rest_floors) (O_fewest_rests : Own P w K mg base 6 "fewest_rests" ["house", "one", "other", "breath"] m_fewest_rests) (O_least_breath : Own P w K mg base 5 "least_breath" ["house", "one", "other", "rests"] m_least_breath) (O__law_bag : Own P w K mg base 2 "_law_bag" ["script"] bagM) (O__law_take : Own P w K mg base 2 "_law_take" ["bag", "many"] takeM) (O__law_some : Own P w K mg base 3 "_law_some" ["bag", "things"] m__law_some) (O__law_alike : Own P w K mg base 2 "_law_alike" ["found", "due"] alikeM) (O__law_bent : Own P w K mg base 11 "_law_bent" ["bag", "thing", "depth"] (m__law_bent 6)) {f__law_asked : Addr} {fd__law_asked : FuncData} (F__law_asked : Fun K "_law_asked" "_law_asked" s__law_asked f__law_asked fd__law_asked) (b__law_asked : Binds K fd__law_asked ["act"] []) (g0__law_asked : mg "_law_asked" = some (.ref f__law_asked)) (H__law_asked : ∀ k : Nat, Heard P w K mg base (k + 1) ["act", "error"] "_law_asked" s__law_asked f__law_asked "act" g__law_asked) (O__law_between : Own P w K mg base 2 "_law_between" ["house", "one", "other"] m__law_between) (O__law_rests : Own P w K mg base 3 "_law_rests" ["house", "one", "other", "breath"] m__law_rests) (O__law_farthest : Own P w K mg base 3 "_law_farthest" ["house", "one", "other", "breath"] m__law_farthest) (O__law_is_house : Own P w K mg base 3 "_law_is_house" ["thing"] m__law_is_house) (O__law_are_moves : Own P w K mg base 3 "_law_are_moves" ["house", "thing"] m__law_are_moves) {c T0 : Addr} (hc : CodeAt K f c) (tb : TabB base mg c T0) (qn : Str) (hT : Tb.T = [(T0, qn)]) (hq : (envOfC "law" (defScope s_law) 0 0 .none).qual ++ "<lambda>" = qn) :
    RunAt P w K mg base 12 callerA f fd ["script"] (spOf K mg 1 m_law) :=
  keep_tab ["script", "bag", "turn", "house", "floors", "moves", "load", "here", "there", "one", "other", "cross", "flight", "up", "told", "tops", "breath", "few", "due", "rests", "enough", "odd", "found", "again", "thing", "bend", "move", "many"] ["script"] 11 g_law [11, 22] F hc tb qn hT hq sc_law (by decide) fun outer s H F0 E hr hG tx =>
  (b_cons (s_asgF (u_own O__law_bag rfl tk_of hr (by decide) rfl (a_cons (u_var (i := 0) rfl (.inl rfl)) a_nil)) (g_name (i := 1) sc_law.nd rfl (.inr rfl)))
  (b_cons (s_for po_of rfl (i_range1 rfl B.n_range (a_cons u_int a_nil)) (g_name (i := 2) sc_law.nd rfl (.inl rfl))
  (b_cons (s_asgF (u_callTy c_tuple rfl B.n_tuple PyProof.Rows.Boot.«tuple» (a_cons (u_lc (own := [("flight", 12)]) rfl sc_law.nd (i_range1 rfl B.n_range (a_cons (u_bin o_add u_int (u_own O__law_take rfl tk_of hr (by decide) rfl (a_cons (u_var (i := 1) rfl (.inr (.inl rfl))) (a_cons u_int a_nil)))) a_nil)) (blk_ok ["script", "bag", "turn", "house", "floors", "moves", "load", "here", "there", "one", "other", "cross", "flight", "up", "told", "tops", "breath", "few", "due", "rests", "enough", "odd", "found", "again", "thing", "bend", "move", "many"] (sc := defScope s_law) (by decide +kernel)) ⟨fun _ _ _ _ _ => (g_name (i := 12) sc_law.nd rfl (.inl rfl)), fun _ _ _ _ _ => ts_nil, fun _ _ _ _ _ => (u_bin o_add u_int (u_own O__law_take rfl takes0 hr (by decide) rfl (a_cons (u_var (i := 1) rfl (.inr (.inl rfl))) (a_cons u_int a_nil))))⟩) a_nil)) (g_name (i := 3) sc_law.nd rfl (.inr rfl)))
  (b_cons (s_asgF (u_bin o_add (u_callB c_len rfl B.n_len PyProof.Rows.Boot.«len» (a_cons (u_var (i := 3) rfl (.inr (.inl rfl))) a_nil)) u_int) (g_name (i := 4) sc_law.nd rfl (.inl rfl)))
  (b_cons (s_asgF (u_lst a_nil) (g_name (i := 5) sc_law.nd rfl (.inl rfl)))
  (b_cons (s_for po_of rfl (i_range1 rfl B.n_range (a_cons (u_own O__law_take rfl tk_of hr (by decide) rfl (a_cons (u_var (i := 1) rfl (.inr (.inl rfl))) (a_cons u_int a_nil))) a_nil)) (g_name (i := 6) sc_law.nd rfl (.inl rfl))
  (b_cons (s_parF (i := 7) (j := 8) rfl sc_law.nd rfl rfl (by decide) rfl rfl (a_cons (u_own O__law_take rfl tk_of hr (by decide) rfl (a_cons (u_var (i := 1) rfl (.inr (.inl rfl))) (a_cons (u_var (i := 4) rfl (.inl rfl)) a_nil))) (a_cons (u_own O__law_take rfl tk_of hr (by decide) rfl (a_cons (u_var (i := 1) rfl (.inr (.inl rfl))) (a_cons (u_var (i := 4) rfl (.inl rfl)) a_nil))) a_nil)))
  (b_one (s_asgF (u_bin o_add (u_var (i := 5) rfl (.inl rfl)) (u_bin o_mul (u_lst (a_cons (u_tup (a_cons (u_var (i := 7) rfl (.inl rfl)) (a_cons (u_var (i := 8) rfl (.inl rfl)) a_nil))) a_nil)) (u_callTy c_int rfl B.n_int PyProof.Rows.Boot.«int» (a_cons (u_cmp (o_ne (hu64 (A := callerA.deeper _) hr)) (u_var (i := 7) rfl (.inl rfl)) (u_var (i := 8) rfl (.inl rfl))) a_nil)))) (g_name (i := 5) sc_law.nd rfl (.inl rfl))))))
  (b_cons (s_asgF (u_callTy c_tuple rfl B.n_tuple PyProof.Rows.Boot.«tuple» (a_cons (u_var (i := 5) rfl (.inl rfl)) a_nil)) (g_name (i := 5) sc_law.nd rfl (.inl rfl)))
  (b_cons (s_asgF (u_tup (a_cons (u_own O__law_take rfl tk_of hr (by decide) rfl (a_cons (u_var (i := 1) rfl (.inr (.inl rfl))) (a_cons (u_var (i := 4) rfl (.inl rfl)) a_nil))) (a_cons (u_own O__law_take rfl tk_of hr (by decide) rfl (a_cons (u_var (i := 1) rfl (.inr (.inl rfl))) (a_cons (u_var (i := 4) rfl (.inl rfl)) a_nil))) a_nil))) (g_tup rfl (gs_cons (g_name (i := 9) sc_law.nd rfl (.inr rfl)) (gs_cons (g_name (i := 10) sc_law.nd rfl (.inr rfl)) gs_nil))))
  (b_cons (s_ownF (i := 11) (by decide) sc_law.nd rfl (.inl rfl) (fr_lst a_nil))
  (b_cons (s_for po_of rfl (i_range1 rfl B.n_range (a_cons (u_callB c_len rfl B.n_len PyProof.Rows.Boot.«len» (a_cons (u_var (i := 3) rfl (.inr (.inl rfl))) a_nil)) a_nil)) (g_name (i := 12) sc_law.nd rfl (.inr rfl))
  (b_cons (s_asgF (u_callB c_len rfl B.n_len PyProof.Rows.Boot.«len» (a_cons (u_lc (own := [("here", 7), ("there", 8)]) rfl sc_law.nd (i_seq (u_var (i := 5) rfl (.inl rfl))) (blk_ok ["script", "bag", "turn", "house", "floors", "moves", "load", "here", "there", "one", "other", "cross", "flight", "up", "told", "tops", "breath", "few", "due", "rests", "enough", "odd", "found", "again", "thing", "bend", "move", "many"] (sc := defScope s_law) (by decide +kernel)) ⟨fun _ _ _ _ _ => (g_tup rfl (gs_cons (g_name (i := 7) sc_law.nd rfl (.inl rfl)) (gs_cons (g_name (i := 8) sc_law.nd rfl (.inl rfl)) gs_nil))), fun _ _ _ _ _ => (ts_one (t_chain (o_le (hu64 (A := callerA.deeper _) hr)) (o_lt (hu64 (A := callerA.deeper _) hr)) (u_var (i := 7) rfl (.inl rfl)) (u_var (i := 12) rfl (.inr (.inl rfl))) (u_var (i := 8) rfl (.inl rfl)))), fun _ _ _ _ _ => u_int⟩) a_nil)) (g_name (i := 13) sc_law.nd rfl (.inl rfl)))
  (b_one (s_appF (i := 11) (by decide) rfl (.inl rfl) (u_tup (a_cons (u_var (i := 13) rfl (.inl rfl)) (a_cons (u_callB c_len rfl B.n_len PyProof.Rows.Boot.«len» (a_cons (u_lc (own := [("here", 7), ("there", 8)]) rfl sc_law.nd (i_seq (u_var (i := 5) rfl (.inl rfl))) (blk_ok ["script", "bag", "turn", "house", "floors", "moves", "load", "here", "there", "one", "other", "cross", "flight", "up", "told", "tops", "breath", "few", "due", "rests", "enough", "odd", "found", "again", "thing", "bend", "move", "many"] (sc := defScope s_law) (by decide +kernel)) ⟨fun _ _ _ _ _ => (g_tup rfl (gs_cons (g_name (i := 7) sc_law.nd rfl (.inl rfl)) (gs_cons (g_name (i := 8) sc_law.nd rfl (.inl rfl)) gs_nil))), fun _ _ _ _ _ => (ts_one (t_chain (o_le (hu64 (A := callerA.deeper _) hr)) (o_lt (hu64 (A := callerA.deeper _) hr)) (u_var (i := 8) rfl (.inl rfl)) (u_var (i := 12) rfl (.inr (.inl rfl))) (u_var (i := 7) rfl (.inl rfl)))), fun _ _ _ _ _ => u_int⟩) a_nil)) a_nil)))))))
  (b_cons (s_asgF (u_lst (a_cons (u_own O_steps_between rfl tk_of hr (by decide) rfl (a_cons (u_var (i := 3) rfl (.inr (.inl rfl))) (a_cons (u_var (i := 9) rfl (.inr (.inl rfl))) (a_cons (u_var (i := 10) rfl (.inr (.inl rfl))) a_nil)))) (a_cons (u_own O_carried_steps rfl tk_of hr (by decide) rfl (a_cons (u_var (i := 3) rfl (.inr (.inl rfl))) (a_cons (u_var (i := 5) rfl (.inl rfl)) a_nil))) (a_cons (u_own O_crossings rfl tk_of hr (by decide) rfl (a_cons (u_var (i := 3) rfl (.inr (.inl rfl))) (a_cons (u_var (i := 5) rfl (.inl rfl)) a_nil))) (a_cons (u_own O_highest rfl tk_of hr (by decide) rfl (a_cons (u_var (i := 3) rfl (.inr (.inl rfl))) (a_cons (u_var (i := 5) rfl (.inl rfl)) a_nil))) a_nil))))) (g_name (i := 14) sc_law.nd rfl (.inl rfl)))
  (b_cons (s_setLc (i := 15) (hyl := rfl) (hsw := rfl) (own := [("move", 26)]) rfl sc_law.nd rfl (i_seq (u_var (i := 5) rfl (.inl rfl))) (blk_ok ["script", "bag", "turn", "house", "floors", "moves", "load", "here", "there", "one", "other", "cross", "flight", "up", "told", "tops", "breath", "few", "due", "rests", "enough", "odd", "found", "again", "thing", "bend", "move", "many"] (sc := defScope s_law) (by decide +kernel)) ⟨fun _ _ _ _ _ => (g_name (i := 26) sc_law.nd rfl (.inl rfl)), fun _ _ _ _ _ => ts_nil, fun _ _ _ _ _ => (u_callB (c_maxT rfl (hu66 (A := callerA.deeper _) hr)) rfl B.n_max PyProof.Rows.Boot.«max» (a_cons (u_var (i := 26) rfl (.inl rfl)) a_nil))⟩)
  (b_cons (s_if (t_not (t_tru (u_own O__law_alike rfl tk_of hr (by decide) rfl (a_cons (u_var (i := 14) rfl (.inl rfl)) (a_cons (u_lst (a_cons (u_own O__law_between rfl tk_of hr (by decide) rfl (a_cons (u_var (i := 3) rfl (.inr (.inl rfl))) (a_cons (u_var (i := 9) rfl (.inr (.inl rfl))) (a_cons (u_var (i := 10) rfl (.inr (.inl rfl))) a_nil)))) (a_cons (u_callB (c_sumT rfl) rfl B.n_sum PyProof.Rows.Boot.«sum» (a_cons (u_lc (own := [("here", 7), ("there", 8)]) rfl sc_law.nd (i_seq (u_var (i := 5) rfl (.inl rfl))) (blk_ok ["script", "bag", "turn", "house", "floors", "moves", "load", "here", "there", "one", "other", "cross", "flight", "up", "told", "tops", "breath", "few", "due", "rests", "enough", "odd", "found", "again", "thing", "bend", "move", "many"] (sc := defScope s_law) (by decide +kernel)) ⟨fun _ _ _ _ _ => (g_tup rfl (gs_cons (g_name (i := 7) sc_law.nd rfl (.inl rfl)) (gs_cons (g_name (i := 8) sc_law.nd rfl (.inl rfl)) gs_nil))), fun _ _ _ _ _ => ts_nil, fun _ _ _ _ _ => (u_own O__law_between rfl takes0 hr (by decide) rfl (a_cons (u_var (i := 3) rfl (.inr (.inl rfl))) (a_cons (u_var (i := 7) rfl (.inl rfl)) (a_cons (u_var (i := 8) rfl (.inl rfl)) a_nil))))⟩) a_nil)) (a_cons (u_callTy c_tuple rfl B.n_tuple PyProof.Rows.Boot.«tuple» (a_cons (u_var (i := 11) rfl (.inl rfl)) a_nil)) (a_cons (u_callB (c_maxT rfl (hu66 (A := callerA.deeper _) hr)) rfl B.n_max PyProof.Rows.Boot.«max» (a_cons (u_bin o_add (u_var (i := 15) rfl (.inl rfl)) (u_lst (a_cons u_int a_nil))) a_nil)) a_nil))))) a_nil)))))
  (b_one (s_ret u_bl))
  b_nil)
  (b_cons (s_asgF (u_bin o_add u_int (u_own O__law_take rfl tk_of hr (by decide) rfl (a_cons (u_var (i := 1) rfl (.inr (.inl rfl))) (a_cons u_int a_nil)))) (g_name (i := 16) sc_law.nd rfl (.inl rfl)))
  (b_cons (s_asgF (u_own O__law_rests rfl tk_of hr (by decide) rfl (a_cons (u_var (i := 3) rfl (.inr (.inl rfl))) (a_cons (u_var (i := 9) rfl (.inr (.inl rfl))) (a_cons (u_var (i := 10) rfl (.inr (.inl rfl))) (a_cons (u_var (i := 16) rfl (.inl rfl)) a_nil))))) (g_name (i := 17) sc_law.nd rfl (.inl rfl)))
  (b_cons (s_asgF (u_if (t_cmp (o_isN) (u_var (i := 17) rfl (.inl rfl)) u_non) u_non (u_if (t_cmp (o_ge (hu64 (A := callerA.deeper _) hr)) (u_var (i := 9) rfl (.inr (.inl rfl))) (u_var (i := 10) rfl (.inr (.inl rfl)))) (u_tup a_nil) (u_own O__law_farthest rfl tk_of hr (by decide) rfl (a_cons (u_var (i := 3) rfl (.inr (.inl rfl))) (a_cons (u_var (i := 9) rfl (.inr (.inl rfl))) (a_cons (u_var (i := 10) rfl (.inr (.inl rfl))) (a_cons (u_var (i := 16) rfl (.inl rfl)) a_nil))))))) (g_name (i := 18) sc_law.nd rfl (.inl rfl)))
  (b_cons (s_if (t_not (t_tru (u_own O__law_alike rfl tk_of hr (by decide) rfl (a_cons (u_lst (a_cons (u_own O_fewest_rests rfl tk_of hr (by decide) rfl (a_cons (u_var (i := 3) rfl (.inr (.inl rfl))) (a_cons (u_var (i := 9) rfl (.inr (.inl rfl))) (a_cons (u_var (i := 10) rfl (.inr (.inl rfl))) (a_cons (u_var (i := 16) rfl (.inl rfl)) a_nil))))) (a_cons (u_own O_rest_floors rfl tk_of hr (by decide) rfl (a_cons (u_var (i := 3) rfl (.inr (.inl rfl))) (a_cons (u_var (i := 9) rfl (.inr (.inl rfl))) (a_cons (u_var (i := 10) rfl (.inr (.inl rfl))) (a_cons (u_var (i := 16) rfl (.inl rfl)) a_nil))))) a_nil))) (a_cons (u_lst (a_cons (u_var (i := 17) rfl (.inl rfl)) (a_cons (u_var (i := 18) rfl (.inl rfl)) a_nil))) a_nil)))))
  (b_one (s_ret u_bl))
  b_nil)
  (b_cons (s_if (t_w (w_and (t_cmp (o_notN) (u_var (i := 17) rfl (.inl rfl)) u_non) (w_and1 (t_cmp (o_ne (hu64 (A := callerA.deeper _) hr)) (u_callB c_len rfl B.n_len PyProof.Rows.Boot.«len» (a_cons (u_var (i := 18) rfl (.inl rfl)) a_nil)) (u_var (i := 17) rfl (.inl rfl))))))
  (b_one (s_ret u_bl))
  b_nil)
  (b_cons (s_asgF (u_own O__law_take rfl tk_of hr (by decide) rfl (a_cons (u_var (i := 1) rfl (.inr (.inl rfl))) (a_cons u_int a_nil))) (g_name (i := 19) sc_law.nd rfl (.inr rfl)))
  (b_cons (s_setLc (i := 20) (hyl := rfl) (hsw := rfl) (own := [("many", 27)]) rfl sc_law.nd rfl (i_range2 rfl B.n_range (a_cons u_int (a_cons u_int a_nil))) (blk_ok ["script", "bag", "turn", "house", "floors", "moves", "load", "here", "there", "one", "other", "cross", "flight", "up", "told", "tops", "breath", "few", "due", "rests", "enough", "odd", "found", "again", "thing", "bend", "move", "many"] (sc := defScope s_law) (by decide +kernel)) ⟨fun _ _ _ _ _ => (g_name (i := 27) sc_law.nd rfl (.inl rfl)), fun _ _ _ _ _ => (ts_one (t_cmp (o_notN) (u_own O__law_rests rfl takes0 hr (by decide) rfl (a_cons (u_var (i := 3) rfl (.inr (.inl rfl))) (a_cons (u_var (i := 9) rfl (.inr (.inl rfl))) (a_cons (u_var (i := 10) rfl (.inr (.inl rfl))) (a_cons (u_var (i := 27) rfl (.inl rfl)) a_nil))))) u_non)), fun _ _ _ _ _ => (u_var (i := 27) rfl (.inl rfl))⟩)
  (b_cons (s_setLc (i := 20) (hyl := rfl) (hsw := rfl) (own := [("many", 27)]) rfl sc_law.nd rfl (i_seq (u_var (i := 20) rfl (.inl rfl))) (blk_ok ["script", "bag", "turn", "house", "floors", "moves", "load", "here", "there", "one", "other", "cross", "flight", "up", "told", "tops", "breath", "few", "due", "rests", "enough", "odd", "found", "again", "thing", "bend", "move", "many"] (sc := defScope s_law) (by decide +kernel)) ⟨fun _ _ _ _ _ => (g_name (i := 27) sc_law.nd rfl (.inl rfl)), fun _ _ _ _ _ => (ts_one (t_cmp (o_le (hu64 (A := callerA.deeper _) hr)) (u_own O__law_rests rfl takes0 hr (by decide) rfl (a_cons (u_var (i := 3) rfl (.inr (.inl rfl))) (a_cons (u_var (i := 9) rfl (.inr (.inl rfl))) (a_cons (u_var (i := 10) rfl (.inr (.inl rfl))) (a_cons (u_var (i := 27) rfl (.inl rfl)) a_nil))))) (u_var (i := 19) rfl (.inr (.inl rfl))))), fun _ _ _ _ _ => (u_var (i := 27) rfl (.inl rfl))⟩)
  (b_cons (s_if (t_cmp (o_ne (hu64 (A := callerA.deeper _) hr)) (u_own O_least_breath rfl tk_of hr (by decide) rfl (a_cons (u_var (i := 3) rfl (.inr (.inl rfl))) (a_cons (u_var (i := 9) rfl (.inr (.inl rfl))) (a_cons (u_var (i := 10) rfl (.inr (.inl rfl))) (a_cons (u_var (i := 19) rfl (.inr (.inl rfl))) a_nil))))) (u_ix (hu1 (A := callerA.deeper _) hr) (u_var (i := 20) rfl (.inl rfl)) u_int))
  (b_one (s_ret u_bl))
  b_nil)
  (b_cons (s_for po_of rfl (i_seq (u_tup (a_cons (u_var (i := 4) rfl (.inl rfl)) (a_cons (u_neg u_int) (a_cons u_non (a_cons u_str (a_cons u_bl a_nil))))))) (g_name (i := 21) sc_law.nd rfl (.inr rfl))
  (b_cons (s_ownF (i := 22) (by decide) sc_law.nd rfl (.inl rfl) (fr_lst (a_cons (u_heard (k := 5) (H__law_asked 5) F__law_asked b__law_asked g0__law_asked sc__law_asked rfl (.inl rfl) rfl tk_of tx (hr.mono (by decide)) (lamS_by (sc := defScope s_law) (by decide +kernel)) rfl (fun _ _ _ _ _ => rfl) (fun A outer s' H' E' f d hr => (u_own O_steps_between rfl tk_lam hr (by decide) rfl (a_cons (u_var (i := 3) rfl (.inr (.inr rfl))) (a_cons (u_var (i := 21) rfl (.inr (.inr rfl))) (a_cons (u_var (i := 9) rfl (.inr (.inr rfl))) a_nil)))))) a_nil)))
  (b_cons (s_appF (i := 22) (by decide) rfl (.inl rfl) (u_heard (k := 6) (H__law_asked 6) F__law_asked b__law_asked g0__law_asked sc__law_asked rfl (.inl rfl) rfl tk_of tx (hr.mono (by decide)) (lamS_by (sc := defScope s_law) (by decide +kernel)) rfl (fun _ _ _ _ _ => rfl) (fun A outer s' H' E' f d hr => (u_own O_fewest_rests rfl tk_lam hr (by decide) rfl (a_cons (u_var (i := 3) rfl (.inr (.inr rfl))) (a_cons (u_var (i := 9) rfl (.inr (.inr rfl))) (a_cons (u_var (i := 21) rfl (.inr (.inr rfl))) (a_cons u_int a_nil))))))))
  (b_cons (s_appF (i := 22) (by decide) rfl (.inl rfl) (u_heard (k := 5) (H__law_asked 5) F__law_asked b__law_asked g0__law_asked sc__law_asked rfl (.inl rfl) rfl tk_of tx (hr.mono (by decide)) (lamS_by (sc := defScope s_law) (by decide +kernel)) rfl (fun _ _ _ _ _ => rfl) (fun A outer s' H' E' f d hr => (u_own O_rest_floors rfl tk_lam hr (by decide) rfl (a_cons (u_var (i := 3) rfl (.inr (.inr rfl))) (a_cons (u_var (i := 21) rfl (.inr (.inr rfl))) (a_cons (u_var (i := 9) rfl (.inr (.inr rfl))) (a_cons u_int a_nil))))))))
  (b_cons (s_appF (i := 22) (by decide) rfl (.inl rfl) (u_heard (k := 5) (H__law_asked 5) F__law_asked b__law_asked g0__law_asked sc__law_asked rfl (.inl rfl) rfl tk_of tx (hr.mono (by decide)) (lamS_by (sc := defScope s_law) (by decide +kernel)) rfl (fun _ _ _ _ _ => rfl) (fun A outer s' H' E' f d hr => (u_own O_least_breath rfl tk_lam hr (by decide) rfl (a_cons (u_var (i := 3) rfl (.inr (.inr rfl))) (a_cons (u_var (i := 9) rfl (.inr (.inr rfl))) (a_cons (u_var (i := 21) rfl (.inr (.inr rfl))) (a_cons u_int a_nil))))))))
  (b_one (s_if (t_cmp (o_ne (hu64 (A := callerA.deeper _) hr)) (u_var (i := 22) rfl (.inl rfl)) (u_bin o_mul (u_lst (a_cons u_str a_nil)) u_int))
  (b_one (s_ret u_bl))
  b_nil)))))))
  (b_one (s_for po_of rfl (i_range1 rfl B.n_range (a_cons u_int a_nil)) (g_name (i := 23) sc_law.nd rfl (.inl rfl))
  (b_cons (s_asgF (u_own O__law_some rfl tk_of hr (by decide) rfl (a_cons (u_var (i := 1) rfl (.inr (.inl rfl))) (a_cons (u_lst (a_cons (u_var (i := 3) rfl (.inr (.inl rfl))) (a_cons (u_var (i := 5) rfl (.inl rfl)) a_nil))) a_nil))) (g_name (i := 24) sc_law.nd rfl (.inl rfl)))
  (b_cons (s_for po_of rfl (i_range1 rfl B.n_range (a_cons (u_own O__law_some rfl tk_of hr (by decide) rfl (a_cons (u_var (i := 1) rfl (.inr (.inl rfl))) (a_cons (u_lst (a_cons u_int (a_cons u_int (a_cons u_int a_nil)))) a_nil))) a_nil)) (g_name (i := 25) sc_law.nd rfl (.inl rfl))
  (b_one (s_asgF (u_own O__law_bent rfl tk_of hr (by decide) rfl (a_cons (u_var (i := 1) rfl (.inr (.inl rfl))) (a_cons (u_var (i := 24) rfl (.inl rfl)) (a_cons u_int a_nil)))) (g_name (i := 24) sc_law.nd rfl (.inl rfl)))))
  (b_one (s_if (t_not (t_tru (u_own O__law_alike rfl tk_of hr (by decide) rfl (a_cons (u_lst (a_cons (u_own O_is_house rfl tk_of hr (by decide) rfl (a_cons (u_var (i := 24) rfl (.inl rfl)) a_nil)) (a_cons (u_own O_are_moves rfl tk_of hr (by decide) rfl (a_cons (u_var (i := 3) rfl (.inr (.inl rfl))) (a_cons (u_var (i := 24) rfl (.inl rfl)) a_nil))) a_nil))) (a_cons (u_lst (a_cons (u_own O__law_is_house rfl tk_of hr (by decide) rfl (a_cons (u_var (i := 24) rfl (.inl rfl)) a_nil)) (a_cons (u_own O__law_are_moves rfl tk_of hr (by decide) rfl (a_cons (u_var (i := 3) rfl (.inr (.inl rfl))) (a_cons (u_var (i := 24) rfl (.inl rfl)) a_nil))) a_nil))) a_nil)))))
  (b_one (s_ret u_bl))
  b_nil))))))))))))))))))))))))))))
  (b_one (s_ret u_bl))))
end
abbrev PROG : Program := PySem.Challenge.pw_lifthall_k02_stairs_steps_and_rests
theorem all_mk {w : World} {K : K'} {h : Heap} {mg : Mg} {fa : Addr} (X : K.In h) (G : h.Ns mainGlobals mg) (hfa : mg "law" = some (.ref fa))
    {f_is_integer : Addr} {od_is_integer an_is_integer : Option Addr} {sl_is_integer : Array (Option Value)} {oc_is_integer kV_is_integer dc_is_integer pm_is_integer cd_is_integer ct_is_integer : Value}
    {f_is_within : Addr} {od_is_within an_is_within : Option Addr} {sl_is_within : Array (Option Value)} {oc_is_within kV_is_within dc_is_within pm_is_within cd_is_within ct_is_within : Value}
    {f_are_all : Addr} {od_are_all an_are_all : Option Addr} {sl_are_all : Array (Option Value)} {oc_are_all kV_are_all dc_are_all pm_are_all cd_are_all ct_are_all : Value}
    {f_are_integers : Addr} {od_are_integers an_are_integers : Option Addr} {sl_are_integers : Array (Option Value)} {oc_are_integers kV_are_integers dc_are_integers pm_are_integers cd_are_integers ct_are_integers : Value}
    {f_is_pair : Addr} {od_is_pair an_is_pair : Option Addr} {sl_is_pair : Array (Option Value)} {oc_is_pair kV_is_pair dc_is_pair pm_is_pair cd_is_pair ct_is_pair : Value}
    {f_are_pairs : Addr} {od_are_pairs an_are_pairs : Option Addr} {sl_are_pairs : Array (Option Value)} {oc_are_pairs kV_are_pairs dc_are_pairs pm_are_pairs cd_are_pairs ct_are_pairs : Value}
    {f_is_house : Addr} {od_is_house an_is_house : Option Addr} {sl_is_house : Array (Option Value)} {oc_is_house kV_is_house dc_is_house pm_is_house cd_is_house ct_is_house : Value}
    {f_is_move : Addr} {od_is_move an_is_move : Option Addr} {sl_is_move : Array (Option Value)} {oc_is_move kV_is_move dc_is_move pm_is_move cd_is_move ct_is_move : Value}
    {f_are_moves : Addr} {od_are_moves an_are_moves : Option Addr} {sl_are_moves : Array (Option Value)} {oc_are_moves kV_are_moves dc_are_moves pm_are_moves cd_are_moves ct_are_moves : Value}
    {f_need_floors : Addr} {od_need_floors an_need_floors : Option Addr} {sl_need_floors : Array (Option Value)} {oc_need_floors kV_need_floors dc_need_floors pm_need_floors cd_need_floors ct_need_floors : Value}
    {f_steps_of_way : Addr} {od_steps_of_way an_steps_of_way : Option Addr} {sl_steps_of_way : Array (Option Value)} {oc_steps_of_way kV_steps_of_way dc_steps_of_way pm_steps_of_way cd_steps_of_way ct_steps_of_way : Value}
    {f_steps_between : Addr} {od_steps_between an_steps_between : Option Addr} {sl_steps_between : Array (Option Value)} {oc_steps_between kV_steps_between dc_steps_between pm_steps_between cd_steps_between ct_steps_between : Value}
    {f_carried_steps : Addr} {od_carried_steps an_carried_steps : Option Addr} {sl_carried_steps : Array (Option Value)} {oc_carried_steps kV_carried_steps dc_carried_steps pm_carried_steps cd_carried_steps ct_carried_steps : Value}
    {f_highest : Addr} {od_highest an_highest : Option Addr} {sl_highest : Array (Option Value)} {oc_highest kV_highest dc_highest pm_highest cd_highest ct_highest : Value}
    {f_crossings : Addr} {od_crossings an_crossings : Option Addr} {sl_crossings : Array (Option Value)} {oc_crossings kV_crossings dc_crossings pm_crossings cd_crossings ct_crossings : Value}
    {f_rests_up : Addr} {od_rests_up an_rests_up : Option Addr} {sl_rests_up : Array (Option Value)} {oc_rests_up kV_rests_up dc_rests_up pm_rests_up cd_rests_up ct_rests_up : Value}
    {f_rest_floors : Addr} {od_rest_floors an_rest_floors : Option Addr} {sl_rest_floors : Array (Option Value)} {oc_rest_floors kV_rest_floors dc_rest_floors pm_rest_floors cd_rest_floors ct_rest_floors : Value}
    {f_fewest_rests : Addr} {od_fewest_rests an_fewest_rests : Option Addr} {sl_fewest_rests : Array (Option Value)} {oc_fewest_rests kV_fewest_rests dc_fewest_rests pm_fewest_rests cd_fewest_rests ct_fewest_rests : Value}
    {f_least_breath : Addr} {od_least_breath an_least_breath : Option Addr} {sl_least_breath : Array (Option Value)} {oc_least_breath kV_least_breath dc_least_breath pm_least_breath cd_least_breath ct_least_breath : Value}
    {f__law_bag : Addr} {od__law_bag an__law_bag : Option Addr} {sl__law_bag : Array (Option Value)} {oc__law_bag kV__law_bag dc__law_bag pm__law_bag cd__law_bag ct__law_bag : Value}
    {f__law_take : Addr} {od__law_take an__law_take : Option Addr} {sl__law_take : Array (Option Value)} {oc__law_take kV__law_take dc__law_take pm__law_take cd__law_take ct__law_take : Value}
    {f__law_some : Addr} {od__law_some an__law_some : Option Addr} {sl__law_some : Array (Option Value)} {oc__law_some kV__law_some dc__law_some pm__law_some cd__law_some ct__law_some : Value}
    {f__law_alike : Addr} {od__law_alike an__law_alike : Option Addr} {sl__law_alike : Array (Option Value)} {oc__law_alike kV__law_alike dc__law_alike pm__law_alike cd__law_alike ct__law_alike : Value}
    {f__law_is_int : Addr} {od__law_is_int an__law_is_int : Option Addr} {sl__law_is_int : Array (Option Value)} {oc__law_is_int kV__law_is_int dc__law_is_int pm__law_is_int cd__law_is_int ct__law_is_int : Value}
    {f__law_odd : Addr} {od__law_odd an__law_odd : Option Addr} {sl__law_odd : Array (Option Value)} {oc__law_odd kV__law_odd dc__law_odd pm__law_odd cd__law_odd ct__law_odd : Value}
    {f__law_bent : Addr} {od__law_bent an__law_bent : Option Addr} {sl__law_bent : Array (Option Value)} {oc__law_bent kV__law_bent dc__law_bent pm__law_bent cd__law_bent ct__law_bent : Value}
    {f__law_asked : Addr} {od__law_asked an__law_asked : Option Addr} {sl__law_asked : Array (Option Value)} {oc__law_asked kV__law_asked dc__law_asked pm__law_asked cd__law_asked ct__law_asked : Value}
    {f__law_between : Addr} {od__law_between an__law_between : Option Addr} {sl__law_between : Array (Option Value)} {oc__law_between kV__law_between dc__law_between pm__law_between cd__law_between ct__law_between : Value}
    {f__law_lots : Addr} {od__law_lots an__law_lots : Option Addr} {sl__law_lots : Array (Option Value)} {oc__law_lots kV__law_lots dc__law_lots pm__law_lots cd__law_lots ct__law_lots : Value}
    {f__law_rests : Addr} {od__law_rests an__law_rests : Option Addr} {sl__law_rests : Array (Option Value)} {oc__law_rests kV__law_rests dc__law_rests pm__law_rests cd__law_rests ct__law_rests : Value}
    {f__law_farthest : Addr} {od__law_farthest an__law_farthest : Option Addr} {sl__law_farthest : Array (Option Value)} {oc__law_farthest kV__law_farthest dc__law_farthest pm__law_farthest cd__law_farthest ct__law_farthest : Value}
    {f__law_is_house : Addr} {od__law_is_house an__law_is_house : Option Addr} {sl__law_is_house : Array (Option Value)} {oc__law_is_house kV__law_is_house dc__law_is_house pm__law_is_house cd__law_is_house ct__law_is_house : Value}
    {f__law_are_moves : Addr} {od__law_are_moves an__law_are_moves : Option Addr} {sl__law_are_moves : Array (Option Value)} {oc__law_are_moves kV__law_are_moves dc__law_are_moves pm__law_are_moves cd__law_are_moves ct__law_are_moves : Value}
    {f_law : Addr} {od_law an_law : Option Addr} {sl_law : Array (Option Value)} {oc_law kV_law dc_law pm_law cd_law ct_law : Value}
    {C_Refused CF_Refused fI_Refused ca_Refused cc_Refused N_Refused : Addr} {nm_Refused q_Refused : Str} {bs_Refused : List Value} {sn_Refused : List Str} {sub_Refused : List Value} {ab_Refused : Bool} {col_Refused : Option Bool} {dd_Refused : Option Addr} {m0_Refused m1_Refused m2_Refused m3_Refused m5_Refused : Option Value}
    {oI_Refused dI_Refused pI_Refused tI_Refused cl_Refused ce_Refused : Value} {odI_Refused anI_Refused cdd_Refused cld_Refused : Option Addr} {slI_Refused ccs_Refused csl_Refused : Array (Option Value)} {vs_Refused : Array Value} {fi_Refused : Str} {tf_Refused : Tok}
    {e_c : Value} {d_c : Option Addr} {vs_c : Array Value} {sl_c : Array (Option Value)}
    {t_MOST_FLIGHTS : Tok}
    {t_MOST_MOVES : Tok}
    {t_MOST_STEPS : Tok}
    {c_ P_ : Addr}
    (a_is_integer : PySem.W.nsIn K mainGlobals "is_integer" = some (some (.ref f_is_integer)))
    (l_is_integer : K.lookup f_is_integer = some ⟨oc_is_integer, od_is_integer, .func (PySem.W.fnOf "is_integer" "is_integer" (defArgs s_is_integer) (defBody s_is_integer) (defScope s_is_integer) .none kV_is_integer dc_is_integer pm_is_integer an_is_integer cd_is_integer ct_is_integer), sl_is_integer⟩)
    (c_is_integer : PySem.W.codeIn K cd_is_integer "is_integer" = true)
    (kp_is_integer : PySem.W.keepIn K (.ref f_is_integer) = true)
    (a_is_within : PySem.W.nsIn K mainGlobals "is_within" = some (some (.ref f_is_within)))
    (l_is_within : K.lookup f_is_within = some ⟨oc_is_within, od_is_within, .func (PySem.W.fnOf "is_within" "is_within" (defArgs s_is_within) (defBody s_is_within) (defScope s_is_within) .none kV_is_within dc_is_within pm_is_within an_is_within cd_is_within ct_is_within), sl_is_within⟩)
    (c_is_within : PySem.W.codeIn K cd_is_within "is_within" = true)
    (kp_is_within : PySem.W.keepIn K (.ref f_is_within) = true)
    (a_are_all : PySem.W.nsIn K mainGlobals "are_all" = some (some (.ref f_are_all)))
    (l_are_all : K.lookup f_are_all = some ⟨oc_are_all, od_are_all, .func (PySem.W.fnOf "are_all" "are_all" (defArgs s_are_all) (defBody s_are_all) (defScope s_are_all) .none kV_are_all dc_are_all pm_are_all an_are_all cd_are_all ct_are_all), sl_are_all⟩)
    (c_are_all : PySem.W.codeIn K cd_are_all "are_all" = true)
    (kp_are_all : PySem.W.keepIn K (.ref f_are_all) = true)
    (a_are_integers : PySem.W.nsIn K mainGlobals "are_integers" = some (some (.ref f_are_integers)))
    (l_are_integers : K.lookup f_are_integers = some ⟨oc_are_integers, od_are_integers, .func (PySem.W.fnOf "are_integers" "are_integers" (defArgs s_are_integers) (defBody s_are_integers) (defScope s_are_integers) .none kV_are_integers dc_are_integers pm_are_integers an_are_integers cd_are_integers ct_are_integers), sl_are_integers⟩)
    (c_are_integers : PySem.W.codeIn K cd_are_integers "are_integers" = true)
    (kp_are_integers : PySem.W.keepIn K (.ref f_are_integers) = true)
    (a_is_pair : PySem.W.nsIn K mainGlobals "is_pair" = some (some (.ref f_is_pair)))
    (l_is_pair : K.lookup f_is_pair = some ⟨oc_is_pair, od_is_pair, .func (PySem.W.fnOf "is_pair" "is_pair" (defArgs s_is_pair) (defBody s_is_pair) (defScope s_is_pair) .none kV_is_pair dc_is_pair pm_is_pair an_is_pair cd_is_pair ct_is_pair), sl_is_pair⟩)
    (c_is_pair : PySem.W.codeIn K cd_is_pair "is_pair" = true)
    (kp_is_pair : PySem.W.keepIn K (.ref f_is_pair) = true)
    (a_are_pairs : PySem.W.nsIn K mainGlobals "are_pairs" = some (some (.ref f_are_pairs)))
    (l_are_pairs : K.lookup f_are_pairs = some ⟨oc_are_pairs, od_are_pairs, .func (PySem.W.fnOf "are_pairs" "are_pairs" (defArgs s_are_pairs) (defBody s_are_pairs) (defScope s_are_pairs) .none kV_are_pairs dc_are_pairs pm_are_pairs an_are_pairs cd_are_pairs ct_are_pairs), sl_are_pairs⟩)
    (c_are_pairs : PySem.W.codeIn K cd_are_pairs "are_pairs" = true)
    (kp_are_pairs : PySem.W.keepIn K (.ref f_are_pairs) = true)
    (a_is_house : PySem.W.nsIn K mainGlobals "is_house" = some (some (.ref f_is_house)))
    (l_is_house : K.lookup f_is_house = some ⟨oc_is_house, od_is_house, .func (PySem.W.fnOf "is_house" "is_house" (defArgs s_is_house) (defBody s_is_house) (defScope s_is_house) .none kV_is_house dc_is_house pm_is_house an_is_house cd_is_house ct_is_house), sl_is_house⟩)
    (c_is_house : PySem.W.codeIn K cd_is_house "is_house" = true)
    (kp_is_house : PySem.W.keepIn K (.ref f_is_house) = true)
    (a_is_move : PySem.W.nsIn K mainGlobals "is_move" = some (some (.ref f_is_move)))
    (l_is_move : K.lookup f_is_move = some ⟨oc_is_move, od_is_move, .func (PySem.W.fnOf "is_move" "is_move" (defArgs s_is_move) (defBody s_is_move) (defScope s_is_move) .none kV_is_move dc_is_move pm_is_move an_is_move cd_is_move ct_is_move), sl_is_move⟩)
    (c_is_move : PySem.W.codeIn K cd_is_move "is_move" = true)
    (kp_is_move : PySem.W.keepIn K (.ref f_is_move) = true)
    (a_are_moves : PySem.W.nsIn K mainGlobals "are_moves" = some (some (.ref f_are_moves)))
    (l_are_moves : K.lookup f_are_moves = some ⟨oc_are_moves, od_are_moves, .func (PySem.W.fnOf "are_moves" "are_moves" (defArgs s_are_moves) (defBody s_are_moves) (defScope s_are_moves) .none kV_are_moves dc_are_moves pm_are_moves an_are_moves cd_are_moves ct_are_moves), sl_are_moves⟩)
    (c_are_moves : PySem.W.codeIn K cd_are_moves "are_moves" = true)
    (kp_are_moves : PySem.W.keepIn K (.ref f_are_moves) = true)
    (a_need_floors : PySem.W.nsIn K mainGlobals "need_floors" = some (some (.ref f_need_floors)))
    (l_need_floors : K.lookup f_need_floors = some ⟨oc_need_floors, od_need_floors, .func (PySem.W.fnOf "need_floors" "need_floors" (defArgs s_need_floors) (defBody s_need_floors) (defScope s_need_floors) .none kV_need_floors dc_need_floors pm_need_floors an_need_floors cd_need_floors ct_need_floors), sl_need_floors⟩)
    (c_need_floors : PySem.W.codeIn K cd_need_floors "need_floors" = true)
    (kp_need_floors : PySem.W.keepIn K (.ref f_need_floors) = true)
    (a_steps_of_way : PySem.W.nsIn K mainGlobals "steps_of_way" = some (some (.ref f_steps_of_way)))
    (l_steps_of_way : K.lookup f_steps_of_way = some ⟨oc_steps_of_way, od_steps_of_way, .func (PySem.W.fnOf "steps_of_way" "steps_of_way" (defArgs s_steps_of_way) (defBody s_steps_of_way) (defScope s_steps_of_way) .none kV_steps_of_way dc_steps_of_way pm_steps_of_way an_steps_of_way cd_steps_of_way ct_steps_of_way), sl_steps_of_way⟩)
    (c_steps_of_way : PySem.W.codeIn K cd_steps_of_way "steps_of_way" = true)
    (kp_steps_of_way : PySem.W.keepIn K (.ref f_steps_of_way) = true)
    (a_steps_between : PySem.W.nsIn K mainGlobals "steps_between" = some (some (.ref f_steps_between)))
    (l_steps_between : K.lookup f_steps_between = some ⟨oc_steps_between, od_steps_between, .func (PySem.W.fnOf "steps_between" "steps_between" (defArgs s_steps_between) (defBody s_steps_between) (defScope s_steps_between) .none kV_steps_between dc_steps_between pm_steps_between an_steps_between cd_steps_between ct_steps_between), sl_steps_between⟩)
    (c_steps_between : PySem.W.codeIn K cd_steps_between "steps_between" = true)
    (kp_steps_between : PySem.W.keepIn K (.ref f_steps_between) = true)
    (a_carried_steps : PySem.W.nsIn K mainGlobals "carried_steps" = some (some (.ref f_carried_steps)))
    (l_carried_steps : K.lookup f_carried_steps = some ⟨oc_carried_steps, od_carried_steps, .func (PySem.W.fnOf "carried_steps" "carried_steps" (defArgs s_carried_steps) (defBody s_carried_steps) (defScope s_carried_steps) .none kV_carried_steps dc_carried_steps pm_carried_steps an_carried_steps cd_carried_steps ct_carried_steps), sl_carried_steps⟩)
    (c_carried_steps : PySem.W.codeIn K cd_carried_steps "carried_steps" = true)
    (kp_carried_steps : PySem.W.keepIn K (.ref f_carried_steps) = true)
    (a_highest : PySem.W.nsIn K mainGlobals "highest" = some (some (.ref f_highest)))
    (l_highest : K.lookup f_highest = some ⟨oc_highest, od_highest, .func (PySem.W.fnOf "highest" "highest" (defArgs s_highest) (defBody s_highest) (defScope s_highest) .none kV_highest dc_highest pm_highest an_highest cd_highest ct_highest), sl_highest⟩)
    (c_highest : PySem.W.codeIn K cd_highest "highest" = true)
    (kp_highest : PySem.W.keepIn K (.ref f_highest) = true)
    (a_crossings : PySem.W.nsIn K mainGlobals "crossings" = some (some (.ref f_crossings)))
    (l_crossings : K.lookup f_crossings = some ⟨oc_crossings, od_crossings, .func (PySem.W.fnOf "crossings" "crossings" (defArgs s_crossings) (defBody s_crossings) (defScope s_crossings) .none kV_crossings dc_crossings pm_crossings an_crossings cd_crossings ct_crossings), sl_crossings⟩)
    (c_crossings : PySem.W.codeIn K cd_crossings "crossings" = true)
    (kp_crossings : PySem.W.keepIn K (.ref f_crossings) = true)
    (a_rests_up : PySem.W.nsIn K mainGlobals "rests_up" = some (some (.ref f_rests_up)))
    (l_rests_up : K.lookup f_rests_up = some ⟨oc_rests_up, od_rests_up, .func (PySem.W.fnOf "rests_up" "rests_up" (defArgs s_rests_up) (defBody s_rests_up) (defScope s_rests_up) .none kV_rests_up dc_rests_up pm_rests_up an_rests_up cd_rests_up ct_rests_up), sl_rests_up⟩)
    (c_rests_up : PySem.W.codeIn K cd_rests_up "rests_up" = true)
    (kp_rests_up : PySem.W.keepIn K (.ref f_rests_up) = true)
    (a_rest_floors : PySem.W.nsIn K mainGlobals "rest_floors" = some (some (.ref f_rest_floors)))
    (l_rest_floors : K.lookup f_rest_floors = some ⟨oc_rest_floors, od_rest_floors, .func (PySem.W.fnOf "rest_floors" "rest_floors" (defArgs s_rest_floors) (defBody s_rest_floors) (defScope s_rest_floors) .none kV_rest_floors dc_rest_floors pm_rest_floors an_rest_floors cd_rest_floors ct_rest_floors), sl_rest_floors⟩)
    (c_rest_floors : PySem.W.codeIn K cd_rest_floors "rest_floors" = true)
    (kp_rest_floors : PySem.W.keepIn K (.ref f_rest_floors) = true)
    (a_fewest_rests : PySem.W.nsIn K mainGlobals "fewest_rests" = some (some (.ref f_fewest_rests)))
    (l_fewest_rests : K.lookup f_fewest_rests = some ⟨oc_fewest_rests, od_fewest_rests, .func (PySem.W.fnOf "fewest_rests" "fewest_rests" (defArgs s_fewest_rests) (defBody s_fewest_rests) (defScope s_fewest_rests) .none kV_fewest_rests dc_fewest_rests pm_fewest_rests an_fewest_rests cd_fewest_rests ct_fewest_rests), sl_fewest_rests⟩)
    (c_fewest_rests : PySem.W.codeIn K cd_fewest_rests "fewest_rests" = true)
    (kp_fewest_rests : PySem.W.keepIn K (.ref f_fewest_rests) = true)
    (a_least_breath : PySem.W.nsIn K mainGlobals "least_breath" = some (some (.ref f_least_breath)))
    (l_least_breath : K.lookup f_least_breath = some ⟨oc_least_breath, od_least_breath, .func (PySem.W.fnOf "least_breath" "least_breath" (defArgs s_least_breath) (defBody s_least_breath) (defScope s_least_breath) .none kV_least_breath dc_least_breath pm_least_breath an_least_breath cd_least_breath ct_least_breath), sl_least_breath⟩)
    (c_least_breath : PySem.W.codeIn K cd_least_breath "least_breath" = true)
    (kp_least_breath : PySem.W.keepIn K (.ref f_least_breath) = true)
    (a__law_bag : PySem.W.nsIn K mainGlobals "_law_bag" = some (some (.ref f__law_bag)))
    (l__law_bag : K.lookup f__law_bag = some ⟨oc__law_bag, od__law_bag, .func (PySem.W.fnOf "_law_bag" "_law_bag" (defArgs s__law_bag) (defBody s__law_bag) (defScope s__law_bag) .none kV__law_bag dc__law_bag pm__law_bag an__law_bag cd__law_bag ct__law_bag), sl__law_bag⟩)
    (c__law_bag : PySem.W.codeIn K cd__law_bag "_law_bag" = true)
    (kp__law_bag : PySem.W.keepIn K (.ref f__law_bag) = true)
    (a__law_take : PySem.W.nsIn K mainGlobals "_law_take" = some (some (.ref f__law_take)))
    (l__law_take : K.lookup f__law_take = some ⟨oc__law_take, od__law_take, .func (PySem.W.fnOf "_law_take" "_law_take" (defArgs s__law_take) (defBody s__law_take) (defScope s__law_take) .none kV__law_take dc__law_take pm__law_take an__law_take cd__law_take ct__law_take), sl__law_take⟩)
    (c__law_take : PySem.W.codeIn K cd__law_take "_law_take" = true)
    (kp__law_take : PySem.W.keepIn K (.ref f__law_take) = true)
    (a__law_some : PySem.W.nsIn K mainGlobals "_law_some" = some (some (.ref f__law_some)))
    (l__law_some : K.lookup f__law_some = some ⟨oc__law_some, od__law_some, .func (PySem.W.fnOf "_law_some" "_law_some" (defArgs s__law_some) (defBody s__law_some) (defScope s__law_some) .none kV__law_some dc__law_some pm__law_some an__law_some cd__law_some ct__law_some), sl__law_some⟩)
    (c__law_some : PySem.W.codeIn K cd__law_some "_law_some" = true)
    (kp__law_some : PySem.W.keepIn K (.ref f__law_some) = true)
    (a__law_alike : PySem.W.nsIn K mainGlobals "_law_alike" = some (some (.ref f__law_alike)))
    (l__law_alike : K.lookup f__law_alike = some ⟨oc__law_alike, od__law_alike, .func (PySem.W.fnOf "_law_alike" "_law_alike" (defArgs s__law_alike) (defBody s__law_alike) (defScope s__law_alike) .none kV__law_alike dc__law_alike pm__law_alike an__law_alike cd__law_alike ct__law_alike), sl__law_alike⟩)
    (c__law_alike : PySem.W.codeIn K cd__law_alike "_law_alike" = true)
    (kp__law_alike : PySem.W.keepIn K (.ref f__law_alike) = true)
    (a__law_is_int : PySem.W.nsIn K mainGlobals "_law_is_int" = some (some (.ref f__law_is_int)))
    (l__law_is_int : K.lookup f__law_is_int = some ⟨oc__law_is_int, od__law_is_int, .func (PySem.W.fnOf "_law_is_int" "_law_is_int" (defArgs s__law_is_int) (defBody s__law_is_int) (defScope s__law_is_int) .none kV__law_is_int dc__law_is_int pm__law_is_int an__law_is_int cd__law_is_int ct__law_is_int), sl__law_is_int⟩)
    (c__law_is_int : PySem.W.codeIn K cd__law_is_int "_law_is_int" = true)
    (kp__law_is_int : PySem.W.keepIn K (.ref f__law_is_int) = true)
    (a__law_odd : PySem.W.nsIn K mainGlobals "_law_odd" = some (some (.ref f__law_odd)))
    (l__law_odd : K.lookup f__law_odd = some ⟨oc__law_odd, od__law_odd, .func (PySem.W.fnOf "_law_odd" "_law_odd" (defArgs s__law_odd) (defBody s__law_odd) (defScope s__law_odd) .none kV__law_odd dc__law_odd pm__law_odd an__law_odd cd__law_odd ct__law_odd), sl__law_odd⟩)
    (c__law_odd : PySem.W.codeIn K cd__law_odd "_law_odd" = true)
    (kp__law_odd : PySem.W.keepIn K (.ref f__law_odd) = true)
    (a__law_bent : PySem.W.nsIn K mainGlobals "_law_bent" = some (some (.ref f__law_bent)))
    (l__law_bent : K.lookup f__law_bent = some ⟨oc__law_bent, od__law_bent, .func (PySem.W.fnOf "_law_bent" "_law_bent" (defArgs s__law_bent) (defBody s__law_bent) (defScope s__law_bent) .none kV__law_bent dc__law_bent pm__law_bent an__law_bent cd__law_bent ct__law_bent), sl__law_bent⟩)
    (c__law_bent : PySem.W.codeIn K cd__law_bent "_law_bent" = true)
    (kp__law_bent : PySem.W.keepIn K (.ref f__law_bent) = true)
    (a__law_asked : PySem.W.nsIn K mainGlobals "_law_asked" = some (some (.ref f__law_asked)))
    (l__law_asked : K.lookup f__law_asked = some ⟨oc__law_asked, od__law_asked, .func (PySem.W.fnOf "_law_asked" "_law_asked" (defArgs s__law_asked) (defBody s__law_asked) (defScope s__law_asked) .none kV__law_asked dc__law_asked pm__law_asked an__law_asked cd__law_asked ct__law_asked), sl__law_asked⟩)
    (c__law_asked : PySem.W.codeIn K cd__law_asked "_law_asked" = true)
    (kp__law_asked : PySem.W.keepIn K (.ref f__law_asked) = true)
    (a__law_between : PySem.W.nsIn K mainGlobals "_law_between" = some (some (.ref f__law_between)))
    (l__law_between : K.lookup f__law_between = some ⟨oc__law_between, od__law_between, .func (PySem.W.fnOf "_law_between" "_law_between" (defArgs s__law_between) (defBody s__law_between) (defScope s__law_between) .none kV__law_between dc__law_between pm__law_between an__law_between cd__law_between ct__law_between), sl__law_between⟩)
    (c__law_between : PySem.W.codeIn K cd__law_between "_law_between" = true)
    (kp__law_between : PySem.W.keepIn K (.ref f__law_between) = true)
    (a__law_lots : PySem.W.nsIn K mainGlobals "_law_lots" = some (some (.ref f__law_lots)))
    (l__law_lots : K.lookup f__law_lots = some ⟨oc__law_lots, od__law_lots, .func (PySem.W.fnOf "_law_lots" "_law_lots" (defArgs s__law_lots) (defBody s__law_lots) (defScope s__law_lots) .none kV__law_lots dc__law_lots pm__law_lots an__law_lots cd__law_lots ct__law_lots), sl__law_lots⟩)
    (c__law_lots : PySem.W.codeIn K cd__law_lots "_law_lots" = true)
    (kp__law_lots : PySem.W.keepIn K (.ref f__law_lots) = true)
    (a__law_rests : PySem.W.nsIn K mainGlobals "_law_rests" = some (some (.ref f__law_rests)))
    (l__law_rests : K.lookup f__law_rests = some ⟨oc__law_rests, od__law_rests, .func (PySem.W.fnOf "_law_rests" "_law_rests" (defArgs s__law_rests) (defBody s__law_rests) (defScope s__law_rests) .none kV__law_rests dc__law_rests pm__law_rests an__law_rests cd__law_rests ct__law_rests), sl__law_rests⟩)
    (c__law_rests : PySem.W.codeIn K cd__law_rests "_law_rests" = true)
    (kp__law_rests : PySem.W.keepIn K (.ref f__law_rests) = true)
    (a__law_farthest : PySem.W.nsIn K mainGlobals "_law_farthest" = some (some (.ref f__law_farthest)))
    (l__law_farthest : K.lookup f__law_farthest = some ⟨oc__law_farthest, od__law_farthest, .func (PySem.W.fnOf "_law_farthest" "_law_farthest" (defArgs s__law_farthest) (defBody s__law_farthest) (defScope s__law_farthest) .none kV__law_farthest dc__law_farthest pm__law_farthest an__law_farthest cd__law_farthest ct__law_farthest), sl__law_farthest⟩)
    (c__law_farthest : PySem.W.codeIn K cd__law_farthest "_law_farthest" = true)
    (kp__law_farthest : PySem.W.keepIn K (.ref f__law_farthest) = true)
    (a__law_is_house : PySem.W.nsIn K mainGlobals "_law_is_house" = some (some (.ref f__law_is_house)))
    (l__law_is_house : K.lookup f__law_is_house = some ⟨oc__law_is_house, od__law_is_house, .func (PySem.W.fnOf "_law_is_house" "_law_is_house" (defArgs s__law_is_house) (defBody s__law_is_house) (defScope s__law_is_house) .none kV__law_is_house dc__law_is_house pm__law_is_house an__law_is_house cd__law_is_house ct__law_is_house), sl__law_is_house⟩)
    (c__law_is_house : PySem.W.codeIn K cd__law_is_house "_law_is_house" = true)
    (kp__law_is_house : PySem.W.keepIn K (.ref f__law_is_house) = true)
    (a__law_are_moves : PySem.W.nsIn K mainGlobals "_law_are_moves" = some (some (.ref f__law_are_moves)))
    (l__law_are_moves : K.lookup f__law_are_moves = some ⟨oc__law_are_moves, od__law_are_moves, .func (PySem.W.fnOf "_law_are_moves" "_law_are_moves" (defArgs s__law_are_moves) (defBody s__law_are_moves) (defScope s__law_are_moves) .none kV__law_are_moves dc__law_are_moves pm__law_are_moves an__law_are_moves cd__law_are_moves ct__law_are_moves), sl__law_are_moves⟩)
    (c__law_are_moves : PySem.W.codeIn K cd__law_are_moves "_law_are_moves" = true)
    (kp__law_are_moves : PySem.W.keepIn K (.ref f__law_are_moves) = true)
    (a_law : PySem.W.nsIn K mainGlobals "law" = some (some (.ref f_law)))
    (l_law : K.lookup f_law = some ⟨oc_law, od_law, .func (PySem.W.fnOf "law" "law" (defArgs s_law) (defBody s_law) (defScope s_law) .none kV_law dc_law pm_law an_law cd_law ct_law), sl_law⟩)
    (c_law : PySem.W.codeIn K cd_law "law" = true)
    (kp_law : PySem.W.keepIn K (.ref f_law) = true)
    (a_Refused : PySem.W.nsIn K mainGlobals "Refused" = some (some (.ref C_Refused)))
    (x_Refused : K.lookup C_Refused = some (excClassObj nm_Refused q_Refused C_Refused N_Refused bs_Refused [.ref CF_Refused, .type "ValueError", .type "Exception", .type "BaseException", .type "object"] true sn_Refused sub_Refused ab_Refused col_Refused dd_Refused m0_Refused m1_Refused m2_Refused m3_Refused m5_Refused "ValueError.__new__"))
    (sa_Refused : PySem.W.findIn K (.ref C_Refused) "__setattr__" = some (some (.builtin "object.__setattr__")))
    (ga_Refused : PySem.W.findIn K (.ref C_Refused) "__getattribute__" = some (some (.builtin "BaseException.__getattribute__")))
    (gg_Refused : PySem.W.findIn K (.ref C_Refused) "__getattr__" = some none)
    (iC_Refused : PySem.W.findIn K (.ref C_Refused) "__init__" = some (some (.ref fI_Refused)))
    (n0_Refused : PySem.W.findIn K (.ref C_Refused) "why" = some none)
    (tC_Refused : PySem.W.typeIn K (.ref fI_Refused) = some (.type "function"))
    (kC_Refused : PySem.W.keepIn K (.ref C_Refused) = true)
    (eC_Refused : PySem.W.subIn K (.ref C_Refused) (.type "BaseException") = some true)
    (vC_Refused : PySem.W.subIn K (.ref C_Refused) (.type "ValueError") = some true)
    (yC_Refused : PySem.W.typeIn K (.ref C_Refused) = some (.type "type"))
    (dC_Refused : PySem.W.hasDictIn K C_Refused = true)
    (mC_Refused : PySem.W.mroIn K C_Refused (.ref C_Refused) = some true)
    (uC_Refused : PySem.W.ks_superIn K C_Refused C_Refused "__init__" = some (some (.builtin "ValueError.__init__")))
    (lI_Refused : K.lookup fI_Refused = some ⟨oI_Refused, odI_Refused, .func (PySem.W.ksFn "__init__" "Refused.__init__" (Err.args1 "why" ⟨11, 17, 11, 21⟩ ⟨11, 23, 11, 26⟩) (Err.body1 "why" ⟨12, 8, 12, 13⟩ ⟨12, 8, 12, 15⟩ ⟨12, 8, 12, 24⟩ ⟨12, 25, 12, 28⟩ ⟨12, 8, 12, 29⟩ ⟨12, 8, 12, 29⟩ ⟨13, 8, 13, 12⟩ ⟨13, 8, 13, 16⟩ ⟨13, 19, 13, 22⟩ ⟨13, 8, 13, 22⟩) (Err.scopeOf ["why"]) .none .none dI_Refused pI_Refused anI_Refused (.ref ca_Refused) tI_Refused cc_Refused), slI_Refused⟩)
    (cI_Refused : PySem.W.codeIn K (.ref ca_Refused) "Refused.__init__" = true)
    (lc_Refused : K.lookup ca_Refused = some ⟨cl_Refused, cdd_Refused, .fields vs_Refused, ccs_Refused⟩)
    (v2_Refused : vs_Refused[2]? = some (.str fi_Refused tf_Refused))
    (fi_ok_Refused : ((PROG.main.file : Str) == fi_Refused) = true)
    (lx_Refused : K.lookup cc_Refused = some ⟨ce_Refused, cld_Refused, .cell (some (.ref C_Refused)), csl_Refused⟩)
    (em_Refused_Refused : PySem.W.subIn K (.ref C_Refused) (.ref C_Refused) = some true)
    (q_Refused_Refused_why : PySem.W.findIn K (.ref C_Refused) "why" = some none)
    (is_Refused : PySem.W.isClsIn K C_Refused = true)
    (q_law : cd_law = .ref c_)
    (lc_law : K.lookup c_ = some ⟨e_c, d_c, .fields vs_c, sl_c⟩)
    (v_law : vs_c[11]? = some (.ref P_))
    (n_law : K.lookup P_ = none)
    (z_tp : PySem.W.nsIn K cStatics "thirdparty.any" = some none)
    (z_super : PySem.W.nsIn K mainGlobals "super" = some none)
    (w_MOST_FLIGHTS : PySem.W.nsIn K mainGlobals "MOST_FLIGHTS" = some (some (.int 12 t_MOST_FLIGHTS)))
    (w_MOST_MOVES : PySem.W.nsIn K mainGlobals "MOST_MOVES" = some (some (.int 20 t_MOST_MOVES)))
    (w_MOST_STEPS : PySem.W.nsIn K mainGlobals "MOST_STEPS" = some (some (.int 99 t_MOST_STEPS)))
    (z_abs : PySem.W.nsIn K mainGlobals "abs" = some none)
    (z_all : PySem.W.nsIn K mainGlobals "all" = some none)
    (z_bool : PySem.W.nsIn K mainGlobals "bool" = some none)
    (z_int : PySem.W.nsIn K mainGlobals "int" = some none)
    (z_isinstance : PySem.W.nsIn K mainGlobals "isinstance" = some none)
    (z_len : PySem.W.nsIn K mainGlobals "len" = some none)
    (z_list : PySem.W.nsIn K mainGlobals "list" = some none)
    (z_max : PySem.W.nsIn K mainGlobals "max" = some none)
    (z_min : PySem.W.nsIn K mainGlobals "min" = some none)
    (z_range : PySem.W.nsIn K mainGlobals "range" = some none)
    (z_str : PySem.W.nsIn K mainGlobals "str" = some none)
    (z_sum : PySem.W.nsIn K mainGlobals "sum" = some none)
    (z_tuple : PySem.W.nsIn K mainGlobals "tuple" = some none)
    (z_zip : PySem.W.nsIn K mainGlobals "zip" = some none)
    : ∃ (fd : FuncData) (c P : Addr), PySem.W.tabIn K "law" = some (c, P) ∧ K.lookup P = none ∧ (∀ (s : Shared) (v : Value), BindsTo s fd ⟨[v], []⟩ [("script", v)]) ∧ ∀ base : Heap, K.In base → base.Ns mainGlobals mg → TabB base mg c P → RunAt PROG w K mg base 12 callerA fa fd ["script"] (@spOf ⟨[(P, "law.<locals>.<lambda>")]⟩ K mg 1 m_law) := by
  have t_law := tabIn_of a_law l_law q_law lc_law v_law
  have e := hfa.symm.trans (PySem.W.mg_of X G a_law)
  cases e
  have F_is_integer := fun_mk (st := s_is_integer) l_is_integer c_is_integer kp_is_integer
  have b_is_integer := F_is_integer.binds (ps := ["thing"]) fun _ _ _ _ _ _ us hl => match us, hl with | [_], _ => rfl
  have g_is_integer := PySem.W.mg_of X G a_is_integer
  have F_is_within := fun_mk (st := s_is_within) l_is_within c_is_within kp_is_within
  have b_is_within := F_is_within.binds (ps := ["thing", "least", "most"]) fun _ _ _ _ _ _ us hl => match us, hl with | [_, _, _], _ => rfl
  have g_is_within := PySem.W.mg_of X G a_is_within
  have F_are_all := fun_mk (st := s_are_all) l_are_all c_are_all kp_are_all
  have b_are_all := F_are_all.binds (ps := ["thing", "fits"]) fun _ _ _ _ _ _ us hl => match us, hl with | [_, _], _ => rfl
  have g_are_all := PySem.W.mg_of X G a_are_all
  have F_are_integers := fun_mk (st := s_are_integers) l_are_integers c_are_integers kp_are_integers
  have b_are_integers := F_are_integers.binds (ps := ["thing"]) fun _ _ _ _ _ _ us hl => match us, hl with | [_], _ => rfl
  have g_are_integers := PySem.W.mg_of X G a_are_integers
  have F_is_pair := fun_mk (st := s_is_pair) l_is_pair c_is_pair kp_is_pair
  have b_is_pair := F_is_pair.binds (ps := ["thing"]) fun _ _ _ _ _ _ us hl => match us, hl with | [_], _ => rfl
  have g_is_pair := PySem.W.mg_of X G a_is_pair
  have F_are_pairs := fun_mk (st := s_are_pairs) l_are_pairs c_are_pairs kp_are_pairs
  have b_are_pairs := F_are_pairs.binds (ps := ["thing"]) fun _ _ _ _ _ _ us hl => match us, hl with | [_], _ => rfl
  have g_are_pairs := PySem.W.mg_of X G a_are_pairs
  have F_is_house := fun_mk (st := s_is_house) l_is_house c_is_house kp_is_house
  have b_is_house := F_is_house.binds (ps := ["thing"]) fun _ _ _ _ _ _ us hl => match us, hl with | [_], _ => rfl
  have g_is_house := PySem.W.mg_of X G a_is_house
  have F_is_move := fun_mk (st := s_is_move) l_is_move c_is_move kp_is_move
  have b_is_move := F_is_move.binds (ps := ["house", "move"]) fun _ _ _ _ _ _ us hl => match us, hl with | [_, _], _ => rfl
  have g_is_move := PySem.W.mg_of X G a_is_move
  have F_are_moves := fun_mk (st := s_are_moves) l_are_moves c_are_moves kp_are_moves
  have b_are_moves := F_are_moves.binds (ps := ["house", "thing"]) fun _ _ _ _ _ _ us hl => match us, hl with | [_, _], _ => rfl
  have g_are_moves := PySem.W.mg_of X G a_are_moves
  have F_need_floors := fun_mk (st := s_need_floors) l_need_floors c_need_floors kp_need_floors
  have b_need_floors := F_need_floors.binds (ps := ["house", "some"]) fun _ _ _ _ _ _ us hl => match us, hl with | [_, _], _ => rfl
  have g_need_floors := PySem.W.mg_of X G a_need_floors
  have F_steps_of_way := fun_mk (st := s_steps_of_way) l_steps_of_way c_steps_of_way kp_steps_of_way
  have b_steps_of_way := F_steps_of_way.binds (ps := ["house", "one", "other"]) fun _ _ _ _ _ _ us hl => match us, hl with | [_, _, _], _ => rfl
  have g_steps_of_way := PySem.W.mg_of X G a_steps_of_way
  have F_steps_between := fun_mk (st := s_steps_between) l_steps_between c_steps_between kp_steps_between
  have b_steps_between := F_steps_between.binds (ps := ["house", "one", "other"]) fun _ _ _ _ _ _ us hl => match us, hl with | [_, _, _], _ => rfl
  have g_steps_between := PySem.W.mg_of X G a_steps_between
  have F_carried_steps := fun_mk (st := s_carried_steps) l_carried_steps c_carried_steps kp_carried_steps
  have b_carried_steps := F_carried_steps.binds (ps := ["house", "moves"]) fun _ _ _ _ _ _ us hl => match us, hl with | [_, _], _ => rfl
  have g_carried_steps := PySem.W.mg_of X G a_carried_steps
  have F_highest := fun_mk (st := s_highest) l_highest c_highest kp_highest
  have b_highest := F_highest.binds (ps := ["house", "moves"]) fun _ _ _ _ _ _ us hl => match us, hl with | [_, _], _ => rfl
  have g_highest := PySem.W.mg_of X G a_highest
  have F_crossings := fun_mk (st := s_crossings) l_crossings c_crossings kp_crossings
  have b_crossings := F_crossings.binds (ps := ["house", "moves"]) fun _ _ _ _ _ _ us hl => match us, hl with | [_, _], _ => rfl
  have g_crossings := PySem.W.mg_of X G a_crossings
  have F_rests_up := fun_mk (st := s_rests_up) l_rests_up c_rests_up kp_rests_up
  have b_rests_up := F_rests_up.binds (ps := ["house", "one", "other", "breath"]) fun _ _ _ _ _ _ us hl => match us, hl with | [_, _, _, _], _ => rfl
  have g_rests_up := PySem.W.mg_of X G a_rests_up
  have F_rest_floors := fun_mk (st := s_rest_floors) l_rest_floors c_rest_floors kp_rest_floors
  have b_rest_floors := F_rest_floors.binds (ps := ["house", "one", "other", "breath"]) fun _ _ _ _ _ _ us hl => match us, hl with | [_, _, _, _], _ => rfl
  have g_rest_floors := PySem.W.mg_of X G a_rest_floors
  have F_fewest_rests := fun_mk (st := s_fewest_rests) l_fewest_rests c_fewest_rests kp_fewest_rests
  have b_fewest_rests := F_fewest_rests.binds (ps := ["house", "one", "other", "breath"]) fun _ _ _ _ _ _ us hl => match us, hl with | [_, _, _, _], _ => rfl
  have g_fewest_rests := PySem.W.mg_of X G a_fewest_rests
  have F_least_breath := fun_mk (st := s_least_breath) l_least_breath c_least_breath kp_least_breath
  have b_least_breath := F_least_breath.binds (ps := ["house", "one", "other", "rests"]) fun _ _ _ _ _ _ us hl => match us, hl with | [_, _, _, _], _ => rfl
  have g_least_breath := PySem.W.mg_of X G a_least_breath
  have F__law_bag := fun_mk (st := s__law_bag) l__law_bag c__law_bag kp__law_bag
  have b__law_bag := F__law_bag.binds (ps := ["script"]) fun _ _ _ _ _ _ us hl => match us, hl with | [_], _ => rfl
  have g__law_bag := PySem.W.mg_of X G a__law_bag
  have F__law_take := fun_mk (st := s__law_take) l__law_take c__law_take kp__law_take
  have b__law_take := F__law_take.binds (ps := ["bag", "many"]) fun _ _ _ _ _ _ us hl => match us, hl with | [_, _], _ => rfl
  have g__law_take := PySem.W.mg_of X G a__law_take
  have F__law_some := fun_mk (st := s__law_some) l__law_some c__law_some kp__law_some
  have b__law_some := F__law_some.binds (ps := ["bag", "things"]) fun _ _ _ _ _ _ us hl => match us, hl with | [_, _], _ => rfl
  have g__law_some := PySem.W.mg_of X G a__law_some
  have F__law_alike := fun_mk (st := s__law_alike) l__law_alike c__law_alike kp__law_alike
  have b__law_alike := F__law_alike.binds (ps := ["found", "due"]) fun _ _ _ _ _ _ us hl => match us, hl with | [_, _], _ => rfl
  have g__law_alike := PySem.W.mg_of X G a__law_alike
  have F__law_is_int := fun_mk (st := s__law_is_int) l__law_is_int c__law_is_int kp__law_is_int
  have b__law_is_int := F__law_is_int.binds (ps := ["thing"]) fun _ _ _ _ _ _ us hl => match us, hl with | [_], _ => rfl
  have g__law_is_int := PySem.W.mg_of X G a__law_is_int
  have F__law_odd := fun_mk (st := s__law_odd) l__law_odd c__law_odd kp__law_odd
  have b__law_odd := F__law_odd.binds (ps := ["bag"]) fun _ _ _ _ _ _ us hl => match us, hl with | [_], _ => rfl
  have g__law_odd := PySem.W.mg_of X G a__law_odd
  have F__law_bent := fun_mk (st := s__law_bent) l__law_bent c__law_bent kp__law_bent
  have b__law_bent := F__law_bent.binds (ps := ["bag", "thing", "depth"]) fun _ _ _ _ _ _ us hl => match us, hl with | [_, _, _], _ => rfl
  have g__law_bent := PySem.W.mg_of X G a__law_bent
  have F__law_asked := fun_mk (st := s__law_asked) l__law_asked c__law_asked kp__law_asked
  have b__law_asked := F__law_asked.binds (ps := ["act"]) fun _ _ _ _ _ _ us hl => match us, hl with | [_], _ => rfl
  have g__law_asked := PySem.W.mg_of X G a__law_asked
  have F__law_between := fun_mk (st := s__law_between) l__law_between c__law_between kp__law_between
  have b__law_between := F__law_between.binds (ps := ["house", "one", "other"]) fun _ _ _ _ _ _ us hl => match us, hl with | [_, _, _], _ => rfl
  have g__law_between := PySem.W.mg_of X G a__law_between
  have F__law_lots := fun_mk (st := s__law_lots) l__law_lots c__law_lots kp__law_lots
  have b__law_lots := F__law_lots.binds (ps := ["some"]) fun _ _ _ _ _ _ us hl => match us, hl with | [_], _ => rfl
  have g__law_lots := PySem.W.mg_of X G a__law_lots
  have F__law_rests := fun_mk (st := s__law_rests) l__law_rests c__law_rests kp__law_rests
  have b__law_rests := F__law_rests.binds (ps := ["house", "one", "other", "breath"]) fun _ _ _ _ _ _ us hl => match us, hl with | [_, _, _, _], _ => rfl
  have g__law_rests := PySem.W.mg_of X G a__law_rests
  have F__law_farthest := fun_mk (st := s__law_farthest) l__law_farthest c__law_farthest kp__law_farthest
  have b__law_farthest := F__law_farthest.binds (ps := ["house", "one", "other", "breath"]) fun _ _ _ _ _ _ us hl => match us, hl with | [_, _, _, _], _ => rfl
  have g__law_farthest := PySem.W.mg_of X G a__law_farthest
  have F__law_is_house := fun_mk (st := s__law_is_house) l__law_is_house c__law_is_house kp__law_is_house
  have b__law_is_house := F__law_is_house.binds (ps := ["thing"]) fun _ _ _ _ _ _ us hl => match us, hl with | [_], _ => rfl
  have g__law_is_house := PySem.W.mg_of X G a__law_is_house
  have F__law_are_moves := fun_mk (st := s__law_are_moves) l__law_are_moves c__law_are_moves kp__law_are_moves
  have b__law_are_moves := F__law_are_moves.binds (ps := ["house", "thing"]) fun _ _ _ _ _ _ us hl => match us, hl with | [_, _], _ => rfl
  have g__law_are_moves := PySem.W.mg_of X G a__law_are_moves
  have F_law := fun_mk (st := s_law) l_law c_law kp_law
  have b_law := F_law.binds (ps := ["script"]) fun _ _ _ _ _ _ us hl => match us, hl with | [_], _ => rfl
  have g_law := PySem.W.mg_of X G a_law
  have B : Bl K mg := ⟨PySem.W.mg_none_of X G z_abs, PySem.W.mg_none_of X G z_all, PySem.W.mg_none_of X G z_bool, PySem.W.mg_none_of X G z_int, PySem.W.mg_none_of X G z_isinstance, PySem.W.mg_none_of X G z_len, PySem.W.mg_none_of X G z_list, PySem.W.mg_none_of X G z_max, PySem.W.mg_none_of X G z_min, PySem.W.mg_none_of X G z_range, PySem.W.mg_none_of X G z_str, PySem.W.mg_none_of X G z_sum, PySem.W.mg_none_of X G z_tuple, PySem.W.mg_none_of X G z_zip, ⟨_, PySem.W.mg_of X G w_MOST_FLIGHTS⟩, ⟨_, PySem.W.mg_of X G w_MOST_MOVES⟩, ⟨_, PySem.W.mg_of X G w_MOST_STEPS⟩⟩
  have T_Refused : Err.Cls PROG K mg "Refused" C_Refused fI_Refused ["why"] :=
    { gC := PySem.W.mg_of X G a_Refused, cls := ⟨_, _, _, _, _, _, _, _, _, _, _, _, _, _, _, x_Refused, rfl⟩
      xin := by unfold PySem.W.excInitIn; rw [x_Refused]; simp [PySem.W.excTail]
      sa := sa_Refused, ga := ga_Refused, gg := gg_Refused
      noN := fun n hn => by
        simp only [List.mem_cons, List.not_mem_nil, or_false] at hn
        rcases hn with rfl
        · exact n0_Refused
      iC := iC_Refused, tC := tC_Refused, kC := kC_Refused, exC := eC_Refused, veC := vC_Refused, tyC := yC_Refused, hdC := dC_Refused, mro := mC_Refused, sup := uC_Refused, tp := z_tp, ms := PySem.W.mg_none_of X G z_super, top := by decide +kernel }
  have B_Refused : Err.FnAt PROG K C_Refused fI_Refused (Err.args1 "why" ⟨11, 17, 11, 21⟩ ⟨11, 23, 11, 26⟩) (Err.body1 "why" ⟨12, 8, 12, 13⟩ ⟨12, 8, 12, 15⟩ ⟨12, 8, 12, 24⟩ ⟨12, 25, 12, 28⟩ ⟨12, 8, 12, 29⟩ ⟨12, 8, 12, 29⟩ ⟨13, 8, 13, 12⟩ ⟨13, 8, 13, 16⟩ ⟨13, 19, 13, 22⟩ ⟨13, 8, 13, 22⟩) (Err.scopeOf ["why"]) :=
    ⟨_, _, _, _, _, _, _, _, _, _, _, _, _, _, _, _, _, _, _, lI_Refused, cI_Refused, lc_Refused, v2_Refused, fi_ok_Refused, lx_Refused⟩
  have R_Refused : Raisable PROG w K mg "Refused" C_Refused ["why"] := raisable1 T_Refused B_Refused ⟨by decide, by decide, by decide, by decide⟩ (fun _ _ _ _ _ _ _ _ _ => rfl) (fun _ _ _ _ _ => ⟨_, rfl⟩)
  have E_Refused : SubsOk K mg (.ref C_Refused) S_Refused := by
    intro x C b hs hm
    unfold S_Refused at hs
    split at hs
    · rename_i hx; cases hs; rw [hx, PySem.W.mg_of X G a_Refused] at hm; cases hm; exact exm_of eC_Refused is_Refused yC_Refused em_Refused_Refused
    · cases hs
  have Fd_Refused : ∀ {nm : Str} {C : Addr}, S_Refused nm = some true → mg nm = some (.ref C) → XfC K C ∧ PySem.W.findIn K (.ref C) "why" = some none := by
    intro nm C hs hm
    unfold S_Refused at hs
    split at hs
    · rename_i hx; rw [hx, PySem.W.mg_of X G a_Refused] at hm; cases hm; exact ⟨⟨T_Refused.ga, T_Refused.gg, T_Refused.exC, T_Refused.hdC⟩, q_Refused_Refused_why⟩
    · cases hs
  refine ⟨PySem.W.fnOf "law" "law" (defArgs s_law) (defBody s_law) (defScope s_law) .none kV_law dc_law pm_law an_law cd_law ct_law, c_, P_, t_law, n_law, fun s v => .of_eq rfl, fun base hk hn tb => ?_⟩
  letI : Tb := ⟨[(P_, "law.<locals>.<lambda>")]⟩
  have O_is_integer := k_is_integer (base := base) (P := PROG) (w := w) F_is_integer b_is_integer g_is_integer B
  have O_is_within := k_is_within (base := base) (P := PROG) (w := w) F_is_within b_is_within g_is_within B O_is_integer
  have O_are_all := fun L TAB OT => k_are_all (base := base) (P := PROG) (w := w) F_are_all b_are_all g_are_all B L TAB OT
  have O_are_integers := k_are_integers (base := base) (P := PROG) (w := w) F_are_integers b_are_integers g_are_integers B O_is_integer O_are_all
  have O_is_pair := k_is_pair (base := base) (P := PROG) (w := w) F_is_pair b_is_pair g_is_pair B O_are_integers
  have O_are_pairs := k_are_pairs (base := base) (P := PROG) (w := w) F_are_pairs b_are_pairs g_are_pairs B O_are_all O_is_pair
  have O_is_house := k_is_house (base := base) (P := PROG) (w := w) F_is_house b_is_house g_is_house B O_are_integers
  have O_is_move := k_is_move (base := base) (P := PROG) (w := w) F_is_move b_is_move g_is_move B
  have O_are_moves := k_are_moves (base := base) (P := PROG) (w := w) F_are_moves b_are_moves g_are_moves B O_are_pairs O_is_move
  have O_need_floors := k_need_floors (base := base) (P := PROG) (w := w) F_need_floors b_need_floors g_need_floors B O_is_within R_Refused
  have O_steps_of_way := k_steps_of_way (base := base) (P := PROG) (w := w) F_steps_of_way b_steps_of_way g_steps_of_way B
  have O_steps_between := k_steps_between (base := base) (P := PROG) (w := w) F_steps_between b_steps_between g_steps_between B O_need_floors O_steps_of_way
  have O_carried_steps := k_carried_steps (base := base) (P := PROG) (w := w) F_carried_steps b_carried_steps g_carried_steps B O_steps_of_way
  have O_highest := k_highest (base := base) (P := PROG) (w := w) F_highest b_highest g_highest B
  have O_crossings := k_crossings (base := base) (P := PROG) (w := w) F_crossings b_crossings g_crossings B
  have O_rests_up := k_rests_up (base := base) (P := PROG) (w := w) F_rests_up b_rests_up g_rests_up B
  have O_rest_floors := k_rest_floors (base := base) (P := PROG) (w := w) F_rest_floors b_rest_floors g_rest_floors B O_need_floors O_rests_up
  have O_fewest_rests := k_fewest_rests (base := base) (P := PROG) (w := w) F_fewest_rests b_fewest_rests g_fewest_rests B O_rest_floors
  have O_least_breath := k_least_breath (base := base) (P := PROG) (w := w) F_least_breath b_least_breath g_least_breath B O_need_floors O_steps_of_way O_rests_up
  have O__law_bag := k__law_bag (base := base) (P := PROG) (w := w) F__law_bag b__law_bag g__law_bag B
  have O__law_take := k__law_take (base := base) (P := PROG) (w := w) F__law_take b__law_take g__law_take B
  have O__law_some := k__law_some (base := base) (P := PROG) (w := w) F__law_some b__law_some g__law_some B O__law_take
  have O__law_alike := k__law_alike (base := base) (P := PROG) (w := w) F__law_alike b__law_alike g__law_alike B
  have O__law_is_int := k__law_is_int (base := base) (P := PROG) (w := w) F__law_is_int b__law_is_int g__law_is_int B
  have O__law_odd := k__law_odd (base := base) (P := PROG) (w := w) F__law_odd b__law_odd g__law_odd B O__law_some
  have O__law_bent := k__law_bent (base := base) (P := PROG) (w := w) F__law_bent b__law_bent g__law_bent B O__law_take O__law_some O__law_odd 6
  have O__law_asked := k__law_asked (base := base) (P := PROG) (w := w) F__law_asked b__law_asked g__law_asked B (PySem.W.mg_of X G a_Refused) E_Refused Fd_Refused
  have O__law_between := k__law_between (base := base) (P := PROG) (w := w) F__law_between b__law_between g__law_between B
  have O__law_lots := k__law_lots (base := base) (P := PROG) (w := w) F__law_lots b__law_lots g__law_lots B
  have O__law_rests := k__law_rests (base := base) (P := PROG) (w := w) F__law_rests b__law_rests g__law_rests B O__law_between O__law_lots
  have O__law_farthest := k__law_farthest (base := base) (P := PROG) (w := w) F__law_farthest b__law_farthest g__law_farthest B O__law_between
  have O__law_is_house := k__law_is_house (base := base) (P := PROG) (w := w) F__law_is_house b__law_is_house g__law_is_house B O__law_is_int
  have O__law_are_moves := k__law_are_moves (base := base) (P := PROG) (w := w) F__law_are_moves b__law_are_moves g__law_are_moves B O__law_is_int
  exact k_law (base := base) (P := PROG) (w := w) F_law b_law g_law B O_is_house O_are_moves O_steps_between O_carried_steps O_highest O_crossings O_rest_floors O_fewest_rests O_least_breath O__law_bag O__law_take O__law_some O__law_alike O__law_bent F__law_asked b__law_asked g__law_asked O__law_asked O__law_between O__law_rests O__law_farthest O__law_is_house O__law_are_moves (codeAt_of a_law t_law) tb _ rfl rfl

end L02

namespace L02
section
variable {P : Nat → Nat} {b : Nat}
def gr (P : Nat → Nat) (b : Nat) : Nat → Nat → Nat → List Nat
  | 0, _, _ => []
  | n + 1, s, k => if P s + b < P (k + 1) then k :: gr P b n k (k + 1) else gr P b n s (k + 1)
def okS (P : Nat → Nat) (b : Nat) : Nat → List Nat → Nat → Prop
  | s, [], o => P o ≤ P s + b
  | s, t :: T, o => P t ≤ P s + b ∧ okS P b t T o
theorem gr_succ (n s k : Nat) : gr P b (n + 1) s k = if P s + b < P (k + 1) then k :: gr P b n k (k + 1) else gr P b n s (k + 1) := rfl
theorem gr_first : ∀ (n s k : Nat), P k ≤ P s + b → (gr P b n s k = [] ∧ P (k + n) ≤ P s + b) ∨ ∃ g n', gr P b n s k = g :: gr P b n' g (g + 1) ∧ k ≤ g ∧ g + 1 + n' = k + n ∧ P g ≤ P s + b ∧ P s + b < P (g + 1)
  | 0, s, k, h => .inl ⟨rfl, h⟩
  | n + 1, s, k, h => by
    rw [gr_succ]
    by_cases c : P s + b < P (k + 1)
    · rw [if_pos c]
      exact .inr ⟨k, n, rfl, Nat.le_refl _, by omega, h, c⟩
    · rw [if_neg c]
      rcases gr_first n s (k + 1) (by omega) with ⟨h1, h2⟩ | ⟨g, n', h1, h2, h3, h4, h5⟩
      · exact .inl ⟨h1, by rw [show k + (n + 1) = k + 1 + n by omega]; exact h2⟩
      · exact .inr ⟨g, n', h1, by omega, by omega, h4, h5⟩
variable (mono : ∀ i j, i ≤ j → P i ≤ P j)
include mono
theorem gr_best : ∀ (T : List Nat) (n s s' k o : Nat), k + n = o → s' ≤ s → P k ≤ P s + b → (∀ i, k ≤ i → i < o → P (i + 1) ≤ P i + b) → (∀ t ∈ T, t ≤ o) → okS P b s' T o → (gr P b n s k).length ≤ T.length
  | [], n, s, s', k, o, hn, hs, hk, hf, ht, ok => by
    rcases gr_first n s k hk with ⟨h1, h2⟩ | ⟨g, n', h1, h2, h3, h4, h5⟩
    · rw [h1]
      exact Nat.le_refl _
    · have a := mono s' s hs
      have c := mono (g + 1) o (by omega)
      have d : P o ≤ P s' + b := ok
      omega
  | t :: T, n, s, s', k, o, hn, hs, hk, hf, ht, ok => by
    rcases gr_first n s k hk with ⟨h1, h2⟩ | ⟨g, n', h1, h2, h3, h4, h5⟩
    · rw [h1]
      exact Nat.zero_le _
    · have a := mono s' s hs
      have d : P t ≤ P s' + b := ok.1
      have tg : t ≤ g := by
        refine Nat.le_of_not_lt fun h => ?_
        have := mono (g + 1) t h
        omega
      have ih := gr_best T n' g t (g + 1) o (by omega) tg (hf g (by omega) (by omega)) (fun i hi hi' => hf i (by omega) hi') (fun t' h => ht t' (List.mem_cons_of_mem _ h)) ok.2
      rw [h1, List.length_cons, List.length_cons]
      omega
omit mono in
theorem gr_ok : ∀ (N n s k o : Nat), n ≤ N → k + n = o → P k ≤ P s + b → (∀ i, k ≤ i → i < o → P (i + 1) ≤ P i + b) → okS P b s (gr P b n s k) o ∧ (∀ t ∈ gr P b n s k, k ≤ t ∧ t < o) ∧ (gr P b n s k).Pairwise (· < ·)
  | N, n, s, k, o, hN, hn, hk, hf => by
    rcases gr_first n s k hk with ⟨h1, h2⟩ | ⟨g, n', h1, h2, h3, h4, h5⟩
    · rw [h1]
      refine ⟨?_, (fun _ h => nomatch h), .nil⟩
      show P o ≤ P s + b
      rw [← hn]
      exact h2
    · match N with
      | 0 => omega
      | N + 1 =>
        obtain ⟨i1, i2, i3⟩ := gr_ok N n' g (g + 1) o (by omega) (by omega) (hf g (by omega) (by omega)) fun i hi hi' => hf i (by omega) hi'
        rw [h1]
        refine ⟨⟨h4, i1⟩, fun t ht => ?_, List.pairwise_cons.mpr ⟨fun t ht => (i2 t ht).1, i3⟩⟩
        rcases List.mem_cons.mp ht with rfl | ht
        · omega
        · have := i2 t ht
          omega
theorem ok_bad : ∀ (T : List Nat) (s o k : Nat), s ≤ k → k < o → (∀ t ∈ T, t ≤ o) → okS P b s T o → P (k + 1) ≤ P k + b
  | [], s, o, k, h1, h2, _, ok => by
    have a := mono s k h1
    have c := mono (k + 1) o h2
    have d : P o ≤ P s + b := ok
    omega
  | t :: T, s, o, k, h1, h2, ht, ok => by
    by_cases c : t ≤ k
    · exact ok_bad T t o k c h2 (fun t' h => ht t' (List.mem_cons_of_mem _ h)) ok.2
    · have a := mono s k h1
      have d := mono (k + 1) t (by omega)
      have e : P t ≤ P s + b := ok.1
      omega
omit mono in
theorem ok_more {b' : Nat} (hb : b ≤ b') : ∀ (T : List Nat) (s o : Nat), okS P b s T o → okS P b' s T o
  | [], s, o, h => by
    have d : P o ≤ P s + b := h
    show P o ≤ P s + b'
    omega
  | t :: T, s, o, h => ⟨by have := h.1; omega, ok_more hb T t o h.2⟩
end
def fit (P : Nat → Nat) (b s o : Nat) : Prop := ∀ i, s ≤ i → i < o → P (i + 1) ≤ P i + b
instance (P : Nat → Nat) (b s o : Nat) : Decidable (fit P b s o) := decidable_of_iff (∀ i, i < o → s ≤ i → P (i + 1) ≤ P i + b) ⟨fun h i a c => h i c a, fun h i a c => h i c a⟩
def way (P : Nat → Nat) (b s o : Nat) : Option (List Nat) := if fit P b s o then some (gr P b (o - s) s s) else none
theorem way_none {P : Nat → Nat} {b s o : Nat} (mono : ∀ i j, i ≤ j → P i ≤ P j) (h : ¬ fit P b s o) (T : List Nat) (hT : ∀ t ∈ T, t ≤ o) : ¬ okS P b s T o := fun ok =>
  h fun i hi hi' => ok_bad mono T s o i hi hi' hT ok
theorem way_best {P : Nat → Nat} {b s o : Nat} (mono : ∀ i j, i ≤ j → P i ≤ P j) (h : fit P b s o) (hs : s ≤ o) (T : List Nat) (hT : ∀ t ∈ T, t ≤ o) (ok : okS P b s T o) : (gr P b (o - s) s s).length ≤ T.length :=
  gr_best mono T (o - s) s s s o (by omega) (Nat.le_refl _) (by omega) h hT ok
theorem way_ok {P : Nat → Nat} {b s o : Nat} (h : fit P b s o) (hs : s < o) : okS P b s (gr P b (o - s) s s) o ∧ (∀ t ∈ gr P b (o - s) s s, s + 1 ≤ t ∧ t < o) ∧ (gr P b (o - s) s s).Pairwise (· < ·) := by
  have e : gr P b (o - s) s s = gr P b (o - s - 1) s (s + 1) := by
    obtain ⟨n, hn⟩ : ∃ n, o - s = n + 1 := ⟨o - s - 1, by omega⟩
    rw [hn]
    have := h s (Nat.le_refl _) hs
    show (if P s + b < P (s + 1) then _ else _) = _
    rw [if_neg (by omega)]
    rfl
  rw [e]
  exact gr_ok (o - s - 1) (o - s - 1) s (s + 1) o (Nat.le_refl _) (by omega) (h s (Nat.le_refl _) hs) fun i hi hi' => h i (by omega) hi'
theorem fit_more {P : Nat → Nat} {b b' s o : Nat} (hb : b ≤ b') (h : fit P b s o) : fit P b' s o := fun i hi hi' => by
  have := h i hi hi'
  omega
theorem way_mono {P : Nat → Nat} {b b' s o : Nat} (mono : ∀ i j, i ≤ j → P i ≤ P j) (hb : b ≤ b') (h : fit P b s o) (hs : s < o) : (gr P b' (o - s) s s).length ≤ (gr P b (o - s) s s).length := by
  obtain ⟨h1, h2, h3⟩ := way_ok h hs
  exact way_best mono (fit_more hb h) (by omega) _ (fun t ht => by have := h2 t ht; omega) (ok_more hb _ _ _ h1)
theorem way_full {P : Nat → Nat} {b s o : Nat} (mono : ∀ i j, i ≤ j → P i ≤ P j) (hs : s < o) (h : P o ≤ P s + b) : fit P b s o ∧ gr P b (o - s) s s = [] := by
  have f : fit P b s o := fun i hi hi' => by
    have a := mono s i hi
    have c := mono (i + 1) o hi'
    omega
  exact ⟨f, List.eq_nil_of_length_eq_zero (Nat.le_zero.mp (way_best mono f (by omega) [] (fun _ h => nomatch h) h))⟩
def lotsF (F : List (List Nat)) (l : List Nat) : List (List Nat) := l.foldl (fun F x => F ++ F.map (· ++ [x])) F
theorem mem_lotsF : ∀ (l : List Nat) (F : List (List Nat)) (S : List Nat), S ∈ lotsF F l ↔ ∃ A ∈ F, ∃ B : List Nat, B.Sublist l ∧ S = A ++ B
  | [], F, S => by
    show S ∈ F ↔ _
    constructor
    · exact fun h => ⟨S, h, [], .slnil, (List.append_nil _).symm⟩
    · rintro ⟨A, hA, B, hB, rfl⟩
      rw [List.sublist_nil.mp hB, List.append_nil]
      exact hA
  | x :: l, F, S => by
    refine (mem_lotsF l (F ++ F.map (· ++ [x])) S).trans ⟨?_, ?_⟩
    · rintro ⟨A, hA, B, hB, rfl⟩
      rcases List.mem_append.mp hA with hA | hA
      · exact ⟨A, hA, B, hB.cons _, rfl⟩
      · obtain ⟨A', hA', rfl⟩ := List.mem_map.mp hA
        exact ⟨A', hA', x :: B, hB.cons₂ _, by rw [List.append_assoc]; rfl⟩
    · rintro ⟨A, hA, B, hB, rfl⟩
      cases hB with
      | cons _ h => exact ⟨A, List.mem_append_left _ hA, B, h, rfl⟩
      | cons_cons _ h => exact ⟨A ++ [x], List.mem_append_right _ (List.mem_map.mpr ⟨A, hA, rfl⟩), _, h, by rw [List.append_assoc]; rfl⟩
theorem lotsF_len : ∀ (l : List Nat) (F : List (List Nat)), (lotsF F l).length = F.length * 2 ^ l.length
  | [], F => by simp [lotsF]
  | x :: l, F => by
    show (lotsF (F ++ F.map (· ++ [x])) l).length = _
    rw [lotsF_len l, List.length_append, List.length_map, List.length_cons, Nat.pow_succ, ← Nat.two_mul, Nat.mul_comm 2, Nat.mul_assoc, Nat.mul_comm 2]
theorem range'_sub : ∀ (n a : Nat) (l : List Nat), l.Pairwise (· < ·) → (∀ x ∈ l, a ≤ x ∧ x < a + n) → l.Sublist (List.range' a n)
  | 0, a, [], _, _ => .slnil
  | 0, a, x :: l, _, h => by
    have := h x List.mem_cons_self
    omega
  | n + 1, a, [], _, _ => List.nil_sublist _
  | n + 1, a, x :: l, hp, h => by
    rw [List.range'_succ]
    obtain ⟨h1, h2⟩ := List.pairwise_cons.mp hp
    by_cases e : x = a
    · subst e
      exact (range'_sub n (x + 1) l h2 fun y hy => by
        have := h y (List.mem_cons_of_mem _ hy)
        have := h1 y hy
        omega).cons₂ _
    · refine (range'_sub n (a + 1) (x :: l) hp fun y hy => ?_).cons _
      have hx := h x List.mem_cons_self
      have := h y hy
      rcases List.mem_cons.mp hy with rfl | hy
      · omega
      · have := h1 y hy
        omega
end L02

namespace L02
open PySem L2 PyProof.Rows P5
local macro_rules | `(tactic| simp! [$ts,*]) => `(tactic| simp (disch := first | assumption | omega | (simp only [List.length_map, List.length_range, List.length_append, List.length_cons, List.length_nil, List.length_replicate, List.length_take, List.length_drop] <;> omega) | exact P5.nr rfl) only [ev1, ev2, ev3, ev4, ev5, ev6, ev7, ev8, ev9, ev10, ev11, ev12, ev13, ev14, ev15, ev16, ev17, ev18, ev19, ev20, ev21, ev22, ev23, ev24, ev25, ev26, ev27, ev28, ev29, ev30, ev31, ev32, ev33, ev34, ev37, ev40, ev41, ev42, ev45, ev46, ev49, ev52, ev53, ev56, ev57, ev58, ev59, ev60, ev61, ev62, ev63, ev64, ev65, ev66, ev67, ev68, ev69, ev70, ev71, ev72, ev73, ev74, ev75, ev76, ev77, ev78, ev79, ev80, ev81, ev82, ev83, ev84, ev85, ev86, ev87, ev88, ev89, ev90, ev91, ev92, ev93, ev94, ev95, ev96, ev97, ev98, ev99, ev100, ev101, ev102, ev103, ev104, ev105, ev106, ev107, ev108, ev109, es1, es2, es3, es4, es5, es6, es7, es8, es9, es10, es11, es12, es13, es14, es15, es16, es17, es18, es19, es20, es21, es22, es23, es24, es25, es26, es27, es28, es29, es30, es31, es32, es33, es34, es35, es36, es37, es38, es39, es40, es41, es42, es43, es44, es45, es46, es47, es48, es49, es50, es51, es52, es53, es54, es56, es57, es58, es59, es60, es61, es62, es63, es64, es65, es66, es67, es68, es69, es70, es71, es72, es73, es74, es75, es77, es78, es79, es80, el1, el2, el4, el5, el6, el7, el8, el9, es82, es83, es84, es85, es86, es87, es88, es89, es90, es95, es96, es97, eh1, eh2, eh3, eo1, eo2, eo3, eo4, eo5, eo6, eo7, eo8, eo9, eo10, eo11, eo12, eo13, eo14, eo15, eo16, eo17, eo18, eo19, eo20, ei1, ei2, ei3, ei4, ei5, ei6, ei7, ei8, ei9, ei10, ei11, ei12, ei13, ei14, ei15, ei16, ei17, ei18, ei19, ei20, ei21, ei22, ei23, ei24, ei25, ei26, ei27, ei28, ei29, ei30, ei31, ei32, ei33, ei34, ei35, ei36, ei37, ei38, ei39, ei40, ei41, ei42, er1, er2, er3, er4, er5, er6, er7, er8, er9, er10, er11, er12, er13, er14, er15, er16, er17, er18, er19, er20, er21, er22, er23, er24, er25, er26, er27, er28, ek1, ek2, ek3, ek4, ek5, ek6, ek7, ek8, ek9, ek10, ek11, ek12, ek13, ek14, ek15, ek16, ek17, ek18, ek19, ek20, ek21, ek22, ek23, ek24, eo21, eo22, eo23, es98, ev111, opEq_int, opNe_int, opLt_int, opGt_int, opAdd_int, opSub_int, List.getElem?_cons_zero, List.getElem?_cons_succ, List.set_cons_zero, List.set_cons_succ, Bool.not_true, Bool.not_false, Bool.and_true, Bool.true_and, Bool.false_and, Bool.and_false, List.contains_nil, decide_true, decide_false, List.nil_append, List.append_nil, List.cons_append, List.contains_cons, Bool.false_or, Bool.true_or, Bool.or_false, Bool.or_true, Bool.false_eq_true, reduceIte, List.all_cons, List.all_nil, List.any_cons, List.any_nil, id_eq, Bool.not_not, Bool.and_self, Bool.or_self, Nat.reduceAdd, Nat.reduceBEq, Nat.reduceSub, beq_self_eq_true, $ts,*])
local macro_rules | `(tactic| dsimp! [$ts,*]) => `(tactic| simp (disch := first | assumption | omega | (simp only [List.length_map, List.length_range, List.length_append, List.length_cons, List.length_nil, List.length_replicate, List.length_take, List.length_drop] <;> omega) | exact P5.nr rfl) only [ev1, ev2, ev3, ev4, ev5, ev6, ev7, ev8, ev9, ev10, ev11, ev12, ev13, ev14, ev15, ev16, ev17, ev18, ev19, ev20, ev21, ev22, ev23, ev24, ev25, ev26, ev27, ev28, ev29, ev30, ev31, ev32, ev33, ev34, ev37, ev40, ev41, ev42, ev45, ev46, ev49, ev52, ev53, ev56, ev57, ev58, ev59, ev60, ev61, ev62, ev63, ev64, ev65, ev66, ev67, ev68, ev69, ev70, ev71, ev72, ev73, ev74, ev75, ev76, ev77, ev78, ev79, ev80, ev81, ev82, ev83, ev84, ev85, ev86, ev87, ev88, ev89, ev90, ev91, ev92, ev93, ev94, ev95, ev96, ev97, ev98, ev99, ev100, ev101, ev102, ev103, ev104, ev105, ev106, ev107, ev108, ev109, es1, es2, es3, es4, es5, es6, es7, es8, es9, es10, es11, es12, es13, es14, es15, es16, es17, es18, es19, es20, es21, es22, es23, es24, es25, es26, es27, es28, es29, es30, es31, es32, es33, es34, es35, es36, es37, es38, es39, es40, es41, es42, es43, es44, es45, es46, es47, es48, es49, es50, es51, es52, es53, es54, es56, es57, es58, es59, es60, es61, es62, es63, es64, es65, es66, es67, es68, es69, es70, es71, es72, es73, es74, es75, es77, es78, es79, es80, el1, el2, el4, el5, el6, el7, el8, el9, es82, es83, es84, es85, es86, es87, es88, es89, es90, es95, es96, es97, eh1, eh2, eh3, eo1, eo2, eo3, eo4, eo5, eo6, eo7, eo8, eo9, eo10, eo11, eo12, eo13, eo14, eo15, eo16, eo17, eo18, eo19, eo20, ei1, ei2, ei3, ei4, ei5, ei6, ei7, ei8, ei9, ei10, ei11, ei12, ei13, ei14, ei15, ei16, ei17, ei18, ei19, ei20, ei21, ei22, ei23, ei24, ei25, ei26, ei27, ei28, ei29, ei30, ei31, ei32, ei33, ei34, ei35, ei36, ei37, ei38, ei39, ei40, ei41, ei42, er1, er2, er3, er4, er5, er6, er7, er8, er9, er10, er11, er12, er13, er14, er15, er16, er17, er18, er19, er20, er21, er22, er23, er24, er25, er26, er27, er28, ek1, ek2, ek3, ek4, ek5, ek6, ek7, ek8, ek9, ek10, ek11, ek12, ek13, ek14, ek15, ek16, ek17, ek18, ek19, ek20, ek21, ek22, ek23, ek24, eo21, eo22, eo23, es98, ev111, opEq_int, opNe_int, opLt_int, opGt_int, opAdd_int, opSub_int, List.getElem?_cons_zero, List.getElem?_cons_succ, List.set_cons_zero, List.set_cons_succ, Bool.not_true, Bool.not_false, Bool.and_true, Bool.true_and, Bool.false_and, Bool.and_false, List.contains_nil, decide_true, decide_false, List.nil_append, List.append_nil, List.cons_append, List.contains_cons, Bool.false_or, Bool.true_or, Bool.or_false, Bool.or_true, Bool.false_eq_true, reduceIte, List.all_cons, List.all_nil, List.any_cons, List.any_nil, id_eq, Bool.not_not, Bool.and_self, Bool.or_self, Nat.reduceAdd, Nat.reduceBEq, Nat.reduceSub, beq_self_eq_true, ew1, ew2, ew3, ew4, ew5, ew6, ew7, ew9, ew10, ew11, ew15, ew16, ew17, ew18, ew19, ew20, ew21, ew22, ew23, ew24, ew26, ew28, ew29, ew30, ew31, ew32, ew34, ew35, ew36, ew37, ew40, ew41, ew42, ew43, ew44, ew45, ew46, ew47, ew48, ew49, ew50, ew51, ew52, ew53, ew54, ew55, ew56, ew57, ew58, ew59, and_false, $ts,*])
def bt (h : List Nat) (a b : Nat) : Nat := ((h.drop (min a b)).take (max a b - min a b)).sum
def PS (h : List Nat) (k : Nat) : Nat := (h.take k).sum
theorem PS_mono (h : List Nat) (i j : Nat) (hij : i ≤ j) : PS h i ≤ PS h j := by
  obtain ⟨d, rfl⟩ : ∃ d, j = i + d := ⟨j - i, by omega⟩
  unfold PS
  rw [List.take_add, List.sum_append]
  omega
theorem bt_PS (h : List Nat) {a b : Nat} (hab : a ≤ b) : PS h a + bt h a b = PS h b := by
  unfold PS bt
  obtain ⟨d, rfl⟩ : ∃ d, b = a + d := ⟨b - a, by omega⟩
  rw [Nat.min_eq_left hab, Nat.max_eq_right hab, Nat.add_sub_cancel_left, List.take_add, List.sum_append]
theorem PS_succ (h : List Nat) {k : Nat} (hk : k < h.length) : PS h (k + 1) = PS h k + h[k] := by
  unfold PS
  rw [List.take_succ, List.sum_append, List.getElem?_eq_getElem hk]
  rfl
theorem v_way (h : List Nat) (a b : Nat) : m_steps_of_way [.tup (h.map iD), .int a, .int b] = pure (.int (bt h a b)) := by
  unfold m_steps_of_way g_steps_of_way
  simp! [es55, mn, mx, cut_nat, ← List.map_drop, ← List.map_take, sumT_ints]
  rfl
theorem v_between (h : List Nat) (a b : Nat) : m__law_between [.tup (h.map iD), .int a, .int b] = pure (.int (bt h a b)) := v_way h a b
theorem v_isi (d : D) (h : (tyD d).isSome = true) : m_is_integer [d] = pure (.bl (isI d)) := v_isInt h
theorem v_within (i l m : Int) : m_is_within [.int i, .int l, .int m] = pure (.bl (decide (l ≤ i) && decide (i ≤ m))) := by
  unfold m_is_within g_is_within
  simp! [es55, v_isi (.int i) rfl]
  rw [show isI (.int i) = true from rfl]
  by_cases c : l ≤ i
  · simp! [c]
  · simp! [c]
theorem v_within_no (d : D) (l m : Int) (hd : (tyD d).isSome = true) (h : isI d = false) : m_is_within [d, .int l, .int m] = pure (.bl false) := by
  unfold m_is_within g_is_within
  simp! [es55, v_isi d hd, h]
theorem v_need (h : List Nat) {a b : Nat} (ha : a ≤ h.length) (hb : b ≤ h.length) : m_need_floors [.tup (h.map iD), .tup [.int a, .int b]] = pure .non := by
  have h1 : (0 : Int) ≤ a := by omega
  have h2 : (0 : Int) ≤ b := by omega
  have h3 : (a : Int) ≤ h.length := by omega
  have h4 : (b : Int) ≤ h.length := by omega
  unfold m_need_floors g_need_floors c_need_floors_1
  simp! [es55, v_within, List.length_map, h1, h2, h3, h4]
def noFl (h : List Nat) (d : D) : Prop := (tyD d).isSome = true ∧ ((isI d = false) ∨ ∃ i : Int, d = .int i ∧ (i < 0 ∨ (h.length : Int) < i))
theorem v_within_bad {h : List Nat} {d : D} (hd : noFl h d) : m_is_within [d, .int 0, .int h.length] = pure (.bl false) := by
  rcases hd with ⟨h1, h2 | ⟨i, rfl, h2⟩⟩
  · exact v_within_no d _ _ h1 h2
  · rw [v_within]
    refine congrArg (fun b => pure (D.bl b)) ?_
    rcases h2 with h2 | h2
    · rw [decide_eq_false (by omega), Bool.false_and]
    · rw [decide_eq_false (p := i ≤ _) (by omega), Bool.and_false]
def flErr : Err := ⟨"Refused", [("why", .str "floor")]⟩
theorem v_need1 {h : List Nat} {d : D} (hd : noFl h d) {b : Nat} (hb : b ≤ h.length) : m_need_floors [.tup (h.map iD), .tup [d, .int b]] = M.raise flErr := by
  have h2 : (0 : Int) ≤ b := by omega
  have h4 : (b : Int) ≤ h.length := by omega
  unfold m_need_floors g_need_floors c_need_floors_1
  simp! [es55, v_within, v_within_bad hd, List.length_map, h2, h4]
  rfl
theorem v_need2 {h : List Nat} {d : D} (hd : noFl h d) {b : Nat} (hb : b ≤ h.length) : m_need_floors [.tup (h.map iD), .tup [.int b, d]] = M.raise flErr := by
  have h2 : (0 : Int) ≤ b := by omega
  have h4 : (b : Int) ≤ h.length := by omega
  unfold m_need_floors g_need_floors c_need_floors_1
  simp! [es55, v_within, v_within_bad hd, List.length_map, h2, h4]
  rfl
theorem v_steps (h : List Nat) {a b : Nat} (ha : a ≤ h.length) (hb : b ≤ h.length) : m_steps_between [.tup (h.map iD), .int a, .int b] = pure (.int (bt h a b)) := by
  unfold m_steps_between g_steps_between
  simp! [es55, v_need h ha hb, v_way]
end L02

namespace L02
open PySem L2 PyProof.Rows P5
local macro_rules | `(tactic| simp! [$ts,*]) => `(tactic| simp (disch := first | assumption | omega | (simp only [List.length_map, List.length_range, List.length_append, List.length_cons, List.length_nil, List.length_replicate, List.length_take, List.length_drop] <;> omega) | exact P5.nr rfl) only [ev1, ev2, ev3, ev4, ev5, ev6, ev7, ev8, ev9, ev10, ev11, ev12, ev13, ev14, ev15, ev16, ev17, ev18, ev19, ev20, ev21, ev22, ev23, ev24, ev25, ev26, ev27, ev28, ev29, ev30, ev31, ev32, ev33, ev34, ev37, ev40, ev41, ev42, ev45, ev46, ev49, ev52, ev53, ev56, ev57, ev58, ev59, ev60, ev61, ev62, ev63, ev64, ev65, ev66, ev67, ev68, ev69, ev70, ev71, ev72, ev73, ev74, ev75, ev76, ev77, ev78, ev79, ev80, ev81, ev82, ev83, ev84, ev85, ev86, ev87, ev88, ev89, ev90, ev91, ev92, ev93, ev94, ev95, ev96, ev97, ev98, ev99, ev100, ev101, ev102, ev103, ev104, ev105, ev106, ev107, ev108, ev109, es1, es2, es3, es4, es5, es6, es7, es8, es9, es10, es11, es12, es13, es14, es15, es16, es17, es18, es19, es20, es21, es22, es23, es24, es25, es26, es27, es28, es29, es30, es31, es32, es33, es34, es35, es36, es37, es38, es39, es40, es41, es42, es43, es44, es45, es46, es47, es48, es49, es50, es51, es52, es53, es54, es56, es57, es58, es59, es60, es61, es62, es63, es64, es65, es66, es67, es68, es69, es70, es71, es72, es73, es74, es75, es77, es78, es79, es80, el1, el2, el4, el5, el6, el7, el8, el9, es82, es83, es84, es85, es86, es87, es88, es89, es90, es95, es96, es97, eh1, eh2, eh3, eo1, eo2, eo3, eo4, eo5, eo6, eo7, eo8, eo9, eo10, eo11, eo12, eo13, eo14, eo15, eo16, eo17, eo18, eo19, eo20, ei1, ei2, ei3, ei4, ei5, ei6, ei7, ei8, ei9, ei10, ei11, ei12, ei13, ei14, ei15, ei16, ei17, ei18, ei19, ei20, ei21, ei22, ei23, ei24, ei25, ei26, ei27, ei28, ei29, ei30, ei31, ei32, ei33, ei34, ei35, ei36, ei37, ei38, ei39, ei40, ei41, ei42, er1, er2, er3, er4, er5, er6, er7, er8, er9, er10, er11, er12, er13, er14, er15, er16, er17, er18, er19, er20, er21, er22, er23, er24, er25, er26, er27, er28, ek1, ek2, ek3, ek4, ek5, ek6, ek7, ek8, ek9, ek10, ek11, ek12, ek13, ek14, ek15, ek16, ek17, ek18, ek19, ek20, ek21, ek22, ek23, ek24, eo21, eo22, eo23, es98, ev111, opEq_int, opNe_int, opLt_int, opGt_int, opAdd_int, opSub_int, List.getElem?_cons_zero, List.getElem?_cons_succ, List.set_cons_zero, List.set_cons_succ, Bool.not_true, Bool.not_false, Bool.and_true, Bool.true_and, Bool.false_and, Bool.and_false, List.contains_nil, decide_true, decide_false, List.nil_append, List.append_nil, List.cons_append, List.contains_cons, Bool.false_or, Bool.true_or, Bool.or_false, Bool.or_true, Bool.false_eq_true, reduceIte, List.all_cons, List.all_nil, List.any_cons, List.any_nil, id_eq, Bool.not_not, Bool.and_self, Bool.or_self, Nat.reduceAdd, Nat.reduceBEq, Nat.reduceSub, beq_self_eq_true, $ts,*])
local macro_rules | `(tactic| dsimp! [$ts,*]) => `(tactic| simp (disch := first | assumption | omega | (simp only [List.length_map, List.length_range, List.length_append, List.length_cons, List.length_nil, List.length_replicate, List.length_take, List.length_drop] <;> omega) | exact P5.nr rfl) only [ev1, ev2, ev3, ev4, ev5, ev6, ev7, ev8, ev9, ev10, ev11, ev12, ev13, ev14, ev15, ev16, ev17, ev18, ev19, ev20, ev21, ev22, ev23, ev24, ev25, ev26, ev27, ev28, ev29, ev30, ev31, ev32, ev33, ev34, ev37, ev40, ev41, ev42, ev45, ev46, ev49, ev52, ev53, ev56, ev57, ev58, ev59, ev60, ev61, ev62, ev63, ev64, ev65, ev66, ev67, ev68, ev69, ev70, ev71, ev72, ev73, ev74, ev75, ev76, ev77, ev78, ev79, ev80, ev81, ev82, ev83, ev84, ev85, ev86, ev87, ev88, ev89, ev90, ev91, ev92, ev93, ev94, ev95, ev96, ev97, ev98, ev99, ev100, ev101, ev102, ev103, ev104, ev105, ev106, ev107, ev108, ev109, es1, es2, es3, es4, es5, es6, es7, es8, es9, es10, es11, es12, es13, es14, es15, es16, es17, es18, es19, es20, es21, es22, es23, es24, es25, es26, es27, es28, es29, es30, es31, es32, es33, es34, es35, es36, es37, es38, es39, es40, es41, es42, es43, es44, es45, es46, es47, es48, es49, es50, es51, es52, es53, es54, es56, es57, es58, es59, es60, es61, es62, es63, es64, es65, es66, es67, es68, es69, es70, es71, es72, es73, es74, es75, es77, es78, es79, es80, el1, el2, el4, el5, el6, el7, el8, el9, es82, es83, es84, es85, es86, es87, es88, es89, es90, es95, es96, es97, eh1, eh2, eh3, eo1, eo2, eo3, eo4, eo5, eo6, eo7, eo8, eo9, eo10, eo11, eo12, eo13, eo14, eo15, eo16, eo17, eo18, eo19, eo20, ei1, ei2, ei3, ei4, ei5, ei6, ei7, ei8, ei9, ei10, ei11, ei12, ei13, ei14, ei15, ei16, ei17, ei18, ei19, ei20, ei21, ei22, ei23, ei24, ei25, ei26, ei27, ei28, ei29, ei30, ei31, ei32, ei33, ei34, ei35, ei36, ei37, ei38, ei39, ei40, ei41, ei42, er1, er2, er3, er4, er5, er6, er7, er8, er9, er10, er11, er12, er13, er14, er15, er16, er17, er18, er19, er20, er21, er22, er23, er24, er25, er26, er27, er28, ek1, ek2, ek3, ek4, ek5, ek6, ek7, ek8, ek9, ek10, ek11, ek12, ek13, ek14, ek15, ek16, ek17, ek18, ek19, ek20, ek21, ek22, ek23, ek24, eo21, eo22, eo23, es98, ev111, opEq_int, opNe_int, opLt_int, opGt_int, opAdd_int, opSub_int, List.getElem?_cons_zero, List.getElem?_cons_succ, List.set_cons_zero, List.set_cons_succ, Bool.not_true, Bool.not_false, Bool.and_true, Bool.true_and, Bool.false_and, Bool.and_false, List.contains_nil, decide_true, decide_false, List.nil_append, List.append_nil, List.cons_append, List.contains_cons, Bool.false_or, Bool.true_or, Bool.or_false, Bool.or_true, Bool.false_eq_true, reduceIte, List.all_cons, List.all_nil, List.any_cons, List.any_nil, id_eq, Bool.not_not, Bool.and_self, Bool.or_self, Nat.reduceAdd, Nat.reduceBEq, Nat.reduceSub, beq_self_eq_true, ew1, ew2, ew3, ew4, ew5, ew6, ew7, ew9, ew10, ew11, ew15, ew16, ew17, ew18, ew19, ew20, ew21, ew22, ew23, ew24, ew26, ew28, ew29, ew30, ew31, ew32, ew34, ew35, ew36, ew37, ew40, ew41, ew42, ew43, ew44, ew45, ew46, ew47, ew48, ew49, ew50, ew51, ew52, ew53, ew54, ew55, ew56, ew57, ew58, ew59, and_false, $ts,*])
section
variable {h : List Nat} {a b c : Nat}
theorem at_h {k : Nat} (hk : k < h.length) : (h.map iD)[k]? = some (.int (h[k] : Nat)) := by
  rw [List.getElem?_map, List.getElem?_eq_getElem hk]
  rfl
theorem up_loop : ∀ (n s k : Nat) (f : List Nat) (o6 : Option D), k + n ≤ h.length → f.length + n ≤ 100 → (∀ i, k ≤ i → i < k + n → PS h (i + 1) ≤ PS h i + c) → ∃ (l : Int) (o : Option D),
    forL [4] (gdName 6) b_rests_up_1 ((List.range' k n).map iD) [some (.tup (h.map iD)), some (.int a), some (.int b), some (.int c), some (.lst (f.map iD)), some (.int (PS h s + c - PS h k)), o6] =
      pure (.nx [some (.tup (h.map iD)), some (.int a), some (.int b), some (.int c), some (.lst ((f ++ gr (PS h) c n s k).map iD)), some (.int l), o])
  | 0, s, k, f, o6, _, _, _ => ⟨_, o6, by
    rw [show gr (PS h) c 0 s k = [] from rfl, List.append_nil]
    rfl⟩
  | n + 1, s, k, f, o6, hk, hf, hfit => by
    have hk' : k < h.length := by omega
    have e := PS_succ h hk'
    have hx := at_h hk'
    have h1 : ¬ ((c : Int) < (h[k] : Nat)) := by
      have := hfit k (Nat.le_refl _) (by omega)
      omega
    rw [List.range'_succ, List.map_cons, gr_succ]
    by_cases h2 : PS h s + c < PS h (k + 1)
    · have h2' : (PS h s : Int) + c - PS h k < (h[k] : Nat) := by omega
      obtain ⟨l, o, ih⟩ := up_loop n k (k + 1) (f ++ [k]) (some (.int k)) (by omega) (by rw [List.length_append]; show f.length + 1 + n ≤ 100; omega) fun i hi hi' => hfit i (by omega) (by omega)
      refine ⟨l, o, ?_⟩
      rw [if_pos h2]
      rw [show f ++ k :: gr (PS h) c n k (k + 1) = f ++ [k] ++ gr (PS h) c n k (k + 1) by rw [List.append_assoc]; rfl]
      refine (fl_nx rfl ?_).trans ih
      unfold b_rests_up_1
      simp! [hx, h1, h2']
      rw [List.map_append, show (c : Int) - (h[k] : Nat) = PS h k + c - PS h (k + 1) by omega]
      rfl
    · have h2' : ¬ ((PS h s : Int) + c - PS h k < (h[k] : Nat)) := by omega
      obtain ⟨l, o, ih⟩ := up_loop n s (k + 1) f (some (.int k)) (by omega) (by omega) fun i hi hi' => hfit i (by omega) (by omega)
      refine ⟨l, o, ?_⟩
      rw [if_neg h2]
      refine (fl_nx rfl ?_).trans ih
      unfold b_rests_up_1
      simp! [hx, h1, h2']
      rw [show (PS h s : Int) + c - PS h k - (h[k] : Nat) = PS h s + c - PS h (k + 1) by omega]
theorem up_bad : ∀ (n k : Nat) (f : List Nat) (l : Int) (o6 : Option D), k + n ≤ h.length → f.length + n ≤ 100 → (∃ i, k ≤ i ∧ i < k + n ∧ PS h i + c < PS h (i + 1)) →
    forL [4] (gdName 6) b_rests_up_1 ((List.range' k n).map iD) [some (.tup (h.map iD)), some (.int a), some (.int b), some (.int c), some (.lst (f.map iD)), some (.int l), o6] = pure (.rt .non)
  | 0, k, f, l, o6, _, _, ⟨i, hi⟩ => by omega
  | n + 1, k, f, l, o6, hk, hf, ⟨i, h3, h4, h5⟩ => by
    have hk' : k < h.length := by omega
    have e := PS_succ h hk'
    have hx := at_h hk'
    rw [List.range'_succ, List.map_cons]
    by_cases h1 : (c : Int) < (h[k] : Nat)
    · refine fl_rt rfl ?_
      unfold b_rests_up_1
      simp! [hx, h1]
    · have hi : k + 1 ≤ i := by
        refine Nat.le_of_not_lt fun z => ?_
        obtain rfl : k = i := by omega
        omega
      by_cases h2 : l < (h[k] : Nat)
      · have ih := up_bad n (k + 1) (f ++ [k]) ((c : Int) - (h[k] : Nat)) (some (.int k)) (by omega) (by rw [List.length_append]; show f.length + 1 + n ≤ 100; omega) ⟨i, hi, by omega, h5⟩
        refine (fl_nx rfl ?_).trans ih
        unfold b_rests_up_1
        simp! [hx, h1, h2]
        rw [List.map_append]
        rfl
      · have ih := up_bad n (k + 1) f (l - (h[k] : Nat)) (some (.int k)) (by omega) (by omega) ⟨i, hi, by omega, h5⟩
        refine (fl_nx rfl ?_).trans ih
        unfold b_rests_up_1
        simp! [hx, h1, h2]
def upD (h : List Nat) (c a b : Nat) : D := match way (PS h) c a b with
  | some l => .lst (l.map iD)
  | none => .non
theorem v_up (ha : a ≤ h.length) (hb : b ≤ h.length) (hl : h.length ≤ 50) : m_rests_up [.tup (h.map iD), .int a, .int b, .int c] = pure (upD h c a b) := by
  unfold m_rests_up g_rests_up upD way
  by_cases hf : fit (PS h) c a b
  · obtain ⟨l, o, e⟩ := up_loop (h := h) (a := a) (b := b) (c := c) (b - a) a a [] none (by omega) (by simp; omega) fun i hi hi' => hf i hi (by omega)
    rw [if_pos hf]
    rw [show (PS h a : Int) + c - PS h a = c by omega] at e
    simp! [es55, rng2]
    rw [show List.map iD [] = [] from rfl] at e
    rw [e]
    simp! []
  · rw [if_neg hf]
    have e := up_bad (h := h) (a := a) (b := b) (c := c) (b - a) a [] c none (by omega) (by simp; omega) (by
      refine Classical.byContradiction fun z => hf fun i hi hi' => Nat.le_of_not_lt fun z' => z ⟨i, hi, by omega, z'⟩)
    simp! [es55, rng2]
    rw [show List.map iD [] = [] from rfl] at e
    rw [e]
    simp! []
end
end L02

namespace L02
open PySem L2 PyProof.Rows P5
local macro_rules | `(tactic| simp! [$ts,*]) => `(tactic| simp (disch := first | assumption | omega | (simp only [List.length_map, List.length_range, List.length_append, List.length_cons, List.length_nil, List.length_replicate, List.length_take, List.length_drop] <;> omega) | exact P5.nr rfl) only [ev1, ev2, ev3, ev4, ev5, ev6, ev7, ev8, ev9, ev10, ev11, ev12, ev13, ev14, ev15, ev16, ev17, ev18, ev19, ev20, ev21, ev22, ev23, ev24, ev25, ev26, ev27, ev28, ev29, ev30, ev31, ev32, ev33, ev34, ev37, ev40, ev41, ev42, ev45, ev46, ev49, ev52, ev53, ev56, ev57, ev58, ev59, ev60, ev61, ev62, ev63, ev64, ev65, ev66, ev67, ev68, ev69, ev70, ev71, ev72, ev73, ev74, ev75, ev76, ev77, ev78, ev79, ev80, ev81, ev82, ev83, ev84, ev85, ev86, ev87, ev88, ev89, ev90, ev91, ev92, ev93, ev94, ev95, ev96, ev97, ev98, ev99, ev100, ev101, ev102, ev103, ev104, ev105, ev106, ev107, ev108, ev109, es1, es2, es3, es4, es5, es6, es7, es8, es9, es10, es11, es12, es13, es14, es15, es16, es17, es18, es19, es20, es21, es22, es23, es24, es25, es26, es27, es28, es29, es30, es31, es32, es33, es34, es35, es36, es37, es38, es39, es40, es41, es42, es43, es44, es45, es46, es47, es48, es49, es50, es51, es52, es53, es54, es56, es57, es58, es59, es60, es61, es62, es63, es64, es65, es66, es67, es68, es69, es70, es71, es72, es73, es74, es75, es77, es78, es79, es80, el1, el2, el4, el5, el6, el7, el8, el9, es82, es83, es84, es85, es86, es87, es88, es89, es90, es95, es96, es97, eh1, eh2, eh3, eo1, eo2, eo3, eo4, eo5, eo6, eo7, eo8, eo9, eo10, eo11, eo12, eo13, eo14, eo15, eo16, eo17, eo18, eo19, eo20, ei1, ei2, ei3, ei4, ei5, ei6, ei7, ei8, ei9, ei10, ei11, ei12, ei13, ei14, ei15, ei16, ei17, ei18, ei19, ei20, ei21, ei22, ei23, ei24, ei25, ei26, ei27, ei28, ei29, ei30, ei31, ei32, ei33, ei34, ei35, ei36, ei37, ei38, ei39, ei40, ei41, ei42, er1, er2, er3, er4, er5, er6, er7, er8, er9, er10, er11, er12, er13, er14, er15, er16, er17, er18, er19, er20, er21, er22, er23, er24, er25, er26, er27, er28, ek1, ek2, ek3, ek4, ek5, ek6, ek7, ek8, ek9, ek10, ek11, ek12, ek13, ek14, ek15, ek16, ek17, ek18, ek19, ek20, ek21, ek22, ek23, ek24, eo21, eo22, eo23, es98, ev111, opEq_int, opNe_int, opLt_int, opGt_int, opAdd_int, opSub_int, List.getElem?_cons_zero, List.getElem?_cons_succ, List.set_cons_zero, List.set_cons_succ, Bool.not_true, Bool.not_false, Bool.and_true, Bool.true_and, Bool.false_and, Bool.and_false, List.contains_nil, decide_true, decide_false, List.nil_append, List.append_nil, List.cons_append, List.contains_cons, Bool.false_or, Bool.true_or, Bool.or_false, Bool.or_true, Bool.false_eq_true, reduceIte, List.all_cons, List.all_nil, List.any_cons, List.any_nil, id_eq, Bool.not_not, Bool.and_self, Bool.or_self, Nat.reduceAdd, Nat.reduceBEq, Nat.reduceSub, beq_self_eq_true, $ts,*])
local macro_rules | `(tactic| dsimp! [$ts,*]) => `(tactic| simp (disch := first | assumption | omega | (simp only [List.length_map, List.length_range, List.length_append, List.length_cons, List.length_nil, List.length_replicate, List.length_take, List.length_drop] <;> omega) | exact P5.nr rfl) only [ev1, ev2, ev3, ev4, ev5, ev6, ev7, ev8, ev9, ev10, ev11, ev12, ev13, ev14, ev15, ev16, ev17, ev18, ev19, ev20, ev21, ev22, ev23, ev24, ev25, ev26, ev27, ev28, ev29, ev30, ev31, ev32, ev33, ev34, ev37, ev40, ev41, ev42, ev45, ev46, ev49, ev52, ev53, ev56, ev57, ev58, ev59, ev60, ev61, ev62, ev63, ev64, ev65, ev66, ev67, ev68, ev69, ev70, ev71, ev72, ev73, ev74, ev75, ev76, ev77, ev78, ev79, ev80, ev81, ev82, ev83, ev84, ev85, ev86, ev87, ev88, ev89, ev90, ev91, ev92, ev93, ev94, ev95, ev96, ev97, ev98, ev99, ev100, ev101, ev102, ev103, ev104, ev105, ev106, ev107, ev108, ev109, es1, es2, es3, es4, es5, es6, es7, es8, es9, es10, es11, es12, es13, es14, es15, es16, es17, es18, es19, es20, es21, es22, es23, es24, es25, es26, es27, es28, es29, es30, es31, es32, es33, es34, es35, es36, es37, es38, es39, es40, es41, es42, es43, es44, es45, es46, es47, es48, es49, es50, es51, es52, es53, es54, es56, es57, es58, es59, es60, es61, es62, es63, es64, es65, es66, es67, es68, es69, es70, es71, es72, es73, es74, es75, es77, es78, es79, es80, el1, el2, el4, el5, el6, el7, el8, el9, es82, es83, es84, es85, es86, es87, es88, es89, es90, es95, es96, es97, eh1, eh2, eh3, eo1, eo2, eo3, eo4, eo5, eo6, eo7, eo8, eo9, eo10, eo11, eo12, eo13, eo14, eo15, eo16, eo17, eo18, eo19, eo20, ei1, ei2, ei3, ei4, ei5, ei6, ei7, ei8, ei9, ei10, ei11, ei12, ei13, ei14, ei15, ei16, ei17, ei18, ei19, ei20, ei21, ei22, ei23, ei24, ei25, ei26, ei27, ei28, ei29, ei30, ei31, ei32, ei33, ei34, ei35, ei36, ei37, ei38, ei39, ei40, ei41, ei42, er1, er2, er3, er4, er5, er6, er7, er8, er9, er10, er11, er12, er13, er14, er15, er16, er17, er18, er19, er20, er21, er22, er23, er24, er25, er26, er27, er28, ek1, ek2, ek3, ek4, ek5, ek6, ek7, ek8, ek9, ek10, ek11, ek12, ek13, ek14, ek15, ek16, ek17, ek18, ek19, ek20, ek21, ek22, ek23, ek24, eo21, eo22, eo23, es98, ev111, opEq_int, opNe_int, opLt_int, opGt_int, opAdd_int, opSub_int, List.getElem?_cons_zero, List.getElem?_cons_succ, List.set_cons_zero, List.set_cons_succ, Bool.not_true, Bool.not_false, Bool.and_true, Bool.true_and, Bool.false_and, Bool.and_false, List.contains_nil, decide_true, decide_false, List.nil_append, List.append_nil, List.cons_append, List.contains_cons, Bool.false_or, Bool.true_or, Bool.or_false, Bool.or_true, Bool.false_eq_true, reduceIte, List.all_cons, List.all_nil, List.any_cons, List.any_nil, id_eq, Bool.not_not, Bool.and_self, Bool.or_self, Nat.reduceAdd, Nat.reduceBEq, Nat.reduceSub, beq_self_eq_true, ew1, ew2, ew3, ew4, ew5, ew6, ew7, ew9, ew10, ew11, ew15, ew16, ew17, ew18, ew19, ew20, ew21, ew22, ew23, ew24, ew26, ew28, ew29, ew30, ew31, ew32, ew34, ew35, ew36, ew37, ew40, ew41, ew42, ew43, ew44, ew45, ew46, ew47, ew48, ew49, ew50, ew51, ew52, ew53, ew54, ew55, ew56, ew57, ew58, ew59, and_false, $ts,*])
section
variable {h : List Nat} {a b c : Nat}
def wayD : Option (List Nat) → D
  | some l => .tup (l.map iD)
  | none => .non
def cntD : Option (List Nat) → D
  | some l => .int l.length
  | none => .non
theorem gr_len {P : Nat → Nat} {b : Nat} : ∀ n s k, (gr P b n s k).length ≤ n
  | 0, _, _ => Nat.le_refl _
  | n + 1, s, k => by
    rw [gr_succ]
    split
    · have := gr_len (P := P) (b := b) n k (k + 1)
      rw [List.length_cons]
      omega
    · have := gr_len (P := P) (b := b) n s (k + 1)
      omega
theorem v_floors (ha : a ≤ h.length) (hb : b ≤ h.length) (hl : h.length ≤ 50) : m_rest_floors [.tup (h.map iD), .int a, .int b, .int c] = pure (wayD (way (PS h) c a b)) := by
  unfold m_rest_floors g_rest_floors
  simp! [es55, v_need h ha hb, v_up ha hb hl]
  unfold upD
  cases way (PS h) c a b <;> simp! [] <;> rfl
theorem v_fewest (ha : a ≤ h.length) (hb : b ≤ h.length) (hl : h.length ≤ 50) : m_fewest_rests [.tup (h.map iD), .int a, .int b, .int c] = pure (cntD (way (PS h) c a b)) := by
  unfold m_fewest_rests g_fewest_rests
  simp! [es55, v_floors ha hb hl]
  cases way (PS h) c a b
  · unfold wayD
    simp! []
    rfl
  · unfold wayD
    simp! [List.length_map]
    rfl
theorem v_floors1 {d : D} (hd : noFl h d) (hb : b ≤ h.length) : m_rest_floors [.tup (h.map iD), d, .int b, .int c] = M.raise flErr := by
  unfold m_rest_floors g_rest_floors
  simp! [es55, v_need1 hd hb]
theorem v_floors2 {d : D} (hd : noFl h d) (hb : b ≤ h.length) : m_rest_floors [.tup (h.map iD), .int b, d, .int c] = M.raise flErr := by
  unfold m_rest_floors g_rest_floors
  simp! [es55, v_need2 hd hb]
theorem v_fewest2 {d : D} (hd : noFl h d) (hb : b ≤ h.length) : m_fewest_rests [.tup (h.map iD), .int b, d, .int c] = M.raise flErr := by
  unfold m_fewest_rests g_fewest_rests
  simp! [es55, v_floors2 (c := c) hd hb]
theorem v_least2 {d : D} (hd : noFl h d) (hb : b ≤ h.length) : m_least_breath [.tup (h.map iD), .int b, d, .int c] = M.raise flErr := by
  unfold m_least_breath g_least_breath
  simp! [es55, v_need2 hd hb]
theorem v_steps1 {d : D} (hd : noFl h d) (hb : b ≤ h.length) : m_steps_between [.tup (h.map iD), d, .int b] = M.raise flErr := by
  unfold m_steps_between g_steps_between
  simp! [es55, v_need1 hd hb]
def enough (h : List Nat) (a b r c : Nat) : Prop := fit (PS h) c a b ∧ (gr (PS h) c (b - a) a a).length ≤ r
theorem enough_mono {r c c' : Nat} (hab : a < b) (hc : c ≤ c') (e : enough h a b r c) : enough h a b r c' :=
  ⟨fit_more hc e.1, Nat.le_trans (way_mono (PS_mono h) hc e.1 hab) e.2⟩
theorem enough_all {r c : Nat} (hab : a < b) (hc : bt h a b ≤ c) : enough h a b r c := by
  have e := bt_PS h (Nat.le_of_lt hab)
  obtain ⟨h1, h2⟩ := way_full (P := PS h) (b := c) (PS_mono h) hab (by omega)
  exact ⟨h1, by rw [h2]; exact Nat.zero_le _⟩
theorem test_up {r m : Nat} : (∃ l : List Nat, upD h m a b = .lst (l.map iD) ∧ (enough h a b r m ↔ l.length ≤ r)) ∨ (upD h m a b = .non ∧ ¬ enough h a b r m) := by
  unfold upD way
  by_cases f : fit (PS h) m a b
  · rw [if_pos f]
    exact .inl ⟨_, rfl, ⟨fun e => e.2, fun e => ⟨f, e⟩⟩⟩
  · rw [if_neg f]
    exact .inr ⟨rfl, fun e => f e.1⟩
theorem half {x y : Nat} (h : x + y < 1000000) : opDiv (.int ((x : Int) + (y : Int))) (.int 2) = some (.int ((x + y) / 2 : Nat)) := by
  rw [opDiv_int (by decide)]
  refine congrArg (fun i => some (D.int i)) ?_
  rw [Int.fdiv_eq_ediv_of_nonneg _ (by decide)]
  omega
theorem least_loop {r : Nat} (ha : a ≤ h.length) (hb : b ≤ h.length) (hl : h.length ≤ 50) (mono : ∀ c c', c ≤ c' → enough h a b r c → enough h a b r c') : ∀ (n lo hi : Nat) (o6 o7 : Option D), hi - lo ≤ n → 1 ≤ lo → lo ≤ hi → hi ≤ 100000 → enough h a b r hi → (∀ c, 1 ≤ c → c < lo → ¬ enough h a b r c) →
    ∃ (m : Nat) (o6' o7' : Option D), sWhile w_least_breath_1 b_least_breath_1 [some (.tup (h.map iD)), some (.int a), some (.int b), some (.int r), some (.int lo), some (.int hi), o6, o7] =
      pure (.nx [some (.tup (h.map iD)), some (.int a), some (.int b), some (.int r), some (.int m), some (.int m), o6', o7']) ∧ 1 ≤ m ∧ m ≤ hi ∧ enough h a b r m ∧ (∀ c, 1 ≤ c → c < m → ¬ enough h a b r c)
  | n, lo, hi, o6, o7, hn, h1, h2, h3, he, hlo => by
    by_cases c : lo < hi
    · match n with
      | 0 => omega
      | n + 1 =>
        have hc : (lo : Int) < hi := by omega
        have hm : (lo + hi) / 2 < hi := by omega
        have hm' : lo ≤ (lo + hi) / 2 := by omega
        have hgo : w_least_breath_1 [some (.tup (h.map iD)), some (.int a), some (.int b), some (.int r), some (.int lo), some (.int hi), o6, o7] = pure true := by
          unfold w_least_breath_1
          simp! [hc]
        by_cases e : enough h a b r ((lo + hi) / 2)
        · rcases test_up (h := h) (a := a) (b := b) (r := r) (m := (lo + hi) / 2) with ⟨l, hu, hq⟩ | ⟨_, hq⟩
          · have hq' : (l.length : Int) ≤ r := by
              have := hq.mp e
              omega
            obtain ⟨m, p6, p7, ih, i1, i2, i3, i4⟩ := least_loop ha hb hl mono n lo ((lo + hi) / 2) (some (.int ((lo + hi) / 2 : Nat))) (some (.lst (l.map iD))) (by omega) h1 hm' (by omega) e hlo
            refine ⟨m, p6, p7, (while_go hgo ?_).trans ih, i1, by omega, i3, i4⟩
            unfold b_least_breath_1
            simp! [half (x := lo) (y := hi) (by omega), v_up ha hb hl, hu, List.length_map, hq']
          · exact absurd e hq
        · obtain ⟨m, p6, p7, ih, i1, i2, i3, i4⟩ := least_loop ha hb hl mono n ((lo + hi) / 2 + 1) hi (some (.int ((lo + hi) / 2 : Nat))) (some (upD h ((lo + hi) / 2) a b)) (by omega) (by omega) (by omega) h3 he (by
            intro c' h4 h5 h6
            exact e (mono _ _ (by omega) h6))
          refine ⟨m, p6, p7, (while_go hgo ?_).trans ih, i1, by omega, i3, i4⟩
          rcases test_up (h := h) (a := a) (b := b) (r := r) (m := (lo + hi) / 2) with ⟨l, hu, hq⟩ | ⟨hu, _⟩
          · have hq' : ¬ (l.length : Int) ≤ r := fun z => e (hq.mpr (by omega))
            unfold b_least_breath_1
            simp! [half (x := lo) (y := hi) (by omega), v_up ha hb hl, hu, List.length_map, hq']
            rfl
          · unfold b_least_breath_1
            simp! [half (x := lo) (y := hi) (by omega), v_up ha hb hl, hu]
            rfl
    · obtain rfl : lo = hi := by omega
      refine ⟨lo, o6, o7, while_stop ?_, h1, Nat.le_refl _, he, hlo⟩
      have hc : ¬ (lo : Int) < lo := by omega
      unfold w_least_breath_1
      simp! [hc]
theorem PS_le9 (h9 : ∀ x ∈ h, x ≤ 9) (k : Nat) : PS h k ≤ 9 * h.length := by
  unfold PS
  have : ∀ l : List Nat, (∀ x ∈ l, x ≤ 9) → l.sum ≤ 9 * l.length := by
    intro l
    induction l with
    | nil => intro _; exact Nat.zero_le _
    | cons x l ih =>
      intro hh
      have := ih fun y hy => hh y (List.mem_cons_of_mem _ hy)
      have := hh x List.mem_cons_self
      rw [List.sum_cons, List.length_cons]
      omega
  have h1 := this (h.take k) fun x hx => h9 x (List.mem_of_mem_take hx)
  have h2 : (h.take k).length ≤ h.length := by
    rw [List.length_take]
    omega
  omega
theorem v_least {r : Nat} (ha : a ≤ h.length) (hb : b ≤ h.length) (hl : h.length ≤ 6) (h9 : ∀ x ∈ h, x ≤ 9) : ∃ m : Nat, m_least_breath [.tup (h.map iD), .int a, .int b, .int r] = pure (.int m) ∧ 1 ≤ m ∧ m < 60 ∧ (a < b → enough h a b r m ∧ ∀ c, 1 ≤ c → c < m → ¬ enough h a b r c) ∧ (b ≤ a → m = 1) := by
  have hbt : bt h a b ≤ 54 := by
    rcases Nat.le_total a b with c | c
    · have := bt_PS h c
      have := PS_le9 h9 b
      omega
    · have e : bt h a b = bt h b a := by
        unfold bt
        rw [Nat.min_comm, Nat.max_comm]
      have := bt_PS h c
      have := PS_le9 h9 a
      omega
  have mono : ∀ c c', c ≤ c' → enough h a b r c → enough h a b r c' := fun c c' hc e => by
    by_cases hab : a < b
    · exact enough_mono hab hc e
    · exact ⟨fun i hi hi' => by omega, by rw [show b - a = 0 by omega]; exact Nat.zero_le _⟩
  have hen : enough h a b r (max 1 (bt h a b)) := by
    by_cases hab : a < b
    · exact enough_all hab (by omega)
    · exact ⟨fun i hi hi' => by omega, by rw [show b - a = 0 by omega]; exact Nat.zero_le _⟩
  have hx : max (1 : Int) (bt h a b) = ((max 1 (bt h a b) : Nat) : Int) := by omega
  obtain ⟨m, p6, p7, e, h1, h2, h3, h4⟩ := least_loop (h := h) (a := a) (b := b) (r := r) ha hb (by omega) mono (max 1 (bt h a b)) 1 (max 1 (bt h a b)) none none (by omega) (Nat.le_refl _) (by omega) (by omega) hen (fun c _ _ => by omega)
  have e' : sWhile w_least_breath_1 b_least_breath_1 [some (.tup (h.map iD)), some (.int a), some (.int b), some (.int r), some (.int 1), some (.int (max 1 (bt h a b) : Nat)), none, none] = _ := e
  by_cases hab : a < b
  · refine ⟨m, ?_, h1, by omega, fun _ => ⟨h3, h4⟩, fun z => by omega⟩
    have hab' : (a : Int) < b := by omega
    unfold m_least_breath g_least_breath
    simp! [es55, v_need h ha hb, v_way, hx, e', hab']
  · refine ⟨1, ?_, by omega, by omega, fun z => absurd z hab, fun _ => rfl⟩
    have hab' : ¬ (a : Int) < b := by omega
    unfold m_least_breath g_least_breath
    simp! [es55, v_need h ha hb, v_way, hx, e', hab']
    rfl
end
end L02

namespace L02
open PySem L2 PyProof.Rows P5
local macro_rules | `(tactic| simp! [$ts,*]) => `(tactic| simp (disch := first | assumption | omega | (simp only [List.length_map, List.length_range, List.length_append, List.length_cons, List.length_nil, List.length_replicate, List.length_take, List.length_drop] <;> omega) | exact P5.nr rfl) only [ev1, ev2, ev3, ev4, ev5, ev6, ev7, ev8, ev9, ev10, ev11, ev12, ev13, ev14, ev15, ev16, ev17, ev18, ev19, ev20, ev21, ev22, ev23, ev24, ev25, ev26, ev27, ev28, ev29, ev30, ev31, ev32, ev33, ev34, ev37, ev40, ev41, ev42, ev45, ev46, ev49, ev52, ev53, ev56, ev57, ev58, ev59, ev60, ev61, ev62, ev63, ev64, ev65, ev66, ev67, ev68, ev69, ev70, ev71, ev72, ev73, ev74, ev75, ev76, ev77, ev78, ev79, ev80, ev81, ev82, ev83, ev84, ev85, ev86, ev87, ev88, ev89, ev90, ev91, ev92, ev93, ev94, ev95, ev96, ev97, ev98, ev99, ev100, ev101, ev102, ev103, ev104, ev105, ev106, ev107, ev108, ev109, es1, es2, es3, es4, es5, es6, es7, es8, es9, es10, es11, es12, es13, es14, es15, es16, es17, es18, es19, es20, es21, es22, es23, es24, es25, es26, es27, es28, es29, es30, es31, es32, es33, es34, es35, es36, es37, es38, es39, es40, es41, es42, es43, es44, es45, es46, es47, es48, es49, es50, es51, es52, es53, es54, es56, es57, es58, es59, es60, es61, es62, es63, es64, es65, es66, es67, es68, es69, es70, es71, es72, es73, es74, es75, es77, es78, es79, es80, el1, el2, el4, el5, el6, el7, el8, el9, es82, es83, es84, es85, es86, es87, es88, es89, es90, es95, es96, es97, eh1, eh2, eh3, eo1, eo2, eo3, eo4, eo5, eo6, eo7, eo8, eo9, eo10, eo11, eo12, eo13, eo14, eo15, eo16, eo17, eo18, eo19, eo20, ei1, ei2, ei3, ei4, ei5, ei6, ei7, ei8, ei9, ei10, ei11, ei12, ei13, ei14, ei15, ei16, ei17, ei18, ei19, ei20, ei21, ei22, ei23, ei24, ei25, ei26, ei27, ei28, ei29, ei30, ei31, ei32, ei33, ei34, ei35, ei36, ei37, ei38, ei39, ei40, ei41, ei42, er1, er2, er3, er4, er5, er6, er7, er8, er9, er10, er11, er12, er13, er14, er15, er16, er17, er18, er19, er20, er21, er22, er23, er24, er25, er26, er27, er28, ek1, ek2, ek3, ek4, ek5, ek6, ek7, ek8, ek9, ek10, ek11, ek12, ek13, ek14, ek15, ek16, ek17, ek18, ek19, ek20, ek21, ek22, ek23, ek24, eo21, eo22, eo23, es98, ev111, opEq_int, opNe_int, opLt_int, opGt_int, opAdd_int, opSub_int, List.getElem?_cons_zero, List.getElem?_cons_succ, List.set_cons_zero, List.set_cons_succ, Bool.not_true, Bool.not_false, Bool.and_true, Bool.true_and, Bool.false_and, Bool.and_false, List.contains_nil, decide_true, decide_false, List.nil_append, List.append_nil, List.cons_append, List.contains_cons, Bool.false_or, Bool.true_or, Bool.or_false, Bool.or_true, Bool.false_eq_true, reduceIte, List.all_cons, List.all_nil, List.any_cons, List.any_nil, id_eq, Bool.not_not, Bool.and_self, Bool.or_self, Nat.reduceAdd, Nat.reduceBEq, Nat.reduceSub, beq_self_eq_true, $ts,*])
local macro_rules | `(tactic| dsimp! [$ts,*]) => `(tactic| simp (disch := first | assumption | omega | (simp only [List.length_map, List.length_range, List.length_append, List.length_cons, List.length_nil, List.length_replicate, List.length_take, List.length_drop] <;> omega) | exact P5.nr rfl) only [ev1, ev2, ev3, ev4, ev5, ev6, ev7, ev8, ev9, ev10, ev11, ev12, ev13, ev14, ev15, ev16, ev17, ev18, ev19, ev20, ev21, ev22, ev23, ev24, ev25, ev26, ev27, ev28, ev29, ev30, ev31, ev32, ev33, ev34, ev37, ev40, ev41, ev42, ev45, ev46, ev49, ev52, ev53, ev56, ev57, ev58, ev59, ev60, ev61, ev62, ev63, ev64, ev65, ev66, ev67, ev68, ev69, ev70, ev71, ev72, ev73, ev74, ev75, ev76, ev77, ev78, ev79, ev80, ev81, ev82, ev83, ev84, ev85, ev86, ev87, ev88, ev89, ev90, ev91, ev92, ev93, ev94, ev95, ev96, ev97, ev98, ev99, ev100, ev101, ev102, ev103, ev104, ev105, ev106, ev107, ev108, ev109, es1, es2, es3, es4, es5, es6, es7, es8, es9, es10, es11, es12, es13, es14, es15, es16, es17, es18, es19, es20, es21, es22, es23, es24, es25, es26, es27, es28, es29, es30, es31, es32, es33, es34, es35, es36, es37, es38, es39, es40, es41, es42, es43, es44, es45, es46, es47, es48, es49, es50, es51, es52, es53, es54, es56, es57, es58, es59, es60, es61, es62, es63, es64, es65, es66, es67, es68, es69, es70, es71, es72, es73, es74, es75, es77, es78, es79, es80, el1, el2, el4, el5, el6, el7, el8, el9, es82, es83, es84, es85, es86, es87, es88, es89, es90, es95, es96, es97, eh1, eh2, eh3, eo1, eo2, eo3, eo4, eo5, eo6, eo7, eo8, eo9, eo10, eo11, eo12, eo13, eo14, eo15, eo16, eo17, eo18, eo19, eo20, ei1, ei2, ei3, ei4, ei5, ei6, ei7, ei8, ei9, ei10, ei11, ei12, ei13, ei14, ei15, ei16, ei17, ei18, ei19, ei20, ei21, ei22, ei23, ei24, ei25, ei26, ei27, ei28, ei29, ei30, ei31, ei32, ei33, ei34, ei35, ei36, ei37, ei38, ei39, ei40, ei41, ei42, er1, er2, er3, er4, er5, er6, er7, er8, er9, er10, er11, er12, er13, er14, er15, er16, er17, er18, er19, er20, er21, er22, er23, er24, er25, er26, er27, er28, ek1, ek2, ek3, ek4, ek5, ek6, ek7, ek8, ek9, ek10, ek11, ek12, ek13, ek14, ek15, ek16, ek17, ek18, ek19, ek20, ek21, ek22, ek23, ek24, eo21, eo22, eo23, es98, ev111, opEq_int, opNe_int, opLt_int, opGt_int, opAdd_int, opSub_int, List.getElem?_cons_zero, List.getElem?_cons_succ, List.set_cons_zero, List.set_cons_succ, Bool.not_true, Bool.not_false, Bool.and_true, Bool.true_and, Bool.false_and, Bool.and_false, List.contains_nil, decide_true, decide_false, List.nil_append, List.append_nil, List.cons_append, List.contains_cons, Bool.false_or, Bool.true_or, Bool.or_false, Bool.or_true, Bool.false_eq_true, reduceIte, List.all_cons, List.all_nil, List.any_cons, List.any_nil, id_eq, Bool.not_not, Bool.and_self, Bool.or_self, Nat.reduceAdd, Nat.reduceBEq, Nat.reduceSub, beq_self_eq_true, ew1, ew2, ew3, ew4, ew5, ew6, ew7, ew9, ew10, ew11, ew15, ew16, ew17, ew18, ew19, ew20, ew21, ew22, ew23, ew24, ew26, ew28, ew29, ew30, ew31, ew32, ew34, ew35, ew36, ew37, ew40, ew41, ew42, ew43, ew44, ew45, ew46, ew47, ew48, ew49, ew50, ew51, ew52, ew53, ew54, ew55, ew56, ew57, ew58, ew59, and_false, $ts,*])
section
variable {h : List Nat} {a b c : Nat}
theorem lots_len2 (F : List (List Nat)) (x : Nat) : (F ++ F.map (· ++ [x])).length = 2 * F.length := by
  rw [List.length_append, List.length_map, Nat.two_mul]
theorem lots_loop (o0 : Option D) : ∀ (l : List Nat) (F : List (List Nat)) (o2 : Option D), F.length * 2 ^ l.length ≤ 100000 → (∀ S ∈ F, S.length + l.length ≤ 100) → ∃ o : Option D,
    forL [] (gdName 2) b__law_lots_1 (l.map iD) [o0, some (.lst (F.map lotD)), o2, none] = pure (.nx [o0, some (.lst ((lotsF F l).map lotD)), o, none])
  | [], F, o2, _, _ => ⟨o2, rfl⟩
  | x :: l, F, o2, hF, hS => by
    rw [List.length_cons, Nat.pow_succ] at hF
    have hF2 : F.length * 2 ≤ 100000 := by
      have : 1 ≤ 2 ^ l.length := Nat.one_le_two_pow
      have : F.length * 2 ≤ F.length * (2 ^ l.length * 2) := Nat.mul_le_mul_left _ (by omega)
      omega
    obtain ⟨o, ih⟩ := lots_loop o0 l (F ++ F.map (· ++ [x])) (some (.int x)) (by rw [lots_len2, Nat.mul_comm 2, Nat.mul_assoc, Nat.mul_comm 2]; exact hF) (by
      intro S hS'
      rcases List.mem_append.mp hS' with z | z
      · have := hS S z
        rw [List.length_cons] at this
        omega
      · obtain ⟨S', z', rfl⟩ := List.mem_map.mp z
        have := hS S' z'
        rw [List.length_cons] at this
        rw [List.length_append, List.length_cons, List.length_nil]
        omega)
    refine ⟨o, (fl_nx rfl ?_).trans ih⟩
    have hc : c__law_lots_1 [o0, some (.lst (F.map lotD)), some (.int x), none] = pure (.lst ((F.map (· ++ [x])).map lotD)) := by
      unfold c__law_lots_1
      simp! []
      rw [lc_map (f := fun S => lotD (S ++ [x])) fun S hS' => ?_, List.map_map]
      · rfl
      · have := hS S hS'
        simp! []
        show pure (D.tup (S.map iD ++ [iD x])) = pure (D.tup ((S ++ [x]).map iD))
        rw [List.map_append]
        rfl
    unfold b__law_lots_1
    simp! [hc]
    rw [List.map_append]
theorem v_lots (l : List Nat) (hl : l.length ≤ 10) : m__law_lots [.lst (l.map iD)] = pure (.lst ((lotsF [[]] l).map lotD)) := by
  obtain ⟨o, e⟩ := lots_loop (some (.lst (l.map iD))) l [[]] none (by
    have : 2 ^ l.length ≤ 2 ^ 10 := Nat.pow_le_pow_right (by decide) hl
    show 1 * _ ≤ _
    omega) (by
    intro S hS
    rw [List.mem_singleton.mp hS]
    show 0 + l.length ≤ 100
    omega)
  unfold m__law_lots g__law_lots
  simp! [es55]
  have e' : forL [] (gdName 2) b__law_lots_1 (l.map iD) [some (.lst (l.map iD)), some (.lst [.tup []]), none, none] = _ := e
  rw [e']
  simp! []
def okB (h : List Nat) (c : Nat) (a : Nat) (S : List Nat) (b : Nat) : Bool := ((a :: S ++ [b]).zip (S ++ [b])).all fun p => decide (bt h p.1 p.2 ≤ c)
theorem okB_iff : ∀ (S : List Nat) (a : Nat), (a :: S ++ [b]).Pairwise (· < ·) → (okB h c a S b = true ↔ okS (PS h) c a S b)
  | [], a, hp => by
    have hab : a < b := (List.pairwise_cons.mp hp).1 b (by simp)
    have := bt_PS h (Nat.le_of_lt hab)
    show (decide (bt h a b ≤ c) && true) = true ↔ PS h b ≤ PS h a + c
    rw [Bool.and_true, decide_eq_true_iff]
    omega
  | t :: S, a, hp => by
    obtain ⟨h1, h2⟩ := List.pairwise_cons.mp (show ((a :: (t :: S ++ [b])).Pairwise (· < ·)) from hp)
    have hat : a < t := h1 t (by simp)
    have := bt_PS h (Nat.le_of_lt hat)
    have ih := okB_iff S t h2
    show (decide (bt h a t ≤ c) && okB h c t S b) = true ↔ PS h t ≤ PS h a + c ∧ okS (PS h) c t S b
    rw [Bool.and_eq_true, decide_eq_true_iff, ih]
    have : bt h a t ≤ c ↔ PS h t ≤ PS h a + c := by omega
    rw [this]
theorem rests_loop (hab : a < b) (o7 o8 : Option D) : ∀ (Ls : List (List Nat)) (G : List Nat) (o5 o6 : Option D), G.length + Ls.length ≤ 10000 → (∀ S ∈ Ls, S.length ≤ 100) → ∃ p5 p6 : Option D,
    forL [] (gdName 5) b__law_rests_1 (Ls.map lotD) [some (.tup (h.map iD)), some (.int a), some (.int b), some (.int c), some (.lst (G.map iD)), o5, o6, o7, o8] =
      pure (.nx [some (.tup (h.map iD)), some (.int a), some (.int b), some (.int c), some (.lst ((G ++ (Ls.filter fun S => okB h c a S b).map List.length).map iD)), p5, p6, o7, o8])
  | [], G, o5, o6, _, _ => ⟨o5, o6, by
    show pure (Fl.nx [_, _, _, _, some (.lst (G.map iD)), _, _, _, _]) = pure (Fl.nx [_, _, _, _, some (.lst ((G ++ []).map iD)), _, _, _, _])
    rw [List.append_nil]⟩
  | S :: Ls, G, o5, o6, hG, hS => by
    rw [List.length_cons] at hG
    have hS1 := hS S List.mem_cons_self
    obtain ⟨p5, p6, ih⟩ := rests_loop hab o7 o8 Ls (G ++ if okB h c a S b = true then [S.length] else []) (some (lotD S)) (some (.lst ((a :: S ++ [b]).map iD))) (by
      rw [List.length_append]
      split
      · rw [List.length_cons, List.length_nil]
        omega
      · rw [List.length_nil]
        omega) fun S' h' => hS S' (List.mem_cons_of_mem _ h')
    refine ⟨p5, p6, (fl_nx rfl ?_).trans (ih.trans ?_)⟩
    · have hst : (D.int a :: (S.map iD ++ [D.int b])) = (a :: (S ++ [b])).map iD := by
        rw [List.map_cons, List.map_append]
        rfl
      have hc : c__law_rests_1 [some (.tup (h.map iD)), some (.int a), some (.int b), some (.int c), some (.lst (G.map iD)), some (lotD S), some (.lst ((a :: (S ++ [b])).map iD)), o7, o8] =
          pure (.lst ((((a :: (S ++ [b])).zip (S ++ [b])).filter fun p => decide (c < bt h p.1 p.2)).map fun _ => .int 1)) := by
        have hd : P5.cutD ((a :: (S ++ [b])).map iD) (some 1) none = (S ++ [b]).map iD := cut_drop _ 1
        unfold c__law_rests_1
        simp! [opZip_lst, hd, zip_pairs]
        rw [lc_filter2 (h := fun p : Nat × Nat => iD p.1) (h2 := fun p : Nat × Nat => iD p.2) (f := fun _ => .int 1) (p := fun p : Nat × Nat => decide (c < bt h p.1 p.2)) fun p hp => ?_]
        · simp! []
        · refine ⟨?_, fun _ => rfl⟩
          simp! [v_between]
          rw [decide_eq_decide.mpr Int.ofNat_lt]
      have ho : ((((a :: (S ++ [b])).zip (S ++ [b])).filter fun p => decide (c < bt h p.1 p.2)).isEmpty) = okB h c a S b := by
        unfold okB
        rw [Bool.eq_iff_iff, List.isEmpty_iff, List.filter_eq_nil_iff, List.all_eq_true]
        refine forall_congr' fun p => forall_congr' fun _ => ?_
        rw [decide_eq_true_iff, decide_eq_true_iff]
        omega
      unfold b__law_rests_1
      simp! [hst, hc, ho, mulBool, List.length_map]
      cases okB h c a S b
      · simp! [reduceIte]
      · simp! [List.map_append, List.map_cons, List.map_nil]
    · rw [List.filter_cons]
      cases okB h c a S b
      · simp
      · simp
theorem v_rests (ha : a ≤ h.length) (hb : b ≤ h.length) (hl : h.length ≤ 6) : m__law_rests [.tup (h.map iD), .int a, .int b, .int c] = pure (if a < b then cntD (way (PS h) c a b) else .int 0) := by
  unfold m__law_rests g__law_rests
  by_cases hab : a < b
  · have h1 : ¬ (b : Int) ≤ a := by omega
    have hr : opLstRg [.int ((a : Int) + 1), .int b] = some (.lst ((List.range' (a + 1) (b - (a + 1))).map iD)) := rgL (a := a + 1) (b := b) (by omega) (by omega)
    have hlen : (List.range' (a + 1) (b - (a + 1))).length ≤ 10 := by
      rw [List.length_range']
      omega
    have hsub : ∀ S, S ∈ lotsF [[]] (List.range' (a + 1) (b - (a + 1))) ↔ S.Sublist (List.range' (a + 1) (b - (a + 1))) := fun S => by
      rw [mem_lotsF]
      constructor
      · rintro ⟨A, hA, B, hB, rfl⟩
        rw [List.mem_singleton.mp hA]
        exact hB
      · exact fun z => ⟨[], List.mem_singleton.mpr rfl, S, z, rfl⟩
    have hrise : ∀ S : List Nat, S.Sublist (List.range' (a + 1) (b - (a + 1))) → (a :: S ++ [b]).Pairwise (· < ·) ∧ ∀ t ∈ S, t ≤ b := fun S hS => by
      have hm : ∀ t ∈ S, a < t ∧ t < b := fun t ht => by
        have := List.mem_range'_1.mp (hS.subset ht)
        omega
      refine ⟨List.pairwise_cons.mpr ⟨fun t ht => ?_, List.pairwise_append.mpr ⟨List.Pairwise.sublist hS List.pairwise_lt_range', List.pairwise_singleton _ _, fun x hx y hy => ?_⟩⟩, fun t ht => by have := hm t ht; omega⟩
      · rcases List.mem_append.mp ht with ht | ht
        · exact (hm t ht).1
        · rw [List.mem_singleton.mp ht]
          exact hab
      · rw [List.mem_singleton.mp hy]
        exact (hm x hx).2
    obtain ⟨p5, p6, e⟩ := rests_loop (h := h) (a := a) (b := b) (c := c) hab none none (lotsF [[]] (List.range' (a + 1) (b - (a + 1)))) [] none none (by
      rw [lotsF_len]
      have : 2 ^ (List.range' (a + 1) (b - (a + 1))).length ≤ 2 ^ 10 := Nat.pow_le_pow_right (by decide) hlen
      show 0 + 1 * _ ≤ _
      omega) (fun S hS => by
      have := ((hsub S).mp hS).length_le
      omega)
    rw [if_pos hab]
    simp! [es55, h1, hr, v_lots _ hlen]
    have e' : forL [] (gdName 5) b__law_rests_1 ((lotsF [[]] (List.range' (a + 1) (b - (a + 1)))).map lotD) [some (.tup (h.map iD)), some (.int a), some (.int b), some (.int c), some (.lst []), none, none, none, none] = _ := e
    rw [e']
    by_cases hf : fit (PS h) c a b
    · obtain ⟨w1, w2, w3⟩ := way_ok hf hab
      have hgs : (gr (PS h) c (b - a) a a).Sublist (List.range' (a + 1) (b - (a + 1))) := range'_sub _ _ _ w3 fun x hx => by
        have := w2 x hx
        omega
      have hmem : (gr (PS h) c (b - a) a a).length ∈ ((lotsF [[]] (List.range' (a + 1) (b - (a + 1)))).filter fun S => okB h c a S b).map List.length :=
        List.mem_map.mpr ⟨_, List.mem_filter.mpr ⟨(hsub _).mpr hgs, (okB_iff _ _ (hrise _ hgs).1).mpr w1⟩, rfl⟩
      have hmin : ∀ x ∈ ((lotsF [[]] (List.range' (a + 1) (b - (a + 1)))).filter fun S => okB h c a S b).map List.length, (gr (PS h) c (b - a) a a).length ≤ x := fun x hx => by
        obtain ⟨S, hS, rfl⟩ := List.mem_map.mp hx
        obtain ⟨hS1, hS2⟩ := List.mem_filter.mp hS
        have hS3 := (hsub S).mp hS1
        exact way_best (PS_mono h) hf (by omega) S (hrise S hS3).2 ((okB_iff _ _ (hrise S hS3).1).mp hS2)
      have hne : (((lotsF [[]] (List.range' (a + 1) (b - (a + 1)))).filter fun S => okB h c a S b).map List.length).isEmpty = false := by
        cases hq : ((lotsF [[]] (List.range' (a + 1) (b - (a + 1)))).filter fun S => okB h c a S b).map List.length with
        | nil => rw [hq] at hmem; cases hmem
        | cons => rfl
      generalize ((lotsF [[]] (List.range' (a + 1) (b - (a + 1)))).filter fun S => okB h c a S b).map List.length = G at hmem hmin hne ⊢
      simp! [ne_nilL (ok_lst _), List.isEmpty_map, hne, minT_nats hmem hmin]
      unfold way
      rw [if_pos hf]
      rfl
    · have hnone : ((lotsF [[]] (List.range' (a + 1) (b - (a + 1)))).filter fun S => okB h c a S b) = [] := List.filter_eq_nil_iff.mpr fun S hS z => by
        have hS3 := (hsub S).mp hS
        exact way_none (PS_mono h) hf S (hrise S hS3).2 ((okB_iff _ _ (hrise S hS3).1).mp z)
      rw [hnone]
      simp! [ne_nilL (ok_lst _), List.map_nil, List.isEmpty_nil]
      unfold way
      rw [if_neg hf]
      rfl
  · have h1 : (b : Int) ≤ a := by omega
    rw [if_neg hab]
    simp! [es55, h1]
theorem far_list (hf : fit (PS h) c a b) {s : Nat} (hs : s < b) (hsa : a ≤ s) : ∃ g : Nat, c__law_farthest_1 = c__law_farthest_1 ∧ g ∈ (List.range' (s + 1) (b - s)).filter (fun f => decide (bt h s f ≤ c)) ∧
    (∀ x ∈ (List.range' (s + 1) (b - s)).filter (fun f => decide (bt h s f ≤ c)), x ≤ g) ∧ s < g ∧ g ≤ b ∧ ((g = b ∧ gr (PS h) c (b - s - 1) s (s + 1) = []) ∨ (g < b ∧ gr (PS h) c (b - s - 1) s (s + 1) = g :: gr (PS h) c (b - g - 1) g (g + 1))) := by
  have hk : PS h (s + 1) ≤ PS h s + c := hf s hsa hs
  rcases gr_first (P := PS h) (b := c) (b - s - 1) s (s + 1) hk with ⟨h1, h2⟩ | ⟨g, n', h1, h2, h3, h4, h5⟩
  · refine ⟨b, rfl, List.mem_filter.mpr ⟨List.mem_range'_1.mpr (by omega), decide_eq_true ?_⟩, fun x hx => ?_, hs, Nat.le_refl _, .inl ⟨rfl, h1⟩⟩
    · have := bt_PS h (Nat.le_of_lt hs)
      rw [show s + 1 + (b - s - 1) = b by omega] at h2
      omega
    · have := List.mem_range'_1.mp (List.mem_filter.mp hx).1
      omega
  · refine ⟨g, rfl, List.mem_filter.mpr ⟨List.mem_range'_1.mpr (by omega), decide_eq_true ?_⟩, fun x hx => ?_, by omega, by omega, .inr ⟨by omega, ?_⟩⟩
    · have := bt_PS h (show s ≤ g by omega)
      omega
    · refine Nat.le_of_not_lt fun hgx => ?_
      have hx1 := List.mem_range'_1.mp (List.mem_filter.mp hx).1
      have hx2 := of_decide_eq_true (List.mem_filter.mp hx).2
      have := bt_PS h (show s ≤ x by omega)
      have := PS_mono h (g + 1) x hgx
      omega
    · rw [h1, show n' = b - g - 1 by omega]
theorem far_loop (hb : b ≤ h.length) (hl : h.length ≤ 6) (hf : fit (PS h) c a b) : ∀ (n s : Nat) (f : List Nat) (o6 o7 : Option D), b - s ≤ n → a ≤ s → s ≤ b → f.length + (b - s) ≤ 10 → ∃ p6 : Option D,
    sWhile w__law_farthest_1 b__law_farthest_1 [some (.tup (h.map iD)), some (.int a), some (.int b), some (.int c), some (.int s), some (.lst (f.map iD)), o6, o7] =
      pure (.nx [some (.tup (h.map iD)), some (.int a), some (.int b), some (.int c), some (.int b), some (.lst ((f ++ (if s < b then gr (PS h) c (b - s - 1) s (s + 1) else [])).map iD)), p6, o7])
  | n, s, f, o6, o7, hn, hsa, hsb, hfl => by
    by_cases hs : s < b
    · match n with
      | 0 => omega
      | n + 1 =>
        obtain ⟨g, _, g1, g2, g3, g4, g5⟩ := far_list (h := h) hf hs hsa
        have hgo : w__law_farthest_1 [some (.tup (h.map iD)), some (.int a), some (.int b), some (.int c), some (.int s), some (.lst (f.map iD)), o6, o7] = pure true := by
          have hc : (s : Int) < b := by omega
          unfold w__law_farthest_1
          simp! [hc]
        have hr : opRng2 [.int ((s : Int) + 1), .int ((b : Int) + 1)] = some ((List.range' (s + 1) (b - s)).map iD) := by
          have := rng2 (a := s + 1) (b := b + 1) (by omega) (by omega)
          rw [Nat.add_sub_add_right] at this
          exact this
        have hc : c__law_farthest_1 [some (.tup (h.map iD)), some (.int a), some (.int b), some (.int c), some (.int s), some (.lst (f.map iD)), o6, o7] = pure (.lst (((List.range' (s + 1) (b - s)).filter fun f => decide (bt h s f ≤ c)).map iD)) := by
          unfold c__law_farthest_1
          simp! [hr]
          rw [lc_filter (f := iD) (p := fun f => decide (bt h s f ≤ c)) fun x hx => ?_]
          · simp! []
          · refine ⟨?_, fun _ => ?_⟩
            · simp! [v_between]
              rw [decide_eq_decide.mpr Int.ofNat_le]
            · simp! []
        obtain ⟨p6, ih⟩ := far_loop hb hl hf n g (f ++ if g < b then [g] else []) (some (.int g)) o7 (by omega) (by omega) g4 (by
          rw [List.length_append]
          split
          · rw [List.length_cons, List.length_nil]
            omega
          · rw [List.length_nil]
            omega)
        refine ⟨p6, (while_go hgo ?_).trans (ih.trans ?_)⟩
        · unfold b__law_farthest_1
          rcases g5 with ⟨e, _⟩ | ⟨e, _⟩
          · have hgb : ¬ (g : Int) < b := by omega
            have hgb' : ¬ g < b := by omega
            rw [if_neg hgb', List.append_nil]
            simp! [hc, maxT_nats g1 g2, hgb]
            have := mulBool [.int g] (by show 1 ≤ 1000; decide) false
            rw [if_neg (by decide), if_neg (by decide)] at this
            simp! [this]
          · have hgb : (g : Int) < b := by omega
            rw [if_pos e]
            simp! [hc, maxT_nats g1 g2, hgb]
            have := mulBool [.int g] (by show 1 ≤ 1000; decide) true
            rw [if_pos rfl, if_pos rfl] at this
            simp! [this, List.map_append]
            rfl
        · rw [if_pos hs]
          rcases g5 with ⟨e, e2⟩ | ⟨e, e2⟩
          · rw [if_neg (by omega), if_neg (by omega), e2, List.append_nil]
          · rw [if_pos e, if_pos e, e2, List.append_assoc]
            rfl
    · obtain rfl : s = b := by omega
      refine ⟨o6, (while_stop ?_).trans ?_⟩
      · have hc : ¬ (s : Int) < s := by omega
        unfold w__law_farthest_1
        simp! [hc]
      · rw [if_neg hs, List.append_nil]
theorem v_farthest (hb : b ≤ h.length) (hl : h.length ≤ 6) (hab : a < b) (hf : fit (PS h) c a b) : m__law_farthest [.tup (h.map iD), .int a, .int b, .int c] = pure (.tup ((gr (PS h) c (b - a) a a).map iD)) := by
  have e : gr (PS h) c (b - a) a a = gr (PS h) c (b - a - 1) a (a + 1) := by
    obtain ⟨n, hn⟩ : ∃ n, b - a = n + 1 := ⟨b - a - 1, by omega⟩
    rw [hn]
    have := hf a (Nat.le_refl _) hab
    rw [gr_succ, if_neg (by omega)]
    rfl
  obtain ⟨p6, w⟩ := far_loop (h := h) hb hl hf (b - a) a [] none none (Nat.le_refl _) (Nat.le_refl _) (by omega) (by simp; omega)
  unfold m__law_farthest g__law_farthest
  simp! [es55]
  have w' : sWhile w__law_farthest_1 b__law_farthest_1 [some (.tup (h.map iD)), some (.int a), some (.int b), some (.int c), some (.int a), some (.lst []), none, none] = _ := w
  rw [w', if_pos hab, List.nil_append, e]
  simp! []
end
end L02

namespace L02
open PySem L2 PyProof.Rows P5
local macro_rules | `(tactic| simp! [$ts,*]) => `(tactic| simp (disch := first | assumption | omega | (simp only [List.length_map, List.length_range, List.length_append, List.length_cons, List.length_nil, List.length_replicate, List.length_take, List.length_drop] <;> omega) | exact P5.nr rfl) only [ev1, ev2, ev3, ev4, ev5, ev6, ev7, ev8, ev9, ev10, ev11, ev12, ev13, ev14, ev15, ev16, ev17, ev18, ev19, ev20, ev21, ev22, ev23, ev24, ev25, ev26, ev27, ev28, ev29, ev30, ev31, ev32, ev33, ev34, ev37, ev40, ev41, ev42, ev45, ev46, ev49, ev52, ev53, ev56, ev57, ev58, ev59, ev60, ev61, ev62, ev63, ev64, ev65, ev66, ev67, ev68, ev69, ev70, ev71, ev72, ev73, ev74, ev75, ev76, ev77, ev78, ev79, ev80, ev81, ev82, ev83, ev84, ev85, ev86, ev87, ev88, ev89, ev90, ev91, ev92, ev93, ev94, ev95, ev96, ev97, ev98, ev99, ev100, ev101, ev102, ev103, ev104, ev105, ev106, ev107, ev108, ev109, es1, es2, es3, es4, es5, es6, es7, es8, es9, es10, es11, es12, es13, es14, es15, es16, es17, es18, es19, es20, es21, es22, es23, es24, es25, es26, es27, es28, es29, es30, es31, es32, es33, es34, es35, es36, es37, es38, es39, es40, es41, es42, es43, es44, es45, es46, es47, es48, es49, es50, es51, es52, es53, es54, es56, es57, es58, es59, es60, es61, es62, es63, es64, es65, es66, es67, es68, es69, es70, es71, es72, es73, es74, es75, es77, es78, es79, es80, el1, el2, el4, el5, el6, el7, el8, el9, es82, es83, es84, es85, es86, es87, es88, es89, es90, es95, es96, es97, eh1, eh2, eh3, eo1, eo2, eo3, eo4, eo5, eo6, eo7, eo8, eo9, eo10, eo11, eo12, eo13, eo14, eo15, eo16, eo17, eo18, eo19, eo20, ei1, ei2, ei3, ei4, ei5, ei6, ei7, ei8, ei9, ei10, ei11, ei12, ei13, ei14, ei15, ei16, ei17, ei18, ei19, ei20, ei21, ei22, ei23, ei24, ei25, ei26, ei27, ei28, ei29, ei30, ei31, ei32, ei33, ei34, ei35, ei36, ei37, ei38, ei39, ei40, ei41, ei42, er1, er2, er3, er4, er5, er6, er7, er8, er9, er10, er11, er12, er13, er14, er15, er16, er17, er18, er19, er20, er21, er22, er23, er24, er25, er26, er27, er28, ek1, ek2, ek3, ek4, ek5, ek6, ek7, ek8, ek9, ek10, ek11, ek12, ek13, ek14, ek15, ek16, ek17, ek18, ek19, ek20, ek21, ek22, ek23, ek24, eo21, eo22, eo23, es98, ev111, opEq_int, opNe_int, opLt_int, opGt_int, opAdd_int, opSub_int, List.getElem?_cons_zero, List.getElem?_cons_succ, List.set_cons_zero, List.set_cons_succ, Bool.not_true, Bool.not_false, Bool.and_true, Bool.true_and, Bool.false_and, Bool.and_false, List.contains_nil, decide_true, decide_false, List.nil_append, List.append_nil, List.cons_append, List.contains_cons, Bool.false_or, Bool.true_or, Bool.or_false, Bool.or_true, Bool.false_eq_true, reduceIte, List.all_cons, List.all_nil, List.any_cons, List.any_nil, id_eq, Bool.not_not, Bool.and_self, Bool.or_self, Nat.reduceAdd, Nat.reduceBEq, Nat.reduceSub, beq_self_eq_true, $ts,*])
local macro_rules | `(tactic| dsimp! [$ts,*]) => `(tactic| simp (disch := first | assumption | omega | (simp only [List.length_map, List.length_range, List.length_append, List.length_cons, List.length_nil, List.length_replicate, List.length_take, List.length_drop] <;> omega) | exact P5.nr rfl) only [ev1, ev2, ev3, ev4, ev5, ev6, ev7, ev8, ev9, ev10, ev11, ev12, ev13, ev14, ev15, ev16, ev17, ev18, ev19, ev20, ev21, ev22, ev23, ev24, ev25, ev26, ev27, ev28, ev29, ev30, ev31, ev32, ev33, ev34, ev37, ev40, ev41, ev42, ev45, ev46, ev49, ev52, ev53, ev56, ev57, ev58, ev59, ev60, ev61, ev62, ev63, ev64, ev65, ev66, ev67, ev68, ev69, ev70, ev71, ev72, ev73, ev74, ev75, ev76, ev77, ev78, ev79, ev80, ev81, ev82, ev83, ev84, ev85, ev86, ev87, ev88, ev89, ev90, ev91, ev92, ev93, ev94, ev95, ev96, ev97, ev98, ev99, ev100, ev101, ev102, ev103, ev104, ev105, ev106, ev107, ev108, ev109, es1, es2, es3, es4, es5, es6, es7, es8, es9, es10, es11, es12, es13, es14, es15, es16, es17, es18, es19, es20, es21, es22, es23, es24, es25, es26, es27, es28, es29, es30, es31, es32, es33, es34, es35, es36, es37, es38, es39, es40, es41, es42, es43, es44, es45, es46, es47, es48, es49, es50, es51, es52, es53, es54, es56, es57, es58, es59, es60, es61, es62, es63, es64, es65, es66, es67, es68, es69, es70, es71, es72, es73, es74, es75, es77, es78, es79, es80, el1, el2, el4, el5, el6, el7, el8, el9, es82, es83, es84, es85, es86, es87, es88, es89, es90, es95, es96, es97, eh1, eh2, eh3, eo1, eo2, eo3, eo4, eo5, eo6, eo7, eo8, eo9, eo10, eo11, eo12, eo13, eo14, eo15, eo16, eo17, eo18, eo19, eo20, ei1, ei2, ei3, ei4, ei5, ei6, ei7, ei8, ei9, ei10, ei11, ei12, ei13, ei14, ei15, ei16, ei17, ei18, ei19, ei20, ei21, ei22, ei23, ei24, ei25, ei26, ei27, ei28, ei29, ei30, ei31, ei32, ei33, ei34, ei35, ei36, ei37, ei38, ei39, ei40, ei41, ei42, er1, er2, er3, er4, er5, er6, er7, er8, er9, er10, er11, er12, er13, er14, er15, er16, er17, er18, er19, er20, er21, er22, er23, er24, er25, er26, er27, er28, ek1, ek2, ek3, ek4, ek5, ek6, ek7, ek8, ek9, ek10, ek11, ek12, ek13, ek14, ek15, ek16, ek17, ek18, ek19, ek20, ek21, ek22, ek23, ek24, eo21, eo22, eo23, es98, ev111, opEq_int, opNe_int, opLt_int, opGt_int, opAdd_int, opSub_int, List.getElem?_cons_zero, List.getElem?_cons_succ, List.set_cons_zero, List.set_cons_succ, Bool.not_true, Bool.not_false, Bool.and_true, Bool.true_and, Bool.false_and, Bool.and_false, List.contains_nil, decide_true, decide_false, List.nil_append, List.append_nil, List.cons_append, List.contains_cons, Bool.false_or, Bool.true_or, Bool.or_false, Bool.or_true, Bool.false_eq_true, reduceIte, List.all_cons, List.all_nil, List.any_cons, List.any_nil, id_eq, Bool.not_not, Bool.and_self, Bool.or_self, Nat.reduceAdd, Nat.reduceBEq, Nat.reduceSub, beq_self_eq_true, ew1, ew2, ew3, ew4, ew5, ew6, ew7, ew9, ew10, ew11, ew15, ew16, ew17, ew18, ew19, ew20, ew21, ew22, ew23, ew24, ew26, ew28, ew29, ew30, ew31, ew32, ew34, ew35, ew36, ew37, ew40, ew41, ew42, ew43, ew44, ew45, ew46, ew47, ew48, ew49, ew50, ew51, ew52, ew53, ew54, ew55, ew56, ew57, ew58, ew59, and_false, $ts,*])
def Pl (B : Nat) : Nat → D → Prop
  | 0, d => (tyD d).isSome = true ∧ (∀ xs, d ≠ .ktup xs) ∧ ∀ xs, d = .tup xs → xs.length ≤ B
  | k + 1, d => (tyD d).isSome = true ∧ (∀ xs, d ≠ .ktup xs) ∧ (∀ xs, d = .tup xs → xs.length ≤ B) ∧ ∀ xs, d = .tup xs → ∀ x ∈ xs, Pl B k x
theorem Pl.ty {B k : Nat} {d : D} (h : Pl B k d) : (tyD d).isSome = true := by cases k <;> exact h.1
theorem Pl.nk {B k : Nat} {d : D} (h : Pl B k d) : ∀ xs, d ≠ .ktup xs := by cases k <;> exact h.2.1
theorem Pl.len {B k : Nat} {xs : List D} (h : Pl B k (.tup xs)) : xs.length ≤ B := by
  cases k
  · exact h.2.2 xs rfl
  · exact h.2.2.1 xs rfl
theorem Pl.mem {B k : Nat} {xs : List D} (h : Pl B (k + 1) (.tup xs)) : ∀ x ∈ xs, Pl B k x := h.2.2.2 xs rfl
theorem v_lint (d : D) (h : (tyD d).isSome = true) : m__law_is_int [d] = pure (.bl (isI d)) := v_isInt h
theorem isI_int {d : D} (h : isI d = true) : ∃ i, d = .int i := by
  cases d <;> first | exact ⟨_, rfl⟩ | cases h
theorem v_ints_tup {xs : List D} (h : ∀ x ∈ xs, (tyD x).isSome = true) : m_are_integers [.tup xs] = pure (.bl (xs.all isI)) := by
  unfold m_are_integers g_are_integers
  simp! [es55]
  have e : m_are_all (tab1 "is_integer" 1 m_is_integer) [.tup xs, .fn "is_integer"] = pure (.bl (xs.all isI)) := v_all (x := "is_integer") (fM := m_is_integer) rfl (if_pos rfl) fun y hy => v_isi y (h y hy)
  rw [e]
  simp! []
theorem v_ints_no {d : D} {t : String} (h : tyD d = some t) (h' : isB t "tuple" = false) : m_are_integers [d] = pure (.bl false) := by
  unfold m_are_integers g_are_integers
  simp! [es55]
  have e : m_are_all (tab1 "is_integer" 1 m_is_integer) [d, .fn "is_integer"] = pure (.bl false) := v_all_no h h'
  rw [e]
  simp! []
def inB (l m : Int) : D → Bool
  | .int i => decide (l ≤ i) && decide (i ≤ m)
  | _ => false
def houseT (xs : List D) : Bool := xs.all isI && (decide (1 ≤ xs.length) && decide (xs.length ≤ 12)) && xs.all (inB 1 99)
theorem ints_of : ∀ {xs : List D}, xs.all isI = true → ∃ is : List Int, xs = is.map D.int
  | [], _ => ⟨[], rfl⟩
  | x :: xs, h => by
    rw [List.all_cons, Bool.and_eq_true] at h
    obtain ⟨i, rfl⟩ := isI_int h.1
    obtain ⟨is, rfl⟩ := ints_of h.2
    exact ⟨i :: is, rfl⟩
theorem v_house_tup {xs : List D} (h : ∀ x ∈ xs, (tyD x).isSome = true) : m_is_house [.tup xs] = pure (.bl (houseT xs)) := by
  unfold m_is_house g_is_house houseT
  simp! [es55, v_ints_tup h]
  cases hi : xs.all isI
  · simp! []
  · have e1 : decide ((1 : Int) ≤ xs.length) = decide (1 ≤ xs.length) := decide_eq_decide.mpr (by omega)
    have e2 : decide ((xs.length : Int) ≤ 12) = decide (xs.length ≤ 12) := decide_eq_decide.mpr (by omega)
    rw [e1, e2]
    cases hl : (decide (1 ≤ xs.length) && decide (xs.length ≤ 12))
    · simp! []
    · have hc : c_is_house_1 [some (.tup xs), none] = pure (.lst (xs.map fun x => .bl (inB 1 99 x))) := by
        unfold c_is_house_1
        simp! []
        rw [lc_mapD (f := fun x => .bl (inB 1 99 x)) fun x hx => ?_]
        · simp! []
        · obtain ⟨i, rfl⟩ := isI_int (List.all_eq_true.mp hi x hx)
          simp! []
          rfl
      simp! [hc]
theorem v_lhouse_tup {xs : List D} (h : ∀ x ∈ xs, (tyD x).isSome = true) : m__law_is_house [.tup xs] = pure (.bl (houseT xs)) := by
  unfold m__law_is_house g__law_is_house houseT
  have e1 : decide ((1 : Int) ≤ xs.length) = decide (1 ≤ xs.length) := decide_eq_decide.mpr (by omega)
  have e2 : decide ((xs.length : Int) ≤ 12) = decide (xs.length ≤ 12) := decide_eq_decide.mpr (by omega)
  have hc : c__law_is_house_1 [some (.tup xs), none] = pure (.lst ((xs.filter fun x => !isI x || !inB 1 99 x).map fun _ => .int 1)) := by
    unfold c__law_is_house_1
    simp! []
    rw [lc_filterD (p := fun x => !isI x || !inB 1 99 x) (f := fun _ => .int 1) fun x hx => ?_]
    · simp! []
    · refine ⟨?_, fun _ => rfl⟩
      simp! [v_lint x (h x hx)]
      cases hi : isI x
      · simp! []
      · obtain ⟨i, rfl⟩ := isI_int hi
        simp! []
        rfl
  have hq : (xs.filter fun x => !isI x || !inB 1 99 x).isEmpty = (xs.all isI && xs.all (inB 1 99)) := by
    rw [Bool.eq_iff_iff, List.isEmpty_iff, List.filter_eq_nil_iff, Bool.and_eq_true, List.all_eq_true, List.all_eq_true]
    constructor
    · intro z
      refine ⟨fun x hx => ?_, fun x hx => ?_⟩ <;> have := z x hx <;> cases hi : isI x <;> cases hj : inB 1 99 x <;> simp_all
    · intro z x hx
      have := z.1 x hx
      have := z.2 x hx
      simp_all
  simp! [es55, hc, hq, e1, e2]
  cases xs.all isI <;> cases decide (1 ≤ xs.length) <;> cases decide (xs.length ≤ 12) <;> rfl
def prT : D → Bool
  | .tup xs => xs.all isI && decide (xs.length = 2)
  | _ => false
def mvT (n : Int) : D → Bool
  | .tup [.int a, .int b] => (inB 0 n (.int a) && inB 0 n (.int b)) && !decide (a = b)
  | _ => false
theorem prT_two {d : D} (h : prT d = true) : ∃ a b : Int, d = .tup [.int a, .int b] := by
  cases d with
  | tup xs =>
    unfold prT at h
    rw [Bool.and_eq_true, decide_eq_true_iff] at h
    obtain ⟨is, rfl⟩ := ints_of h.1
    rw [List.length_map] at h
    match is, h.2 with
    | [a, b], _ => exact ⟨a, b, rfl⟩
  | _ => cases h
theorem v_pair {B : Nat} {d : D} (h : Pl B 1 d) : m_is_pair [d] = pure (.bl (prT d)) := by
  have no : ∀ t, tyD d = some t → isB t "tuple" = false → prT d = false → m_is_pair [d] = pure (.bl (prT d)) := fun t ht hb hp => by
    unfold m_is_pair g_is_pair
    simp! [es55, v_ints_no ht hb, hp]
  obtain ⟨i1, i2, i3, i4, i5, i6, i7⟩ := isB_tup
  have hk := h.nk
  have hty := h.ty
  cases d with
  | non => exact no _ rfl i3 rfl
  | bl b => exact no _ rfl i6 rfl
  | int n => exact no _ rfl i5 rfl
  | str x => exact no _ rfl i4 rfl
  | tup xs =>
    unfold m_is_pair g_is_pair prT
    have e : decide ((xs.length : Int) = 2) = decide (xs.length = 2) := decide_eq_decide.mpr (by omega)
    simp! [es55, v_ints_tup fun x hx => (h.mem x hx).ty, e]
  | ktup xs => exact absurd rfl (hk xs)
  | lst xs => exact no _ rfl i2 rfl
  | dct n kvs => exact no _ rfl i7 rfl
  | scr ns => cases hty
  | fn x => cases hty
  | bag => cases hty
  | exc a b c d e => cases hty
  | lam f => cases hty
theorem v_pairs_tup {B : Nat} {xs : List D} (h : ∀ x ∈ xs, Pl B 1 x) : m_are_pairs [.tup xs] = pure (.bl (xs.all prT)) := by
  unfold m_are_pairs g_are_pairs
  simp! [es55]
  have e : m_are_all (tab1 "is_pair" 1 m_is_pair) [.tup xs, .fn "is_pair"] = pure (.bl (xs.all prT)) := v_all (x := "is_pair") (fM := m_is_pair) rfl (if_pos rfl) fun y hy => v_pair (h y hy)
  rw [e]
  simp! []
theorem v_pairs_no {d : D} {t : String} (h : tyD d = some t) (h' : isB t "tuple" = false) : m_are_pairs [d] = pure (.bl false) := by
  unfold m_are_pairs g_are_pairs
  simp! [es55]
  have e : m_are_all (tab1 "is_pair" 1 m_is_pair) [d, .fn "is_pair"] = pure (.bl false) := v_all_no h h'
  rw [e]
  simp! []
theorem v_move (h : List Nat) (a b : Int) : m_is_move [.tup (h.map iD), .tup [.int a, .int b]] = pure (.bl (mvT h.length (.tup [.int a, .int b]))) := by
  unfold m_is_move g_is_move c_is_move_1
  simp! [es55, List.length_map]
  rfl
def movesT (n : Int) (xs : List D) : Bool := xs.all prT && (decide (xs.length ≤ 20) && xs.all (mvT n))
theorem v_moves_tup {B : Nat} (h : List Nat) {xs : List D} (hx : ∀ x ∈ xs, Pl B 1 x) : m_are_moves [.tup (h.map iD), .tup xs] = pure (.bl (movesT h.length xs)) := by
  unfold m_are_moves g_are_moves movesT
  have e : decide ((xs.length : Int) ≤ 20) = decide (xs.length ≤ 20) := decide_eq_decide.mpr (by omega)
  simp! [es55, v_pairs_tup hx, e]
  cases hp : xs.all prT
  · simp! []
  · have hc : c_are_moves_1 [some (.tup (h.map iD)), some (.tup xs), none] = pure (.lst (xs.map fun x => .bl (mvT h.length x))) := by
      unfold c_are_moves_1
      simp! []
      rw [lc_mapD (f := fun x => .bl (mvT h.length x)) fun x hx' => ?_]
      · simp! []
      · obtain ⟨a, b, rfl⟩ := prT_two (List.all_eq_true.mp hp x hx')
        simp! [v_move]
    simp! [hc]
theorem pairs_of : ∀ {xs : List D}, xs.all prT = true → ∃ L : List (Int × Int), xs = L.map fun p => .tup [.int p.1, .int p.2]
  | [], _ => ⟨[], rfl⟩
  | x :: xs, h => by
    rw [List.all_cons, Bool.and_eq_true] at h
    obtain ⟨a, b, rfl⟩ := prT_two h.1
    obtain ⟨L, rfl⟩ := pairs_of h.2
    exact ⟨(a, b) :: L, rfl⟩
def lenT : D → Bool
  | .tup xs => decide (xs.length = 2)
  | _ => false
theorem v_lmoves_tup {B : Nat} (h : List Nat) {xs : List D} (hx : ∀ x ∈ xs, Pl B 1 x) : m__law_are_moves [.tup (h.map iD), .tup xs] = pure (.bl (movesT h.length xs)) := by
  unfold m__law_are_moves g__law_are_moves movesT
  have e : decide ((20 : Int) < (xs.length : Int)) = !decide (xs.length ≤ 20) := by
    rw [← decide_not]
    exact decide_eq_decide.mpr (by omega)
  have hc : c__law_are_moves_1 [some (.tup (h.map iD)), some (.tup xs), none, none, none] = pure (.lst ((xs.filter fun x => !lenT x).map fun _ => .int 1)) := by
    unfold c__law_are_moves_1
    simp! []
    rw [lc_filterD (p := fun x => !lenT x) (f := fun _ => .int 1) fun x hx' => ?_]
    · simp! []
    · refine ⟨?_, fun _ => rfl⟩
      have hk := (hx x hx').nk
      have hty := (hx x hx').ty
      cases x with
      | tup ys =>
        have e : decide ((ys.length : Int) = 2) = decide (ys.length = 2) := decide_eq_decide.mpr (by omega)
        simp! [e]
        rfl
      | ktup ys => exact absurd rfl (hk ys)
      | scr ns => cases hty
      | fn x => cases hty
      | bag => cases hty
      | exc a b c d e => cases hty
      | lam f => cases hty
      | _ => simp! [] <;> rfl
  have q1 : (xs.filter fun x => !lenT x).isEmpty = xs.all lenT := by
    rw [Bool.eq_iff_iff, List.isEmpty_iff, List.filter_eq_nil_iff, List.all_eq_true]
    refine forall_congr' fun x => forall_congr' fun _ => ?_
    cases lenT x <;> simp
  simp! [es55, hc, q1, e]
  cases hl : decide (xs.length ≤ 20)
  · simp! []
  · cases h1 : xs.all lenT
    · have : xs.all prT = false := by
        rw [Bool.eq_false_iff]
        intro z
        rw [List.all_eq_true] at z
        refine absurd (List.all_eq_true.mpr fun x hx' => ?_) (Bool.eq_false_iff.mp h1)
        obtain ⟨a, b, rfl⟩ := prT_two (z x hx')
        rfl
      simp! [this]
    · have two : ∀ x ∈ xs, ∃ a b, x = .tup [a, b] ∧ (tyD a).isSome = true ∧ (tyD b).isSome = true := fun x hx' => by
        have z := List.all_eq_true.mp h1 x hx'
        have y := hx x hx'
        cases x with
        | tup ys =>
          match ys, of_decide_eq_true z with
          | [a, b], _ => exact ⟨a, b, rfl, (y.mem a (by simp)).ty, (y.mem b (by simp)).ty⟩
        | _ => cases z
      have hc2 : c__law_are_moves_2 [some (.tup (h.map iD)), some (.tup xs), none, none, none] = pure (.lst ((xs.filter fun x => !prT x).map fun _ => .int 1)) := by
        unfold c__law_are_moves_2
        simp! []
        rw [lc_filterD (p := fun x => !prT x) (f := fun _ => .int 1) fun x hx' => ?_]
        · simp! []
        · refine ⟨?_, fun _ => rfl⟩
          obtain ⟨a, b, rfl, ha, hb⟩ := two x hx'
          simp! [v_lint a ha, v_lint b hb]
          have ep : prT (.tup [a, b]) = (isI a && isI b) := by
            show ((isI a && (isI b && true)) && decide (2 = 2)) = _
            rw [decide_eq_true rfl, Bool.and_true, Bool.and_true]
          rw [ep, Bool.not_and]
      have q2 : (xs.filter fun x => !prT x).isEmpty = xs.all prT := by
        rw [Bool.eq_iff_iff, List.isEmpty_iff, List.filter_eq_nil_iff, List.all_eq_true]
        refine forall_congr' fun x => forall_congr' fun _ => ?_
        cases prT x <;> simp
      simp! [hc2, q2]
      cases hp : xs.all prT
      · simp! []
      · have hc3 : c__law_are_moves_3 [some (.tup (h.map iD)), some (.tup xs), none, none, none] = pure (.lst ((xs.filter fun x => !mvT h.length x).map fun _ => .int 1)) := by
          obtain ⟨L, rfl⟩ := pairs_of hp
          unfold c__law_are_moves_3
          simp! []
          rw [lc_filter2 (h := fun p : Int × Int => .int p.1) (h2 := fun p : Int × Int => .int p.2) (p := fun p => !mvT h.length (.tup [.int p.1, .int p.2])) (f := fun _ => .int 1) fun x hx' => ?_]
          · simp! []
            rw [List.filter_map, List.map_map]
            rfl
          · refine ⟨?_, fun _ => rfl⟩
            simp! [List.length_map]
            show _ = pure (!((decide (0 ≤ x.1) && decide (x.1 ≤ h.length)) && (decide (0 ≤ x.2) && decide (x.2 ≤ h.length)) && !decide (x.1 = x.2)))
            simp only [Bool.not_and, Bool.not_not, Bool.or_assoc]
        have q3 : (xs.filter fun x => !mvT h.length x).isEmpty = xs.all (mvT h.length) := by
          rw [Bool.eq_iff_iff, List.isEmpty_iff, List.filter_eq_nil_iff, List.all_eq_true]
          refine forall_congr' fun x => forall_congr' fun _ => ?_
          cases mvT h.length x <;> simp
        simp! [hc3, q3]
end L02

namespace L02
open PySem L2 PyProof.Rows P5
local macro_rules | `(tactic| simp! [$ts,*]) => `(tactic| simp (disch := first | assumption | omega | (simp only [List.length_map, List.length_range, List.length_append, List.length_cons, List.length_nil, List.length_replicate, List.length_take, List.length_drop] <;> omega) | exact P5.nr rfl) only [ev1, ev2, ev3, ev4, ev5, ev6, ev7, ev8, ev9, ev10, ev11, ev12, ev13, ev14, ev15, ev16, ev17, ev18, ev19, ev20, ev21, ev22, ev23, ev24, ev25, ev26, ev27, ev28, ev29, ev30, ev31, ev32, ev33, ev34, ev37, ev40, ev41, ev42, ev45, ev46, ev49, ev52, ev53, ev56, ev57, ev58, ev59, ev60, ev61, ev62, ev63, ev64, ev65, ev66, ev67, ev68, ev69, ev70, ev71, ev72, ev73, ev74, ev75, ev76, ev77, ev78, ev79, ev80, ev81, ev82, ev83, ev84, ev85, ev86, ev87, ev88, ev89, ev90, ev91, ev92, ev93, ev94, ev95, ev96, ev97, ev98, ev99, ev100, ev101, ev102, ev103, ev104, ev105, ev106, ev107, ev108, ev109, es1, es2, es3, es4, es5, es6, es7, es8, es9, es10, es11, es12, es13, es14, es15, es16, es17, es18, es19, es20, es21, es22, es23, es24, es25, es26, es27, es28, es29, es30, es31, es32, es33, es34, es35, es36, es37, es38, es39, es40, es41, es42, es43, es44, es45, es46, es47, es48, es49, es50, es51, es52, es53, es54, es56, es57, es58, es59, es60, es61, es62, es63, es64, es65, es66, es67, es68, es69, es70, es71, es72, es73, es74, es75, es77, es78, es79, es80, el1, el2, el4, el5, el6, el7, el8, el9, es82, es83, es84, es85, es86, es87, es88, es89, es90, es95, es96, es97, eh1, eh2, eh3, eo1, eo2, eo3, eo4, eo5, eo6, eo7, eo8, eo9, eo10, eo11, eo12, eo13, eo14, eo15, eo16, eo17, eo18, eo19, eo20, ei1, ei2, ei3, ei4, ei5, ei6, ei7, ei8, ei9, ei10, ei11, ei12, ei13, ei14, ei15, ei16, ei17, ei18, ei19, ei20, ei21, ei22, ei23, ei24, ei25, ei26, ei27, ei28, ei29, ei30, ei31, ei32, ei33, ei34, ei35, ei36, ei37, ei38, ei39, ei40, ei41, ei42, er1, er2, er3, er4, er5, er6, er7, er8, er9, er10, er11, er12, er13, er14, er15, er16, er17, er18, er19, er20, er21, er22, er23, er24, er25, er26, er27, er28, ek1, ek2, ek3, ek4, ek5, ek6, ek7, ek8, ek9, ek10, ek11, ek12, ek13, ek14, ek15, ek16, ek17, ek18, ek19, ek20, ek21, ek22, ek23, ek24, eo21, eo22, eo23, es98, ev111, opEq_int, opNe_int, opLt_int, opGt_int, opAdd_int, opSub_int, List.getElem?_cons_zero, List.getElem?_cons_succ, List.set_cons_zero, List.set_cons_succ, Bool.not_true, Bool.not_false, Bool.and_true, Bool.true_and, Bool.false_and, Bool.and_false, List.contains_nil, decide_true, decide_false, List.nil_append, List.append_nil, List.cons_append, List.contains_cons, Bool.false_or, Bool.true_or, Bool.or_false, Bool.or_true, Bool.false_eq_true, reduceIte, List.all_cons, List.all_nil, List.any_cons, List.any_nil, id_eq, Bool.not_not, Bool.and_self, Bool.or_self, Nat.reduceAdd, Nat.reduceBEq, Nat.reduceSub, beq_self_eq_true, $ts,*])
local macro_rules | `(tactic| dsimp! [$ts,*]) => `(tactic| simp (disch := first | assumption | omega | (simp only [List.length_map, List.length_range, List.length_append, List.length_cons, List.length_nil, List.length_replicate, List.length_take, List.length_drop] <;> omega) | exact P5.nr rfl) only [ev1, ev2, ev3, ev4, ev5, ev6, ev7, ev8, ev9, ev10, ev11, ev12, ev13, ev14, ev15, ev16, ev17, ev18, ev19, ev20, ev21, ev22, ev23, ev24, ev25, ev26, ev27, ev28, ev29, ev30, ev31, ev32, ev33, ev34, ev37, ev40, ev41, ev42, ev45, ev46, ev49, ev52, ev53, ev56, ev57, ev58, ev59, ev60, ev61, ev62, ev63, ev64, ev65, ev66, ev67, ev68, ev69, ev70, ev71, ev72, ev73, ev74, ev75, ev76, ev77, ev78, ev79, ev80, ev81, ev82, ev83, ev84, ev85, ev86, ev87, ev88, ev89, ev90, ev91, ev92, ev93, ev94, ev95, ev96, ev97, ev98, ev99, ev100, ev101, ev102, ev103, ev104, ev105, ev106, ev107, ev108, ev109, es1, es2, es3, es4, es5, es6, es7, es8, es9, es10, es11, es12, es13, es14, es15, es16, es17, es18, es19, es20, es21, es22, es23, es24, es25, es26, es27, es28, es29, es30, es31, es32, es33, es34, es35, es36, es37, es38, es39, es40, es41, es42, es43, es44, es45, es46, es47, es48, es49, es50, es51, es52, es53, es54, es56, es57, es58, es59, es60, es61, es62, es63, es64, es65, es66, es67, es68, es69, es70, es71, es72, es73, es74, es75, es77, es78, es79, es80, el1, el2, el4, el5, el6, el7, el8, el9, es82, es83, es84, es85, es86, es87, es88, es89, es90, es95, es96, es97, eh1, eh2, eh3, eo1, eo2, eo3, eo4, eo5, eo6, eo7, eo8, eo9, eo10, eo11, eo12, eo13, eo14, eo15, eo16, eo17, eo18, eo19, eo20, ei1, ei2, ei3, ei4, ei5, ei6, ei7, ei8, ei9, ei10, ei11, ei12, ei13, ei14, ei15, ei16, ei17, ei18, ei19, ei20, ei21, ei22, ei23, ei24, ei25, ei26, ei27, ei28, ei29, ei30, ei31, ei32, ei33, ei34, ei35, ei36, ei37, ei38, ei39, ei40, ei41, ei42, er1, er2, er3, er4, er5, er6, er7, er8, er9, er10, er11, er12, er13, er14, er15, er16, er17, er18, er19, er20, er21, er22, er23, er24, er25, er26, er27, er28, ek1, ek2, ek3, ek4, ek5, ek6, ek7, ek8, ek9, ek10, ek11, ek12, ek13, ek14, ek15, ek16, ek17, ek18, ek19, ek20, ek21, ek22, ek23, ek24, eo21, eo22, eo23, es98, ev111, opEq_int, opNe_int, opLt_int, opGt_int, opAdd_int, opSub_int, List.getElem?_cons_zero, List.getElem?_cons_succ, List.set_cons_zero, List.set_cons_succ, Bool.not_true, Bool.not_false, Bool.and_true, Bool.true_and, Bool.false_and, Bool.and_false, List.contains_nil, decide_true, decide_false, List.nil_append, List.append_nil, List.cons_append, List.contains_cons, Bool.false_or, Bool.true_or, Bool.or_false, Bool.or_true, Bool.false_eq_true, reduceIte, List.all_cons, List.all_nil, List.any_cons, List.any_nil, id_eq, Bool.not_not, Bool.and_self, Bool.or_self, Nat.reduceAdd, Nat.reduceBEq, Nat.reduceSub, beq_self_eq_true, ew1, ew2, ew3, ew4, ew5, ew6, ew7, ew9, ew10, ew11, ew15, ew16, ew17, ew18, ew19, ew20, ew21, ew22, ew23, ew24, ew26, ew28, ew29, ew30, ew31, ew32, ew34, ew35, ew36, ew37, ew40, ew41, ew42, ew43, ew44, ew45, ew46, ew47, ew48, ew49, ew50, ew51, ew52, ew53, ew54, ew55, ew56, ew57, ew58, ew59, and_false, $ts,*])
theorem judge_house {B : Nat} {d : D} (h : Pl B 1 d) : ∃ t, m_is_house [d] = pure (.bl t) ∧ m__law_is_house [d] = pure (.bl t) := by
  have hk := h.nk
  have hty := h.ty
  have no : ∀ t, tyD d = some t → isB t "tuple" = false → ∃ t, m_is_house [d] = pure (.bl t) ∧ m__law_is_house [d] = pure (.bl t) := fun t ht hb => by
    refine ⟨false, ?_, ?_⟩
    · unfold m_is_house g_is_house
      simp! [es55, v_ints_no ht hb]
    · unfold m__law_is_house g__law_is_house
      simp! [es55, isi_of ht, hb]
  obtain ⟨i1, i2, i3, i4, i5, i6, i7⟩ := isB_tup
  cases d with
  | non => exact no _ rfl i3
  | bl b => exact no _ rfl i6
  | int n => exact no _ rfl i5
  | str x => exact no _ rfl i4
  | tup xs => exact ⟨_, v_house_tup fun x hx => (h.mem x hx).ty, v_lhouse_tup fun x hx => (h.mem x hx).ty⟩
  | ktup xs => exact absurd rfl (hk xs)
  | lst xs => exact no _ rfl i2
  | dct n kvs => exact no _ rfl i7
  | scr ns => cases hty
  | fn x => cases hty
  | bag => cases hty
  | exc a b c d e => cases hty
  | lam f => cases hty
theorem judge_moves {B : Nat} {d : D} (hs : List Nat) (h : Pl B 2 d) : ∃ t, m_are_moves [.tup (hs.map iD), d] = pure (.bl t) ∧ m__law_are_moves [.tup (hs.map iD), d] = pure (.bl t) := by
  have hk := h.nk
  have hty := h.ty
  have no : ∀ t, tyD d = some t → isB t "tuple" = false → ∃ t, m_are_moves [.tup (hs.map iD), d] = pure (.bl t) ∧ m__law_are_moves [.tup (hs.map iD), d] = pure (.bl t) := fun t ht hb => by
    refine ⟨false, ?_, ?_⟩
    · unfold m_are_moves g_are_moves
      simp! [es55, v_pairs_no ht hb]
    · unfold m__law_are_moves g__law_are_moves
      simp! [es55, isi_of ht, hb]
  obtain ⟨i1, i2, i3, i4, i5, i6, i7⟩ := isB_tup
  cases d with
  | non => exact no _ rfl i3
  | bl b => exact no _ rfl i6
  | int n => exact no _ rfl i5
  | str x => exact no _ rfl i4
  | tup xs => exact ⟨_, v_moves_tup hs fun x hx => h.mem x hx, v_lmoves_tup hs fun x hx => h.mem x hx⟩
  | ktup xs => exact absurd rfl (hk xs)
  | lst xs => exact no _ rfl i2
  | dct n kvs => exact no _ rfl i7
  | scr ns => cases hty
  | fn x => cases hty
  | bag => cases hty
  | exc a b c d e => cases hty
  | lam f => cases hty
theorem Pl.up {B B' : Nat} (hB : B ≤ B') : ∀ {k : Nat} {d : D}, Pl B k d → Pl B' k d
  | 0, d, h => ⟨h.1, h.2.1, fun xs e => Nat.le_trans (h.2.2 xs e) hB⟩
  | k + 1, d, h => ⟨h.1, h.2.1, fun xs e => Nat.le_trans (h.2.2.1 xs e) hB, fun xs e x hx => Pl.up hB (h.2.2.2 xs e x hx)⟩
theorem Pl.of {B k : Nat} {d : D} (h : (tyD d).isSome = true) (h1 : ∀ xs, d ≠ .ktup xs) (h2 : ∀ xs, d ≠ .tup xs) : Pl B k d := by
  cases k
  · exact ⟨h, h1, fun xs e => absurd e (h2 xs)⟩
  · exact ⟨h, h1, fun xs e => absurd e (h2 xs), fun xs e => absurd e (h2 xs)⟩
theorem Pl.tup {B k : Nat} {xs : List D} (h : xs.length ≤ B) (h' : ∀ k' x, x ∈ xs → k = k' + 1 → Pl B k' x) : Pl B k (.tup xs) := by
  cases k with
  | zero => exact ⟨rfl, (fun _ e => nomatch e), fun ys e => by cases e; exact h⟩
  | succ k => exact ⟨rfl, (fun _ e => nomatch e), (fun ys e => by cases e; exact h), fun ys e x hx => by cases e; exact h' k x hx rfl⟩
theorem Pl.int {B k : Nat} (i : Int) : Pl B k (.int i) := Pl.of rfl (fun _ e => nomatch e) (fun _ e => nomatch e)
theorem Pl.bl {B k : Nat} (i : Bool) : Pl B k (.bl i) := Pl.of rfl (fun _ e => nomatch e) (fun _ e => nomatch e)
theorem Pl.str {B k : Nat} (i : Str) : Pl B k (.str i) := Pl.of rfl (fun _ e => nomatch e) (fun _ e => nomatch e)
theorem Pl.non {B k : Nat} : Pl B k .non := Pl.of rfl (fun _ e => nomatch e) (fun _ e => nomatch e)
theorem Pl.lst {B k : Nat} (xs : List D) : Pl B k (.lst xs) := Pl.of rfl (fun _ e => nomatch e) (fun _ e => nomatch e)
theorem Pl.dct {B k n : Nat} (xs : List (D × D)) : Pl B k (.dct n xs) := Pl.of rfl (fun _ e => nomatch e) (fun _ e => nomatch e)
theorem Pl.tup1 {B k : Nat} {x : D} (hB : 2 ≤ B) (h : ∀ k', Pl B k' x) : Pl B k (.tup [x]) := Pl.tup (by simp; omega) fun k' y hy _ => by
  rw [List.mem_singleton.mp hy]
  exact h k'
theorem Pl.tup2 {B k : Nat} {x y : D} (hB : 2 ≤ B) (h : ∀ k', Pl B k' x) (h' : ∀ k', Pl B k' y) : Pl B k (.tup [x, y]) := Pl.tup (by simp; omega) fun k' z hz _ => by
  rcases List.mem_cons.mp hz with rfl | hz
  · exact h k'
  · rw [List.mem_singleton.mp hz]
    exact h' k'
theorem w_some {xs : List D} {Q : D → Prop} {E : Err → Prop} (h0 : xs ≠ []) (hl : xs.length ≤ 1000) (h : ∀ x ∈ xs, Q x) : WP (m__law_some [.bag, .lst xs]) Q E := by
  have hp : 0 < xs.length := List.length_pos_iff.mpr h0
  unfold m__law_some g__law_some
  dsimp! [es55]
  intro n h1 h2
  have hn : n.toNat < xs.length := by omega
  have e : opIx (.lst xs) (.int n) = some xs[n.toNat] := by
    have := eo14 (xs := xs) (i := n.toNat) hn
    rw [Int.toNat_of_nonneg h1, List.getElem?_eq_getElem hn] at this
    exact this
  dsimp! [e]
  exact h _ (List.getElem_mem hn)
theorem pow30 : opPow (.int 10) (.int 30) = some (.int (10 ^ 30)) := by
  show (if 0 ≤ (30 : Int) ∧ (30 : Int) ≤ 1000000 ∧ (10 : Int).natAbs < 2 ^ 64 then some (D.int (10 ^ (30 : Int).toNat)) else none) = _
  rw [if_pos (by decide)]
  rfl
def oddL : List D := [.non, .bl true, .bl false, .int 0, .int (-1), .int 7, .int (10 ^ 30), .str "", .str "a", .str "beat", .tup [], .lst [], .dct 0 [], .tup [.int 0], .tup [.tup []], .lst [.int 1], .dct 0 [(.str "a", .int 1)], .tup [.tup [.int 1, .int 2]], .tup [.str "a", .int 0]]
theorem odd_pl {B k : Nat} (hB : 2 ≤ B) : ∀ x ∈ oddL, Pl B k x := by
  intro x hx
  have n0 : ∀ k', Pl B k' (.tup []) := fun k' => Pl.tup (Nat.zero_le _) (fun _ _ h => nomatch h)
  simp only [oddL, List.mem_cons, List.not_mem_nil, or_false] at hx
  rcases hx with h | h | h | h | h | h | h | h | h | h | h | h | h | h | h | h | h | h | h <;> subst h
  · exact Pl.non
  · exact Pl.bl _
  · exact Pl.bl _
  · exact Pl.int _
  · exact Pl.int _
  · exact Pl.int _
  · exact Pl.int _
  · exact Pl.str _
  · exact Pl.str _
  · exact Pl.str _
  · exact n0 k
  · exact Pl.lst _
  · exact Pl.dct _
  · exact Pl.tup1 hB fun _ => Pl.int _
  · exact Pl.tup1 hB n0
  · exact Pl.lst _
  · exact Pl.dct _
  · exact Pl.tup1 hB fun _ => Pl.tup2 hB (fun _ => Pl.int _) (fun _ => Pl.int _)
  · exact Pl.tup2 hB (fun _ => Pl.str _) (fun _ => Pl.int _)
theorem w_odd {B k : Nat} (hB : 2 ≤ B) {Q : D → Prop} {E : Err → Prop} (h : ∀ x, Pl B k x → Q x) : WP (m__law_odd [.bag]) Q E := by
  unfold m__law_odd g__law_odd
  dsimp! [es55, pow30]
  refine w_some (xs := oddL) (by decide) (by decide) fun x hx => h x (odd_pl hB x hx)
theorem pl_swap {B k : Nat} {xs : List D} {i : Nat} {x : D} (hi : i < xs.length) (h : Pl B k (.tup xs)) (hx : ∀ k', k = k' + 1 → Pl (B + 1) k' x) : Pl (B + 1) k (.tup (xs.take i ++ x :: xs.drop (i + 1))) := by
  have hl := h.len
  refine Pl.tup ?_ fun k' y hy e => ?_
  · rw [List.length_append, List.length_cons, List.length_take, List.length_drop]
    omega
  · subst e
    rcases List.mem_append.mp hy with hy | hy
    · exact (h.mem y (List.mem_of_mem_take hy)).up (Nat.le_succ _)
    · rcases List.mem_cons.mp hy with rfl | hy
      · exact hx k' rfl
      · exact (h.mem y (List.mem_of_mem_drop hy)).up (Nat.le_succ _)
theorem pl_less {B k : Nat} {xs : List D} {i : Nat} (h : Pl B k (.tup xs)) : Pl (B + 1) k (.tup (xs.take i ++ xs.drop (i + 1))) := by
  have hl := h.len
  refine Pl.tup ?_ fun k' y hy e => ?_
  · rw [List.length_append, List.length_take, List.length_drop]
    omega
  · subst e
    rcases List.mem_append.mp hy with hy | hy
    · exact (h.mem y (List.mem_of_mem_take hy)).up (Nat.le_succ _)
    · exact (h.mem y (List.mem_of_mem_drop hy)).up (Nat.le_succ _)
theorem pl_more {B k : Nat} {xs : List D} {i : Nat} (hi : i < xs.length) (h : Pl B k (.tup xs)) : Pl (B + 1) k (.tup (xs.take i ++ xs[i] :: xs.drop i)) := by
  have hl := h.len
  refine Pl.tup ?_ fun k' y hy e => ?_
  · rw [List.length_append, List.length_cons, List.length_take, List.length_drop]
    omega
  · subst e
    rcases List.mem_append.mp hy with hy | hy
    · exact (h.mem y (List.mem_of_mem_take hy)).up (Nat.le_succ _)
    · rcases List.mem_cons.mp hy with rfl | hy
      · exact (h.mem _ (List.getElem_mem hi)).up (Nat.le_succ _)
      · exact (h.mem y (List.mem_of_mem_drop hy)).up (Nat.le_succ _)
theorem pl_rev {B k : Nat} {xs : List D} (h : Pl B k (.tup xs)) : Pl (B + 1) k (.tup xs.reverse) := by
  have hl := h.len
  refine Pl.tup ?_ fun k' y hy e => ?_
  · rw [List.length_reverse]
    omega
  · subst e
    exact (h.mem y (List.mem_reverse.mp hy)).up (Nat.le_succ _)
theorem w_bent1 {B : Nat} (hB : 2 ≤ B) (hB2 : B ≤ 1000) {REC : List D → M D} {dp : Int} {k : Nat} (hdk : dp ≤ k)
    (rec : 0 < dp → ∀ (x : D) (k' : Nat), k = k' + 1 → Pl B k' x → ∀ {Q : D → Prop} {E : Err → Prop}, (∀ y, Pl (B + 1) k' y → Q y) → WP (REC [.bag, x, .int (dp - 1)]) Q E)
    {d : D} (hp : Pl B k d) {Q : D → Prop} {E : Err → Prop} (q : ∀ x, Pl (B + 1) k x → Q x) : WP (runFn 5 (g__law_bent REC) [.bag, d, .int dp]) Q E := by
  have hk := hp.nk
  have hty := hp.ty
  have odd : ∀ E : Err → Prop, WP (m__law_odd [.bag]) (fun x => Q x) E := fun E => w_odd (B := B + 1) (k := k) (by omega) q
  unfold g__law_bent
  cases d with
  | ktup xs => exact absurd rfl (hk xs)
  | scr ns => cases hty
  | fn x => cases hty
  | bag => cases hty
  | exc a b c d e => cases hty
  | lam f => cases hty
  | bl b =>
    dsimp! [es55]
    refine w_some (by simp) (by simp) fun x hx => ?_
    simp only [List.mem_cons, List.not_mem_nil, or_false] at hx
    rcases hx with h | h | h <;> subst h
    · exact q _ (Pl.bl _)
    · exact q _ (Pl.int _)
    · exact q _ Pl.non
  | int i => 
    dsimp! [es55, pow30]
    refine w_some (by simp) (by simp) fun x hx => ?_
    simp only [List.mem_cons, List.not_mem_nil, or_false] at hx
    rcases hx with h | h | h | h | h | h <;> subst h
    · exact q _ (Pl.int _)
    · exact q _ (Pl.int _)
    · exact q _ (Pl.int _)
    · exact q _ (Pl.bl _)
    · exact q _ (Pl.tup1 (by omega) fun _ => Pl.int _)
    · exact q _ (Pl.int _)
  | tup xs => 
    have hl := hp.len
    by_cases hx : xs = []
    · subst hx
      dsimp! [es55, List.isEmpty_nil]
      exact odd _
    have hne : xs.isEmpty = false := by
      cases xs with
      | nil => exact absurd rfl hx
      | cons => rfl
    have hpos : 0 < xs.length := List.length_pos_iff.mpr hx
    have h1 : (1 : Int) ≤ xs.length := by omega
    refine W_runK (T := fun r => ∃ x, Pl (B + 1) k x ∧ r = .rt x) ?_ (by
      rintro r ⟨x, hx, rfl⟩
      exact q x hx)
    refine W_seq2 (T := fun r => r = .nx (startD 5 [.bag, .tup xs, .int dp]) ∨ ∃ x, Pl (B + 1) k x ∧ r = .rt x) ?_ ?_
    · by_cases hd0 : (0 : Int) < dp
      case neg => dsimp! [hne, hd0, true_or]
      refine W_sif ?_ ?_ ?_
      · dsimp! [hne, hd0]
        intros
        trivial
      · dsimp! []
        intro n0 hn0 hn1
        obtain ⟨m, rfl⟩ : ∃ m : Nat, n0 = m := ⟨n0.toNat, by omega⟩
        have hm : m < xs.length := by omega
        have e2 : P5.cutD xs (some ((m : Int) + 1)) none = xs.drop (m + 1) := cut_drop xs (m + 1)
        dsimp! [cut_take, e2, List.getElem?_eq_getElem hm]
        cases k with
        | zero => omega
        | succ k =>
          refine rec hd0 xs[m] k rfl (hp.mem _ (List.getElem_mem hm)) fun x hx => ?_
          have hs := pl_swap (x := x) hm hp fun k' e => by
            obtain rfl : k = k' := by omega
            exact hx
          dsimp! [List.append_assoc, List.singleton_append]
          exact .inr ⟨_, hs, rfl⟩
      · dsimp! [true_or]
    · rintro r (rfl | ⟨x, hx, rfl⟩)
      · dsimp! [hne]
        intro n0 hn0 hn1
        obtain ⟨m, rfl⟩ : ∃ m : Nat, n0 = m := ⟨n0.toNat, by omega⟩
        have hm : m < xs.length := by omega
        have e2 : P5.cutD xs (some ((m : Int) + 1)) none = xs.drop (m + 1) := cut_drop xs (m + 1)
        have e3 : opSlA (.tup xs) none none (some (-1)) = some (.tup xs.reverse) := by
          show (if (-1 : Int) ≠ 0 ∧ (-1 : Int) ≠ 1 ∧ (P5T.stepT xs none none (-1)).length ≤ 16777216 then some (D.tup (P5T.stepT xs none none (-1))) else none) = _
          rw [P5T.step_rev, if_pos ⟨by decide, by decide, by rw [List.length_reverse]; omega⟩]
        dsimp! [cut_take, cut_drop, e2, e3, List.getElem?_eq_getElem hm, List.append_assoc, List.singleton_append]
        refine w_odd (B := B + 1) (k := k) (by omega) fun x hx => ?_
        refine w_some (by simp) (by simp) fun y hy => ?_
        simp only [List.mem_cons, List.not_mem_nil, or_false] at hy
        rcases hy with h | h | h | h | h <;> subst h
        · exact ⟨_, Pl.lst _, rfl⟩
        · exact ⟨_, pl_less hp, rfl⟩
        · exact ⟨_, pl_more hm hp, rfl⟩
        · exact ⟨_, pl_rev hp, rfl⟩
        · exact ⟨_, hx, rfl⟩
      · dsimp! []
        exact ⟨x, hx, rfl⟩
  | _ => 
    dsimp! [es55]
    exact odd _
theorem w_bent {B : Nat} (hB : 2 ≤ B) (hB2 : B ≤ 1000) : ∀ (n : Nat) (dp : Int) (k : Nat) (d : D), dp ≤ n → dp ≤ k → Pl B k d → ∀ {Q : D → Prop} {E : Err → Prop}, (∀ x, Pl (B + 1) k x → Q x) → WP (m__law_bent (n + 1) [.bag, d, .int dp]) Q E
  | 0, dp, k, d, hn, hk, hp, Q, E, q => w_bent1 hB hB2 hk (fun h0 => by omega) hp q
  | n + 1, dp, k, d, hn, hk, hp, Q, E, q => w_bent1 hB hB2 hk (fun h0 x k' e hx {Q} {E} q' => w_bent hB hB2 n (dp - 1) k' x (by omega) (by omega) hx q') hp q
end L02

namespace L02
open PySem L2 PyProof.Rows P5
local macro_rules | `(tactic| simp! [$ts,*]) => `(tactic| simp (disch := first | assumption | omega | (simp only [List.length_map, List.length_range, List.length_append, List.length_cons, List.length_nil, List.length_replicate, List.length_take, List.length_drop] <;> omega) | exact P5.nr rfl) only [ev1, ev2, ev3, ev4, ev5, ev6, ev7, ev8, ev9, ev10, ev11, ev12, ev13, ev14, ev15, ev16, ev17, ev18, ev19, ev20, ev21, ev22, ev23, ev24, ev25, ev26, ev27, ev28, ev29, ev30, ev31, ev32, ev33, ev34, ev37, ev40, ev41, ev42, ev45, ev46, ev49, ev52, ev53, ev56, ev57, ev58, ev59, ev60, ev61, ev62, ev63, ev64, ev65, ev66, ev67, ev68, ev69, ev70, ev71, ev72, ev73, ev74, ev75, ev76, ev77, ev78, ev79, ev80, ev81, ev82, ev83, ev84, ev85, ev86, ev87, ev88, ev89, ev90, ev91, ev92, ev93, ev94, ev95, ev96, ev97, ev98, ev99, ev100, ev101, ev102, ev103, ev104, ev105, ev106, ev107, ev108, ev109, es1, es2, es3, es4, es5, es6, es7, es8, es9, es10, es11, es12, es13, es14, es15, es16, es17, es18, es19, es20, es21, es22, es23, es24, es25, es26, es27, es28, es29, es30, es31, es32, es33, es34, es35, es36, es37, es38, es39, es40, es41, es42, es43, es44, es45, es46, es47, es48, es49, es50, es51, es52, es53, es54, es56, es57, es58, es59, es60, es61, es62, es63, es64, es65, es66, es67, es68, es69, es70, es71, es72, es73, es74, es75, es77, es78, es79, es80, el1, el2, el4, el5, el6, el7, el8, el9, es82, es83, es84, es85, es86, es87, es88, es89, es90, es95, es96, es97, eh1, eh2, eh3, eo1, eo2, eo3, eo4, eo5, eo6, eo7, eo8, eo9, eo10, eo11, eo12, eo13, eo14, eo15, eo16, eo17, eo18, eo19, eo20, ei1, ei2, ei3, ei4, ei5, ei6, ei7, ei8, ei9, ei10, ei11, ei12, ei13, ei14, ei15, ei16, ei17, ei18, ei19, ei20, ei21, ei22, ei23, ei24, ei25, ei26, ei27, ei28, ei29, ei30, ei31, ei32, ei33, ei34, ei35, ei36, ei37, ei38, ei39, ei40, ei41, ei42, er1, er2, er3, er4, er5, er6, er7, er8, er9, er10, er11, er12, er13, er14, er15, er16, er17, er18, er19, er20, er21, er22, er23, er24, er25, er26, er27, er28, ek1, ek2, ek3, ek4, ek5, ek6, ek7, ek8, ek9, ek10, ek11, ek12, ek13, ek14, ek15, ek16, ek17, ek18, ek19, ek20, ek21, ek22, ek23, ek24, eo21, eo22, eo23, es98, ev111, opEq_int, opNe_int, opLt_int, opGt_int, opAdd_int, opSub_int, List.getElem?_cons_zero, List.getElem?_cons_succ, List.set_cons_zero, List.set_cons_succ, Bool.not_true, Bool.not_false, Bool.and_true, Bool.true_and, Bool.false_and, Bool.and_false, List.contains_nil, decide_true, decide_false, List.nil_append, List.append_nil, List.cons_append, List.contains_cons, Bool.false_or, Bool.true_or, Bool.or_false, Bool.or_true, Bool.false_eq_true, reduceIte, List.all_cons, List.all_nil, List.any_cons, List.any_nil, id_eq, Bool.not_not, Bool.and_self, Bool.or_self, Nat.reduceAdd, Nat.reduceBEq, Nat.reduceSub, beq_self_eq_true, $ts,*])
local macro_rules | `(tactic| dsimp! [$ts,*]) => `(tactic| simp (disch := first | assumption | omega | (simp only [List.length_map, List.length_range, List.length_append, List.length_cons, List.length_nil, List.length_replicate, List.length_take, List.length_drop] <;> omega) | exact P5.nr rfl) only [ev1, ev2, ev3, ev4, ev5, ev6, ev7, ev8, ev9, ev10, ev11, ev12, ev13, ev14, ev15, ev16, ev17, ev18, ev19, ev20, ev21, ev22, ev23, ev24, ev25, ev26, ev27, ev28, ev29, ev30, ev31, ev32, ev33, ev34, ev37, ev40, ev41, ev42, ev45, ev46, ev49, ev52, ev53, ev56, ev57, ev58, ev59, ev60, ev61, ev62, ev63, ev64, ev65, ev66, ev67, ev68, ev69, ev70, ev71, ev72, ev73, ev74, ev75, ev76, ev77, ev78, ev79, ev80, ev81, ev82, ev83, ev84, ev85, ev86, ev87, ev88, ev89, ev90, ev91, ev92, ev93, ev94, ev95, ev96, ev97, ev98, ev99, ev100, ev101, ev102, ev103, ev104, ev105, ev106, ev107, ev108, ev109, es1, es2, es3, es4, es5, es6, es7, es8, es9, es10, es11, es12, es13, es14, es15, es16, es17, es18, es19, es20, es21, es22, es23, es24, es25, es26, es27, es28, es29, es30, es31, es32, es33, es34, es35, es36, es37, es38, es39, es40, es41, es42, es43, es44, es45, es46, es47, es48, es49, es50, es51, es52, es53, es54, es56, es57, es58, es59, es60, es61, es62, es63, es64, es65, es66, es67, es68, es69, es70, es71, es72, es73, es74, es75, es77, es78, es79, es80, el1, el2, el4, el5, el6, el7, el8, el9, es82, es83, es84, es85, es86, es87, es88, es89, es90, es95, es96, es97, eh1, eh2, eh3, eo1, eo2, eo3, eo4, eo5, eo6, eo7, eo8, eo9, eo10, eo11, eo12, eo13, eo14, eo15, eo16, eo17, eo18, eo19, eo20, ei1, ei2, ei3, ei4, ei5, ei6, ei7, ei8, ei9, ei10, ei11, ei12, ei13, ei14, ei15, ei16, ei17, ei18, ei19, ei20, ei21, ei22, ei23, ei24, ei25, ei26, ei27, ei28, ei29, ei30, ei31, ei32, ei33, ei34, ei35, ei36, ei37, ei38, ei39, ei40, ei41, ei42, er1, er2, er3, er4, er5, er6, er7, er8, er9, er10, er11, er12, er13, er14, er15, er16, er17, er18, er19, er20, er21, er22, er23, er24, er25, er26, er27, er28, ek1, ek2, ek3, ek4, ek5, ek6, ek7, ek8, ek9, ek10, ek11, ek12, ek13, ek14, ek15, ek16, ek17, ek18, ek19, ek20, ek21, ek22, ek23, ek24, eo21, eo22, eo23, es98, ev111, opEq_int, opNe_int, opLt_int, opGt_int, opAdd_int, opSub_int, List.getElem?_cons_zero, List.getElem?_cons_succ, List.set_cons_zero, List.set_cons_succ, Bool.not_true, Bool.not_false, Bool.and_true, Bool.true_and, Bool.false_and, Bool.and_false, List.contains_nil, decide_true, decide_false, List.nil_append, List.append_nil, List.cons_append, List.contains_cons, Bool.false_or, Bool.true_or, Bool.or_false, Bool.or_true, Bool.false_eq_true, reduceIte, List.all_cons, List.all_nil, List.any_cons, List.any_nil, id_eq, Bool.not_not, Bool.and_self, Bool.or_self, Nat.reduceAdd, Nat.reduceBEq, Nat.reduceSub, beq_self_eq_true, ew1, ew2, ew3, ew4, ew5, ew6, ew7, ew9, ew10, ew11, ew15, ew16, ew17, ew18, ew19, ew20, ew21, ew22, ew23, ew24, ew26, ew28, ew29, ew30, ew31, ew32, ew34, ew35, ew36, ew37, ew40, ew41, ew42, ew43, ew44, ew45, ew46, ew47, ew48, ew49, ew50, ew51, ew52, ew53, ew54, ew55, ew56, ew57, ew58, ew59, and_false, $ts,*])
section
variable {h : List Nat} {mv : List (Nat × Nat)}
abbrev mvs (mv : List (Nat × Nat)) : List D := mv.map fun p => .tup [iD p.1, iD p.2]
theorem v_carried : m_carried_steps [.tup (h.map iD), .tup (mvs mv)] = pure (.int (mv.map fun p => bt h p.1 p.2).sum) := by
  unfold m_carried_steps g_carried_steps
  have hc : c_carried_steps_1 [some (.tup (h.map iD)), some (.tup (mvs mv)), none, none] = pure (.lst ((mv.map fun p => bt h p.1 p.2).map iD)) := by
    unfold c_carried_steps_1
    simp! []
    rw [lc_map2 (f := fun p : Nat × Nat => iD (bt h p.1 p.2)) fun p hp => ?_]
    · simp! []
      rw [List.map_map]
      rfl
    · simp! [v_way]
  simp! [es55, hc, sumL_ints]
def tops (mv : List (Nat × Nat)) : List Nat := mv.map fun p => max p.1 p.2
theorem v_highest (hl : mv.length ≤ 20) : m_highest [.tup (h.map iD), .tup (mvs mv)] = pure (.int (mxl (tops mv))) := by
  unfold m_highest g_highest
  have hc : c_highest_1 [some (.tup (h.map iD)), some (.tup (mvs mv)), none] = pure (.lst ((tops mv).map iD)) := by
    unfold c_highest_1
    simp! []
    rw [lc_map (f := fun p : Nat × Nat => iD (max p.1 p.2)) fun p hp => ?_]
    · simp! []
      unfold tops
      rw [List.map_map]
      rfl
    · simp! [maxP, mx]
  have hm : opMaxT [.lst (D.int 0 :: (tops mv).map iD)] = some (.int (mxl (tops mv))) := by
    refine maxT_nats (l := 0 :: tops mv) ?_ fun x hx => ?_
    · rcases mxl_in (tops mv) with e | e
      · rw [e]
        exact List.mem_cons_self
      · exact List.mem_cons_of_mem _ e
    · rcases List.mem_cons.mp hx with rfl | hx
      · exact Nat.zero_le _
      · exact mxl_ge _ x hx
  have hle : (tops mv).length ≤ 20 := by
    unfold tops
    rw [List.length_map]
    exact hl
  simp! [es55, hc, hm]
def upB (k : Nat) (p : Nat × Nat) : Bool := decide (p.1 ≤ k) && decide (k < p.2)
def dnB (k : Nat) (p : Nat × Nat) : Bool := decide (p.2 ≤ k) && decide (k < p.1)
def crD (mv : List (Nat × Nat)) (k : Nat) : D := .tup [.int (mv.filter (upB k)).length, .int (mv.filter (dnB k)).length]
theorem le_dec (a b : Nat) : decide ((a : Int) ≤ b) = decide (a ≤ b) := decide_eq_decide.mpr Int.ofNat_le
theorem lt_dec (a b : Nat) : decide ((a : Int) < b) = decide (a < b) := decide_eq_decide.mpr Int.ofNat_lt
theorem cr_step {k : Nat} {X : List D} (hX : X.length ≤ 100) (o4 o5 : Option D) : b_crossings_1 [some (.tup (h.map iD)), some (.tup (mvs mv)), some (.lst X), some (.int k), o4, o5, none, none] =
    pure (.nx [some (.tup (h.map iD)), some (.tup (mvs mv)), some (.lst (X ++ [crD mv k])), some (.int k), some (.int (mv.filter (upB k)).length), some (.int (mv.filter (dnB k)).length), none, none]) := by
  have h1 : ∀ o4 o5 : Option D, c_crossings_1 [some (.tup (h.map iD)), some (.tup (mvs mv)), none, some (.int k), o4, o5, none, none] = pure (.lst ((mv.filter (upB k)).map fun _ => .int 1)) := fun o4 o5 => by
    unfold c_crossings_1
    simp! []
    rw [lc_filter2 (h := fun p : Nat × Nat => iD p.1) (h2 := fun p : Nat × Nat => iD p.2) (p := upB k) (f := fun _ => .int 1) fun p hp => ?_]
    · simp! []
    · refine ⟨?_, fun _ => rfl⟩
      simp! [le_dec, lt_dec]
      rfl
  have h2 : ∀ o4 o5 : Option D, c_crossings_2 [some (.tup (h.map iD)), some (.tup (mvs mv)), none, some (.int k), o4, o5, none, none] = pure (.lst ((mv.filter (dnB k)).map fun _ => .int 1)) := fun o4 o5 => by
    unfold c_crossings_2
    simp! []
    rw [lc_filter2 (h := fun p : Nat × Nat => iD p.1) (h2 := fun p : Nat × Nat => iD p.2) (p := dnB k) (f := fun _ => .int 1) fun p hp => ?_]
    · simp! []
    · refine ⟨?_, fun _ => rfl⟩
      simp! [le_dec, lt_dec]
      rfl
  unfold b_crossings_1
  simp! [h1, h2, List.length_map]
  rfl
theorem cr_loop : ∀ (n k : Nat) (X : List D) (o3 o4 o5 : Option D), X.length + n ≤ 100 → ∃ p3 p4 p5 : Option D, forL [2] (gdName 3) b_crossings_1 ((List.range' k n).map iD) [some (.tup (h.map iD)), some (.tup (mvs mv)), some (.lst X), o3, o4, o5, none, none] =
    pure (.nx [some (.tup (h.map iD)), some (.tup (mvs mv)), some (.lst (X ++ (List.range' k n).map (crD mv))), p3, p4, p5, none, none])
  | 0, k, X, o3, o4, o5, _ => ⟨o3, o4, o5, by
    show pure (Fl.nx [_, _, some (.lst X), _, _, _, _, _]) = pure (Fl.nx [_, _, some (.lst (X ++ [])), _, _, _, _, _])
    rw [List.append_nil]⟩
  | n + 1, k, X, o3, o4, o5, hX => by
    obtain ⟨p3, p4, p5, ih⟩ := cr_loop n (k + 1) (X ++ [crD mv k]) (some (.int k)) (some (.int (mv.filter (upB k)).length)) (some (.int (mv.filter (dnB k)).length)) (by
      rw [List.length_append]
      show X.length + 1 + n ≤ 100
      omega)
    refine ⟨p3, p4, p5, ?_⟩
    rw [List.range'_succ, List.map_cons, List.map_cons]
    refine (fl_nx rfl (cr_step (by omega) o4 o5)).trans (ih.trans ?_)
    rw [List.append_assoc]
    rfl
def crossD (h : List Nat) (mv : List (Nat × Nat)) : List D := (List.range' 0 h.length).map (crD mv)
theorem v_crossings (hl : h.length ≤ 20) : m_crossings [.tup (h.map iD), .tup (mvs mv)] = pure (.tup (crossD h mv)) := by
  obtain ⟨p3, p4, p5, e⟩ := cr_loop (h := h) (mv := mv) h.length 0 [] none none none (by simp; omega)
  unfold m_crossings g_crossings
  simp! [es55, List.length_map, rng1, List.range_eq_range', e]
  rfl
end
end L02

namespace L02
open PySem L2 PyProof.Rows P5
local macro_rules | `(tactic| simp! [$ts,*]) => `(tactic| simp (disch := first | assumption | omega | (simp only [List.length_map, List.length_range, List.length_append, List.length_cons, List.length_nil, List.length_replicate, List.length_take, List.length_drop] <;> omega) | exact P5.nr rfl) only [ev1, ev2, ev3, ev4, ev5, ev6, ev7, ev8, ev9, ev10, ev11, ev12, ev13, ev14, ev15, ev16, ev17, ev18, ev19, ev20, ev21, ev22, ev23, ev24, ev25, ev26, ev27, ev28, ev29, ev30, ev31, ev32, ev33, ev34, ev37, ev40, ev41, ev42, ev45, ev46, ev49, ev52, ev53, ev56, ev57, ev58, ev59, ev60, ev61, ev62, ev63, ev64, ev65, ev66, ev67, ev68, ev69, ev70, ev71, ev72, ev73, ev74, ev75, ev76, ev77, ev78, ev79, ev80, ev81, ev82, ev83, ev84, ev85, ev86, ev87, ev88, ev89, ev90, ev91, ev92, ev93, ev94, ev95, ev96, ev97, ev98, ev99, ev100, ev101, ev102, ev103, ev104, ev105, ev106, ev107, ev108, ev109, es1, es2, es3, es4, es5, es6, es7, es8, es9, es10, es11, es12, es13, es14, es15, es16, es17, es18, es19, es20, es21, es22, es23, es24, es25, es26, es27, es28, es29, es30, es31, es32, es33, es34, es35, es36, es37, es38, es39, es40, es41, es42, es43, es44, es45, es46, es47, es48, es49, es50, es51, es52, es53, es54, es56, es57, es58, es59, es60, es61, es62, es63, es64, es65, es66, es67, es68, es69, es70, es71, es72, es73, es74, es75, es77, es78, es79, es80, el1, el2, el4, el5, el6, el7, el8, el9, es82, es83, es84, es85, es86, es87, es88, es89, es90, es95, es96, es97, eh1, eh2, eh3, eo1, eo2, eo3, eo4, eo5, eo6, eo7, eo8, eo9, eo10, eo11, eo12, eo13, eo14, eo15, eo16, eo17, eo18, eo19, eo20, ei1, ei2, ei3, ei4, ei5, ei6, ei7, ei8, ei9, ei10, ei11, ei12, ei13, ei14, ei15, ei16, ei17, ei18, ei19, ei20, ei21, ei22, ei23, ei24, ei25, ei26, ei27, ei28, ei29, ei30, ei31, ei32, ei33, ei34, ei35, ei36, ei37, ei38, ei39, ei40, ei41, ei42, er1, er2, er3, er4, er5, er6, er7, er8, er9, er10, er11, er12, er13, er14, er15, er16, er17, er18, er19, er20, er21, er22, er23, er24, er25, er26, er27, er28, ek1, ek2, ek3, ek4, ek5, ek6, ek7, ek8, ek9, ek10, ek11, ek12, ek13, ek14, ek15, ek16, ek17, ek18, ek19, ek20, ek21, ek22, ek23, ek24, eo21, eo22, eo23, es98, ev111, opEq_int, opNe_int, opLt_int, opGt_int, opAdd_int, opSub_int, List.getElem?_cons_zero, List.getElem?_cons_succ, List.set_cons_zero, List.set_cons_succ, Bool.not_true, Bool.not_false, Bool.and_true, Bool.true_and, Bool.false_and, Bool.and_false, List.contains_nil, decide_true, decide_false, List.nil_append, List.append_nil, List.cons_append, List.contains_cons, Bool.false_or, Bool.true_or, Bool.or_false, Bool.or_true, Bool.false_eq_true, reduceIte, List.all_cons, List.all_nil, List.any_cons, List.any_nil, id_eq, Bool.not_not, Bool.and_self, Bool.or_self, Nat.reduceAdd, Nat.reduceBEq, Nat.reduceSub, beq_self_eq_true, $ts,*])
local macro_rules | `(tactic| dsimp! [$ts,*]) => `(tactic| simp (disch := first | assumption | omega | (simp only [List.length_map, List.length_range, List.length_append, List.length_cons, List.length_nil, List.length_replicate, List.length_take, List.length_drop] <;> omega) | exact P5.nr rfl) only [ev1, ev2, ev3, ev4, ev5, ev6, ev7, ev8, ev9, ev10, ev11, ev12, ev13, ev14, ev15, ev16, ev17, ev18, ev19, ev20, ev21, ev22, ev23, ev24, ev25, ev26, ev27, ev28, ev29, ev30, ev31, ev32, ev33, ev34, ev37, ev40, ev41, ev42, ev45, ev46, ev49, ev52, ev53, ev56, ev57, ev58, ev59, ev60, ev61, ev62, ev63, ev64, ev65, ev66, ev67, ev68, ev69, ev70, ev71, ev72, ev73, ev74, ev75, ev76, ev77, ev78, ev79, ev80, ev81, ev82, ev83, ev84, ev85, ev86, ev87, ev88, ev89, ev90, ev91, ev92, ev93, ev94, ev95, ev96, ev97, ev98, ev99, ev100, ev101, ev102, ev103, ev104, ev105, ev106, ev107, ev108, ev109, es1, es2, es3, es4, es5, es6, es7, es8, es9, es10, es11, es12, es13, es14, es15, es16, es17, es18, es19, es20, es21, es22, es23, es24, es25, es26, es27, es28, es29, es30, es31, es32, es33, es34, es35, es36, es37, es38, es39, es40, es41, es42, es43, es44, es45, es46, es47, es48, es49, es50, es51, es52, es53, es54, es56, es57, es58, es59, es60, es61, es62, es63, es64, es65, es66, es67, es68, es69, es70, es71, es72, es73, es74, es75, es77, es78, es79, es80, el1, el2, el4, el5, el6, el7, el8, el9, es82, es83, es84, es85, es86, es87, es88, es89, es90, es95, es96, es97, eh1, eh2, eh3, eo1, eo2, eo3, eo4, eo5, eo6, eo7, eo8, eo9, eo10, eo11, eo12, eo13, eo14, eo15, eo16, eo17, eo18, eo19, eo20, ei1, ei2, ei3, ei4, ei5, ei6, ei7, ei8, ei9, ei10, ei11, ei12, ei13, ei14, ei15, ei16, ei17, ei18, ei19, ei20, ei21, ei22, ei23, ei24, ei25, ei26, ei27, ei28, ei29, ei30, ei31, ei32, ei33, ei34, ei35, ei36, ei37, ei38, ei39, ei40, ei41, ei42, er1, er2, er3, er4, er5, er6, er7, er8, er9, er10, er11, er12, er13, er14, er15, er16, er17, er18, er19, er20, er21, er22, er23, er24, er25, er26, er27, er28, ek1, ek2, ek3, ek4, ek5, ek6, ek7, ek8, ek9, ek10, ek11, ek12, ek13, ek14, ek15, ek16, ek17, ek18, ek19, ek20, ek21, ek22, ek23, ek24, eo21, eo22, eo23, es98, ev111, opEq_int, opNe_int, opLt_int, opGt_int, opAdd_int, opSub_int, List.getElem?_cons_zero, List.getElem?_cons_succ, List.set_cons_zero, List.set_cons_succ, Bool.not_true, Bool.not_false, Bool.and_true, Bool.true_and, Bool.false_and, Bool.and_false, List.contains_nil, decide_true, decide_false, List.nil_append, List.append_nil, List.cons_append, List.contains_cons, Bool.false_or, Bool.true_or, Bool.or_false, Bool.or_true, Bool.false_eq_true, reduceIte, List.all_cons, List.all_nil, List.any_cons, List.any_nil, id_eq, Bool.not_not, Bool.and_self, Bool.or_self, Nat.reduceAdd, Nat.reduceBEq, Nat.reduceSub, beq_self_eq_true, ew1, ew2, ew3, ew4, ew5, ew6, ew7, ew9, ew10, ew11, ew15, ew16, ew17, ew18, ew19, ew20, ew21, ew22, ew23, ew24, ew26, ew28, ew29, ew30, ew31, ew32, ew34, ew35, ew36, ew37, ew40, ew41, ew42, ew43, ew44, ew45, ew46, ew47, ew48, ew49, ew50, ew51, ew52, ew53, ew54, ew55, ew56, ew57, ew58, ew59, and_false, $ts,*])
theorem is_T {d : D} {T : String} {t : String} (h : tyD d = some t) (b : Bool) (hb : isB t T = b) : opIsi T d = some (.bl b) := by rw [isi_of h, hb]
theorem s_house (o0 o2 o3 o4 o5 o6 o7 o8 o9 o10 o11 o12 o13 o14 o15 o16 o17 o18 o19 o20 o21 o22 o23 o24 o25 o26 o27 : Option D) {EF : Err × Env' → Prop} :
    WP (sSetF [11, 22] (dCall opTuple (dCons c_law_1 dNil)) (gdName 3) [o0, some .bag, o2, o3, o4, o5, o6, o7, o8, o9, o10, o11, o12, o13, o14, o15, o16, o17, o18, o19, o20, o21, o22, o23, o24, o25, o26, o27])
      (fun r => ∃ ρ', r = .nx ρ' ∧ ∃ h : List Nat, 1 ≤ h.length ∧ h.length ≤ 5 ∧ (∀ x ∈ h, 1 ≤ x ∧ x ≤ 9) ∧ ρ' = [o0, some .bag, o2, some (.tup (h.map iD)), o4, o5, o6, o7, o8, o9, o10, o11, o12, o13, o14, o15, o16, o17, o18, o19, o20, o21, o22, o23, o24, o25, o26, o27]) EF := by
  unfold c_law_1
  dsimp! []
  intro n0 hn0 hn1
  obtain ⟨n, hn, hn5⟩ : ∃ n : Nat, 1 + n0 = (n : Int) ∧ 1 ≤ n ∧ n ≤ 5 := ⟨(1 + n0).toNat, by omega, by omega, by omega⟩
  rw [hn]
  dsimp! [rng1]
  refine W_draws (fun x => 1 ≤ x ∧ x ≤ 9) (fun x _ => ?_) fun l hl hx => ?_
  · dsimp! []
    intro j h0 h1
    exact ⟨(1 + j).toNat, by omega, by show D.int _ = D.int _; rw [Int.toNat_of_nonneg (by omega)]⟩
  · rw [List.length_map, List.length_range] at hl
    exact ⟨_, rfl, l, by omega, by omega, hx, rfl⟩
theorem s_moves {h : List Nat} (hl : h.length ≤ 5) (o0 o2 o6 o7 o8 o9 o10 o11 o12 o13 o14 o15 o16 o17 o18 o19 o20 o21 o22 o23 o24 o25 o26 o27 : Option D) {EF : Err × Env' → Prop} :
    WP (sFor [11, 22] (iArgs opRng1 (dCons (dCallM 2 takeM (dCons (dVar 1) (dCons (dCon (.int 5)) dNil))) dNil)) (gdName 6) b_law_1 [o0, some .bag, o2, some (.tup (h.map iD)), some (.int (h.length + 1 : Nat)), some (.lst []), o6, o7, o8, o9, o10, o11, o12, o13, o14, o15, o16, o17, o18, o19, o20, o21, o22, o23, o24, o25, o26, o27])
      (fun r => ∃ ρ', r = .nx ρ' ∧ ∃ (mv : List (Nat × Nat)) (o6 o7 o8 : Option D), mv.length ≤ 4 ∧ (∀ p ∈ mv, p.1 ≤ h.length ∧ p.2 ≤ h.length) ∧ ρ' = [o0, some .bag, o2, some (.tup (h.map iD)), some (.int (h.length + 1 : Nat)), some (.lst (mvs mv)), o6, o7, o8, o9, o10, o11, o12, o13, o14, o15, o16, o17, o18, o19, o20, o21, o22, o23, o24, o25, o26, o27]) EF := by
  dsimp! []
  intro n0 hn0 hn1
  obtain ⟨n, rfl⟩ : ∃ n : Nat, n0 = (n : Int) := ⟨n0.toNat, by omega⟩
  dsimp! [rng1]
  refine W_loop (fun k ρ' => ∃ (mv : List (Nat × Nat)) (o6 o7 o8 : Option D), mv.length + k ≤ 4 ∧ (∀ p ∈ mv, p.1 ≤ h.length ∧ p.2 ≤ h.length) ∧ ρ' = [o0, some .bag, o2, some (.tup (h.map iD)), some (.int (h.length + 1 : Nat)), some (.lst (mvs mv)), o6, o7, o8, o9, o10, o11, o12, o13, o14, o15, o16, o17, o18, o19, o20, o21, o22, o23, o24, o25, o26, o27]) (fun x hx => ?_) (fun x hx k ρ ⟨mv, p6, p7, p8, hm, hp, e⟩ => ?_) ?_ ?_
  · obtain ⟨j, _, rfl⟩ := List.mem_map.mp hx
    rfl
  · subst e
    unfold b_law_1
    dsimp! []
    intro a ha0 ha1 b hb0 hb1
    obtain ⟨a, rfl⟩ : ∃ n : Nat, a = (n : Int) := ⟨a.toNat, by omega⟩
    obtain ⟨b, rfl⟩ : ∃ n : Nat, b = (n : Int) := ⟨b.toNat, by omega⟩
    by_cases hab : (a : Int) = b
    · have e := mulBool [.tup [.int a, .int b]] (by show 1 ≤ 1000; decide) false
      rw [if_neg (by decide), if_neg (by decide)] at e
      dsimp! [hab, e]
      rw [hab] at e
      dsimp! [e]
      exact ⟨_, rfl, mv, _, _, _, by omega, hp, rfl⟩
    · have e := mulBool [.tup [.int a, .int b]] (by show 1 ≤ 1000; decide) true
      rw [if_pos rfl, if_pos rfl] at e
      have hlen : (mvs mv).length + 1 ≤ 16777216 := by rw [List.length_map]; omega
      dsimp! [hab, e]
      refine ⟨_, rfl, mv ++ [(a, b)], some x, some (.int a), some (.int b), by rw [List.length_append]; show mv.length + 1 + k ≤ 4; omega, fun p hp' => ?_, ?_⟩
      · rcases List.mem_append.mp hp' with z | z
        · exact hp p z
        · rw [List.mem_singleton.mp z]
          exact ⟨by show a ≤ _; omega, by show b ≤ _; omega⟩
      · rw [show mvs (mv ++ [(a, b)]) = mvs mv ++ [.tup [.int a, .int b]] from List.map_append]
  · rw [List.length_map, List.length_range]
    exact ⟨[], _, _, _, by show 0 + n ≤ 4; omega, (fun _ h => nomatch h), rfl⟩
  · rintro ρ' ⟨mv, p6, p7, p8, hm, hp, e⟩
    exact ⟨_, rfl, mv, p6, p7, p8, by omega, hp, e⟩
section
variable {h : List Nat} {mv : List (Nat × Nat)} (o0 o2 o4 o6 o7 o8 o9 o10 o14 o15 o16 o17 o18 o19 o20 o21 o22 o23 o24 o25 o26 o27 : Option D)
theorem x_step {k : Nat} {X : List D} (hX : X.length ≤ 100) (o13 : Option D) : b_law_2 [o0, some .bag, o2, some (.tup (h.map iD)), o4, some (.tup (mvs mv)), o6, o7, o8, o9, o10, some (.lst X), some (.int k), o13, o14, o15, o16, o17, o18, o19, o20, o21, o22, o23, o24, o25, o26, o27] =
    pure (.nx [o0, some .bag, o2, some (.tup (h.map iD)), o4, some (.tup (mvs mv)), o6, o7, o8, o9, o10, some (.lst (X ++ [crD mv k])), some (.int k), some (.int (mv.filter (upB k)).length), o14, o15, o16, o17, o18, o19, o20, o21, o22, o23, o24, o25, o26, o27]) := by
  have h1 : ∀ o13 : Option D, c_law_2 [o0, some .bag, o2, some (.tup (h.map iD)), o4, some (.tup (mvs mv)), o6, o7, o8, o9, o10, none, some (.int k), o13, o14, o15, o16, o17, o18, o19, o20, o21, none, o23, o24, o25, o26, o27] = pure (.lst ((mv.filter (upB k)).map fun _ => .int 1)) := fun o13 => by
    unfold c_law_2
    simp! []
    rw [lc_filter2 (h := fun p : Nat × Nat => iD p.1) (h2 := fun p : Nat × Nat => iD p.2) (p := upB k) (f := fun _ => .int 1) fun p hp => ?_]
    · simp! []
    · refine ⟨?_, fun _ => rfl⟩
      simp! [le_dec, lt_dec]
      rfl
  have h2 : ∀ o13 : Option D, c_law_3 [o0, some .bag, o2, some (.tup (h.map iD)), o4, some (.tup (mvs mv)), o6, o7, o8, o9, o10, none, some (.int k), o13, o14, o15, o16, o17, o18, o19, o20, o21, none, o23, o24, o25, o26, o27] = pure (.lst ((mv.filter (dnB k)).map fun _ => .int 1)) := fun o13 => by
    unfold c_law_3
    simp! []
    rw [lc_filter2 (h := fun p : Nat × Nat => iD p.1) (h2 := fun p : Nat × Nat => iD p.2) (p := dnB k) (f := fun _ => .int 1) fun p hp => ?_]
    · simp! []
    · refine ⟨?_, fun _ => rfl⟩
      simp! [le_dec, lt_dec]
      rfl
  unfold b_law_2
  simp! [h1, h2, List.length_map]
  rfl
theorem x_loop : ∀ (n k : Nat) (X : List D) (o12 o13 : Option D), X.length + n ≤ 100 → ∃ p12 p13 : Option D, forL [11, 22] (gdName 12) b_law_2 ((List.range' k n).map iD) [o0, some .bag, o2, some (.tup (h.map iD)), o4, some (.tup (mvs mv)), o6, o7, o8, o9, o10, some (.lst X), o12, o13, o14, o15, o16, o17, o18, o19, o20, o21, o22, o23, o24, o25, o26, o27] =
    pure (.nx [o0, some .bag, o2, some (.tup (h.map iD)), o4, some (.tup (mvs mv)), o6, o7, o8, o9, o10, some (.lst (X ++ (List.range' k n).map (crD mv))), p12, p13, o14, o15, o16, o17, o18, o19, o20, o21, o22, o23, o24, o25, o26, o27])
  | 0, k, X, o12, o13, _ => ⟨o12, o13, by
    show pure (Fl.nx [_, _, _, _, _, _, _, _, _, _, _, some (.lst X), _, _, _, _, _, _, _, _, _, _, _, _, _, _, _, _]) = pure (Fl.nx [_, _, _, _, _, _, _, _, _, _, _, some (.lst (X ++ [])), _, _, _, _, _, _, _, _, _, _, _, _, _, _, _, _])
    rw [List.append_nil]⟩
  | n + 1, k, X, o12, o13, hX => by
    obtain ⟨p12, p13, ih⟩ := x_loop n (k + 1) (X ++ [crD mv k]) (some (.int k)) (some (.int (mv.filter (upB k)).length)) (by
      rw [List.length_append]
      show X.length + 1 + n ≤ 100
      omega)
    refine ⟨p12, p13, ?_⟩
    rw [List.range'_succ, List.map_cons, List.map_cons]
    refine (fl_nx rfl (x_step o0 o2 o4 o6 o7 o8 o9 o10 o14 o15 o16 o17 o18 o19 o20 o21 o22 o23 o24 o25 o26 o27 (by omega) o13)).trans (ih.trans ?_)
    rw [List.append_assoc]
    rfl
end
end L02

namespace L02
open PySem L2 PyProof.Rows P5
local macro_rules | `(tactic| simp! [$ts,*]) => `(tactic| simp (disch := first | assumption | omega | (simp only [List.length_map, List.length_range, List.length_append, List.length_cons, List.length_nil, List.length_replicate, List.length_take, List.length_drop] <;> omega) | exact P5.nr rfl) only [ev1, ev2, ev3, ev4, ev5, ev6, ev7, ev8, ev9, ev10, ev11, ev12, ev13, ev14, ev15, ev16, ev17, ev18, ev19, ev20, ev21, ev22, ev23, ev24, ev25, ev26, ev27, ev28, ev29, ev30, ev31, ev32, ev33, ev34, ev37, ev40, ev41, ev42, ev45, ev46, ev49, ev52, ev53, ev56, ev57, ev58, ev59, ev60, ev61, ev62, ev63, ev64, ev65, ev66, ev67, ev68, ev69, ev70, ev71, ev72, ev73, ev74, ev75, ev76, ev77, ev78, ev79, ev80, ev81, ev82, ev83, ev84, ev85, ev86, ev87, ev88, ev89, ev90, ev91, ev92, ev93, ev94, ev95, ev96, ev97, ev98, ev99, ev100, ev101, ev102, ev103, ev104, ev105, ev106, ev107, ev108, ev109, es1, es2, es3, es4, es5, es6, es7, es8, es9, es10, es11, es12, es13, es14, es15, es16, es17, es18, es19, es20, es21, es22, es23, es24, es25, es26, es27, es28, es29, es30, es31, es32, es33, es34, es35, es36, es37, es38, es39, es40, es41, es42, es43, es44, es45, es46, es47, es48, es49, es50, es51, es52, es53, es54, es56, es57, es58, es59, es60, es61, es62, es63, es64, es65, es66, es67, es68, es69, es70, es71, es72, es73, es74, es75, es77, es78, es79, es80, el1, el2, el4, el5, el6, el7, el8, el9, es82, es83, es84, es85, es86, es87, es88, es89, es90, es95, es96, es97, eh1, eh2, eh3, eo1, eo2, eo3, eo4, eo5, eo6, eo7, eo8, eo9, eo10, eo11, eo12, eo13, eo14, eo15, eo16, eo17, eo18, eo19, eo20, ei1, ei2, ei3, ei4, ei5, ei6, ei7, ei8, ei9, ei10, ei11, ei12, ei13, ei14, ei15, ei16, ei17, ei18, ei19, ei20, ei21, ei22, ei23, ei24, ei25, ei26, ei27, ei28, ei29, ei30, ei31, ei32, ei33, ei34, ei35, ei36, ei37, ei38, ei39, ei40, ei41, ei42, er1, er2, er3, er4, er5, er6, er7, er8, er9, er10, er11, er12, er13, er14, er15, er16, er17, er18, er19, er20, er21, er22, er23, er24, er25, er26, er27, er28, ek1, ek2, ek3, ek4, ek5, ek6, ek7, ek8, ek9, ek10, ek11, ek12, ek13, ek14, ek15, ek16, ek17, ek18, ek19, ek20, ek21, ek22, ek23, ek24, eo21, eo22, eo23, es98, ev111, opEq_int, opNe_int, opLt_int, opGt_int, opAdd_int, opSub_int, List.getElem?_cons_zero, List.getElem?_cons_succ, List.set_cons_zero, List.set_cons_succ, Bool.not_true, Bool.not_false, Bool.and_true, Bool.true_and, Bool.false_and, Bool.and_false, List.contains_nil, decide_true, decide_false, List.nil_append, List.append_nil, List.cons_append, List.contains_cons, Bool.false_or, Bool.true_or, Bool.or_false, Bool.or_true, Bool.false_eq_true, reduceIte, List.all_cons, List.all_nil, List.any_cons, List.any_nil, id_eq, Bool.not_not, Bool.and_self, Bool.or_self, Nat.reduceAdd, Nat.reduceBEq, Nat.reduceSub, beq_self_eq_true, $ts,*])
local macro_rules | `(tactic| dsimp! [$ts,*]) => `(tactic| simp (disch := first | assumption | omega | (simp only [List.length_map, List.length_range, List.length_append, List.length_cons, List.length_nil, List.length_replicate, List.length_take, List.length_drop] <;> omega) | exact P5.nr rfl) only [ev1, ev2, ev3, ev4, ev5, ev6, ev7, ev8, ev9, ev10, ev11, ev12, ev13, ev14, ev15, ev16, ev17, ev18, ev19, ev20, ev21, ev22, ev23, ev24, ev25, ev26, ev27, ev28, ev29, ev30, ev31, ev32, ev33, ev34, ev37, ev40, ev41, ev42, ev45, ev46, ev49, ev52, ev53, ev56, ev57, ev58, ev59, ev60, ev61, ev62, ev63, ev64, ev65, ev66, ev67, ev68, ev69, ev70, ev71, ev72, ev73, ev74, ev75, ev76, ev77, ev78, ev79, ev80, ev81, ev82, ev83, ev84, ev85, ev86, ev87, ev88, ev89, ev90, ev91, ev92, ev93, ev94, ev95, ev96, ev97, ev98, ev99, ev100, ev101, ev102, ev103, ev104, ev105, ev106, ev107, ev108, ev109, es1, es2, es3, es4, es5, es6, es7, es8, es9, es10, es11, es12, es13, es14, es15, es16, es17, es18, es19, es20, es21, es22, es23, es24, es25, es26, es27, es28, es29, es30, es31, es32, es33, es34, es35, es36, es37, es38, es39, es40, es41, es42, es43, es44, es45, es46, es47, es48, es49, es50, es51, es52, es53, es54, es56, es57, es58, es59, es60, es61, es62, es63, es64, es65, es66, es67, es68, es69, es70, es71, es72, es73, es74, es75, es77, es78, es79, es80, el1, el2, el4, el5, el6, el7, el8, el9, es82, es83, es84, es85, es86, es87, es88, es89, es90, es95, es96, es97, eh1, eh2, eh3, eo1, eo2, eo3, eo4, eo5, eo6, eo7, eo8, eo9, eo10, eo11, eo12, eo13, eo14, eo15, eo16, eo17, eo18, eo19, eo20, ei1, ei2, ei3, ei4, ei5, ei6, ei7, ei8, ei9, ei10, ei11, ei12, ei13, ei14, ei15, ei16, ei17, ei18, ei19, ei20, ei21, ei22, ei23, ei24, ei25, ei26, ei27, ei28, ei29, ei30, ei31, ei32, ei33, ei34, ei35, ei36, ei37, ei38, ei39, ei40, ei41, ei42, er1, er2, er3, er4, er5, er6, er7, er8, er9, er10, er11, er12, er13, er14, er15, er16, er17, er18, er19, er20, er21, er22, er23, er24, er25, er26, er27, er28, ek1, ek2, ek3, ek4, ek5, ek6, ek7, ek8, ek9, ek10, ek11, ek12, ek13, ek14, ek15, ek16, ek17, ek18, ek19, ek20, ek21, ek22, ek23, ek24, eo21, eo22, eo23, es98, ev111, opEq_int, opNe_int, opLt_int, opGt_int, opAdd_int, opSub_int, List.getElem?_cons_zero, List.getElem?_cons_succ, List.set_cons_zero, List.set_cons_succ, Bool.not_true, Bool.not_false, Bool.and_true, Bool.true_and, Bool.false_and, Bool.and_false, List.contains_nil, decide_true, decide_false, List.nil_append, List.append_nil, List.cons_append, List.contains_cons, Bool.false_or, Bool.true_or, Bool.or_false, Bool.or_true, Bool.false_eq_true, reduceIte, List.all_cons, List.all_nil, List.any_cons, List.any_nil, id_eq, Bool.not_not, Bool.and_self, Bool.or_self, Nat.reduceAdd, Nat.reduceBEq, Nat.reduceSub, beq_self_eq_true, ew1, ew2, ew3, ew4, ew5, ew6, ew7, ew9, ew10, ew11, ew15, ew16, ew17, ew18, ew19, ew20, ew21, ew22, ew23, ew24, ew26, ew28, ew29, ew30, ew31, ew32, ew34, ew35, ew36, ew37, ew40, ew41, ew42, ew43, ew44, ew45, ew46, ew47, ew48, ew49, ew50, ew51, ew52, ew53, ew54, ew55, ew56, ew57, ew58, ew59, and_false, $ts,*])
section
variable {h : List Nat} {mv : List (Nat × Nat)} {a b c r : Nat}
theorem way_ge (hab : ¬ a < b) : way (PS h) c a b = some [] := by
  unfold way
  rw [if_pos (show fit (PS h) c a b from fun i h1 h2 => by omega), show b - a = 0 by omega]
  rfl
theorem v_rests' (ha : a ≤ h.length) (hb : b ≤ h.length) (hl : h.length ≤ 6) : m__law_rests [.tup (h.map iD), .int a, .int b, .int c] = pure (cntD (way (PS h) c a b)) := by
  rw [v_rests ha hb hl]
  by_cases hab : a < b
  · rw [if_pos hab]
  · rw [if_neg hab, way_ge hab]
    rfl
def toldD (h : List Nat) (mv : List (Nat × Nat)) (a b : Nat) : D := .lst [.int (bt h a b), .int (mv.map fun p => bt h p.1 p.2).sum, .tup (crossD h mv), .int (mxl (tops mv))]
theorem told_alike (hl : h.length ≤ 50) : alikeM [toldD h mv a b, toldD h mv a b] = pure (.bl true) := by
  refine alike_eq ?_ ?_
  · show (true && (true && (plL ((List.range' 0 h.length).map (crD mv)) && (true && true)))) = true
    rw [plL_map fun _ => rfl]
    rfl
  · have := szL_map (f := crD mv) (c := 3) (fun _ => Nat.le_refl _) (List.range' 0 h.length)
    rw [List.length_range'] at this
    show 1 + (1 + ((szL ((List.range' 0 h.length).map (crD mv)) + 1) + (1 + 0))) + 1 ≤ 16777216
    omega
def fewD (w : Option (List Nat)) : D := .lst [cntD w, wayD w]
theorem few_alike {w : Option (List Nat)} (hw : ∀ l, w = some l → l.length ≤ 100) : alikeM [fewD w, fewD w] = pure (.bl true) := by
  cases w with
  | none => exact alike_eq rfl (by decide)
  | some l =>
    have hl := hw l rfl
    refine alike_eq ?_ ?_
    · show (true && (plL (l.map iD) && true)) = true
      rw [plL_map fun _ => rfl]
      rfl
    · have := szL_map (f := iD) (c := 1) (fun _ => Nat.le_refl _) l
      show 1 + ((szL (l.map iD) + 1) + 0) + 1 ≤ 16777216
      omega
theorem way_len {w : Option (List Nat)} (e : way (PS h) c a b = w) (hb : b ≤ h.length) (hl : h.length ≤ 50) : ∀ l, w = some l → l.length ≤ 100 := by
  rintro l rfl
  unfold way at e
  split at e
  · injection e with e
    have := gr_len (P := PS h) (b := c) (b - a) a a
    rw [← e]
    omega
  · cases e
theorem bl_alike (t t' : Bool) : alikeM [.lst [.bl t, .bl t'], .lst [.bl t, .bl t']] = pure (.bl true) := alike_eq rfl (by show 3 ≤ 16777216; decide)
def enB (h : List Nat) (a b r c : Nat) : Bool := match way (PS h) c a b with
  | some l => decide (l.length ≤ r)
  | none => false
theorem enB_iff : enB h a b r c = true ↔ enough h a b r c := by
  unfold enB way enough
  by_cases f : fit (PS h) c a b
  · rw [if_pos f]
    exact ⟨fun z => ⟨f, of_decide_eq_true z⟩, fun z => decide_eq_true z.2⟩
  · rw [if_neg f]
    exact ⟨fun z => Bool.noConfusion z, fun z => absurd z.1 f⟩
theorem asked_fl : heardK 2 g__law_asked (M.raise flErr) = pure (.str "floor") := asked_why (S := S_Refused) (x := "floor") (by decide +kernel)
def fourF : D := .lst [.str "floor", .str "floor", .str "floor", .str "floor"]
theorem four_mul : opMul (.lst [.str "floor"]) (.int 4) = some fourF := by
  show (if 0 ≤ (4 : Int) ∧ (4 : Int) < 16777217 ∧ 1 * (4 : Int).toNat ≤ 16777216 then some (D.lst (List.replicate (4 : Int).toNat [D.str "floor"]).flatten) else none) = _
  rw [if_pos ⟨by decide, by decide, by decide⟩]
  rfl
theorem four_ne : opNe fourF fourF = some (.bl false) := opNe_refl (by decide +kernel) (by decide +kernel)
theorem x_odd {d : D} (hd : noFl h d) (ha : a ≤ h.length) (o0 o1 o2 o4 o5 o6 o7 o8 o10 o11 o12 o13 o14 o15 o16 o17 o18 o19 o20 o22 o23 o24 o25 o26 o27 : Option D) :
    b_law_3 [o0, o1, o2, some (.tup (h.map iD)), o4, o5, o6, o7, o8, some (.int a), o10, o11, o12, o13, o14, o15, o16, o17, o18, o19, o20, some d, o22, o23, o24, o25, o26, o27] =
      pure (.nx [o0, o1, o2, some (.tup (h.map iD)), o4, o5, o6, o7, o8, some (.int a), o10, o11, o12, o13, o14, o15, o16, o17, o18, o19, o20, some d, some fourF, o23, o24, o25, o26, o27]) := by
  have e1 : m_steps_between [.tup (h.map iD), d, .int a] = M.raise flErr := v_steps1 hd ha
  have e2 : m_fewest_rests [.tup (h.map iD), .int a, d, .int 5] = M.raise flErr := v_fewest2 (c := 5) hd ha
  have e3 : m_rest_floors [.tup (h.map iD), d, .int a, .int 5] = M.raise flErr := v_floors1 (c := 5) hd ha
  have e4 : m_least_breath [.tup (h.map iD), .int a, d, .int 1] = M.raise flErr := v_least2 (c := 1) hd ha
  unfold b_law_3
  simp! [e1, e2, e3, e4, asked_fl, four_mul]
  rw [show D.lst [.str "floor", .str "floor", .str "floor", .str "floor"] = fourF from rfl]
  simp! [four_ne]
end
end L02

namespace L02
open PySem L2 PyProof.Rows P5
local macro_rules | `(tactic| simp! [$ts,*]) => `(tactic| simp (disch := first | assumption | omega | (simp only [List.length_map, List.length_range, List.length_append, List.length_cons, List.length_nil, List.length_replicate, List.length_take, List.length_drop] <;> omega) | exact P5.nr rfl) only [ev1, ev2, ev3, ev4, ev5, ev6, ev7, ev8, ev9, ev10, ev11, ev12, ev13, ev14, ev15, ev16, ev17, ev18, ev19, ev20, ev21, ev22, ev23, ev24, ev25, ev26, ev27, ev28, ev29, ev30, ev31, ev32, ev33, ev34, ev37, ev40, ev41, ev42, ev45, ev46, ev49, ev52, ev53, ev56, ev57, ev58, ev59, ev60, ev61, ev62, ev63, ev64, ev65, ev66, ev67, ev68, ev69, ev70, ev71, ev72, ev73, ev74, ev75, ev76, ev77, ev78, ev79, ev80, ev81, ev82, ev83, ev84, ev85, ev86, ev87, ev88, ev89, ev90, ev91, ev92, ev93, ev94, ev95, ev96, ev97, ev98, ev99, ev100, ev101, ev102, ev103, ev104, ev105, ev106, ev107, ev108, ev109, es1, es2, es3, es4, es5, es6, es7, es8, es9, es10, es11, es12, es13, es14, es15, es16, es17, es18, es19, es20, es21, es22, es23, es24, es25, es26, es27, es28, es29, es30, es31, es32, es33, es34, es35, es36, es37, es38, es39, es40, es41, es42, es43, es44, es45, es46, es47, es48, es49, es50, es51, es52, es53, es54, es56, es57, es58, es59, es60, es61, es62, es63, es64, es65, es66, es67, es68, es69, es70, es71, es72, es73, es74, es75, es77, es78, es79, es80, el1, el2, el4, el5, el6, el7, el8, el9, es82, es83, es84, es85, es86, es87, es88, es89, es90, es95, es96, es97, eh1, eh2, eh3, eo1, eo2, eo3, eo4, eo5, eo6, eo7, eo8, eo9, eo10, eo11, eo12, eo13, eo14, eo15, eo16, eo17, eo18, eo19, eo20, ei1, ei2, ei3, ei4, ei5, ei6, ei7, ei8, ei9, ei10, ei11, ei12, ei13, ei14, ei15, ei16, ei17, ei18, ei19, ei20, ei21, ei22, ei23, ei24, ei25, ei26, ei27, ei28, ei29, ei30, ei31, ei32, ei33, ei34, ei35, ei36, ei37, ei38, ei39, ei40, ei41, ei42, er1, er2, er3, er4, er5, er6, er7, er8, er9, er10, er11, er12, er13, er14, er15, er16, er17, er18, er19, er20, er21, er22, er23, er24, er25, er26, er27, er28, ek1, ek2, ek3, ek4, ek5, ek6, ek7, ek8, ek9, ek10, ek11, ek12, ek13, ek14, ek15, ek16, ek17, ek18, ek19, ek20, ek21, ek22, ek23, ek24, eo21, eo22, eo23, es98, ev111, opEq_int, opNe_int, opLt_int, opGt_int, opAdd_int, opSub_int, List.getElem?_cons_zero, List.getElem?_cons_succ, List.set_cons_zero, List.set_cons_succ, Bool.not_true, Bool.not_false, Bool.and_true, Bool.true_and, Bool.false_and, Bool.and_false, List.contains_nil, decide_true, decide_false, List.nil_append, List.append_nil, List.cons_append, List.contains_cons, Bool.false_or, Bool.true_or, Bool.or_false, Bool.or_true, Bool.false_eq_true, reduceIte, List.all_cons, List.all_nil, List.any_cons, List.any_nil, id_eq, Bool.not_not, Bool.and_self, Bool.or_self, Nat.reduceAdd, Nat.reduceBEq, Nat.reduceSub, beq_self_eq_true, $ts,*])
local macro_rules | `(tactic| dsimp! [$ts,*]) => `(tactic| simp (disch := first | assumption | omega | (simp only [List.length_map, List.length_range, List.length_append, List.length_cons, List.length_nil, List.length_replicate, List.length_take, List.length_drop] <;> omega) | exact P5.nr rfl) only [ev1, ev2, ev3, ev4, ev5, ev6, ev7, ev8, ev9, ev10, ev11, ev12, ev13, ev14, ev15, ev16, ev17, ev18, ev19, ev20, ev21, ev22, ev23, ev24, ev25, ev26, ev27, ev28, ev29, ev30, ev31, ev32, ev33, ev34, ev37, ev40, ev41, ev42, ev45, ev46, ev49, ev52, ev53, ev56, ev57, ev58, ev59, ev60, ev61, ev62, ev63, ev64, ev65, ev66, ev67, ev68, ev69, ev70, ev71, ev72, ev73, ev74, ev75, ev76, ev77, ev78, ev79, ev80, ev81, ev82, ev83, ev84, ev85, ev86, ev87, ev88, ev89, ev90, ev91, ev92, ev93, ev94, ev95, ev96, ev97, ev98, ev99, ev100, ev101, ev102, ev103, ev104, ev105, ev106, ev107, ev108, ev109, es1, es2, es3, es4, es5, es6, es7, es8, es9, es10, es11, es12, es13, es14, es15, es16, es17, es18, es19, es20, es21, es22, es23, es24, es25, es26, es27, es28, es29, es30, es31, es32, es33, es34, es35, es36, es37, es38, es39, es40, es41, es42, es43, es44, es45, es46, es47, es48, es49, es50, es51, es52, es53, es54, es56, es57, es58, es59, es60, es61, es62, es63, es64, es65, es66, es67, es68, es69, es70, es71, es72, es73, es74, es75, es77, es78, es79, es80, el1, el2, el4, el5, el6, el7, el8, el9, es82, es83, es84, es85, es86, es87, es88, es89, es90, es95, es96, es97, eh1, eh2, eh3, eo1, eo2, eo3, eo4, eo5, eo6, eo7, eo8, eo9, eo10, eo11, eo12, eo13, eo14, eo15, eo16, eo17, eo18, eo19, eo20, ei1, ei2, ei3, ei4, ei5, ei6, ei7, ei8, ei9, ei10, ei11, ei12, ei13, ei14, ei15, ei16, ei17, ei18, ei19, ei20, ei21, ei22, ei23, ei24, ei25, ei26, ei27, ei28, ei29, ei30, ei31, ei32, ei33, ei34, ei35, ei36, ei37, ei38, ei39, ei40, ei41, ei42, er1, er2, er3, er4, er5, er6, er7, er8, er9, er10, er11, er12, er13, er14, er15, er16, er17, er18, er19, er20, er21, er22, er23, er24, er25, er26, er27, er28, ek1, ek2, ek3, ek4, ek5, ek6, ek7, ek8, ek9, ek10, ek11, ek12, ek13, ek14, ek15, ek16, ek17, ek18, ek19, ek20, ek21, ek22, ek23, ek24, eo21, eo22, eo23, es98, ev111, opEq_int, opNe_int, opLt_int, opGt_int, opAdd_int, opSub_int, List.getElem?_cons_zero, List.getElem?_cons_succ, List.set_cons_zero, List.set_cons_succ, Bool.not_true, Bool.not_false, Bool.and_true, Bool.true_and, Bool.false_and, Bool.and_false, List.contains_nil, decide_true, decide_false, List.nil_append, List.append_nil, List.cons_append, List.contains_cons, Bool.false_or, Bool.true_or, Bool.or_false, Bool.or_true, Bool.false_eq_true, reduceIte, List.all_cons, List.all_nil, List.any_cons, List.any_nil, id_eq, Bool.not_not, Bool.and_self, Bool.or_self, Nat.reduceAdd, Nat.reduceBEq, Nat.reduceSub, beq_self_eq_true, ew1, ew2, ew3, ew4, ew5, ew6, ew7, ew9, ew10, ew11, ew15, ew16, ew17, ew18, ew19, ew20, ew21, ew22, ew23, ew24, ew26, ew28, ew29, ew30, ew31, ew32, ew34, ew35, ew36, ew37, ew40, ew41, ew42, ew43, ew44, ew45, ew46, ew47, ew48, ew49, ew50, ew51, ew52, ew53, ew54, ew55, ew56, ew57, ew58, ew59, and_false, $ts,*])
theorem Pl.down {B : Nat} : ∀ {k : Nat} {d : D}, Pl B (k + 1) d → Pl B k d
  | 0, d, h => ⟨h.1, h.2.1, h.2.2.1⟩
  | k + 1, d, h => ⟨h.1, h.2.1, h.2.2.1, fun xs e x hx => Pl.down (h.2.2.2 xs e x hx)⟩
section
variable {h : List Nat} {mv : List (Nat × Nat)} {a b c r : Nat}
theorem house_pl (hl : h.length ≤ 5) (k : Nat) : Pl 100 k (.tup (h.map iD)) := Pl.tup (by rw [List.length_map]; omega) fun k' x hx _ => by
  obtain ⟨n, _, rfl⟩ := List.mem_map.mp hx
  exact Pl.int _
theorem moves_pl (hl : mv.length ≤ 4) (k : Nat) : Pl 100 k (.tup (mvs mv)) := Pl.tup (by rw [List.length_map]; omega) fun k' x hx _ => by
  obtain ⟨n, _, rfl⟩ := List.mem_map.mp hx
  exact Pl.tup2 (by decide) (fun _ => Pl.int _) (fun _ => Pl.int _)
theorem x_again (hl : h.length ≤ 5) (hm : mv.length ≤ 4) (o0 o2 o4 o6 o7 o8 o9 o10 o11 o12 o13 o14 o15 o16 o17 o18 o19 o20 o21 o22 o23 o24 o25 o26 o27 : Option D) {EF : Err × Env' → Prop} :
    WP (b_law_5 [o0, some .bag, o2, some (.tup (h.map iD)), o4, some (.tup (mvs mv)), o6, o7, o8, o9, o10, o11, o12, o13, o14, o15, o16, o17, o18, o19, o20, o21, o22, o23, o24, o25, o26, o27])
      (fun r => ∃ ρ', r = .nx ρ' ∧ ∃ o24 o25, ρ' = [o0, some .bag, o2, some (.tup (h.map iD)), o4, some (.tup (mvs mv)), o6, o7, o8, o9, o10, o11, o12, o13, o14, o15, o16, o17, o18, o19, o20, o21, o22, o23, o24, o25, o26, o27]) EF := by
  unfold b_law_5
  refine W_cut (fun ρ' => ∃ d, Pl 100 2 d ∧ ρ' = [o0, some .bag, o2, some (.tup (h.map iD)), o4, some (.tup (mvs mv)), o6, o7, o8, o9, o10, o11, o12, o13, o14, o15, o16, o17, o18, o19, o20, o21, o22, o23, some d, o25, o26, o27]) ?_ ?_
  · dsimp! []
    refine w_some (by simp) (by simp) fun x hx => ?_
    refine ⟨_, rfl, x, ?_, rfl⟩
    rcases List.mem_cons.mp hx with rfl | hx
    · exact house_pl hl 2
    · rw [List.mem_singleton.mp hx]
      exact moves_pl hm 2
  · rintro ρ' ⟨d, hd, rfl⟩
    refine W_cut (fun ρ' => ∃ d o25, Pl 101 2 d ∧ ρ' = [o0, some .bag, o2, some (.tup (h.map iD)), o4, some (.tup (mvs mv)), o6, o7, o8, o9, o10, o11, o12, o13, o14, o15, o16, o17, o18, o19, o20, o21, o22, o23, some d, o25, o26, o27]) ?_ ?_
    · dsimp! []
      refine w_some (by simp) (by simp) fun x hx => ?_
      have hn : ∃ n : Nat, n ≤ 1 ∧ x = .int n := by
        simp only [List.mem_cons, List.not_mem_nil, or_false] at hx
        rcases hx with rfl | rfl | rfl
        · exact ⟨0, by decide, rfl⟩
        · exact ⟨1, by decide, rfl⟩
        · exact ⟨1, by decide, rfl⟩
      obtain ⟨n, hn, rfl⟩ := hn
      dsimp! [rng1]
      rcases (show n = 0 ∨ n = 1 by omega) with rfl | rfl
      · rw [show (List.range 0).map iD = [] from rfl, es37, ew1]
        exact ⟨_, rfl, d, o25, hd.up (by decide), rfl⟩
      · rw [show (List.range 1).map iD = [iD 0] from rfl, es76 rfl]
        unfold b_law_4 fl1
        apply W_bind
        dsimp! []
        refine w_bent (B := 100) (by decide) (by decide) 5 2 2 d (by decide) (by decide) hd fun x hx => ?_
        exact ⟨_, rfl, x, _, hx, rfl⟩
    · rintro ρ' ⟨d, p25, hd, rfl⟩
      obtain ⟨t, e1, e2⟩ := judge_house hd.down
      obtain ⟨t', e3, e4⟩ := judge_moves h hd
      dsimp! [e1, e2, e3, e4, bl_alike]
      exact ⟨_, rfl, _, _, rfl⟩
theorem okI {mu : List Nat} {i : Nat} : ∀ x ∈ (List.range 3).map iD, okSets mu [(i, x)] = true := fun x hx => by
  obtain ⟨j, _, rfl⟩ := List.mem_map.mp hx
  exact es91
def T1 : SM :=
  (sSeq (sIf (dNotT (dT (dCallM 2 alikeM (dCons (dVar 14) (dCons (dLst (dCons (dCallM 3 m__law_between (dCons (dVar 3) (dCons (dVar 9) (dCons (dVar 10) dNil)))) (dCons (dCall opSumT (dCons c_law_5 dNil)) (dCons (dCall opTuple (dCons (dVar 11) dNil)) (dCons (dCall opMaxT (dCons (dBin opAdd (dVar 15) (dLst (dCons (dCon (.int 0)) dNil))) dNil)) dNil))))) dNil)))))
  (sRet (dCon (.bl false)))
  sNil)
  (sSeq (sSetF [11, 22] (dBin opAdd (dCon (.int 1)) (dCallM 2 takeM (dCons (dVar 1) (dCons (dCon (.int 20)) dNil)))) (gdName 16))
  (sSeq (sSetF [11, 22] (dCallM 4 m__law_rests (dCons (dVar 3) (dCons (dVar 9) (dCons (dVar 10) (dCons (dVar 16) dNil))))) (gdName 17))
  (sSeq (sSetF [11, 22] (dIf (dB (dBin opIsN (dVar 17) (dCon .non))) (dCon .non) (dIf (dB (dBin opGe (dVar 9) (dVar 10))) (dTup dNil) (dCallM 4 m__law_farthest (dCons (dVar 3) (dCons (dVar 9) (dCons (dVar 10) (dCons (dVar 16) dNil))))))) (gdName 18))
  (sSeq (sIf (dNotT (dT (dCallM 2 alikeM (dCons (dLst (dCons (dCallM 4 m_fewest_rests (dCons (dVar 3) (dCons (dVar 9) (dCons (dVar 10) (dCons (dVar 16) dNil))))) (dCons (dCallM 4 m_rest_floors (dCons (dVar 3) (dCons (dVar 9) (dCons (dVar 10) (dCons (dVar 16) dNil))))) dNil))) (dCons (dLst (dCons (dVar 17) (dCons (dVar 18) dNil))) dNil)))))
  (sRet (dCon (.bl false)))
  sNil)
  (sSeq (sIf (dAndT (dB (dBin opNotN (dVar 17) (dCon .non))) (dB (dBin opNe (dCall opLen (dCons (dVar 18) dNil)) (dVar 17))))
  (sRet (dCon (.bl false)))
  sNil)
  (sSeq (sSetF [11, 22] (dCallM 2 takeM (dCons (dVar 1) (dCons (dCon (.int 4)) dNil))) (gdName 19))
  (sSeq (sSetF [11, 22] c_law_6 (gdName 20))
  (sSeq (sSetF [11, 22] c_law_7 (gdName 20))
  (sSeq (sIf (dB (dBin opNe (dCallM 4 m_least_breath (dCons (dVar 3) (dCons (dVar 9) (dCons (dVar 10) (dCons (dVar 19) dNil))))) (dBin opIx (dVar 20) (dCon (.int 0)))))
  (sRet (dCon (.bl false)))
  sNil)
  (sSeq (sFor [11, 22] (iSeq (dTup (dCons (dVar 4) (dCons (dUn opNeg (dCon (.int 1))) (dCons (dCon .non) (dCons (dCon (.str "0")) (dCons (dCon (.bl true)) dNil))))))) (gdName 21)
  b_law_3)
  (sFor [11, 22] (iArgs opRng1 (dCons (dCon (.int 3)) dNil)) (gdName 23)
  b_law_5))))))))))))
theorem x_rest (hl1 : 1 ≤ h.length) (hl : h.length ≤ 5) (h9 : ∀ x ∈ h, 1 ≤ x ∧ x ≤ 9) (hm : mv.length ≤ 4) (ha : a ≤ h.length) (hb : b ≤ h.length) (o0 o2 o6 o7 o8 o12 o13 o16 o17 o18 o19 o20 o21 o22 o23 o24 o25 o26 o27 : Option D) {EF : Err × Env' → Prop} :
    WP (T1 [o0, some .bag, o2, some (.tup (h.map iD)), some (.int (h.length + 1 : Nat)), some (.tup (mvs mv)), o6, o7, o8, some (.int a), some (.int b), some (.lst (crossD h mv)), o12, o13, some (toldD h mv a b), some (.lst ((tops mv).map iD)), o16, o17, o18, o19, o20, o21, o22, o23, o24, o25, o26, o27])
      (fun r => ∃ ρ', r = .nx ρ' ∧ ∃ rest : List (Option D), rest.length = 25 ∧ ρ' = o0 :: some .bag :: o2 :: rest) EF := by
  unfold T1
  have hc5 : ∀ o16 o17 o18 o19 o20 o21 o22 o23 o24 o25 o26 o27 : Option D, c_law_5 [o0, some .bag, o2, some (.tup (h.map iD)), some (.int (h.length + 1 : Nat)), some (.tup (mvs mv)), o6, o7, o8, some (.int a), some (.int b), some (.lst (crossD h mv)), o12, o13, some (toldD h mv a b), some (.lst ((tops mv).map iD)), o16, o17, o18, o19, o20, o21, o22, o23, o24, o25, o26, o27] = pure (.lst ((mv.map fun p => bt h p.1 p.2).map iD)) := fun o16 o17 o18 o19 o20 o21 o22 o23 o24 o25 o26 o27 => by
    unfold c_law_5
    simp! []
    rw [lc_map2 (f := fun p : Nat × Nat => iD (bt h p.1 p.2)) fun p hp => ?_]
    · simp! []
      rw [List.map_map]
      rfl
    · simp! [v_between]
  have hmx : opMaxT [.lst ((tops mv).map iD ++ [.int 0])] = some (.int (mxl (tops mv))) := by
    have e : (tops mv).map iD ++ [.int 0] = (tops mv ++ [0]).map iD := by
      rw [List.map_append]
      rfl
    rw [e]
    refine maxT_nats ?_ fun x hx => ?_
    · rcases mxl_in (tops mv) with z | z
      · rw [z]
        exact List.mem_append_right _ List.mem_cons_self
      · exact List.mem_append_left _ z
    · rcases List.mem_append.mp hx with z | z
      · exact mxl_ge _ x z
      · rw [List.mem_singleton.mp z]
        exact Nat.zero_le _
  have hmt : ((tops mv).map iD).length + 1 ≤ 16777216 := by
    unfold tops
    rw [List.length_map, List.length_map]
    omega
  refine W_seq (ρ' := [o0, some .bag, o2, some (.tup (h.map iD)), some (.int (h.length + 1 : Nat)), some (.tup (mvs mv)), o6, o7, o8, some (.int a), some (.int b), some (.lst (crossD h mv)), o12, o13, some (toldD h mv a b), some (.lst ((tops mv).map iD)), o16, o17, o18, o19, o20, o21, o22, o23, o24, o25, o26, o27]) (by
    simp! [hc5, sumL_ints, hmx, v_between]
    rw [show D.lst [.int (bt h a b), .int (mv.map fun p => bt h p.1 p.2).sum, .tup (crossD h mv), .int (mxl (tops mv))] = toldD h mv a b from rfl]
    simp! [told_alike (mv := mv) (a := a) (b := b) (show h.length ≤ 50 by omega)]) ?_
  refine W_cut (fun ρ' => ∃ c : Nat, 1 ≤ c ∧ c ≤ 20 ∧ ρ' = [o0, some .bag, o2, some (.tup (h.map iD)), some (.int (h.length + 1 : Nat)), some (.tup (mvs mv)), o6, o7, o8, some (.int a), some (.int b), some (.lst (crossD h mv)), o12, o13, some (toldD h mv a b), some (.lst ((tops mv).map iD)), some (.int c), o17, o18, o19, o20, o21, o22, o23, o24, o25, o26, o27]) ?_ ?_
  · dsimp! []
    intro n h0 h1
    exact ⟨_, rfl, (1 + n).toNat, by omega, by omega, by rw [Int.toNat_of_nonneg (by omega)]⟩
  rintro ρ' ⟨c, hc1, hc2, rfl⟩
  obtain ⟨w, hw⟩ : ∃ w, way (PS h) c a b = w := ⟨_, rfl⟩
  have hwl := way_len hw hb (by omega)
  refine W_seq (ρ' := [o0, some .bag, o2, some (.tup (h.map iD)), some (.int (h.length + 1 : Nat)), some (.tup (mvs mv)), o6, o7, o8, some (.int a), some (.int b), some (.lst (crossD h mv)), o12, o13, some (toldD h mv a b), some (.lst ((tops mv).map iD)), some (.int c), some (cntD w), o18, o19, o20, o21, o22, o23, o24, o25, o26, o27]) (by
    simp! [v_rests' (c := c) ha hb (show h.length ≤ 6 by omega), hw]) ?_
  refine W_seq (ρ' := [o0, some .bag, o2, some (.tup (h.map iD)), some (.int (h.length + 1 : Nat)), some (.tup (mvs mv)), o6, o7, o8, some (.int a), some (.int b), some (.lst (crossD h mv)), o12, o13, some (toldD h mv a b), some (.lst ((tops mv).map iD)), some (.int c), some (cntD w), some (wayD w), o19, o20, o21, o22, o23, o24, o25, o26, o27]) (by
    cases w with
    | none =>
      unfold cntD wayD
      simp! []
    | some l =>
      unfold cntD wayD
      by_cases hab : a < b
      · have hn : ¬ (b : Int) ≤ a := by omega
        have hf : fit (PS h) c a b := by
          refine Classical.byContradiction fun z => ?_
          unfold way at hw
          rw [if_neg z] at hw
          cases hw
        have hg : gr (PS h) c (b - a) a a = l := by
          unfold way at hw
          rw [if_pos hf] at hw
          injection hw
        simp! [hn, v_farthest hb (show h.length ≤ 6 by omega) hab hf, hg]
      · have hn : (b : Int) ≤ a := by omega
        rw [way_ge hab] at hw
        injection hw with hw
        subst hw
        simp! [hn]
        rfl) ?_
  refine W_seq (ρ' := [o0, some .bag, o2, some (.tup (h.map iD)), some (.int (h.length + 1 : Nat)), some (.tup (mvs mv)), o6, o7, o8, some (.int a), some (.int b), some (.lst (crossD h mv)), o12, o13, some (toldD h mv a b), some (.lst ((tops mv).map iD)), some (.int c), some (cntD w), some (wayD w), o19, o20, o21, o22, o23, o24, o25, o26, o27]) (by
    simp! [v_fewest (c := c) ha hb (show h.length ≤ 50 by omega), v_floors (c := c) ha hb (show h.length ≤ 50 by omega), hw]
    rw [show D.lst [cntD w, wayD w] = fewD w from rfl]
    simp! [few_alike hwl]) ?_
  refine W_seq (ρ' := [o0, some .bag, o2, some (.tup (h.map iD)), some (.int (h.length + 1 : Nat)), some (.tup (mvs mv)), o6, o7, o8, some (.int a), some (.int b), some (.lst (crossD h mv)), o12, o13, some (toldD h mv a b), some (.lst ((tops mv).map iD)), some (.int c), some (cntD w), some (wayD w), o19, o20, o21, o22, o23, o24, o25, o26, o27]) (by
    cases w with
    | none =>
      unfold cntD wayD
      simp! []
    | some l =>
      unfold cntD wayD
      simp! [List.length_map]) ?_
  refine W_cut (fun ρ' => ∃ r : Nat, ρ' = [o0, some .bag, o2, some (.tup (h.map iD)), some (.int (h.length + 1 : Nat)), some (.tup (mvs mv)), o6, o7, o8, some (.int a), some (.int b), some (.lst (crossD h mv)), o12, o13, some (toldD h mv a b), some (.lst ((tops mv).map iD)), some (.int c), some (cntD w), some (wayD w), some (.int r), o20, o21, o22, o23, o24, o25, o26, o27]) ?_ ?_
  · dsimp! []
    intro n h0 h1
    exact ⟨_, rfl, n.toNat, by rw [Int.toNat_of_nonneg (by omega)]⟩
  rintro ρ' ⟨r, rfl⟩
  have hr60 : opRng2 [.int 1, .int 60] = some ((List.range' 1 59).map iD) := rng2 (a := 1) (b := 60) (by decide) (by decide)
  refine W_seq (ρ' := [o0, some .bag, o2, some (.tup (h.map iD)), some (.int (h.length + 1 : Nat)), some (.tup (mvs mv)), o6, o7, o8, some (.int a), some (.int b), some (.lst (crossD h mv)), o12, o13, some (toldD h mv a b), some (.lst ((tops mv).map iD)), some (.int c), some (cntD w), some (wayD w), some (.int r), some (.lst (((List.range' 1 59).filter fun m => (way (PS h) m a b).isSome).map iD)), o21, o22, o23, o24, o25, o26, o27]) (by
    unfold c_law_6
    simp! [hr60]
    rw [lc_filter (f := iD) (p := fun m => (way (PS h) m a b).isSome) fun m hm => ?_]
    · simp! []
    · refine ⟨?_, fun _ => by simp! []⟩
      simp! [v_rests' (c := m) ha hb (show h.length ≤ 6 by omega)]
      cases way (PS h) m a b <;> rfl) ?_
  refine W_seq (ρ' := [o0, some .bag, o2, some (.tup (h.map iD)), some (.int (h.length + 1 : Nat)), some (.tup (mvs mv)), o6, o7, o8, some (.int a), some (.int b), some (.lst (crossD h mv)), o12, o13, some (toldD h mv a b), some (.lst ((tops mv).map iD)), some (.int c), some (cntD w), some (wayD w), some (.int r), some (.lst (((List.range' 1 59).filter (enB h a b r)).map iD)), o21, o22, o23, o24, o25, o26, o27]) (by
    unfold c_law_7
    simp! []
    rw [lc_filter (f := iD) (p := enB h a b r) fun m hm => ?_]
    · simp! []
      rw [List.filter_filter]
      refine congrArg (fun l : List Nat => (pure (Fl.nx [o0, some .bag, o2, some (.tup (h.map iD)), some (.int (h.length + 1 : Nat)), some (.tup (mvs mv)), o6, o7, o8, some (.int a), some (.int b), some (.lst (crossD h mv)), o12, o13, some (toldD h mv a b), some (.lst ((tops mv).map iD)), some (.int c), some (cntD w), some (wayD w), some (.int r), some (.lst (l.map iD)), o21, o22, o23, o24, o25, o26, o27]) : MS Fl)) (List.filter_congr fun m _ => ?_)
      unfold enB
      cases way (PS h) m a b <;> simp
    · refine ⟨?_, fun _ => by simp! []⟩
      have hs := (List.mem_filter.mp hm).2
      simp! [v_rests' (c := m) ha hb (show h.length ≤ 6 by omega)]
      unfold enB
      cases hq : way (PS h) m a b with
      | none => rw [hq] at hs; cases hs
      | some l =>
        unfold cntD
        simp! [le_dec]) ?_
  obtain ⟨m, hlm, hm1, hm60, hmin, hge⟩ := v_least (h := h) (a := a) (b := b) (r := r) ha hb (by omega) fun x hx => (h9 x hx).2
  obtain ⟨tl, htl⟩ : ∃ tl, (List.range' 1 59).filter (enB h a b r) = m :: tl := by
    by_cases hab : a < b
    · obtain ⟨q1, q2⟩ := hmin hab
      refine head_filter (enB_iff.mpr q1) 59 1 hm1 (by omega) fun c' h1 h2 => ?_
      rw [Bool.eq_false_iff]
      exact fun z => q2 c' h1 h2 (enB_iff.mp z)
    · have := hge (by omega)
      subst this
      refine head_filter ?_ 59 1 (Nat.le_refl _) (by decide) fun c' h1 h2 => by omega
      unfold enB
      rw [way_ge hab]
      exact decide_eq_true (Nat.zero_le _)
  refine W_seq (ρ' := [o0, some .bag, o2, some (.tup (h.map iD)), some (.int (h.length + 1 : Nat)), some (.tup (mvs mv)), o6, o7, o8, some (.int a), some (.int b), some (.lst (crossD h mv)), o12, o13, some (toldD h mv a b), some (.lst ((tops mv).map iD)), some (.int c), some (cntD w), some (wayD w), some (.int r), some (.lst ((m :: tl).map iD)), o21, o22, o23, o24, o25, o26, o27]) (by
    rw [htl]
    simp! [hlm, List.map_cons]) ?_
  have n1 : noFl h (.int ((h.length + 1 : Nat) : Int)) := ⟨rfl, .inr ⟨_, rfl, .inr (by omega)⟩⟩
  have n2 : noFl h (.int (-1)) := ⟨rfl, .inr ⟨_, rfl, .inl (by decide)⟩⟩
  have n3 : noFl h .non := ⟨rfl, .inl rfl⟩
  have n4 : noFl h (.str "0") := ⟨rfl, .inl rfl⟩
  have n5 : noFl h (.bl true) := ⟨rfl, .inl rfl⟩
  refine W_seq (ρ' := [o0, some .bag, o2, some (.tup (h.map iD)), some (.int (h.length + 1 : Nat)), some (.tup (mvs mv)), o6, o7, o8, some (.int a), some (.int b), some (.lst (crossD h mv)), o12, o13, some (toldD h mv a b), some (.lst ((tops mv).map iD)), some (.int c), some (cntD w), some (wayD w), some (.int r), some (.lst ((m :: tl).map iD)), some (.bl true), some fourF, o23, o24, o25, o26, o27]) (by
    simp! []
    rw [fl_nx es91 (x_odd n1 ha _ _ _ _ _ _ _ _ _ _ _ _ _ _ _ _ _ _ _ _ _ _ _ _ _), fl_nx es91 (x_odd n2 ha _ _ _ _ _ _ _ _ _ _ _ _ _ _ _ _ _ _ _ _ _ _ _ _ _), fl_nx rfl (x_odd n3 ha _ _ _ _ _ _ _ _ _ _ _ _ _ _ _ _ _ _ _ _ _ _ _ _ _), fl_nx rfl (x_odd n4 ha _ _ _ _ _ _ _ _ _ _ _ _ _ _ _ _ _ _ _ _ _ _ _ _ _), fl_nx rfl (x_odd n5 ha _ _ _ _ _ _ _ _ _ _ _ _ _ _ _ _ _ _ _ _ _ _ _ _ _)]
    rfl) ?_
  have hr3 : opRng1 [.int 3] = some ((List.range 3).map iD) := rng1 (n := 3) (by decide)
  dsimp! [hr3]
  refine W_loop (fun _ ρ' => ∃ p23 p24 p25, ρ' = [o0, some .bag, o2, some (.tup (h.map iD)), some (.int (h.length + 1 : Nat)), some (.tup (mvs mv)), o6, o7, o8, some (.int a), some (.int b), some (.lst (crossD h mv)), o12, o13, some (toldD h mv a b), some (.lst ((tops mv).map iD)), some (.int c), some (cntD w), some (wayD w), some (.int r), some (.lst ((m :: tl).map iD)), some (.bl true), some fourF, p23, p24, p25, o26, o27]) okI (fun x hx k ρ hI => ?_) ⟨_, _, _, rfl⟩ ?_
  · obtain ⟨p23, p24, p25, rfl⟩ := hI
    refine W_mono (x_again (h := h) (mv := mv) hl hm _ _ _ _ _ _ _ _ _ _ _ _ _ _ _ _ _ _ _ _ _ _ _ _ _) (fun r z => ?_) fun _ z => z
    obtain ⟨ρ', rfl, p24', p25', rfl⟩ := z
    exact ⟨_, rfl, _, _, _, rfl⟩
  · rintro ρ' ⟨p23, p24, p25, rfl⟩
    exact ⟨_, rfl, _, rfl, rfl⟩
theorem x_turn (o0 o2 o3 o4 o5 o6 o7 o8 o9 o10 o11 o12 o13 o14 o15 o16 o17 o18 o19 o20 o21 o22 o23 o24 o25 o26 o27 : Option D) {EF : Err × Env' → Prop} :
    WP (b_law_6 [o0, some .bag, o2, o3, o4, o5, o6, o7, o8, o9, o10, o11, o12, o13, o14, o15, o16, o17, o18, o19, o20, o21, o22, o23, o24, o25, o26, o27])
      (fun r => ∃ ρ', r = .nx ρ' ∧ ∃ rest : List (Option D), rest.length = 25 ∧ ρ' = o0 :: some .bag :: o2 :: rest) EF := by
  unfold b_law_6
  refine W_cut _ (s_house o0 o2 o3 o4 o5 o6 o7 o8 o9 o10 o11 o12 o13 o14 o15 o16 o17 o18 o19 o20 o21 o22 o23 o24 o25 o26 o27) ?_
  rintro ρ' ⟨h, hl1, hl5, h9, rfl⟩
  refine W_seq (ρ' := [o0, some .bag, o2, some (.tup (h.map iD)), some (.int (h.length + 1 : Nat)), o5, o6, o7, o8, o9, o10, o11, o12, o13, o14, o15, o16, o17, o18, o19, o20, o21, o22, o23, o24, o25, o26, o27]) (by simp! [List.length_map]; rfl) ?_
  refine W_seq (ρ' := [o0, some .bag, o2, some (.tup (h.map iD)), some (.int (h.length + 1 : Nat)), some (.lst []), o6, o7, o8, o9, o10, o11, o12, o13, o14, o15, o16, o17, o18, o19, o20, o21, o22, o23, o24, o25, o26, o27]) (by simp! []) ?_
  refine W_cut _ (s_moves hl5 o0 o2 o6 o7 o8 o9 o10 o11 o12 o13 o14 o15 o16 o17 o18 o19 o20 o21 o22 o23 o24 o25 o26 o27) ?_
  rintro ρ' ⟨mv, p6, p7, p8, hm, hmv, rfl⟩
  refine W_seq (ρ' := [o0, some .bag, o2, some (.tup (h.map iD)), some (.int (h.length + 1 : Nat)), some (.tup (mvs mv)), p6, p7, p8, o9, o10, o11, o12, o13, o14, o15, o16, o17, o18, o19, o20, o21, o22, o23, o24, o25, o26, o27]) (by simp! []) ?_
  refine W_cut (fun ρ' => ∃ a b : Nat, a ≤ h.length ∧ b ≤ h.length ∧ ρ' = [o0, some .bag, o2, some (.tup (h.map iD)), some (.int (h.length + 1 : Nat)), some (.tup (mvs mv)), p6, p7, p8, some (.int a), some (.int b), o11, o12, o13, o14, o15, o16, o17, o18, o19, o20, o21, o22, o23, o24, o25, o26, o27]) ?_ ?_
  · dsimp! []
    intro a ha0 ha1 b hb0 hb1
    exact ⟨_, rfl, a.toNat, b.toNat, by omega, by omega, by rw [Int.toNat_of_nonneg ha0, Int.toNat_of_nonneg hb0]⟩
  rintro ρ' ⟨a, b, ha, hb, rfl⟩
  refine W_seq (ρ' := [o0, some .bag, o2, some (.tup (h.map iD)), some (.int (h.length + 1 : Nat)), some (.tup (mvs mv)), p6, p7, p8, some (.int a), some (.int b), some (.lst []), o12, o13, o14, o15, o16, o17, o18, o19, o20, o21, o22, o23, o24, o25, o26, o27]) (by simp! []) ?_
  obtain ⟨p12, p13, ex⟩ := x_loop (h := h) (mv := mv) o0 o2 (some (.int (h.length + 1 : Nat))) p6 p7 p8 (some (.int a)) (some (.int b)) o14 o15 o16 o17 o18 o19 o20 o21 o22 o23 o24 o25 o26 o27 h.length 0 [] o12 o13 (by simp; omega)
  refine W_seq (ρ' := [o0, some .bag, o2, some (.tup (h.map iD)), some (.int (h.length + 1 : Nat)), some (.tup (mvs mv)), p6, p7, p8, some (.int a), some (.int b), some (.lst (crossD h mv)), p12, p13, o14, o15, o16, o17, o18, o19, o20, o21, o22, o23, o24, o25, o26, o27]) (by
    simp! [List.length_map, rng1, List.range_eq_range', ex]
    rfl) ?_
  refine W_seq (ρ' := [o0, some .bag, o2, some (.tup (h.map iD)), some (.int (h.length + 1 : Nat)), some (.tup (mvs mv)), p6, p7, p8, some (.int a), some (.int b), some (.lst (crossD h mv)), p12, p13, some (toldD h mv a b), o15, o16, o17, o18, o19, o20, o21, o22, o23, o24, o25, o26, o27]) (by
    simp! [v_steps h ha hb, v_carried, v_crossings (h := h) (mv := mv) (by omega), v_highest (h := h) (mv := mv) (by omega)]
    rfl) ?_
  refine W_seq (ρ' := [o0, some .bag, o2, some (.tup (h.map iD)), some (.int (h.length + 1 : Nat)), some (.tup (mvs mv)), p6, p7, p8, some (.int a), some (.int b), some (.lst (crossD h mv)), p12, p13, some (toldD h mv a b), some (.lst ((tops mv).map iD)), o16, o17, o18, o19, o20, o21, o22, o23, o24, o25, o26, o27]) (by
    unfold c_law_4
    simp! []
    rw [lc_map (f := fun p : Nat × Nat => iD (max p.1 p.2)) fun p hp => ?_]
    · simp! []
      unfold tops
      rw [List.map_map]
      rfl
    · simp! [maxP, mx]) ?_
  exact x_rest (h := h) (mv := mv) hl1 hl5 h9 hm ha hb _ _ _ _ _ _ _ _ _ _ _ _ _ _ _ _ _ _ _
end
end L02

namespace L02
open PySem L2 PyProof.Rows P5
local macro_rules | `(tactic| simp! [$ts,*]) => `(tactic| simp (disch := first | assumption | omega | (simp only [List.length_map, List.length_range, List.length_append, List.length_cons, List.length_nil, List.length_replicate, List.length_take, List.length_drop] <;> omega) | exact P5.nr rfl) only [ev1, ev2, ev3, ev4, ev5, ev6, ev7, ev8, ev9, ev10, ev11, ev12, ev13, ev14, ev15, ev16, ev17, ev18, ev19, ev20, ev21, ev22, ev23, ev24, ev25, ev26, ev27, ev28, ev29, ev30, ev31, ev32, ev33, ev34, ev37, ev40, ev41, ev42, ev45, ev46, ev49, ev52, ev53, ev56, ev57, ev58, ev59, ev60, ev61, ev62, ev63, ev64, ev65, ev66, ev67, ev68, ev69, ev70, ev71, ev72, ev73, ev74, ev75, ev76, ev77, ev78, ev79, ev80, ev81, ev82, ev83, ev84, ev85, ev86, ev87, ev88, ev89, ev90, ev91, ev92, ev93, ev94, ev95, ev96, ev97, ev98, ev99, ev100, ev101, ev102, ev103, ev104, ev105, ev106, ev107, ev108, ev109, es1, es2, es3, es4, es5, es6, es7, es8, es9, es10, es11, es12, es13, es14, es15, es16, es17, es18, es19, es20, es21, es22, es23, es24, es25, es26, es27, es28, es29, es30, es31, es32, es33, es34, es35, es36, es37, es38, es39, es40, es41, es42, es43, es44, es45, es46, es47, es48, es49, es50, es51, es52, es53, es54, es56, es57, es58, es59, es60, es61, es62, es63, es64, es65, es66, es67, es68, es69, es70, es71, es72, es73, es74, es75, es77, es78, es79, es80, el1, el2, el4, el5, el6, el7, el8, el9, es82, es83, es84, es85, es86, es87, es88, es89, es90, es95, es96, es97, eh1, eh2, eh3, eo1, eo2, eo3, eo4, eo5, eo6, eo7, eo8, eo9, eo10, eo11, eo12, eo13, eo14, eo15, eo16, eo17, eo18, eo19, eo20, ei1, ei2, ei3, ei4, ei5, ei6, ei7, ei8, ei9, ei10, ei11, ei12, ei13, ei14, ei15, ei16, ei17, ei18, ei19, ei20, ei21, ei22, ei23, ei24, ei25, ei26, ei27, ei28, ei29, ei30, ei31, ei32, ei33, ei34, ei35, ei36, ei37, ei38, ei39, ei40, ei41, ei42, er1, er2, er3, er4, er5, er6, er7, er8, er9, er10, er11, er12, er13, er14, er15, er16, er17, er18, er19, er20, er21, er22, er23, er24, er25, er26, er27, er28, ek1, ek2, ek3, ek4, ek5, ek6, ek7, ek8, ek9, ek10, ek11, ek12, ek13, ek14, ek15, ek16, ek17, ek18, ek19, ek20, ek21, ek22, ek23, ek24, eo21, eo22, eo23, es98, ev111, opEq_int, opNe_int, opLt_int, opGt_int, opAdd_int, opSub_int, List.getElem?_cons_zero, List.getElem?_cons_succ, List.set_cons_zero, List.set_cons_succ, Bool.not_true, Bool.not_false, Bool.and_true, Bool.true_and, Bool.false_and, Bool.and_false, List.contains_nil, decide_true, decide_false, List.nil_append, List.append_nil, List.cons_append, List.contains_cons, Bool.false_or, Bool.true_or, Bool.or_false, Bool.or_true, Bool.false_eq_true, reduceIte, List.all_cons, List.all_nil, List.any_cons, List.any_nil, id_eq, Bool.not_not, Bool.and_self, Bool.or_self, Nat.reduceAdd, Nat.reduceBEq, Nat.reduceSub, beq_self_eq_true, $ts,*])
local macro_rules | `(tactic| dsimp! [$ts,*]) => `(tactic| simp (disch := first | assumption | omega | (simp only [List.length_map, List.length_range, List.length_append, List.length_cons, List.length_nil, List.length_replicate, List.length_take, List.length_drop] <;> omega) | exact P5.nr rfl) only [ev1, ev2, ev3, ev4, ev5, ev6, ev7, ev8, ev9, ev10, ev11, ev12, ev13, ev14, ev15, ev16, ev17, ev18, ev19, ev20, ev21, ev22, ev23, ev24, ev25, ev26, ev27, ev28, ev29, ev30, ev31, ev32, ev33, ev34, ev37, ev40, ev41, ev42, ev45, ev46, ev49, ev52, ev53, ev56, ev57, ev58, ev59, ev60, ev61, ev62, ev63, ev64, ev65, ev66, ev67, ev68, ev69, ev70, ev71, ev72, ev73, ev74, ev75, ev76, ev77, ev78, ev79, ev80, ev81, ev82, ev83, ev84, ev85, ev86, ev87, ev88, ev89, ev90, ev91, ev92, ev93, ev94, ev95, ev96, ev97, ev98, ev99, ev100, ev101, ev102, ev103, ev104, ev105, ev106, ev107, ev108, ev109, es1, es2, es3, es4, es5, es6, es7, es8, es9, es10, es11, es12, es13, es14, es15, es16, es17, es18, es19, es20, es21, es22, es23, es24, es25, es26, es27, es28, es29, es30, es31, es32, es33, es34, es35, es36, es37, es38, es39, es40, es41, es42, es43, es44, es45, es46, es47, es48, es49, es50, es51, es52, es53, es54, es56, es57, es58, es59, es60, es61, es62, es63, es64, es65, es66, es67, es68, es69, es70, es71, es72, es73, es74, es75, es77, es78, es79, es80, el1, el2, el4, el5, el6, el7, el8, el9, es82, es83, es84, es85, es86, es87, es88, es89, es90, es95, es96, es97, eh1, eh2, eh3, eo1, eo2, eo3, eo4, eo5, eo6, eo7, eo8, eo9, eo10, eo11, eo12, eo13, eo14, eo15, eo16, eo17, eo18, eo19, eo20, ei1, ei2, ei3, ei4, ei5, ei6, ei7, ei8, ei9, ei10, ei11, ei12, ei13, ei14, ei15, ei16, ei17, ei18, ei19, ei20, ei21, ei22, ei23, ei24, ei25, ei26, ei27, ei28, ei29, ei30, ei31, ei32, ei33, ei34, ei35, ei36, ei37, ei38, ei39, ei40, ei41, ei42, er1, er2, er3, er4, er5, er6, er7, er8, er9, er10, er11, er12, er13, er14, er15, er16, er17, er18, er19, er20, er21, er22, er23, er24, er25, er26, er27, er28, ek1, ek2, ek3, ek4, ek5, ek6, ek7, ek8, ek9, ek10, ek11, ek12, ek13, ek14, ek15, ek16, ek17, ek18, ek19, ek20, ek21, ek22, ek23, ek24, eo21, eo22, eo23, es98, ev111, opEq_int, opNe_int, opLt_int, opGt_int, opAdd_int, opSub_int, List.getElem?_cons_zero, List.getElem?_cons_succ, List.set_cons_zero, List.set_cons_succ, Bool.not_true, Bool.not_false, Bool.and_true, Bool.true_and, Bool.false_and, Bool.and_false, List.contains_nil, decide_true, decide_false, List.nil_append, List.append_nil, List.cons_append, List.contains_cons, Bool.false_or, Bool.true_or, Bool.or_false, Bool.or_true, Bool.false_eq_true, reduceIte, List.all_cons, List.all_nil, List.any_cons, List.any_nil, id_eq, Bool.not_not, Bool.and_self, Bool.or_self, Nat.reduceAdd, Nat.reduceBEq, Nat.reduceSub, beq_self_eq_true, ew1, ew2, ew3, ew4, ew5, ew6, ew7, ew9, ew10, ew11, ew15, ew16, ew17, ew18, ew19, ew20, ew21, ew22, ew23, ew24, ew26, ew28, ew29, ew30, ew31, ew32, ew34, ew35, ew36, ew37, ew40, ew41, ew42, ew43, ew44, ew45, ew46, ew47, ew48, ew49, ew50, ew51, ew52, ew53, ew54, ew55, ew56, ew57, ew58, ew59, and_false, $ts,*])
theorem plain (ns : List Int) (h1 : ns.length ≤ 63) (h2 : ∀ z ∈ ns, Builtin.Int.intBits z ≤ 1048576) : PLaw m_law ns := by
  refine PLaw.of ?_
  have hr : opRng1 [.int 4] = some ((List.range 4).map iD) := rng1 (n := 4) (by decide)
  have ok : ∀ x ∈ (List.range 4).map iD, okSets [11, 22] [(2, x)] = true := fun x hx => by
    obtain ⟨j, _, rfl⟩ := List.mem_map.mp hx
    exact es91
  unfold m_law
  refine W_runK (T := fun r => r = .rt (.bl true)) ?_ (by rintro r rfl; rfl)
  unfold g_law
  refine W_seq (ρ' := some (.scr ns) :: some .bag :: List.replicate 26 none) (by
    simp! [bag_pure]
    rfl) ?_
  refine W_cut (fun ρ' => ∃ o0 o2, ∃ rest : List (Option D), rest.length = 25 ∧ ρ' = o0 :: some .bag :: o2 :: rest) ?_ ?_
  · rw [show some (D.scr ns) :: some D.bag :: List.replicate 26 none = some (D.scr ns) :: some D.bag :: none :: List.replicate 25 none from rfl]
    dsimp! [hr]
    refine W_loop (fun _ ρ' => ∃ o0 o2, ∃ rest : List (Option D), rest.length = 25 ∧ ρ' = o0 :: some .bag :: o2 :: rest) ok (fun x hx k ρ hI => ?_) ⟨_, _, _, rfl, rfl⟩ ?_
    · obtain ⟨o0, o2, rest, hlr, rfl⟩ := hI
      match rest, hlr with
      | [o3, o4, o5, o6, o7, o8, o9, o10, o11, o12, o13, o14, o15, o16, o17, o18, o19, o20, o21, o22, o23, o24, o25, o26, o27], _ =>
        refine W_mono (x_turn o0 (some x) o3 o4 o5 o6 o7 o8 o9 o10 o11 o12 o13 o14 o15 o16 o17 o18 o19 o20 o21 o22 o23 o24 o25 o26 o27) (fun r z => ?_) fun _ z => z
        obtain ⟨ρ', rfl, rest, hl, rfl⟩ := z
        exact ⟨_, rfl, _, _, _, hl, rfl⟩
    · rintro ρ' ⟨o0, o2, rest, hl, rfl⟩
      exact ⟨_, rfl, _, _, _, hl, rfl⟩
  · rintro ρ' ⟨o0, o2, rest, hl, rfl⟩
    dsimp! []
end L02

namespace L02
open PySem L2 PyProof.Rows P5
open LamX (TabB lamS_by)
theorem ends : PySem.Challenge.rw_lifthall_k02_stairs_steps_and_rests.Holds := by
  w_on; o_law; k_head; (case hw => w_witness2)
  k_fill
  refine ends_tab (l := PySem.Challenge.rw_lifthall_k02_stairs_steps_and_rests) (k := 12) (m := m_law) "law.<locals>.<lambda>" rfl rfl ⟨rfl, by decide, by decide⟩ (by decide +kernel) plain (fun w h Y => by first | exact PySem.W.kIn_of Y | exact PySem.W.km_in_of Y) ?F
  case F =>
    intro w mg fa h Y KX G hmg
    refine' all_mk KX G hmg ?a_is_integer ?l_is_integer ?c_is_integer ?kp_is_integer ?a_is_within ?l_is_within ?c_is_within ?kp_is_within ?a_are_all ?l_are_all ?c_are_all ?kp_are_all ?a_are_integers ?l_are_integers ?c_are_integers ?kp_are_integers ?a_is_pair ?l_is_pair ?c_is_pair ?kp_is_pair ?a_are_pairs ?l_are_pairs ?c_are_pairs ?kp_are_pairs ?a_is_house ?l_is_house ?c_is_house ?kp_is_house ?a_is_move ?l_is_move ?c_is_move ?kp_is_move ?a_are_moves ?l_are_moves ?c_are_moves ?kp_are_moves ?a_need_floors ?l_need_floors ?c_need_floors ?kp_need_floors ?a_steps_of_way ?l_steps_of_way ?c_steps_of_way ?kp_steps_of_way ?a_steps_between ?l_steps_between ?c_steps_between ?kp_steps_between ?a_carried_steps ?l_carried_steps ?c_carried_steps ?kp_carried_steps ?a_highest ?l_highest ?c_highest ?kp_highest ?a_crossings ?l_crossings ?c_crossings ?kp_crossings ?a_rests_up ?l_rests_up ?c_rests_up ?kp_rests_up ?a_rest_floors ?l_rest_floors ?c_rest_floors ?kp_rest_floors ?a_fewest_rests ?l_fewest_rests ?c_fewest_rests ?kp_fewest_rests ?a_least_breath ?l_least_breath ?c_least_breath ?kp_least_breath ?a__law_bag ?l__law_bag ?c__law_bag ?kp__law_bag ?a__law_take ?l__law_take ?c__law_take ?kp__law_take ?a__law_some ?l__law_some ?c__law_some ?kp__law_some ?a__law_alike ?l__law_alike ?c__law_alike ?kp__law_alike ?a__law_is_int ?l__law_is_int ?c__law_is_int ?kp__law_is_int ?a__law_odd ?l__law_odd ?c__law_odd ?kp__law_odd ?a__law_bent ?l__law_bent ?c__law_bent ?kp__law_bent ?a__law_asked ?l__law_asked ?c__law_asked ?kp__law_asked ?a__law_between ?l__law_between ?c__law_between ?kp__law_between ?a__law_lots ?l__law_lots ?c__law_lots ?kp__law_lots ?a__law_rests ?l__law_rests ?c__law_rests ?kp__law_rests ?a__law_farthest ?l__law_farthest ?c__law_farthest ?kp__law_farthest ?a__law_is_house ?l__law_is_house ?c__law_is_house ?kp__law_is_house ?a__law_are_moves ?l__law_are_moves ?c__law_are_moves ?kp__law_are_moves ?a_law ?l_law ?c_law ?kp_law ?a_Refused ?x_Refused ?sa_Refused ?ga_Refused ?gg_Refused ?iC_Refused ?n0_Refused ?tC_Refused ?kC_Refused ?eC_Refused ?vC_Refused ?yC_Refused ?dC_Refused ?mC_Refused ?uC_Refused ?lI_Refused ?cI_Refused ?lc_Refused ?v2_Refused ?fi_ok_Refused ?lx_Refused ?em_Refused_Refused ?q_Refused_Refused_why ?is_Refused ?q_law ?lc_law ?v_law ?n_law ?z_tp ?z_super ?w_MOST_FLIGHTS ?w_MOST_MOVES ?w_MOST_STEPS ?z_abs ?z_all ?z_bool ?z_int ?z_isinstance ?z_len ?z_list ?z_max ?z_min ?z_range ?z_str ?z_sum ?z_tuple ?z_zip
    (case a_is_integer => k_is)
    (case l_is_integer => k_is)
    (case c_is_integer => k_is)
    (case kp_is_integer => k_is)
    (case a_is_within => k_is)
    (case l_is_within => k_is)
    (case c_is_within => k_is)
    (case kp_is_within => k_is)
    (case a_are_all => k_is)
    (case l_are_all => k_is)
    (case c_are_all => k_is)
    (case kp_are_all => k_is)
    (case a_are_integers => k_is)
    (case l_are_integers => k_is)
    (case c_are_integers => k_is)
    (case kp_are_integers => k_is)
    (case a_is_pair => k_is)
    (case l_is_pair => k_is)
    (case c_is_pair => k_is)
    (case kp_is_pair => k_is)
    (case a_are_pairs => k_is)
    (case l_are_pairs => k_is)
    (case c_are_pairs => k_is)
    (case kp_are_pairs => k_is)
    (case a_is_house => k_is)
    (case l_is_house => k_is)
    (case c_is_house => k_is)
    (case kp_is_house => k_is)
    (case a_is_move => k_is)
    (case l_is_move => k_is)
    (case c_is_move => k_is)
    (case kp_is_move => k_is)
    (case a_are_moves => k_is)
    (case l_are_moves => k_is)
    (case c_are_moves => k_is)
    (case kp_are_moves => k_is)
    (case a_need_floors => k_is)
    (case l_need_floors => k_is)
    (case c_need_floors => k_is)
    (case kp_need_floors => k_is)
    (case a_steps_of_way => k_is)
    (case l_steps_of_way => k_is)
    (case c_steps_of_way => k_is)
    (case kp_steps_of_way => k_is)
    (case a_steps_between => k_is)
    (case l_steps_between => k_is)
    (case c_steps_between => k_is)
    (case kp_steps_between => k_is)
    (case a_carried_steps => k_is)
    (case l_carried_steps => k_is)
    (case c_carried_steps => k_is)
    (case kp_carried_steps => k_is)
    (case a_highest => k_is)
    (case l_highest => k_is)
    (case c_highest => k_is)
    (case kp_highest => k_is)
    (case a_crossings => k_is)
    (case l_crossings => k_is)
    (case c_crossings => k_is)
    (case kp_crossings => k_is)
    (case a_rests_up => k_is)
    (case l_rests_up => k_is)
    (case c_rests_up => k_is)
    (case kp_rests_up => k_is)
    (case a_rest_floors => k_is)
    (case l_rest_floors => k_is)
    (case c_rest_floors => k_is)
    (case kp_rest_floors => k_is)
    (case a_fewest_rests => k_is)
    (case l_fewest_rests => k_is)
    (case c_fewest_rests => k_is)
    (case kp_fewest_rests => k_is)
    (case a_least_breath => k_is)
    (case l_least_breath => k_is)
    (case c_least_breath => k_is)
    (case kp_least_breath => k_is)
    (case a__law_bag => k_is)
    (case l__law_bag => k_is)
    (case c__law_bag => k_is)
    (case kp__law_bag => k_is)
    (case a__law_take => k_is)
    (case l__law_take => k_is)
    (case c__law_take => k_is)
    (case kp__law_take => k_is)
    (case a__law_some => k_is)
    (case l__law_some => k_is)
    (case c__law_some => k_is)
    (case kp__law_some => k_is)
    (case a__law_alike => k_is)
    (case l__law_alike => k_is)
    (case c__law_alike => k_is)
    (case kp__law_alike => k_is)
    (case a__law_is_int => k_is)
    (case l__law_is_int => k_is)
    (case c__law_is_int => k_is)
    (case kp__law_is_int => k_is)
    (case a__law_odd => k_is)
    (case l__law_odd => k_is)
    (case c__law_odd => k_is)
    (case kp__law_odd => k_is)
    (case a__law_bent => k_is)
    (case l__law_bent => k_is)
    (case c__law_bent => k_is)
    (case kp__law_bent => k_is)
    (case a__law_asked => k_is)
    (case l__law_asked => k_is)
    (case c__law_asked => k_is)
    (case kp__law_asked => k_is)
    (case a__law_between => k_is)
    (case l__law_between => k_is)
    (case c__law_between => k_is)
    (case kp__law_between => k_is)
    (case a__law_lots => k_is)
    (case l__law_lots => k_is)
    (case c__law_lots => k_is)
    (case kp__law_lots => k_is)
    (case a__law_rests => k_is)
    (case l__law_rests => k_is)
    (case c__law_rests => k_is)
    (case kp__law_rests => k_is)
    (case a__law_farthest => k_is)
    (case l__law_farthest => k_is)
    (case c__law_farthest => k_is)
    (case kp__law_farthest => k_is)
    (case a__law_is_house => k_is)
    (case l__law_is_house => k_is)
    (case c__law_is_house => k_is)
    (case kp__law_is_house => k_is)
    (case a__law_are_moves => k_is)
    (case l__law_are_moves => k_is)
    (case c__law_are_moves => k_is)
    (case kp__law_are_moves => k_is)
    (case a_law => k_is)
    (case l_law => k_is)
    (case c_law => k_is)
    (case kp_law => k_is)
    (case a_Refused => k_is)
    (case x_Refused => k_is)
    (case sa_Refused => k_is)
    (case ga_Refused => k_is)
    (case gg_Refused => k_is)
    (case iC_Refused => k_is)
    (case n0_Refused => k_is)
    (case tC_Refused => k_is)
    (case kC_Refused => k_is)
    (case eC_Refused => k_is)
    (case vC_Refused => k_is)
    (case yC_Refused => k_is)
    (case dC_Refused => k_is)
    (case mC_Refused => k_is)
    (case uC_Refused => ks_is)
    (case lI_Refused => k_is)
    (case cI_Refused => k_is)
    (case lc_Refused => k_is)
    (case v2_Refused => exact rfl)
    (case fi_ok_Refused => first | rfl | decide +kernel)
    (case lx_Refused => k_is)
    (case em_Refused_Refused => first | rfl | k_is)
    (case q_Refused_Refused_why => k_is)
    (case is_Refused => k_is)
    (case q_law => exact rfl)
    (case lc_law => k_is)
    (case v_law => exact rfl)
    (case n_law => first | rfl | kernel_rfl | decide +kernel)
    (case z_tp => k_is)
    (case z_super => k_is)
    (case w_MOST_FLIGHTS => k_is)
    (case w_MOST_MOVES => k_is)
    (case w_MOST_STEPS => k_is)
    (case z_abs => k_is)
    (case z_all => k_is)
    (case z_bool => k_is)
    (case z_int => k_is)
    (case z_isinstance => k_is)
    (case z_len => k_is)
    (case z_list => k_is)
    (case z_max => k_is)
    (case z_min => k_is)
    (case z_range => k_is)
    (case z_str => k_is)
    (case z_sum => k_is)
    (case z_tuple => k_is)
    (case z_zip => k_is)end L02

theorem PySem.Challenge.cw_lifthall_k02_stairs_steps_and_rests_holds : PySem.Challenge.rw_lifthall_k02_stairs_steps_and_rests.Holds :=
  L02.ends
