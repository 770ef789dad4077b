import PyProof.Rows.All
import Wide.All
import OpenK.AllK
import Wide.FinOn
import HandS.ForMost
import HandS.ForExc
import HandS.Strs
import HandS.Text
import HandS.SetFor
import HandS.ExcOwn
import HandS.TryMany
import KE.SortData
import KE.DataMinMax
import HandS.TupMul
import PyProof.StrOps2
import HandS.Lambda
import HandS.Dict
import HandS.DictTup
import HandS.TupLen
import HandS.Iter
import HandS.Wide
import HandS.TupAny
import HandS.Deep
import HandS.IsInst
import HandS.Conv
import HandS.Flow
import HandS.Property
import HandS.TryOnly
import HandS.ExcInit
import HandS.ExcField
import HandS.ExcIs
import KE.KExcIs
import KE.GoesMore
import KE.GoesEnum
import KE.GoesZip
import HandS.Set
import HandS.Rev
import HandS.FStr
import HandS.WideBits
import HandS.SortKw
import HandS.OwnEq
import HandS.RevRange
import HandS.DictComp
import KE.KDictCopyH
import KE.KDictDisplayH
import PyProof.DictUpdate
import KE.KLam
import KE.SortKeyHeap
import KE.DataMinKey
import HandS.WordsExc
import PyProof.StrLawsTight
import PyProof.StrLawsChain
import PyProof.Rows.StrCut
import PyProof.Rows.StrSplitJoin
import PyProof.Rows.StrSplitAre
import HandS.EndOwn
import KE.KNestM
import PySem.Challenge.RW_oncounts_k15_questions_refused
set_option Elab.async false
set_option linter.all false
set_option maxRecDepth 100000
set_option maxHeartbeats 4000000
namespace Oc
open L2 PySem PySem.Spec PyProof.Rows
section
variable {prog : Program} {w : World} {A : Around} {E : Value → Shared → Prop} {s : Shared}
def strK (a b : Str) : Nat → List Nat
  | 0 => a.cps.toList
  | _ => b.cps.toList
theorem two_at {a b : Str} {t u : Tok} {i : Nat} {v : Value} (h : (#[Value.str a t, Value.str b u] : Array Value)[i]? = some v) : ∃ x y, v = .str x y ∧ x.cps.toList = strK a b i := by
  match i, h with
  | 0, h => simp at h; subst h; exact ⟨a, t, rfl, rfl⟩
  | 1, h => simp at h; subst h; exact ⟨b, u, rfl, rfl⟩
  | i + 2, h => simp at h
theorem cmp_strs_lt {a b : Str} {t u : Tok} : CmpOf prog w A .Lt (fun i v => (#[Value.str a t, Value.str b u] : Array Value)[i]? = some v) (fun i j => decide (strK a b i < strK a b j)) := fun i j vi vj s Q E hi hj h => by
  obtain ⟨x, tx, rfl, ex⟩ := two_at hi
  obtain ⟨y, ty, rfl, ey⟩ := two_at hj
  exact (PyProof.Rows.lt_str (prog := prog) (w := w) (A := A) (E := E) (s := s) (x := x) (y := y) (t := tx) (u := ty) (Q := Q) (by rw [ex, ey]; exact h) :)
theorem cmp_strs_gt {a b : Str} {t u : Tok} : CmpOf prog w A .Gt (fun i v => (#[Value.str a t, Value.str b u] : Array Value)[i]? = some v) (fun i j => decide (strK a b j < strK a b i)) := fun i j vi vj s Q E hi hj h => by
  obtain ⟨x, tx, rfl, ex⟩ := two_at hi
  obtain ⟨y, ty, rfl, ey⟩ := two_at hj
  exact (PySem.P.gt_str (prog := prog) (w := w) (A := A) (E := E) (s := s) (x := x) (y := y) (t := tx) (u := ty) (Q := Q) (by rw [ex, ey]; exact h) :)
theorem max_two_strs {a b : Str} {t u : Tok} {Q : Value → Shared → Prop} (hh : A.handled = none)
    (h : ∀ h' tk, (∀ c o, s.heap.get? c = some o → h'.get? c = some o) → Q (if a.cps.toList < b.cps.toList then .str b u else .str a t) { s with heap := h', toks := tk }) :
    wpAny (model prog w) A (call (.builtin "max") [.str a t, .str b u]) Q E s := by
  have hT : (s.heap.push { cls := .type "tuple", data := .seq #[.str a t, .str b u] }).IsTuple s.heap.objs.size #[.str a t, .str b u] := ⟨_, Heap.get?_push_size _ rfl, rfl, 0, rfl⟩
  refine call_max_two (wpAny_pyIter_tuple hT ?_)
  have hsz : (s.heap.push { cls := .type "tuple", data := .seq #[.str a t, .str b u] }).objs.size = s.heap.objs.size + 1 := Heap.size_push ..
  refine ⟨_, [_, s.heap.objs.size], [_], _, _, _, _, rfl, Walks.tuple (A := A.in1) hh _ s.heap.objs.size (by rw [hsz]; exact Nat.ne_of_lt (Nat.lt_succ_self _)) #[.str a t, .str b u],
    ⟨⟨_, Heap.get?_push_size _ rfl, rfl, rfl⟩, hT.push _⟩, fun c hc => ?_, by simp, cmp_strs_gt, fun v h' tk hP hk => ?_⟩
  · show c < ((s.heap.push _).push _).objs.size
    rw [Heap.size_push, hsz]
    rcases List.mem_cons.mp hc with rfl | hc
    · rw [hsz]; exact Nat.lt_succ_self _
    · rcases List.mem_cons.mp hc with rfl | hc
      · exact Nat.lt_succ_of_lt (Nat.lt_succ_self _)
      · cases hc
  · have hold : ∀ c o, s.heap.get? c = some o → h'.get? c = some o := fun c o e => by
      refine hk c o (fun hm => ?_) (Heap.get?_push_of_some _ (Heap.get?_push_of_some _ e))
      rcases List.mem_cons.mp hm with e1 | hm
      · have := Heap.lt_size e; rw [e1, hsz] at this; exact Nat.lt_irrefl _ (Nat.lt_of_succ_lt this)
      · cases hm
    have := h h' tk hold
    have hv : v = if a.cps.toList < b.cps.toList then Value.str b u else Value.str a t := by
      have hP' : (#[Value.str a t, Value.str b u] : Array Value)[argBest (fun i j => decide (strK a b j < strK a b i)) 1]? = some v := hP
      by_cases hba : a.cps.toList < b.cps.toList
      · have e : argBest (fun i j => decide (strK a b j < strK a b i)) 1 = 1 := by simp [argBest, strK, hba]
        rw [e] at hP'
        simpa [hba] using hP'.symm
      · have e : argBest (fun i j => decide (strK a b j < strK a b i)) 1 = 0 := by simp [argBest, strK, hba]
        rw [e] at hP'
        simpa [hba] using hP'.symm
    rw [hv]; exact this
theorem min_two_strs {a b : Str} {t u : Tok} {Q : Value → Shared → Prop} (hh : A.handled = none)
    (h : ∀ h' tk, (∀ c o, s.heap.get? c = some o → h'.get? c = some o) → Q (if b.cps.toList < a.cps.toList then .str b u else .str a t) { s with heap := h', toks := tk }) :
    wpAny (model prog w) A (call (.builtin "min") [.str a t, .str b u]) Q E s := by
  have hT : (s.heap.push { cls := .type "tuple", data := .seq #[.str a t, .str b u] }).IsTuple s.heap.objs.size #[.str a t, .str b u] := ⟨_, Heap.get?_push_size _ rfl, rfl, 0, rfl⟩
  refine call_min_two (wpAny_pyIter_tuple hT ?_)
  have hsz : (s.heap.push { cls := .type "tuple", data := .seq #[.str a t, .str b u] }).objs.size = s.heap.objs.size + 1 := Heap.size_push ..
  refine ⟨_, [_, s.heap.objs.size], [_], _, _, _, _, rfl, Walks.tuple (A := A.in1) hh _ s.heap.objs.size (by rw [hsz]; exact Nat.ne_of_lt (Nat.lt_succ_self _)) #[.str a t, .str b u],
    ⟨⟨_, Heap.get?_push_size _ rfl, rfl, rfl⟩, hT.push _⟩, fun c hc => ?_, by simp, cmp_strs_lt, fun v h' tk hP hk => ?_⟩
  · show c < ((s.heap.push _).push _).objs.size
    rw [Heap.size_push, hsz]
    rcases List.mem_cons.mp hc with rfl | hc
    · rw [hsz]; exact Nat.lt_succ_self _
    · rcases List.mem_cons.mp hc with rfl | hc
      · exact Nat.lt_succ_of_lt (Nat.lt_succ_self _)
      · cases hc
  · have hold : ∀ c o, s.heap.get? c = some o → h'.get? c = some o := fun c o e => by
      refine hk c o (fun hm => ?_) (Heap.get?_push_of_some _ (Heap.get?_push_of_some _ e))
      rcases List.mem_cons.mp hm with e1 | hm
      · have := Heap.lt_size e; rw [e1, hsz] at this; exact Nat.lt_irrefl _ (Nat.lt_of_succ_lt this)
      · cases hm
    have := h h' tk hold
    have hv : v = if b.cps.toList < a.cps.toList then Value.str b u else Value.str a t := by
      have hP' : (#[Value.str a t, Value.str b u] : Array Value)[argBest (fun i j => decide (strK a b i < strK a b j)) 1]? = some v := hP
      by_cases hba : b.cps.toList < a.cps.toList
      · have e : argBest (fun i j => decide (strK a b i < strK a b j)) 1 = 1 := by simp [argBest, strK, hba]
        rw [e] at hP'
        simpa [hba] using hP'.symm
      · have e : argBest (fun i j => decide (strK a b i < strK a b j)) 1 = 0 := by simp [argBest, strK, hba]
        rw [e] at hP'
        simpa [hba] using hP'.symm
    rw [hv]; exact this
end
section
variable {C : Cx}
theorem call_max2S (hc : C.calm = true) : CallR C (.builtin "max") (fun xs H Q => ∃ a b, xs = [.str a, .str b] ∧ Q (.str (if a.cps.toList < b.cps.toList then b else a)) H) := by
  intro pins s σ H xs us Q I r h
  obtain ⟨i, j, rfl, q⟩ := h
  obtain ⟨u, w', rfl, ⟨t, rfl⟩, ⟨t', rfl⟩⟩ := vals2 r
  refine max_two_strs (I.ok.hd hc) fun h' tk k => ⟨_, H, I.kept k, ?_, q⟩
  by_cases hj : i.cps.toList < j.cps.toList
  · rw [if_pos hj, if_pos hj]; exact ⟨_, rfl⟩
  · rw [if_neg hj, if_neg hj]; exact ⟨_, rfl⟩
theorem call_min2S (hc : C.calm = true) : CallR C (.builtin "min") (fun xs H Q => ∃ a b, xs = [.str a, .str b] ∧ Q (.str (if b.cps.toList < a.cps.toList then b else a)) H) := by
  intro pins s σ H xs us Q I r h
  obtain ⟨i, j, rfl, q⟩ := h
  obtain ⟨u, w', rfl, ⟨t, rfl⟩, ⟨t', rfl⟩⟩ := vals2 r
  refine min_two_strs (I.ok.hd hc) fun h' tk k => ⟨_, H, I.kept k, ?_, q⟩
  by_cases hj : j.cps.toList < i.cps.toList
  · rw [if_pos hj, if_pos hj]; exact ⟨_, rfl⟩
  · rw [if_neg hj, if_neg hj]; exact ⟨_, rfl⟩
/-- set(t), a tuple of ints -/
theorem cr_setTup (hc : C.calm = true) : CallR C (.type "set") (fun xs H Q => ∃ (a : Addr) (ns : List Int), xs = [.ref a] ∧ SqT C.K H a (ns.map V.int) ∧ ns.length < 64 ∧ ∀ p c, H p = none → c ≤ ns.length → Q (.ref p) (upd H p (SetO C.w p (fun j => decide (j ∈ ns)) c))) := by
  intro pins s σ H xs us Q I rx ⟨a, ns, e, hs, hl, q⟩
  subst e
  obtain ⟨its, rv, ht, _⟩ := I.tuple hs
  rw [Vals.ref1 rx]
  refine call_set_tupI ns (I.ok.hd hc) ht (by simpa using rv.ints) (by unfold scanBound; omega) fun h' tk c R hn hk => ?_
  have hf : H s.heap.objs.size = none := I.hok.fresh (Nat.le_refl _)
  exact ⟨.ref _, _, I.laid (t' := tk) hk (Nat.le_refl _) (setO_new R), rfl, q _ c hf hn⟩
/-- C() -/
theorem pmk_zero {x : Str} {D : Addr} {bmB : List Value} {B newId initId : String} {p pos : Pos} (F : ExcBaseFacts B newId initId bmB) (q : PySem.W.excIn C.K D bmB newId = true) (gC : C.mg x = some (.ref D)) (kC : PySem.W.keepIn C.K (.ref D) = true) (r : Raises C (.ref D)) (hg : Gl C x)
    (hdb : (x == ("__debug__" : Str)) = false) : PMk C (.Call (.Name x p) [] [] pos) (fun _ H Q => Q (.ref D) none H) := by
  intro pins s σ H Q I h
  refine wpAny_Call_Name_kw (ld_glob I hg gC ?_ hdb)
  refine PySem.W.callWith_K0 I.kIn kC ?_
  show wpAny _ _ (call (.ref D) []) _ _ _
  obtain ⟨bm, N, nm, qn, bs, hdct, sn, sub, ab, col, dd, k0, k1, k2, k3, k5, mN, e1, e2, e3, T⟩ := exc_obj I.kIn q
  exact wpAny_call_exc_subT F T e1 e2 e3 (fun h' e hm => mk_of I hm r h (I.hok.gone hm.new)) (Nat.zero_le _)
end
end Oc
namespace Oc
open L2 PySem PySem.Spec PyProof.Rows
theorem tuple_mul1 (l : Addr) (items : Array Value) (n : Nat) (dd : Option Addr) (sl : Array (Option Value)) (u : Tok) :
    Meets (Builtin.«tuple.__mul__» ⟨[.ref l, .int 1 u], []⟩) (fun _ R s => s.heap.get? l = some { cls := .type "tuple", dict := dd, data := .seq items n, slots := sl } ∧ R (.ok (.ret (Value.ref l))) s) :=
  .of_wp fun prog w A R s h => by
    obtain ⟨hp, g, d, tk, os⟩ := s
    obtain ⟨hl, h⟩ := h
    have f1 := AutoSeq1.idx_int
    wp_walk using wpAny_loadPart' hl
    repeat (first
      | (refine wpAny_ite_false (by decide) ?_; wp_walk using wpAny_loadPart' hl)
      | (refine wpAny_ite_true (by simp) ?_; wp_walk using wpAny_loadPart' hl))
    exact ⟨_, rfl, h⟩
section
variable {X : Cx}
/-- t * 1 is t -/
theorem op_repT1 : OpR X (binaryOp .Mult) (fun x y H Q => ∃ l xs, x = .ref l ∧ y = .int 1 ∧ SqT X.K H l xs ∧ Q (.ref l) H) := by
  intro pins s σ H x y v u Q I rx ry h
  obtain ⟨l, xs, rfl, rfl, hT, q⟩ := h
  cases rx
  obtain ⟨t, rfl⟩ := ry
  obtain ⟨its, r, ⟨⟨cls, dd, data, sl⟩, ho, hc, n, hd⟩, hs⟩ := I.tuple hT
  simp only at hc hd
  subst hc hd
  exact wpAny_binaryOp_repeat_ref (T := "tuple") (U := "int") (by decide) ⟨_, ho, rfl⟩ (fun s' => typeIs_int s' 1 t) noFill_tuple_mul F.fills_int_mul F.slot_int_rmul repeat_tuple F.slot_int_index.lookup
    (call_meets F.slot_int_rmul (typeIs_int s 1 t) F.entry_int_rmul (F.args_int_rmul_2 _ _) (int_rmul_tuple 1 t l its.toArray n dd sl)
      ⟨ho, rfl, ⟨_, ho, rfl⟩, call_meets F.slot_tuple_mul ⟨_, ho, rfl⟩ F.entry_tuple_mul (F.args_tuple_mul_2 _ _) (tuple_mul1 l its.toArray n dd sl t) ⟨ho, ⟨.ref l, H, I, rfl, q⟩⟩⟩)
/-- a text, some times over -/
theorem op_repS : OpR X (binaryOp .Mult) (fun x y H Q => ∃ a k, x = .str a ∧ y = .int k ∧ 0 ≤ k ∧ k ≤ 1000 ∧ a.length ≤ 1000 ∧ Q (.str ⟨(List.replicate k.toNat a.cps.toList).flatten.toArray⟩) H) := by
  intro pins s σ H x y v u Q I rx ry h
  obtain ⟨a, k, rfl, rfl, h0, h1, h2, q⟩ := h
  obtain ⟨t, rfl⟩ := rx
  obtain ⟨t', rfl⟩ := ry
  have fl : ∀ (n : Nat) (acc : List Nat), (List.replicate n a.cps).foldl (· ++ ·) acc.toArray = (acc ++ (List.replicate n a.cps.toList).flatten).toArray := fun n => by
    induction n with
    | zero => intro acc; simp
    | succ n ih =>
      intro acc
      rw [List.replicate_succ, List.foldl_cons, List.replicate_succ, List.flatten_cons, ← List.append_assoc, ← ih]
      congr 1
      apply Array.ext'
      simp
  have ln : a.length * k.toNat ≤ 1000 * 1000 := Nat.mul_le_mul h2 (by omega)
  refine P.mul_str (by rw [decide_eq_false (by omega), decide_eq_false (by omega)]; rfl) (fun h3 _ => ?_) (fun h3 _ => ?_) ?_
  · have : ((a.length : Nat) : Int) ≤ (2 ^ 63 - 1) / k := by
      apply Int.le_ediv_of_mul_le (by omega)
      have : ((a.length : Nat) : Int) * k ≤ 1000 * 1000 := Int.mul_le_mul (by omega) h1 h0 (by omega)
      omega
    omega
  · unfold Builtin.Str.tooLong
    rw [sizeLine_eq]
    exact decide_eq_false (by omega)
  · by_cases k0 : k < 1
    · rw [if_pos k0]
      have : k = 0 := by omega
      subst this
      refine ⟨by decide, ?_⟩
      exact ⟨.str _, H, I.tok _, ⟨_, rfl⟩, q⟩
    · rw [if_neg k0]
      by_cases k1 : (k == 1 || a.length == 0) = true
      · rw [if_pos k1]
        refine ⟨.str a, H, I, ⟨_, rfl⟩, ?_⟩
        have e : (⟨(List.replicate k.toNat a.cps.toList).flatten.toArray⟩ : Str) = a := by
          rcases Bool.or_eq_true_iff.mp k1 with z | z
          · have := eq_of_beq z
            subst this
            cases a; simp
          · have := eq_of_beq z
            have e : a.cps.toList = [] := List.length_eq_zero_iff.mp (by rw [Array.length_toList]; exact this)
            cases a with
            | mk cps =>
              have e2 : cps = #[] := Array.toList_eq_nil_iff.mp e
              subst e2
              simp
        rw [e] at q; exact q
      · rw [if_neg k1]
        have := fl k.toNat []
        rw [List.nil_append] at this
        have e0 : ((List.replicate k.toNat a.cps).foldl (· ++ ·) #[]) = (List.replicate k.toNat a.cps.toList).flatten.toArray := this
        rw [e0]
        refine ⟨?_, ⟨.str _, H, I.tok _, ⟨_, rfl⟩, q⟩⟩
        show (List.replicate k.toNat a.cps.toList).flatten.toArray.size ≤ sizeLine
        rw [sizeLine_eq]
        have l2 : (List.replicate k.toNat a.cps.toList).flatten.length = a.length * k.toNat := by simp [Nat.mul_comm, Str.length]
        simp at l2 ⊢
        omega
end
end Oc
namespace Oc
open PySem (Str)
abbrev Cs := List Nat
abbrev Ky := Sum Int (List Nat)
/-- plain data; hnd: a thing that changes, by its place in the memory; scr: the script -/
inductive D where
  | non | bl (b : Bool) | int (i : Int) | str (s : Cs)
  | tup (xs : List D) | lst (xs : List D) | scr (ns : List Int)
  | dk (lk : Bool) (ks : List Ky) (vs : List D) | dt (lk : Bool) (ks : List (List Ky)) (vs : List D)
  | obj (c : Nat) (ns : List Str) (vs : List D)
  | fn (f : Nat) | hnd (k : Nat)
  deriving Inhabited
/-- a thing of the memory: a list, an instance -/
inductive MO where
  | ml (xs : List D) | mi (c : Nat) (ns : List Str) (vs : List D)
abbrev Mem := List MO
/-- what a slot holds: data, or a list or dict of its own that may change -/
inductive Sl where
  | d (x : D) | ol (xs : List D) | ok (ks : List Ky) (vs : List D) | ot (ks : List (List Ky)) (vs : List D)
abbrev En := List (Option Sl)
inductive R (α : Type) where
  | ok (M : Mem) (a : α) | er (M : Mem) (c : Nat) (fs : List D) | st
/-- how a statement ends -/
inductive Fl where
  | nx (M : Mem) (r : En) | rt (M : Mem) (d : D) | bk (M : Mem) (r : En) | ct (M : Mem) (r : En) | er (M : Mem) (r : En) (c : Nat) (fs : List D) | st
def lim : Nat := 16777216
inductive O2 | add | sub | mul | fdiv | mod | pow | shl | shr | band
inductive CO | lt | le | gt | ge | eq | ne | inn | nin | is | isN
inductive Cl | int | bool | str | tuple | list | own (c : Nat)
inductive Bi | len | int | str | sum | abs | tuple | list | max2 | min2 | sorted | maxL | minL
inductive Me | join | split | bitlen | get1 | get2 | index | count | rstrip
inductive Pt | nm (i : Nat) | tp (is : List Nat)
inductive E where
  | nil | cons (a r : E)
  | vr (i : Nat) | brw (is : List Nat) (e : E) | gi (x : Str) (i : Int)
  | int (i : Int) | str (s : Cs) | bl (b : Bool) | non
  | bin (o : O2) (a b : E) | neg (a : E)
  | not (a : E) | and (a b : E) | or (a b : E)
  | cmp (o : CO) (a b : E) | chn (o p : CO) (a b c : E) | ife (t a b : E)
  | tup (l : E) | lst (l : E)
  | lc (own : List Nat) (elt : E) (pt : Pt) (it cd : E)
  | cal (f : Nat) (l : E) | bi (k : Bi) (l : E) | me (k : Me) (o l : E) | isi (a : E) (c : Cl)
  | mk (c : Nat) (l : E) | fld (a : E) (x : Str) | prp (a : E) (f c : Nat)
  | sub (a i : E) | slc (a lo hi : E)
  | rg1 (a : E) | rg2 (a b : E) | lr1 (a : E) | lr2 (a b : E) | enu (a : E) | zp (a b : E)
  | zp3 (a b c : E) | rvL (a : E) | rvR (a : E) | rg3 (a b : E) (c : Int)
  | lc2 (own own2 : List Nat) (elt : E) (pt : Pt) (it : E) (pt2 : Pt) (it2 cd : E)
  | bln (a : E) | fs (s : Cs) (a : E) (t : Cs) | rep (a b : E)
  | srs (a : E) | srk (a : E) | mnk (a : E)
  | cat (a b : E)
  | dnk | dnt | dsp (lk : Bool) (l : E) | ds1 (lk tp : Bool) (k v : E) | dcp (lk : Bool) (a : E) | dco (lk : Bool) (own : List Nat) (k v : E) (pt : Pt) (it cd : E)
  | ldk (a : E) | mdn (a : E) | rpt (a b : E) | rps (a b : E)
  | mth (a : E) (f c : Nat) (g : Str) (l : E) | lno (a : E) (f c : Nat)
  | fnm (f : Nat) | cla (fs : List Nat) (a l : E) | slo (a lo : E)
/-- what a suite says of the exception that it holds; fld c j: its field number j, if it is of the class c -/
inductive XE where
  | vr (i : Nat) | int (i : Int) | str (s : Cs) | bl (b : Bool) | non
  | fld (c j : Nat) (f : Str) | isx (c : Nat)
  | nil | cons (a l : XE) | tup (l : XE) | ife (t a b : XE) | inn (a : XE) (l : XE)
  | lst (l : XE) | add (a b : XE)
/-- a suite that says something of its exception -/
inductive SX where
  | ret (e : XE) | set (i : Nat) (e : XE)
  | thn (i : Nat) (e : XE) (s : SX)
  | own (i : Nat) (e : XE) (s : SX)
  | app (c i : Nat) (e : XE) (s : SX)
  | frz (i : Nat) (s : SX)
/-- the one statement of an except's suite -/
inductive Su where
  | ret (e : E) | set (i : Nat) (e : E)
/-- a clause of a try: with a name or without -/
inductive Hd where
  | bare (c : Nat) (s : Su) | as (c i : Nat) (su : SX)
inductive S where
  | nil | seq (a b : S)
  | set (i : Nat) (e : E) | setO (i : Nat) (e : E) | setP (p : Pt) (e : E) | par (i j : Nat) (a b : E)
  | app (i : Nat) (e : E) | frz (i : Nat)
  | aug (i : Nat) (o : O2) (e : E)
  | hset (a i e : E) | fset (a : E) (x : Str) (e : E)
  | ret (e : E) | retN | retR (a b c : E)
  | ife (c : E) (a b : S) | forr (p : Pt) (it : E) (b : S) | whl (n : Nat) (c : E) (b : S)
  | drop (e : E) | pass | brk | cnt | never
  | rse (c : Nat) (l : E)
  | rvo (i : Nat)
  | lset (i : Nat) (k e : E) | laug (i : Nat) (k : E) (o : O2) (e : E)
  | parO (i j : Nat) (o1 o2 : Bool) (a b : E)
  | tri (b : S) (hs : List (Nat × Su))
  | dset (i : Nat) (k e : E) | dupd (i : Nat) (e : E) | ins0 (i : Nat) (e : E)
  | tra (b : S) (c i : Nat) (su : SX)
  | trm (b : S) (hs : List Hd)
  | dspO (i : Nat) (l : List (E × E)) | trp (i : Nat) (k1 k2 : Int) (j : Nat) (a b c : E)
mutual
def D.eqv : D → D → Bool
  | .non, .non => true
  | .bl a, .bl b => a == b
  | .bl a, .int j => (if a then 1 else 0) == j
  | .int i, .bl b => i == (if b then 1 else 0)
  | .int i, .int j => i == j
  | .str x, .str y => x == y
  | .lst xs, .lst ys => D.eqvL xs ys
  | .tup xs, .tup ys => D.eqvL xs ys
  | _, _ => false
def D.eqvL : List D → List D → Bool
  | [], [] => true
  | x :: xs, y :: ys => D.eqv x y && D.eqvL xs ys
  | _, _ => false
end
/-- data of no great depth, without dicts and objects -/
def shp : Nat → D → Bool
  | _, .non | _, .bl _ | _, .int _ | _, .str _ => true
  | n + 1, .lst xs | n + 1, .tup xs => xs.all (shp n)
  | _, _ => false
/-- data without lists, dicts, objects -/
def flat : Nat → D → Bool
  | _, .non | _, .bl _ | _, .int _ | _, .str _ => true
  | n + 1, .tup xs => xs.all (flat n)
  | _, _ => false
def scal : D → Bool
  | .non | .bl _ | .int _ | .str _ => true
  | _ => false
def keyD : Ky → D
  | .inl i => .int i
  | .inr s => .str s
def kyOf : D → Option Ky
  | .int i => some (.inl i)
  | .str s => some (.inr s)
  | _ => none
def kysOf : List D → Option (List Ky)
  | [] => some []
  | x :: xs => match kyOf x, kysOf xs with
    | some y, some ys => some (y :: ys)
    | _, _ => none
def tkOf : D → Option (List Ky)
  | .tup xs => kysOf xs
  | _ => none
def getK {κ : Type} [DecidableEq κ] (k : κ) : List κ → List D → Option D
  | x :: ks, v :: vs => if x = k then some v else getK k ks vs
  | _, _ => none
/-- k's values anew, in their place -/
def repK {κ : Type} [DecidableEq κ] (k : κ) (v : D) : List κ → List D → List D
  | x :: ks, y :: vs => (if x = k then v else y) :: repK k v ks vs
  | _, _ => []
def putK {κ : Type} [DecidableEq κ] (k : κ) (v : D) (ks : List κ) (vs : List D) : List κ × List D :=
  if k ∈ ks then (ks, repK k v ks vs) else (ks ++ [k], vs ++ [v])
/-- what a dict holds at a key; none: no dict, no key -/
def dgetD : D → D → Option (Option D)
  | .dk _ ks vs, k => (kyOf k).map fun y => getK y ks vs
  | .dt _ ks vs, k => (tkOf k).map fun y => getK y ks vs
  | _, _ => none
def keysD : D → Option (List D)
  | .dk true ks _ => some (ks.map keyD)
  | .dt true ks _ => some (ks.map fun k => .tup (k.map keyD))
  | _ => none
/-- pairs laid into a dict, from the left -/
def dspK : List D → List Ky → List D → Option (List Ky × List D)
  | [], ks, vs => some (ks, vs)
  | k :: v :: r, ks, vs => match kyOf k with
    | some y => dspK r (putK y v ks vs).1 (putK y v ks vs).2
    | none => none
  | _, _, _ => none
/-- the pairs of a locked or open dict laid into another one -/
def updK : List Ky → List D → List Ky → List D → List Ky × List D
  | k :: ks, v :: vs, js, ws => updK ks vs (putK k v js ws).1 (putK k v js ws).2
  | _, _, js, ws => (js, ws)
def lsOf (M : Mem) : D → Option (List D)
  | .lst xs => some xs
  | .hnd k => match M[k]? with
    | some (.ml xs) => some xs
    | _ => none
  | _ => none
def ltS : Cs → Cs → Bool
  | _, [] => false
  | [], _ :: _ => true
  | x :: xs, y :: ys => decide (x < y) || (x == y && ltS xs ys)
def intsOf : List D → Option (List Int)
  | [] => some []
  | .int i :: r => (intsOf r).map (i :: ·)
  | _ => none
def strsOf : List D → Option (List Cs)
  | [] => some []
  | .str i :: r => (strsOf r).map (i :: ·)
  | _ => none
def csS (l : Cs) : Str := ⟨l.toArray⟩
mutual
def toP : D → PySem.PyData
  | .non => .none
  | .bl b => .bool b
  | .int i => .int i
  | .str s => .str (csS s)
  | .tup xs => .tuple (toPs xs)
  | .lst xs => .list (toPs xs)
  | _ => .none
def toPs : List D → List PySem.PyData
  | [] => []
  | x :: xs => toP x :: toPs xs
end
def neTup : D → Bool
  | .tup (_ :: _) => true
  | _ => false
def notTN : D → Bool
  | .non | .tup _ => false
  | _ => true
def notNon : D → Bool
  | .non => false
  | _ => true
/-- data of one kind, place by place -/
def alkOk (xs : List D) : Bool := xs.all (shp 8) && xs.all notNon && xs.all fun a => xs.all fun b => PySem.W.alike (toP a) (toP b)
def srtOk (xs : List D) : Bool := alkOk xs && (xs.all neTup || xs.all notTN)
def leO : D → D → Bool := PySem.W.dataLe false toP
def ltO (a b : D) : Bool := PySem.W.dataLt (toP a) (toP b)
def minO (x : D) (xs : List D) : D := xs.foldl (fun a y => if ltO y a = true then y else a) x
def maxO (x : D) (xs : List D) : D := xs.foldl (fun a y => if ltO a y = true then y else a) x
/-- the members, ascending -/
def insA (k : Int) : List Int → List Int
  | [] => [k]
  | x :: r => if k < x then k :: x :: r else if k = x then x :: r else x :: insA k r
def srsA (ns : List Int) : List Int := ns.foldr insA []
def tru (M : Mem) : D → Option Bool
  | .non => some false
  | .bl b => some b
  | .int i => some (i != 0)
  | .str s => some (!s.isEmpty)
  | .tup xs => some (!xs.isEmpty)
  | .lst xs => some (!xs.isEmpty)
  | _ => none
def addD (M : Mem) : D → D → Option D
  | .int i, .int j => some (.int (i + j))
  | .str x, .str y => if x.length + y.length ≤ lim then some (.str (x ++ y)) else none
  | .tup x, .tup y => if x.length + y.length ≤ lim then some (.tup (x ++ y)) else none
  | a, b => match lsOf M a, lsOf M b with
    | some x, some y => if x.length + y.length ≤ lim then some (.lst (x ++ y)) else none
    | _, _ => none
def arD (f : Int → Int → Option Int) : D → D → Option D
  | .int i, .int j => (f i j).map .int
  | _, _ => none
def mulI (i j : Int) : Option Int := if (-(18446744073709551616) < i ∧ i < 18446744073709551616) ∨ (-(18446744073709551616) < j ∧ j < 18446744073709551616) then some (i * j) else none
def mulD : D → D → Option D
  | .lst x, .int k => if -(9223372036854775808) ≤ k ∧ k < 9223372036854775808 ∧ x.length * k.toNat ≤ lim then some (.lst (List.replicate k.toNat x).flatten) else none
  | .tup x, .int k => if x.isEmpty = false ∧ 1 ≤ k ∧ k ≤ 1000 ∧ x.length ≤ 1000 then some (.tup (List.replicate k.toNat x).flatten) else none
  | .str x, .int k => if 0 ≤ k ∧ k ≤ 1000 ∧ x.length ≤ 1000 then some (.str (List.replicate k.toNat x).flatten) else none
  | a, b => arD mulI a b
def fdivI (i j : Int) : Option Int := if 0 < j ∧ j < 18446744073709551616 then some (i / j) else none
def modI (i j : Int) : Option Int := if 0 < j then some (i % j) else none
def powI (i j : Int) : Option Int := if 0 ≤ j ∧ j ≤ 1000000 ∧ i.natAbs < 18446744073709551616 then some (i ^ j.toNat) else none
def shlI (i j : Int) : Option Int := if 0 ≤ j ∧ j ≤ 1000000 ∧ i.natAbs < 18446744073709551616 then some (i * 2 ^ j.toNat) else none
def shrI (i j : Int) : Option Int := if 0 ≤ j then some (i / 2 ^ j.toNat) else none
def binD (M : Mem) : O2 → D → D → Option D
  | .add => addD M
  | .sub => arD fun i j => some (i - j)
  | .mul => mulD
  | .fdiv => arD fdivI
  | .mod => arD modI
  | .pow => arD powI
  | .shl => arD shlI
  | .shr => arD shrI
  | .band => arD fun i j => some (PySem.Builtin.bitAnd i j)
/-- [..] * n, a new list -/
def repD : D → D → Option D
  | .lst x, .int k => if -(9223372036854775808) ≤ k ∧ k < 9223372036854775808 ∧ x.length * k.toNat ≤ lim then some (.lst (List.replicate k.toNat x).flatten) else none
  | _, _ => none
def eqD (a b : D) : Option Bool := if shp 40 a && shp 40 b then some (D.eqv a b) else none
/-- tuples in order -/
def ordOk (a b : D) : Bool := shp 8 a && shp 8 b && PySem.W.alike (toP a) (toP b) && PySem.W.alike (toP b) (toP a)
def ltD : D → D → Option Bool
  | .int i, .int j => some (decide (i < j))
  | .str i, .str j => some (ltS i j)
  | .tup xs, .tup ys => if ordOk (.tup xs) (.tup ys) = true then some (ltO (.tup xs) (.tup ys)) else none
  | _, _ => none
def leD : D → D → Option Bool
  | .int i, .int j => some (decide (i ≤ j))
  | .tup xs, .tup ys => if ordOk (.tup xs) (.tup ys) = true then some (!ltO (.tup ys) (.tup xs)) else none
  | _, _ => none
/-- is it None; things without identity's use alone -/
def isD : D → D → Option Bool
  | .non, .non => some true
  | .fn _, .non => none
  | .hnd _, .non => none
  | _, .non => some false
  | _, _ => none
def inD : D → D → Option Bool
  | a, .lst xs => if scal a && xs.all scal then some (xs.any fun y => D.eqv y a) else none
  | a, .tup xs => if scal a && xs.all scal then some (xs.any fun y => D.eqv y a) else none
  | .str [c], .str z => some (z.contains c)
  | a, .dk l ks vs => (dgetD (.dk l ks vs) a).map (·.isSome)
  | a, .dt l ks vs => (dgetD (.dt l ks vs) a).map (·.isSome)
  | _, _ => none
def cmpD : CO → D → D → Option Bool
  | .eq, a, b => eqD a b
  | .ne, a, b => (eqD a b).map not
  | .lt, a, b => ltD a b
  | .le, a, b => leD a b
  | .gt, a, b => ltD b a
  | .ge, a, b => leD b a
  | .is, a, b => isD a b
  | .isN, a, b => (isD a b).map not
  | .inn, a, b => inD a b
  | .nin, a, b => (inD a b).map not
def isiD (M : Mem) : D → Cl → Option Bool
  | .non, _ => some false
  | .bl _, .int => some true
  | .bl _, .bool => some true
  | .bl _, _ => some false
  | .int _, .int => some true
  | .int _, _ => some false
  | .str _, .str => some true
  | .str _, _ => some false
  | .tup _, .tuple => some true
  | .tup _, _ => some false
  | .lst _, .list => some true
  | .lst _, _ => some false
  | .obj c _ _, .own k => if c = k then some true else none
  | _, _ => none
def lenD (M : Mem) : D → Option Nat
  | .str s => some s.length
  | .tup xs => some xs.length
  | .lst xs => some xs.length
  | .dk _ ks _ => some ks.length
  | .dt _ ks _ => some ks.length
  | .hnd k => match M[k]? with
    | some (.ml xs) => some xs.length
    | _ => none
  | _ => none
/-- the place that an index of any sign means -/
def ixO (n : Nat) (i : Int) : Option Nat := if 0 ≤ i then (if i < n then some i.toNat else none) else if -(n : Int) ≤ i then some (i + n).toNat else none
def atO {α : Type} (xs : List α) (i : Int) : Option α := (ixO xs.length i).bind fun j => xs[j]?
def subD (M : Mem) : D → D → Option D
  | .str s, .int i => (atO s i).map fun c => .str [c]
  | .tup xs, .int i => atO xs i
  | .lst xs, .int i => atO xs i
  | .hnd k, .int i => match M[k]? with
    | some (.ml xs) => atO xs i
    | _ => none
  | .dk l ks vs, k => (dgetD (.dk l ks vs) k).bind id
  | .dt l ks vs, k => (dgetD (.dt l ks vs) k).bind id
  | _, _ => none
def sIxO (n d : Nat) : Option Int → Nat
  | none => d
  | some v => if v < 0 then (v + (n : Int)).toNat else min v.toNat n
def cutO {α : Type} (xs : List α) (lo hi : Option Int) : List α := (xs.drop (sIxO xs.length 0 lo)).take (sIxO xs.length xs.length hi - sIxO xs.length 0 lo)
def slcD : D → Option Int → Option Int → Option D
  | .str s, lo, hi => some (.str (cutO s lo hi))
  | .tup xs, lo, hi => some (.tup (cutO xs lo hi))
  | .lst xs, lo, hi => some (.lst (cutO xs lo hi))
  | _, _, _ => none
def strI (i : Int) : Cs := (toString i : PySem.Str).cps.toList
def joinS (a : Cs) : List Cs → Cs
  | [] => []
  | [x] => x
  | x :: r => x ++ a ++ joinS a r
def splitS (a b : Cs) : List Cs := (PySem.Txt.split ⟨a.toArray⟩ ⟨b.toArray⟩).map fun s => s.cps.toList
def rstripS (a : Cs) : Cs := (PySem.Txt.rstrip ⟨a.toArray⟩).cps.toList
def biD (M : Mem) : Bi → List D → Option D
  | .len, l => (match l with | [a] => (lenD M a).map fun n => .int n | _ => none)
  | .int, l => (match l with | [.int i] => some (.int i) | [.bl b] => some (.int (if b then 1 else 0)) | [.str s] => if s.length ≤ 640 then (PySem.intText? (csS s)).map .int else none | _ => none)
  | .str, l => (match l with | [.int i] => if i.natAbs.log2 < 1920 ∧ (strI i).length ≤ lim ∧ (strI i).all (· < 0x110000) = true then some (.str (strI i)) else none | _ => none)
  | .sum, l => (match l with | [.lst xs] => (intsOf xs).map fun ns => .int ns.sum | _ => none)
  | .abs, l => (match l with | [.int i] => some (.int (if i < 0 then -i else i)) | _ => none)
  | .tuple, l => (match l with | [.lst xs] => some (.tup xs) | [.tup xs] => some (.tup xs) | _ => none)
  | .list, l => (match l with | [.lst xs] => some (.lst xs) | [.tup xs] => some (.lst xs) | [.scr ns] => some (.lst (ns.map .int)) | _ => none)
  | .max2, l => (match l with | [.int i, .int j] => some (.int (if j > i then j else i)) | [.str i, .str j] => some (.str (if ltS i j = true then j else i)) | _ => none)
  | .min2, l => (match l with | [.int i, .int j] => some (.int (if j < i then j else i)) | [.str i, .str j] => some (.str (if ltS j i = true then j else i)) | _ => none)
  | .sorted, l => (match l with | [.lst xs] => if srtOk xs then some (.lst (xs.mergeSort leO)) else none | _ => none)
  | .maxL, l => (match l with | [.lst (x :: xs)] => if alkOk (x :: xs) then some (maxO x xs) else none | _ => none)
  | .minL, l => (match l with | [.lst (x :: xs)] => if alkOk (x :: xs) then some (minO x xs) else none | _ => none)
def meJoin : D → List D → Option D
  | .str a, [.lst xs] => match strsOf xs with
    | some ys => if (ys.map (·.length)).sum + ys.length * a.length ≤ lim then some (.str (joinS a ys)) else none
    | none => none
  | _, _ => none
def meSplit : D → List D → Option D
  | .str a, [.str b] => if b.length ≠ 0 ∧ a.length + 2 ≤ lim ∧ (splitS a b).length ≤ lim ∧ ((splitS a b).all fun s => decide (s.length ≤ lim) && s.all (· < 0x110000)) = true then some (.lst ((splitS a b).map .str)) else none
  | _, _ => none
def meRstrip : D → List D → Option D
  | .str a, [] => if a.length ≤ lim ∧ (rstripS a).length ≤ lim ∧ (rstripS a).all (· < 0x110000) = true then some (.str (rstripS a)) else none
  | _, _ => none
def meGet1 : D → List D → Option D
  | d, [k] => (dgetD d k).map fun o => o.getD .non
  | _, _ => none
def meGet2 : D → List D → Option D
  | d, [k, x] => (dgetD d k).map fun o => o.getD x
  | _, _ => none
def meIndex : D → List D → Option D
  | .lst xs, [y] => if shp 40 (.lst xs) && shp 40 y then (xs.findIdx? fun z => D.eqv z y).map fun j => .int (j : Nat) else none
  | _, _ => none
def meCount : D → List D → Option D
  | .lst xs, [.int k] => (intsOf xs).map fun ns => .int (ns.count k : Nat)
  | _, _ => none
def meD (M : Mem) : Me → D → List D → Option D
  | .join => meJoin
  | .split => meSplit
  | .rstrip => meRstrip
  | .get1 => meGet1
  | .get2 => meGet2
  | .index => meIndex
  | .count => meCount
  | .bitlen => fun _ _ => none
/-- the receiver is of the method's type -/
def meOk : Me → D → Bool
  | .join, .str _ | .split, .str _ | .rstrip, .str _ => true
  | .bitlen, .int _ => true
  | .get1, .dk _ _ _ | .get1, .dt _ _ _ | .get2, .dk _ _ _ | .get2, .dt _ _ _ => true
  | .index, .lst _ | .count, .lst _ => true
  | _, _ => false
/-- what is walked -/
def itms : D → Option (List D)
  | .lst xs => some xs
  | .tup xs => some xs
  | .str s => some (s.map fun c => .str [c])
  | .scr ns => some (ns.map .int)
  | .dk l ks vs => keysD (.dk l ks vs)
  | .dt l ks vs => keysD (.dt l ks vs)
  | _ => none
def itmF : D → Option (List D)
  | .lst xs => some xs
  | .tup xs => some xs
  | .str s => some (s.map fun c => .str [c])
  | _ => none
def srsD : D → Option D
  | .tup xs => match intsOf xs with
    | some ns => if ns.length < 64 then some (.lst ((srsA ns).map .int)) else none
    | none => none
  | .lst xs => match intsOf xs with
    | some ns => if ns.length < 64 then some (.lst ((srsA ns).map .int)) else none
    | none => none
  | _ => none
/-- tuples of ints, by the sum of the distances from 0, then themselves -/
def absI (i : Int) : Int := if i < 0 then -i else i
def tupI : D → Bool
  | .tup ys => (intsOf ys).isSome
  | _ => false
def kyL : D → PySem.PyData
  | .tup ys => match intsOf ys with
    | some ws => .tuple [.int (ws.map absI).sum, .tuple (ws.map .int)]
    | none => .none
  | _ => .none
def leK : D → D → Bool := PySem.W.dataLe false kyL
def srkD : D → Option D
  | .lst xs => if xs.all tupI then some (.lst (xs.mergeSort leK)) else none
  | _ => none
/-- two lists, one new one -/
def catD : D → D → Option D
  | .lst x, .lst y => if x.length + y.length ≤ lim then some (.lst (x ++ y)) else none
  | _, _ => none
/-- min(x, key=lambda y: abs(y)), ints -/
def mnkI (n : Int) (ns : List Int) : Int := ns.foldl (fun a k => if absI k < absI a then k else a) n
def mnkD : D → Option D
  | .lst xs => match intsOf xs with
    | some (n :: ns) => some (.int (mnkI n ns))
    | _ => none
  | _ => none
/-- list(d), d with tuple keys -/
def ldkD : D → Option D
  | .dt _ ks _ => some (.lst (ks.map fun k => .tup (k.map keyD)))
  | .dk _ ks _ => some (.lst (ks.map keyD))
  | _ => none
/-- min(x, default=None) -/
def mdnD : D → Option D
  | .lst [] => some .non
  | .lst (x :: xs) => if alkOk (x :: xs) then some (minO x xs) else none
  | _ => none
/-- (..) * n, a text * n -/
def rptD : D → D → Option D
  | .tup x, .int k => if -(9223372036854775808) ≤ k ∧ k < 9223372036854775808 ∧ x.length * k.toNat ≤ lim then some (.tup (List.replicate k.toNat x).flatten) else none
  | _, _ => none
def rpsD : D → D → Option D
  | .str x, .int k => if -(9223372036854775808) ≤ k ∧ k < 9223372036854775808 ∧ x.length * k.toNat ≤ lim then some (.str (List.replicate k.toNat x).flatten) else none
  | _, _ => none
/-- a tuple of ints, as a dict's key: its hash -/
def hshK (k : List Ky) : Int := PySem.reduceHash (PySem.Builtin.Tuple.tupleHashOf (k.map fun y => match y with
  | .inl i => PySem.hashInt i
  | .inr _ => 0))
/-- keys all of ints; no two hash alike -/
def hshOk (ks : List (List Ky)) : Bool := (ks.all fun k => k.all fun y => y.isLeft) && decide ((ks.map hshK).Nodup)
def vsl (r : En) (i : Nat) : Option D := match r[i]? with
  | some (some (.d x)) => some x
  | _ => none
def setE (r : En) (i : Nat) (x : D) : En := r.set i (some (.d x))
def wipE (r : En) : List Nat → En
  | [] => r
  | v :: vs => (wipE r vs).set v none
/-- data that holds nothing of the memory -/
def hf : Nat → D → Bool
  | _, .non | _, .bl _ | _, .int _ | _, .str _ | _, .scr _ | _, .fn _ => true
  | n + 1, .lst xs | n + 1, .tup xs | n + 1, .dk _ _ xs | n + 1, .dt _ _ xs | n + 1, .obj _ _ xs => xs.all (hf n)
  | _, _ => false
def clrS : Option Sl → Option Sl
  | some (.ol xs) => some (.d (.lst xs))
  | some (.ok ks vs) => some (.d (.dk false ks vs))
  | some (.ot ks vs) => some (.d (.dt false ks vs))
  | x => x
/-- .. for good -/
def lokS : Option Sl → Option Sl
  | some (.ol xs) => some (.d (.lst xs))
  | some (.ok ks vs) => some (.d (.dk true ks vs))
  | some (.ot ks vs) => some (.d (.dt true ks vs))
  | x => x
/-- a slot seen as data, where it holds nothing of the memory -/
def mskS : Option (Option Sl) → Option Sl
  | some o => match clrS o with
    | some (.d x) => if hf 40 x then some (.d x) else none
    | _ => none
  | none => none
def mskE (r : En) : List Nat → En
  | [] => r.map fun _ => none
  | i :: is => (mskE r is).set i (mskS r[i]?)
def setL : List Nat → List D → En → Option En
  | [], [], r => some r
  | i :: is, x :: xs, r => setL is xs (setE r i x)
  | _, _, _ => none
def setPt : Pt → D → En → Option En
  | .nm i, x, r => some (setE r i x)
  | .tp is, .tup xs, r => setL is xs r
  | .tp is, .lst xs, r => setL is xs r
  | _, _, _ => none
def R.bind {α β : Type} : R α → (Mem → α → R β) → R β
  | .ok M a, f => f M a
  | .er M c fs, _ => .er M c fs
  | .st, _ => .st
/-- where no exception may leave -/
def R.noEr {α : Type} : R α → R α
  | .er _ _ _ => .st
  | x => x
def R.opt {α : Type} (M : Mem) : Option α → R α
  | some a => .ok M a
  | none => .st
/-- a comprehension's loop -/
def lcGo (f : Mem → D → R (Option D)) : Mem → List D → R (List D)
  | M, [] => .ok M []
  | M, x :: xs => (f M x).bind fun M1 o => (lcGo f M1 xs).bind fun M2 r => .ok M2 (match o with
    | some d => d :: r
    | none => r)
/-- a comprehension's outer loop of two; k: how many items there are -/
def lcG2 (f : Mem → Nat → D → R (List D)) : Mem → Nat → List D → R (List D)
  | M, _, [] => .ok M []
  | M, k, x :: xs => (f M k x).bind fun M1 o => (lcG2 f M1 (k + o.length) xs).bind fun M2 r => .ok M2 (o ++ r)
/-- a dict comprehension's loop -/
def dcGo (f : Mem → D → R (Option (D × D))) : Mem → List D → List Ky → List D → R (List Ky × List D)
  | M, [], ks, vs => .ok M (ks, vs)
  | M, x :: xs, ks, vs => (f M x).bind fun M1 o => match o with
    | none => dcGo f M1 xs ks vs
    | some p => match kyOf p.1 with
      | some y => if ks.length < lim then dcGo f M1 xs (putK y p.2 ks vs).1 (putK y p.2 ks vs).2 else .st
      | none => .st
/-- a for's loop -/
def forGo (p : Pt) (f : Mem → En → Fl) : Mem → List D → En → Fl
  | M, [], r => .nx M r
  | M, x :: xs, r => match setPt p x r with
    | none => .st
    | some r1 => match f M r1 with
      | .nx M2 r2 => forGo p f M2 xs r2
      | .ct M2 r2 => forGo p f M2 xs r2
      | .bk M2 r2 => .nx M2 r2
      | z => z
def whGo (c : Mem → En → R Bool) (f : Mem → En → Fl) : Nat → Mem → En → Fl
  | 0, _, _ => .st
  | n + 1, M, r => match c M r with
    | .ok M1 true => (match f M1 r with
      | .nx M2 r2 => whGo c f n M2 r2
      | .ct M2 r2 => whGo c f n M2 r2
      | .bk M2 r2 => .nx M2 r2
      | z => z)
    | .ok M1 false => .nx M1 r
    | .er M1 k fs => .er M1 r k fs
    | .st => .st
/-- what is called: the defs by number; the class's own ==, its __init__, whether its instances never change -/
structure Fx where
  cal : Nat → Mem → List D → R D
  eqf : Nat → Option Nat
  ini : Nat → Option Nat
  frz : Nat → Bool
  exs : Nat → Nat → Option Bool
/-- an instance's class -/
def clsOf (M : Mem) : D → Option Nat
  | .obj c _ _ => some c
  | .hnd k => match M[k]? with
    | some (.mi c _ _) => some c
    | _ => none
  | _ => none
/-- the fields' names -/
def nsOf (M : Mem) : D → Option (List Str)
  | .obj _ ns _ => some ns
  | .hnd k => match M[k]? with
    | some (.mi _ ns _) => some ns
    | _ => none
  | _ => none
/-- what an own == is asked with -/
def eqOk (c : Nat) : D → Bool
  | .obj k _ _ => k == c
  | .tup _ => true
  | _ => false
def optI : D → Option (Option Int)
  | .non => some none
  | .int i => some (some i)
  | _ => none
def intO (M : Mem) : D → R D
  | .int i => .ok M (.int i)
  | _ => .st
def ctup (M : Mem) (x : D) : D → R D
  | .tup xs => .ok M (.tup (x :: xs))
  | _ => .st
def ev (X : Fx) : E → Mem → En → R D
  | .nil, M, r => .ok M (.tup [])
  | .cons a l, M, r => (ev X a M r).bind fun M1 x => (ev X l M1 r).bind fun M2 y => ctup M2 x y
  | .vr i, M, r => .opt M (vsl r i)
  | .brw is e, M, r => match ev X e [] (mskE r is) with
    | .ok [] x => if flat 40 x then .ok M x else .st
    | _ => .st
  | .gi _ i, M, r => .ok M (.int i)
  | .int i, M, r => .ok M (.int i)
  | .str s, M, r => .ok M (.str s)
  | .bl b, M, r => .ok M (.bl b)
  | .non, M, r => .ok M .non
  | .bin o a b, M, r => (ev X a M r).bind fun M1 x => (ev X b M1 r).bind fun M2 y => .opt M2 (binD M2 o x y)
  | .neg a, M, r => (ev X a M r).bind fun M1 x => match x with
    | .int i => .ok M1 (.int (-i))
    | _ => .st
  | .not a, M, r => (ev X a M r).bind fun M1 x => .opt M1 ((tru M1 x).map fun b => .bl (!b))
  | .and a b, M, r => (ev X a M r).bind fun M1 x => match tru M1 x with
    | some true => ev X b M1 r
    | some false => .ok M1 x
    | none => .st
  | .or a b, M, r => (ev X a M r).bind fun M1 x => match tru M1 x with
    | some true => .ok M1 x
    | some false => ev X b M1 r
    | none => .st
  | .cmp o a b, M, r => (ev X a M r).bind fun M1 x => (ev X b M1 r).bind fun M2 y => match o, x with
    | .eq, .obj c _ _ => (match X.eqf c with
      | some f => if eqOk c y then (match X.cal f M2 [x, y] with
        | .ok M3 (.bl b) => .ok M3 (.bl b)
        | _ => .st) else .st
      | none => .st)
    | _, _ => .opt M2 ((cmpD o x y).map .bl)
  | .chn o p a b c, M, r => (ev X a M r).bind fun M1 x => (ev X b M1 r).bind fun M2 y => match cmpD o x y with
    | some true => (ev X c M2 r).bind fun M3 z => .opt M3 ((cmpD p y z).map .bl)
    | some false => .ok M2 (.bl false)
    | none => .st
  | .ife t a b, M, r => (ev X t M r).bind fun M1 x => match tru M1 x with
    | some true => ev X a M1 r
    | some false => ev X b M1 r
    | none => .st
  | .tup l, M, r => ev X l M r
  | .lst l, M, r => (ev X l M r).bind fun M1 x => match x with
    | .tup xs => .ok M1 (.lst xs)
    | _ => .st
  | .lc own elt pt it cd, M, r => (ev X it M r).bind fun M1 x => match itms x with
    | none => .st
    | some xs => (lcGo (fun M2 y => match setPt pt y (wipE r own) with
        | none => .st
        | some r2 => (match cd with
          | .nil => .ok M2 true
          | _ => ((ev X cd M2 r2).bind fun M3 t => .opt M3 (tru M3 t)).noEr : R Bool).bind fun M3 b =>
            if b then (ev X elt M3 r2).noEr.bind fun M4 z => .ok M4 (some z) else .ok M3 none) M1 xs).bind fun M2 zs => .ok M2 (.lst zs)
  | .cal f l, M, r => (ev X l M r).bind fun M1 x => match x with
    | .tup xs => X.cal f M1 xs
    | _ => .st
  | .bi k l, M, r => (ev X l M r).bind fun M1 x => match x with
    | .tup xs => .opt M1 (biD M1 k xs)
    | _ => .st
  | .me k o l, M, r => (ev X o M r).bind fun M1 y => if meOk k y then (ev X l M1 r).bind fun M2 x => (match x with
    | .tup xs => .opt M2 (meD M2 k y xs)
    | _ => .st) else .st
  | .isi a c, M, r => (ev X a M r).bind fun M1 x => .opt M1 ((isiD M1 x c).map .bl)
  | .mk c l, M, r => (ev X l M r).bind fun M1 x => match x, X.ini c with
    | .tup xs, some f => if X.frz c then (if xs.all (hf 40) then (match X.cal f [.mi c [] []] (.hnd 0 :: xs) with
        | .ok [.mi k ns vs] .non => if k = c ∧ vs.all (hf 40) = true then .ok M1 (.obj c ns vs) else .st
        | .er _ k fs => if fs.all (hf 40) then .er M1 k fs else .st
        | _ => .st) else .st)
      else (match X.cal f (M1 ++ [.mi c [] []]) (.hnd M1.length :: xs) with
        | .ok M2 .non => .ok M2 (.hnd M1.length)
        | .er M2 k fs => .er M2 k fs
        | _ => .st)
    | _, _ => .st
  | .fld a x, M, r => (ev X a M r).bind fun M1 y => match y with
    | .obj _ ns vs => .opt M1 ((ns.zip vs).lookup x)
    | .hnd k => (match M1[k]? with
      | some (.mi _ ns vs) => .opt M1 ((ns.zip vs).lookup x)
      | _ => .st)
    | _ => .st
  | .prp a f c, M, r => (ev X a M r).bind fun M1 y => if clsOf M1 y = some c then (match X.cal f M1 [y] with
    | .ok M2 z => .ok M2 z
    | _ => .st) else .st
  | .mth a f c g l, M, r => (ev X a M r).bind fun M1 y => if clsOf M1 y = some c ∧ ((nsOf M1 y).any fun ns => !ns.contains g) = true then ((ev X l M1 r).bind fun M2 z => match z with
    | .tup xs => X.cal f M2 (y :: xs)
    | _ => .st) else .st
  | .lno a f c, M, r => (ev X a M r).bind fun M1 y => if clsOf M1 y = some c then (match X.cal f M1 [y] with
    | .ok M2 (.int i) => if 0 ≤ i ∧ i < 9223372036854775808 then .ok M2 (.int i) else .st
    | _ => .st) else .st
  | .sub a i, M, r => (ev X a M r).bind fun M1 x => (ev X i M1 r).bind fun M2 y => .opt M2 (subD M2 x y)
  | .slc a lo hi, M, r => (ev X a M r).bind fun M1 x => (match lo with
      | .nil => .ok M1 .non
      | _ => (ev X lo M1 r).bind intO : R D).bind fun M2 y => (match hi with
      | .nil => .ok M2 .non
      | _ => (ev X hi M2 r).bind intO : R D).bind fun M3 z => match optI y, optI z with
      | some l, some h => .opt M3 (slcD x l h)
      | _, _ => .st
  | .rg1 a, M, r => (ev X a M r).bind fun M1 x => match x with
    | .int n => if n < 16777216 ∧ -(4611686018427387904) ≤ n then .ok M1 (.lst ((List.range n.toNat).map fun (i : Nat) => .int (i : Int))) else .st
    | _ => .st
  | .rg2 a b, M, r => (ev X a M r).bind fun M1 x => (ev X b M1 r).bind fun M2 y => match x, y with
    | .int m, .int n => if m < 4611686018427387904 ∧ -(4611686018427387904) ≤ m ∧ n < 4611686018427387904 ∧ -(4611686018427387904) ≤ n ∧ n - m < 16777216 then .ok M2 (.lst ((List.range (n - m).toNat).map fun (i : Nat) => .int (m + i))) else .st
    | _, _ => .st
  | .lr1 a, M, r => (ev X a M r).bind fun M1 x => match x with
    | .int n => if n < 16777216 ∧ -(4611686018427387904) ≤ n then .ok M1 (.lst ((List.range n.toNat).map fun (i : Nat) => .int (i : Int))) else .st
    | _ => .st
  | .lr2 a b, M, r => (ev X a M r).bind fun M1 x => (ev X b M1 r).bind fun M2 y => match x, y with
    | .int m, .int n => if m < 4611686018427387904 ∧ -(4611686018427387904) ≤ m ∧ n < 4611686018427387904 ∧ -(4611686018427387904) ≤ n ∧ n - m < 16777216 then .ok M2 (.lst ((List.range (n - m).toNat).map fun (i : Nat) => .int (m + i))) else .st
    | _, _ => .st
  | .enu a, M, r => (ev X a M r).bind fun M1 x => match itmF x with
    | some xs => .ok M1 (.lst (xs.zipIdx.map fun p => .tup [.int p.2, p.1]))
    | none => .st
  | .zp a b, M, r => (ev X a M r).bind fun M1 x => (ev X b M1 r).bind fun M2 y => match itmF x, itmF y with
    | some xs, some ys => .ok M2 (.lst ((xs.zip ys).map fun p => .tup [p.1, p.2]))
    | _, _ => .st
  | .zp3 a b c, M, r => (ev X a M r).bind fun M1 x => (ev X b M1 r).bind fun M2 y => (ev X c M2 r).bind fun M3 z => match itmF x, itmF y, itmF z with
    | some xs, some ys, some zs => .ok M3 (.lst ((xs.zip (ys.zip zs)).map fun p => .tup [p.1, p.2.1, p.2.2]))
    | _, _, _ => .st
  | .rvL a, M, r => (ev X a M r).bind fun M1 x => match x with
    | .lst xs => .ok M1 (.lst xs.reverse)
    | _ => .st
  | .rvR a, M, r => (ev X a M r).bind fun M1 x => match x with
    | .int n => if n < 16777216 ∧ -(4611686018427387904) ≤ n then .ok M1 (.lst ((List.range n.toNat).map fun (i : Nat) => .int ((n.toNat : Int) - 1 - (i : Int)))) else .st
    | _ => .st
  | .rg3 a b c, M, r => (ev X a M r).bind fun M1 x => (ev X b M1 r).bind fun M2 y => match x, y with
    | .int m, .int n => if c = -1 ∧ m < 16777216 ∧ -(16777216) ≤ n ∧ n ≤ m ∧ m - n < 16777216 then .ok M2 (.lst ((List.range (m - n).toNat).map fun (i : Nat) => .int (m - i))) else .st
    | _, _ => .st
  | .lc2 own own2 elt pt it pt2 it2 cd, M, r => (ev X it M r).bind fun M1 x => match itms x with
    | none => .st
    | some xs => (lcG2 (fun M2 k y => match setPt pt y (wipE r own) with
        | none => .st
        | some r1 => (ev X it2 M2 r1).noEr.bind fun M3 z => match itms z with
          | none => .st
          | some zs => if k + zs.length ≤ lim then lcGo (fun M4 y2 => match setPt pt2 y2 (wipE r1 own2) with
            | none => .st
            | some r2 => (match cd with
              | .nil => .ok M4 true
              | _ => ((ev X cd M4 r2).bind fun M5 t => .opt M5 (tru M5 t)).noEr : R Bool).bind fun M5 b =>
                if b then (ev X elt M5 r2).noEr.bind fun M6 z => .ok M6 (some z) else .ok M5 none) M3 zs else .st) M1 0 xs).bind fun M2 zs => .ok M2 (.lst zs)
  | .bln a, M, r => (ev X a M r).bind fun M1 x => match x with
    | .int i => .ok M1 (.int (PySem.Builtin.Int.intBits i : Nat))
    | _ => .st
  | .fs s a t, M, r => (ev X a M r).bind fun M1 x => match x with
    | .int i => if i.natAbs.log2 < 1920 ∧ s.length + (strI i).length + t.length ≤ lim ∧ (strI i).all (· < 0x110000) = true then .ok M1 (.str (s ++ strI i ++ t)) else .st
    | _ => .st
  | .rep a b, M, r => (ev X a M r).bind fun M1 x => (ev X b M1 r).bind fun M2 y => .opt M2 (repD x y)
  | .srs a, M, r => (ev X a M r).bind fun M1 x => .opt M1 (srsD x)
  | .cat a b, M, r => (ev X a M r).bind fun M1 x => (ev X b M1 r).bind fun M2 y => .opt M2 (catD x y)
  | .srk a, M, r => (ev X a M r).bind fun M1 x => .opt M1 (srkD x)
  | .mnk a, M, r => (ev X a M r).bind fun M1 x => .opt M1 (mnkD x)
  | .dnk, M, r => .ok M (.dk false [] [])
  | .dnt, M, r => .ok M (.dt false [] [])
  | .dsp lk l, M, r => (ev X l M r).bind fun M1 x => match x with
    | .tup xs => .opt M1 ((dspK xs [] []).map fun p => .dk lk p.1 p.2)
    | _ => .st
  | .ds1 lk tp k v, M, r => (ev X k M r).bind fun M1 x => (ev X v M1 r).bind fun M2 y => if tp then .opt M2 ((tkOf x).map fun z => .dt lk [z] [y]) else .opt M2 ((kyOf x).map fun z => .dk lk [z] [y])
  | .dcp lk a, M, r => (ev X a M r).bind fun M1 x => match x with
    | .dt _ ks vs => if hshOk ks = true then .ok M1 (.dt lk ks vs) else .st
    | _ => .st
  | .dco lk own k v pt it cd, M, r => (ev X it M r).bind fun M1 x => match itms x with
    | none => .st
    | some xs => (dcGo (fun M2 y => match setPt pt y (wipE r own) with
        | none => .st
        | some r2 => (match cd with
          | .nil => .ok M2 true
          | _ => ((ev X cd M2 r2).bind fun M3 t => .opt M3 (tru M3 t)).noEr : R Bool).bind fun M3 b =>
            if b then (ev X k M3 r2).noEr.bind fun M4 z => (ev X v M4 r2).noEr.bind fun M5 w => .ok M5 (some (z, w)) else .ok M3 none) M1 xs [] []).bind fun M2 p => .ok M2 (.dk lk p.1 p.2)
  | .fnm f, M, r => .ok M (.fn f)
  | .slo a lo, M, r => (ev X a M r).bind fun M1 x => (ev X lo M1 r).bind fun M2 y => match x, y with
    | .lst xs, .int i => .ok M2 (.lst (cutO xs (some i) none))
    | _, _ => .st
  | .cla fs a l, M, r => (ev X a M r).bind fun M1 x => match x with
    | .fn f => if f ∈ fs then (ev X l M1 r).bind fun M2 y => (match y with
      | .tup xs => X.cal f M2 xs
      | _ => .st) else .st
    | _ => .st
  | .ldk a, M, r => (ev X a M r).bind fun M1 x => .opt M1 (ldkD x)
  | .mdn a, M, r => (ev X a M r).bind fun M1 x => .opt M1 (mdnD x)
  | .rpt a b, M, r => (ev X a M r).bind fun M1 x => (ev X b M1 r).bind fun M2 y => .opt M2 (rptD x y)
  | .rps a b, M, r => (ev X a M r).bind fun M1 x => (ev X b M1 r).bind fun M2 y => .opt M2 (rpsD x y)
def fOf : R D → En → (Mem → D → Fl) → Fl
  | .ok M d, _, f => f M d
  | .er M c fs, r, _ => .er M r c fs
  | .st, _, _ => .st
def evB (X : Fx) (c : E) (M : Mem) (r : En) : R Bool := (ev X c M r).bind fun M1 x => .opt M1 (tru M1 x)
def bOf : R Bool → En → (Mem → Bool → Fl) → Fl
  | .ok M d, _, f => f M d
  | .er M c fs, r, _ => .er M r c fs
  | .st, _, _ => .st
def putF (x : Str) (v : D) : List Str → List D → List Str × List D
  | n :: ns, y :: ys => if n = x then (n :: ns, v :: ys) else (n :: (putF x v ns ys).1, y :: (putF x v ns ys).2)
  | _, _ => ([x], [v])
/-- what a slot gets: data, or a thing of its own -/
def slO : Bool → D → Option Sl
  | false, d => some (.d d)
  | true, .lst xs => some (.ol xs)
  | true, .dk false ks vs => some (.ok ks vs)
  | true, .dt false ks vs => some (.ot ks vs)
  | true, _ => none
/-- what a suite's words tell of an exception -/
def xv (X : Fx) (k : Nat) (fs : List D) (r : En) : XE → Option D
  | .vr i => vsl r i
  | .int i => some (.int i)
  | .str s => some (.str s)
  | .bl b => some (.bl b)
  | .non => some .non
  | .fld c j _ => if c = k then fs[j]? else none
  | .isx c => (X.exs k c).map .bl
  | .nil => some (.tup [])
  | .cons a l => match xv X k fs r a, xv X k fs r l with
    | some x, some (.tup xs) => some (.tup (x :: xs))
    | _, _ => none
  | .tup l => xv X k fs r l
  | .ife t a b => match xv X k fs r t with
    | some (.bl true) => xv X k fs r a
    | some (.bl false) => xv X k fs r b
    | _ => none
  | .inn a l => match xv X k fs r a, xv X k fs r l with
    | some x, some (.lst xs) => (cmpD .inn x (.lst xs)).map .bl
    | _, _ => none
  | .lst l => match xv X k fs r l with
    | some (.tup xs) => some (.lst xs)
    | _ => none
  | .add a b => match xv X k fs r a, xv X k fs r b with
    | some (.lst xs), some (.lst ys) => binD [] .add (.lst xs) (.lst ys)
    | _, _ => none
def sxF (X : Fx) (k : Nat) (fs : List D) : SX → Mem → En → Fl
  | .ret e, M, r => match xv X k fs r e with
    | some d => .rt M d
    | none => .st
  | .set i e, M, r => match xv X k fs r e with
    | some d => .nx M (setE r i d)
    | none => .st
  | .thn i e s, M, r => match xv X k fs r e with
    | some d => sxF X k fs s M (setE r i d)
    | none => .st
  | .own i e s, M, r => match xv X k fs r e with
    | some (.lst xs) => sxF X k fs s M (r.set i (some (.ol xs)))
    | _ => .st
  | .app c i e s, M, r => match X.exs k c with
    | some false => sxF X k fs s M r
    | some true => match r[i]?, xv X k fs r e with
      | some (some (.ol xs)), some d => if xs.length < lim then sxF X k fs s M (r.set i (some (.ol (xs ++ [d])))) else .st
      | _, _ => .st
    | none => .st
  | .frz i s, M, r => match r[i]? with
    | some (some (.ol xs)) => sxF X k fs s M (r.set i (some (.d (.lst xs))))
    | _ => .st
/-- an except clause that names the exception -/
def traF (X : Fx) (c i : Nat) (su : SX) : Fl → Fl
  | .er M r k fs => match X.exs k c with
    | some true => match r[i]? with
      | some none => sxF X k fs su M r
      | _ => .st
    | some false => .er M r k fs
    | none => .st
  | z => z
def suF (X : Fx) : Su → Mem → En → Fl
  | .ret e, M, r => fOf (ev X e M r).noEr r fun M1 x => .rt M1 x
  | .set i e, M, r => fOf (ev X e M r).noEr r fun M1 x => .nx M1 (setE r i x)
/-- the first clause that fits -/
def hdlF (X : Fx) (k : Nat) : List (Nat × Su) → Mem → En → List D → Fl
  | [], M, r, fs => .er M r k fs
  | (c, s) :: l, M, r, fs => match X.exs k c with
    | some true => suF X s M r
    | some false => hdlF X k l M r fs
    | none => .st
def triF (X : Fx) (hs : List (Nat × Su)) : Fl → Fl
  | .er M r k fs => hdlF X k hs M r fs
  | z => z
/-- the first clause that fits, with a name or without -/
def mixF (X : Fx) (k : Nat) : List Hd → Mem → En → List D → Fl
  | [], M, r, fs => .er M r k fs
  | .bare c s :: l, M, r, fs => match X.exs k c with
    | some true => suF X s M r
    | some false => mixF X k l M r fs
    | none => .st
  | .as c i su :: l, M, r, fs => match X.exs k c with
    | some true => (match r[i]? with
      | some none => sxF X k fs su M r
      | _ => .st)
    | some false => mixF X k l M r fs
    | none => .st
def trmF (X : Fx) (hs : List Hd) : Fl → Fl
  | .er M r k fs => mixF X k hs M r fs
  | z => z
/-- the pairs of a display, in order -/
def evP (X : Fx) : List (E × E) → Mem → En → R (List (D × D))
  | [], M, _ => .ok M []
  | p :: l, M, r => (ev X p.1 M r).bind fun M1 x => (ev X p.2 M1 r).bind fun M2 y => (evP X l M2 r).bind fun M3 z => .ok M3 ((x, y) :: z)
def altK : List (D × D) → Option (List Ky × List D)
  | [] => some ([], [])
  | (k, v) :: r => match kyOf k, altK r with
    | some y, some (ks, vs) => some (y :: ks, v :: vs)
    | _, _ => none
def ex (X : Fx) : S → Mem → En → Fl
  | .nil, M, r => .nx M r
  | .seq a b, M, r => match ex X a M r with
    | .nx M1 r1 => ex X b M1 r1
    | z => z
  | .set i e, M, r => fOf (ev X e M r) r fun M1 x => .nx M1 (setE r i x)
  | .setO i e, M, r => fOf (ev X e M r) r fun M1 x => match x with
    | .lst xs => .nx M1 (r.set i (some (.ol xs)))
    | .dk false ks vs => .nx M1 (r.set i (some (.ok ks vs)))
    | .dt false ks vs => .nx M1 (r.set i (some (.ot ks vs)))
    | _ => .st
  | .setP p e, M, r => fOf (ev X e M r) r fun M1 x => match setPt p x r with
    | some r1 => .nx M1 r1
    | none => .st
  | .par i j a b, M, r => fOf (ev X a M r) r fun M1 x => fOf (ev X b M1 r) r fun M2 y => .nx M2 (setE (setE r i x) j y)
  | .app i e, M, r => match r[i]? with
    | some (some (.ol xs)) => fOf (ev X e M r) r fun M1 x => if xs.length < lim then .nx M1 (r.set i (some (.ol (xs ++ [x])))) else .st
    | _ => .st
  | .rvo i, M, r => match r[i]? with
    | some (some (.ol xs)) => .nx M (r.set i (some (.ol xs.reverse)))
    | _ => .st
  | .frz i, M, r => .nx M (match r[i]? with
    | some o => r.set i (lokS o)
    | none => r)
  | .aug i o e, M, r => match vsl r i with
    | some x => fOf (ev X e M r) r fun M1 y => match x, binD M1 o x y with
      | .int _, some z => .nx M1 (setE r i z)
      | _, _ => .st
    | none => .st
  | .hset a i e, M, r => fOf (ev X e M r) r fun M1 v => fOf (ev X a M1 r) r fun M2 x => fOf (ev X i M2 r) r fun M3 y => match x, y with
    | .hnd k, .int j => (match M3[k]? with
      | some (.ml xs) => (match ixO xs.length j with
        | some n => .nx (M3.set k (.ml (xs.set n v))) r
        | none => .st)
      | _ => .st)
    | _, _ => .st
  | .fset a x e, M, r => fOf (ev X e M r) r fun M1 v => fOf (ev X a M1 r) r fun M2 y => match y with
    | .hnd k => (match M2[k]? with
      | some (.mi c ns vs) => if ns.length < 100 then .nx (M2.set k (.mi c (putF x v ns vs).1 (putF x v ns vs).2)) r else .st
      | _ => .st)
    | _ => .st
  | .ret e, M, r => fOf (ev X e M r) r fun M1 x => .rt M1 x
  | .retN, M, r => .rt M .non
  | .retR a b c, M, r => fOf (ev X a M r) r fun M1 x => fOf (ev X b M1 r) r fun M2 y => match y with
    | .lst ys => fOf (ev X c (M2 ++ [.ml ys]) r) r fun M3 z => .rt (M3 ++ [.ml [x, .hnd M2.length, z]]) (.hnd M3.length)
    | _ => .st
  | .ife c a b, M, r => bOf (evB X c M r) r fun M1 k => if k then ex X a M1 r else ex X b M1 r
  | .forr p it b, M, r => fOf (ev X it M r) r fun M1 x => match itms x with
    | some xs => forGo p (fun M2 r2 => ex X b M2 r2) M1 xs r
    | none => .st
  | .whl n c b, M, r => whGo (fun M1 r1 => evB X c M1 r1) (fun M1 r1 => ex X b M1 r1) n M r
  | .drop e, M, r => fOf (ev X e M r) r fun M1 _ => .nx M1 r
  | .pass, M, r => .nx M r
  | .brk, M, r => .bk M r
  | .cnt, M, r => .ct M r
  | .never, M, r => .st
  | .rse c l, M, r => fOf (ev X l M r) r fun M1 x => match x with
    | .tup xs => .er M1 r c xs.reverse
    | _ => .st
  | .lset i k e, M, r => match r[i]? with
    | some (some (.ol xs)) => fOf (ev X e M r) r fun M1 v => fOf (ev X k M1 r) r fun M2 y => (match y with
      | .int j => (match ixO xs.length j with
        | some n => .nx M2 (r.set i (some (.ol (xs.set n v))))
        | none => .st)
      | _ => .st)
    | _ => .st
  | .laug i k o e, M, r => match r[i]? with
    | some (some (.ol xs)) => fOf (ev X k M r) r fun M1 y => (match y with
      | .int j => (match ixO xs.length j with
        | some n => (match xs[n]? with
          | some (.int u) => fOf (ev X e M1 r) r fun M2 v => (match binD M2 o (.int u) v with
            | some z => .nx M2 (r.set i (some (.ol (xs.set n z))))
            | none => .st)
          | _ => .st)
        | none => .st)
      | _ => .st)
    | _ => .st
  | .parO i j o1 o2 a b, M, r => fOf (ev X a M r) r fun M1 x => fOf (ev X b M1 r) r fun M2 y => match slO o1 x, slO o2 y with
    | some s, some t => .nx M2 ((r.set i (some s)).set j (some t))
    | _, _ => .st
  | .tri b hs, M, r => triF X hs (ex X b M r)
  | .tra b c i su, M, r => traF X c i su (ex X b M r)
  | .trm b hs, M, r => trmF X hs (ex X b M r)
  | .dspO i l, M, r => match evP X l M r with
    | .ok M1 ps => (match altK ps with
      | some p => if p.1.Nodup ∧ p.1.length ≤ 15 then .nx M1 (r.set i (some (.ok p.1 p.2))) else .st
      | none => .st)
    | .er M1 k fs => .er M1 r k fs
    | .st => .st
  | .trp i k1 k2 j a b c, M, r => fOf (ev X (.cons a (.cons b (.cons c .nil))) M r) r fun M1 x => match x, r[i]? with
    | .tup [u, v, w], some (some (.ol xs)) => if (0 ≤ k1 ∧ k1 < xs.length) ∧ (0 ≤ k2 ∧ k2 < xs.length) then .nx M1 (setE (r.set i (some (.ol ((xs.set k1.toNat u).set k2.toNat v)))) j w) else .st
    | _, _ => .st
  | .dset i k e, M, r => match r[i]? with
    | some (some (.ok ks vs)) => fOf (ev X e M r) r fun M1 v => fOf (ev X k M1 r) r fun M2 y => (match kyOf y with
      | some z => if ks.length < lim then .nx M2 (r.set i (some (.ok (putK z v ks vs).1 (putK z v ks vs).2))) else .st
      | none => .st)
    | some (some (.ot ks vs)) => fOf (ev X e M r) r fun M1 v => fOf (ev X k M1 r) r fun M2 y => (match tkOf y with
      | some z => if ks.length < lim then .nx M2 (r.set i (some (.ot (putK z v ks vs).1 (putK z v ks vs).2))) else .st
      | none => .st)
    | _ => .st
  | .dupd i e, M, r => match r[i]? with
    | some (some (.ok ks vs)) => fOf (ev X e M r) r fun M1 v => (match v with
      | .dk true js ws => if ks.length + js.length < lim then .nx M1 (r.set i (some (.ok (updK js ws ks vs).1 (updK js ws ks vs).2))) else .st
      | _ => .st)
    | _ => .st
  | .ins0 i e, M, r => match r[i]? with
    | some (some (.ol xs)) => fOf (ev X e M r) r fun M1 x => if xs.length < lim then .nx M1 (r.set i (some (.ol (x :: xs)))) else .st
    | _ => .st
/-- a def: its name, its parameters' number, all its names, its body -/
structure Df where
  nm : Str
  np : Nat
  ns : List Str
  bd : S
def retOf : Fl → R D
  | .nx M _ => .ok M .non
  | .rt M d => .ok M d
  | .er M _ c fs => .er M c fs
  | _ => .st
structure Pg where
  df : Nat → Option Df
  eqf : Nat → Option Nat
  ini : Nat → Option Nat
  frz : Nat → Bool
  exs : Nat → Nat → Option Bool
def Pg.call (P : Pg) : Nat → Nat → Mem → List D → R D
  | 0, _, _, _ => .st
  | n + 1, f, M, xs => match P.df f with
    | some d => if xs.length = d.np ∧ d.np ≤ d.ns.length then retOf (ex ⟨P.call n, P.eqf, P.ini, P.frz, P.exs⟩ d.bd M (xs.map (fun x => some (.d x)) ++ List.replicate (d.ns.length - xs.length) none)) else .st
    | none => .st
def Pg.fx (P : Pg) (n : Nat) : Fx := ⟨P.call n, P.eqf, P.ini, P.frz, P.exs⟩
end Oc
namespace Oc
open L2 PySem PySem.Spec PyProof.Rows
theorem lim_line : lim = sizeLine := by rw [sizeLine_eq]; rfl
theorem csS_len (l : Cs) : (csS l).length = l.length := by simp [csS, Str.length]
theorem csS_cps (l : Cs) : (csS l).cps.toList = l := by simp [csS]
theorem csS_of (x : Str) : csS x.cps.toList = x := by cases x; simp [csS]
def kyK : Ky → Key
  | .inl i => .inl i
  | .inr s => .inr (csS s)
/-- a dict's key as it may stand -/
def kyG : Ky → Prop
  | .inl _ => True
  | .inr s => s.length ≤ lim ∧ s.all (· < 0x110000) = true
/-- a dict that is read: locked for good, or as it stands -/
def RdL (l : Bool) (F : Hp) (p : Addr) (u : HO) : Prop := (∃ o, F p = some (.frz o u)) ∨ (l = false ∧ F p = some u)
theorem RdL.mono {l : Bool} {F F' : Hp} {p : Addr} {u : HO} (h1 : ∀ a o, F a = some o → F' a = some o) (h : RdL l F p u) : RdL l F' p u :=
  h.imp (fun ⟨o, h⟩ => ⟨o, h1 _ _ h⟩) fun ⟨e, h⟩ => ⟨e, h1 _ _ h⟩
theorem RdL.rd {l : Bool} {F H : Hp} {p : Addr} {u : HO} (hs : ∀ a o, F a = some o → H a = some o) (h : RdL l F p u) : Rd H p u := by
  rcases h with ⟨o, h⟩ | ⟨_, h⟩
  · exact .inr ⟨o, hs _ _ h⟩
  · exact .inl (hs _ _ h)
/-- where the defs, the classes stand; the fields' names of the error classes -/
structure Wd where
  fa : Nat → Addr
  ca : Nat → Addr
  er : Nat → List Str
  ok : Nat → Bool
  sq : Addr → List Int → Prop
  cs : List (Addr × Addr × Str)
/-- a list of the module -/
def SqK (K : PySem.W.Frag) (a : Addr) (xs : List V) : Prop := ∃ (o : Obj) (its : Array Value) (n : Nat), K.lookup a = some o ∧ o.cls = .type "list" ∧ o.dict = none ∧ o.data = .seq its n ∧ its.size ≤ sizeLine ∧ Vals xs its.toList
mutual
inductive Rp (W : Wd) (F : Hp) (m : List Addr) : V → D → Prop
  | non : Rp W F m .non .non
  | bl (b : Bool) : Rp W F m (.bl b) (.bl b)
  | int (i : Int) : Rp W F m (.int i) (.int i)
  | str {s : Cs} (h : s.length ≤ lim) (h2 : s.all (· < 0x110000) = true) : Rp W F m (.str (csS s)) (.str s)
  | tup {p : Addr} {vs : List V} {ds : List D} (h : F p = some (.tup vs)) (r : Rps W F m vs ds) (hl : vs.length ≤ lim) : Rp W F m (.ref p) (.tup ds)
  | lst {p : Addr} {vs : List V} {ds : List D} (h : F p = some (.lst vs)) (r : Rps W F m vs ds) (hl : vs.length ≤ lim) : Rp W F m (.ref p) (.lst ds)
  | scr {p : Addr} {ns : List Int} (h : (∃ o : Obj, F p = some (.frz o (.lst (ns.map V.int)))) ∨ F p = some (.lst (ns.map V.int)) ∨ W.sq p ns) (hl : ns.length ≤ lim) : Rp W F m (.ref p) (.scr ns)
  | dk {l : Bool} {p : Addr} {kvs : List (Key × V)} {ks : List Ky} {ds : List D} (h : RdL l F p (.dK kvs)) (hk : kvs.map (·.1) = ks.map kyK) (hg : ∀ k ∈ ks, kyG k) (r : Rps W F m (kvs.map (·.2)) ds) (hl : kvs.length ≤ lim) : Rp W F m (.ref p) (.dk l ks ds)
  | dt {l : Bool} {p : Addr} {kvs : List (List Key × V)} {ks : List (List Ky)} {ds : List D} (h : RdL l F p (.dT kvs)) (hk : kvs.map (·.1) = ks.map (·.map kyK)) (hg : ∀ k ∈ ks, k.length ≤ lim ∧ ∀ y ∈ k, kyG y) (r : Rps W F m (kvs.map (·.2)) ds) (hl : kvs.length ≤ lim) : Rp W F m (.ref p) (.dt l ks ds)
  | obj {p dx : Addr} {fs : List (Str × V)} {c : Nat} {ns : List Str} {ds : List D} (h : F p = some (.ins (W.ca c) dx fs)) (hc : W.ok c = true) (hk : fs.map (·.1) = ns) (r : Rps W F m (fs.map (·.2)) ds) : Rp W F m (.ref p) (.obj c ns ds)
  | fn (f : Nat) : Rp W F m (.ref (W.fa f)) (.fn f)
  | hnd {k : Nat} {p : Addr} (h : m[k]? = some p) : Rp W F m (.ref p) (.hnd k)
inductive Rps (W : Wd) (F : Hp) (m : List Addr) : List V → List D → Prop
  | nil : Rps W F m [] []
  | cons {v : V} {vs : List V} {d : D} {ds : List D} (h : Rp W F m v d) (r : Rps W F m vs ds) : Rps W F m (v :: vs) (d :: ds)
end
section
variable {W : Wd} {F F' : Hp} {m m' : List Addr}
theorem Rps.len : ∀ {vs : List V} {ds : List D}, Rps W F m vs ds → vs.length = ds.length
  | _, _, .nil => rfl
  | _, _, .cons _ r => congrArg (· + 1) r.len
mutual
theorem Rp.mono (h1 : ∀ a o, F a = some o → F' a = some o) (h2 : ∀ (k : Nat) (p : Addr), m[k]? = some p → m'[k]? = some p) : ∀ {v : V} {d : D}, Rp W F m v d → Rp W F' m' v d
  | _, _, .non => .non
  | _, _, .bl b => .bl b
  | _, _, .int i => .int i
  | _, _, .str h h' => .str h h'
  | _, _, .tup h r hl => .tup (h1 _ _ h) (Rps.mono h1 h2 r) hl
  | _, _, .lst h r hl => .lst (h1 _ _ h) (Rps.mono h1 h2 r) hl
  | _, _, .scr h hl => .scr (h.imp (fun ⟨o, h⟩ => ⟨o, h1 _ _ h⟩) (Or.imp (h1 _ _) id)) hl
  | _, _, .dk h hk hg r hl => .dk (h.mono h1) hk hg (Rps.mono h1 h2 r) hl
  | _, _, .dt h hk hg r hl => .dt (h.mono h1) hk hg (Rps.mono h1 h2 r) hl
  | _, _, .obj h hc hk r => .obj (h1 _ _ h) hc hk (Rps.mono h1 h2 r)
  | _, _, .fn f => .fn f
  | _, _, .hnd h => .hnd (h2 _ _ h)
theorem Rps.mono (h1 : ∀ a o, F a = some o → F' a = some o) (h2 : ∀ (k : Nat) (p : Addr), m[k]? = some p → m'[k]? = some p) : ∀ {vs : List V} {ds : List D}, Rps W F m vs ds → Rps W F' m' vs ds
  | _, _, .nil => .nil
  | _, _, .cons h r => .cons (Rp.mono h1 h2 h) (Rps.mono h1 h2 r)
end
mutual
/-- data without lists leans on tuples alone -/
theorem Rp.thin (h1 : ∀ a vs, F a = some (.tup vs) → F' a = some (.tup vs)) : ∀ {n : Nat} {v : V} {d : D}, flat n d = true → Rp W F m v d → Rp W F' m v d
  | _, _, _, _, .non => .non
  | _, _, _, _, .bl b => .bl b
  | _, _, _, _, .int i => .int i
  | _, _, _, _, .str h h' => .str h h'
  | 0, _, _, e, .tup h r hl => by simp [flat] at e
  | n + 1, _, .tup ds, e, .tup h r hl => .tup (h1 _ _ h) (Rps.thin h1 (n := n) (by simpa [flat] using e) r) hl
  | 0, _, _, e, .lst .. => by simp [flat] at e
  | _ + 1, _, _, e, .lst .. => by simp [flat] at e
  | 0, _, _, e, .scr .. => by simp [flat] at e
  | _ + 1, _, _, e, .scr .. => by simp [flat] at e
  | 0, _, _, e, .dk .. => by simp [flat] at e
  | _ + 1, _, _, e, .dk .. => by simp [flat] at e
  | 0, _, _, e, .dt .. => by simp [flat] at e
  | _ + 1, _, _, e, .dt .. => by simp [flat] at e
  | 0, _, _, e, .obj .. => by simp [flat] at e
  | _ + 1, _, _, e, .obj .. => by simp [flat] at e
  | 0, _, _, e, .fn .. => by simp [flat] at e
  | _ + 1, _, _, e, .fn .. => by simp [flat] at e
  | 0, _, _, e, .hnd .. => by simp [flat] at e
  | _ + 1, _, _, e, .hnd .. => by simp [flat] at e
theorem Rps.thin (h1 : ∀ a vs, F a = some (.tup vs) → F' a = some (.tup vs)) : ∀ {n : Nat} {vs : List V} {ds : List D}, (∀ d ∈ ds, flat n d = true) → Rps W F m vs ds → Rps W F' m vs ds
  | _, _, _, _, .nil => .nil
  | n, _, _, e, .cons h r => .cons (Rp.thin h1 (n := n) (e _ List.mem_cons_self) h) (Rps.thin h1 (n := n) (fun d hd => e d (List.mem_cons_of_mem _ hd)) r)
end
theorem Rps.get : ∀ {vs : List V} {ds : List D} {i : Nat} {d : D}, Rps W F m vs ds → ds[i]? = some d → ∃ v, vs[i]? = some v ∧ Rp W F m v d
  | _, _, _, _, .nil, e => by simp at e
  | _, _, 0, _, .cons h _, e => by simp at e; subst e; exact ⟨_, rfl, h⟩
  | _, _, i + 1, _, .cons _ r, e => by
    obtain ⟨v, e1, q⟩ := Rps.get (i := i) r (by simpa using e)
    exact ⟨v, by simpa using e1, q⟩
theorem Rps.getV : ∀ {vs : List V} {ds : List D} {i : Nat} {v : V}, Rps W F m vs ds → vs[i]? = some v → ∃ d, ds[i]? = some d ∧ Rp W F m v d
  | _, _, _, _, .nil, e => by simp at e
  | _, _, 0, _, .cons h _, e => by simp at e; subst e; exact ⟨_, rfl, h⟩
  | _, _, i + 1, _, .cons _ r, e => by
    obtain ⟨v, e1, q⟩ := Rps.getV (i := i) r (by simpa using e)
    exact ⟨v, by simpa using e1, q⟩
theorem Rps.app : ∀ {vs ws : List V} {ds es : List D}, Rps W F m vs ds → Rps W F m ws es → Rps W F m (vs ++ ws) (ds ++ es)
  | _, _, _, _, .nil, q => q
  | _, _, _, _, .cons h r, q => .cons h (Rps.app r q)
theorem Rps.rev : ∀ {vs : List V} {ds : List D}, Rps W F m vs ds → Rps W F m vs.reverse ds.reverse
  | _, _, .nil => .nil
  | _, _, .cons h r => by rw [List.reverse_cons, List.reverse_cons]; exact (Rps.rev r).app (.cons h .nil)
theorem Rps.take : ∀ {vs : List V} {ds : List D} (n : Nat), Rps W F m vs ds → Rps W F m (vs.take n) (ds.take n)
  | _, _, 0, _ => by simp; exact .nil
  | _, _, _ + 1, .nil => .nil
  | _, _, n + 1, .cons h r => .cons h (Rps.take n r)
theorem Rps.drop : ∀ {vs : List V} {ds : List D} (n : Nat), Rps W F m vs ds → Rps W F m (vs.drop n) (ds.drop n)
  | _, _, 0, r => by simpa using r
  | _, _, _ + 1, .nil => .nil
  | _, _, n + 1, .cons _ r => Rps.drop n r
theorem Rps.set : ∀ {vs : List V} {ds : List D} {v : V} {d : D} (n : Nat), Rp W F m v d → Rps W F m vs ds → Rps W F m (vs.set n v) (ds.set n d)
  | _, _, _, _, _, _, .nil => .nil
  | _, _, _, _, 0, q, .cons h r => .cons q r
  | _, _, _, _, n + 1, q, .cons h r => .cons h (Rps.set n q r)
theorem Rps.rep {vs : List V} {ds : List D} (r : Rps W F m vs ds) : ∀ k : Nat, Rps W F m (List.replicate k vs).flatten (List.replicate k ds).flatten
  | 0 => .nil
  | k + 1 => by rw [List.replicate_succ, List.replicate_succ, List.flatten_cons, List.flatten_cons]; exact r.app (Rps.rep r k)
theorem Rps.ints : ∀ ns : List Int, Rps W F m (ns.map V.int) (ns.map D.int)
  | [] => .nil
  | n :: ns => .cons (.int n) (Rps.ints ns)
theorem Rps.ints_of : ∀ {vs : List V} {ds : List D} {ns : List Int}, Rps W F m vs ds → intsOf ds = some ns → vs = ns.map V.int
  | _, _, _, .nil, e => by simp [intsOf] at e; subst e; rfl
  | _, _, _, .cons h r, e => by
    cases h <;> simp [intsOf] at e
    rename_i i
    obtain ⟨ms, e1, e2⟩ := e
    subst e2
    rw [Rps.ints_of r e1]; rfl
theorem Rps.strs_of : ∀ {vs : List V} {ds : List D} {ns : List Cs}, Rps W F m vs ds → strsOf ds = some ns → vs = (ns.map csS).map V.str
  | _, _, _, .nil, e => by simp [strsOf] at e; subst e; rfl
  | _, _, _, .cons h r, e => by
    cases h <;> simp [strsOf] at e
    rename_i i _ _
    obtain ⟨ms, e1, e2⟩ := e
    subst e2
    rw [Rps.strs_of r e1]; rfl
theorem Rps.strs_ok : ∀ {vs : List V} {ds : List D} {ns : List Cs}, Rps W F m vs ds → strsOf ds = some ns → ∀ s ∈ ns, s.length ≤ lim ∧ s.all (· < 0x110000) = true
  | _, _, _, .nil, e => by simp [strsOf] at e; subst e; simp
  | _, _, _, .cons h r, e => by
    cases h <;> simp [strsOf] at e
    rename_i i h1 h2
    obtain ⟨ms, e1, e2⟩ := e
    subst e2
    have ih := Rps.strs_ok r e1
    intro s hs
    rcases List.mem_cons.mp hs with rfl | hs
    · exact ⟨h1, h2⟩
    · exact ih s hs
theorem Rps.one {vs : List V} {d : D} (r : Rps W F m vs [d]) : ∃ v, vs = [v] ∧ Rp W F m v d := by
  cases r with
  | cons h r => cases r; exact ⟨_, rfl, h⟩
theorem Rps.two {vs : List V} {d e : D} (r : Rps W F m vs [d, e]) : ∃ v w, vs = [v, w] ∧ Rp W F m v d ∧ Rp W F m w e := by
  cases r with
  | cons h r => obtain ⟨w, rfl, q⟩ := r.one; exact ⟨_, _, rfl, h, q⟩
end
theorem scr_sq {W : Wd} {F H : Hp} {K : PySem.W.Frag} {p : Addr} {ns : List Int} (hW : ∀ a ns, W.sq a ns → SqK K a (ns.map V.int)) (hs : ∀ a o, F a = some o → H a = some o) (h : (∃ o : Obj, F p = some (.frz o (.lst (ns.map V.int)))) ∨ F p = some (.lst (ns.map V.int)) ∨ W.sq p ns) : SqL K H p (ns.map V.int) := by
  rcases h with ⟨o, h⟩ | h | h
  · exact .inl (.inr ⟨o, hs _ _ h⟩)
  · exact .inl (.inl (hs _ _ h))
  · exact .inr (hW _ _ h)
/-- a thing of the memory as it stands at p -/
def MoR (W : Wd) (F : Hp) (m : List Addr) (H : Hp) (p : Addr) : MO → Prop
  | .ml xs => ∃ vs, H p = some (.lst vs) ∧ Rps W F m vs xs ∧ vs.length ≤ lim
  | .mi c ns ds => W.ok c = true ∧ ∃ dx fs, H p = some (.ins (W.ca c) dx fs) ∧ fs.map (·.1) = ns ∧ Rps W F m (fs.map (·.2)) ds
/-- no table of code objects -/
def NoTbl (o : HO) : Prop := ∀ ps, o ≠ .tbl ps
/-- the tables that lambdas grow, with the lambdas' names -/
def Wd.tbs (W : Wd) : List (Addr × Str) := W.cs.map fun p => (p.2.1, p.2.2)
/-- a write at p, where no table and no code object stands -/
theorem tabs_upd {T : List (Addr × Str)} {H : Hp} {p : Addr} {o u : HO} (t : LamX.Tabs T H) (hp : H p = some u) (h1 : NoTbl u) (h2 : ∀ q, u ≠ LamX.CodeO p q) : LamX.Tabs T (upd H p o) := fun q hq => by
  obtain ⟨ps, a1, a2, a3⟩ := t q hq
  refine ⟨ps, ?_, a2, fun pos cv hc => ?_⟩
  · rw [upd_ne (fun z => by rw [z, hp] at a1; exact h1 ps (Option.some.inj a1))]; exact a1
  · obtain ⟨c, e1, e2⟩ := a3 pos cv hc
    refine ⟨c, e1, ?_⟩
    rw [upd_ne (fun z => by rw [z, hp] at e2; exact h2 _ (Option.some.inj e2))]; exact e2
/-- what stands at p, if anything, is no table and no code object -/
def Pln (H : Hp) (p : Addr) : Prop := ∀ u, H p = some u → NoTbl u ∧ ∀ q, u ≠ LamX.CodeO p q
theorem pln_lst {H : Hp} {p : Addr} {vs : List V} (h : H p = some (.lst vs)) : Pln H p := fun u e => by
  rw [h] at e; cases e; exact ⟨fun _ z => (by cases z), fun _ z => (by cases z)⟩
theorem tabs_pln {T : List (Addr × Str)} {H : Hp} {p : Addr} {o : HO} (t : LamX.Tabs T H) (h : Pln H p) : LamX.Tabs T (upd H p o) := by
  cases e : H p with
  | none => exact t.ext fun a u h2 => by rw [upd_ne (ne_of_none h2 e)]; exact h2
  | some u => exact tabs_upd t e (h u e).1 (h u e).2
theorem tabs_new {T : List (Addr × Str)} {H : Hp} {p : Addr} {o : HO} (t : LamX.Tabs T H) (hp : H p = none) : LamX.Tabs T (upd H p o) := t.ext fun a u h => by rw [upd_ne (ne_of_none h hp)]; exact h
theorem nt_upd {F : Hp} {p : Addr} {u : HO} (h : ∀ a o, F a = some o → NoTbl o) (hu : NoTbl u) : ∀ a o, upd F p u a = some o → NoTbl o := fun a o e => by
  by_cases z : a = p
  · subst z; rw [upd_same] at e; cases e; exact hu
  · rw [upd_ne z] at e; exact h a o e
/-- the memory -/
structure Mr (W : Wd) (F : Hp) (m : List Addr) (H : Hp) (M : Mem) : Prop where
  sub : ∀ a o, F a = some o → H a = some o
  len : m.length = M.length
  nd : m.Nodup
  mo : ∀ (k : Nat) (c : MO) (p : Addr), M[k]? = some c → m[k]? = some p → F p = none ∧ MoR W F m H p c
  tb : LamX.Tabs W.tbs H
  nt : ∀ a o, F a = some o → NoTbl o
/-- nobody's own -/
def Fre (m : List Addr) (H : Hp) (a : Addr) : Prop := H a = none ∨ (a ∉ m ∧ ¬ Mut (H a))
theorem Fre.no {m : List Addr} {H : Hp} {a : Addr} {o : HO} (h : Fre m H a) (e : H a = some o) (mu : Mut (some o)) : False := by
  rcases h with h | ⟨_, h⟩
  · rw [h] at e; cases e
  · exact h (by rw [e]; exact mu)
/-- from one state to another: what is kept -/
structure Xt (F : Hp) (m : List Addr) (H F' : Hp) (m' : List Addr) (H' : Hp) : Prop where
  fx : ∀ a o, F a = some o → F' a = some o
  hx : ∀ a o, H a = some o → a ∉ m → NoTbl o → H' a = some o
  nx : ∀ a o, F' a = some o → F a = some o ∨ Fre m H a
  mx : ∃ l, m' = m ++ l ∧ ∀ a ∈ l, H a = none
  dx : ∀ a, H a ≠ none → H' a ≠ none
theorem Xt.refl (F : Hp) (m : List Addr) (H : Hp) : Xt F m H F m H := ⟨fun _ _ h => h, fun _ _ h _ _ => h, fun _ _ h => .inl h, ⟨[], by simp, by simp⟩, fun _ h => h⟩
section
variable {W : Wd} {F F1 F2 : Hp} {m m1 m2 : List Addr} {H H1 H2 : Hp} {M M1 M2 : Mem}
theorem Xt.trans (a : Xt F m H F1 m1 H1) (b : Xt F1 m1 H1 F2 m2 H2) : Xt F m H F2 m2 H2 := by
  obtain ⟨l, e1, n1⟩ := a.mx
  obtain ⟨l2, e2, n2⟩ := b.mx
  refine ⟨fun x o h => b.fx x o (a.fx x o h), fun x o h hm ht => b.hx x o (a.hx x o h hm ht) ?_ ht, fun x o h => ?_, ⟨l ++ l2, by rw [e2, e1, List.append_assoc], ?_⟩, fun x h => b.dx x (a.dx x h)⟩
  · rw [e1]
    intro q
    rcases List.mem_append.mp q with q | q
    · exact hm q
    · rw [n1 x q] at h; cases h
  · rcases b.nx x o h with q | q
    · exact a.nx x o q
    · refine .inr ?_
      cases e : H x with
      | none => exact .inl e
      | some u =>
        rcases q with q | ⟨q1, q2⟩
        · exact absurd q (a.dx x (by rw [e]; exact fun z => by cases z))
        · have hm : x ∉ m := fun z => q1 (by rw [e1]; exact List.mem_append_left _ z)
          refine .inr ⟨hm, fun mu => q2 ?_⟩
          rw [e] at mu
          rw [a.hx x u e hm (fun ps z => by rw [z] at mu; exact mu)]; exact mu
  · intro x hx
    rcases List.mem_append.mp hx with q | q
    · exact n1 x q
    · have := n2 x q
      cases e : H x with
      | none => rfl
      | some u => exact absurd this (a.dx x (by rw [e]; exact fun z => by cases z))
theorem Xt.ix (a : Xt F m H F1 m1 H1) (k : Nat) (p : Addr) (h : m[k]? = some p) : m1[k]? = some p := by
  obtain ⟨l, e, _⟩ := a.mx
  rw [e]
  have hk : k < m.length := (List.getElem?_eq_some_iff.mp h).1
  rw [List.getElem?_append_left hk]; exact h
theorem Rp.xt {v : V} {d : D} (r : Rp W F m v d) (a : Xt F m H F1 m1 H1) : Rp W F1 m1 v d := r.mono a.fx a.ix
theorem Rps.xt {v : List V} {d : List D} (r : Rps W F m v d) (a : Xt F m H F1 m1 H1) : Rps W F1 m1 v d := r.mono a.fx a.ix
/-- a new thing, tracked and frozen -/
theorem Mr.fresh {p : Addr} {o : HO} (R : Mr W F m H M) (hp : H p = none) (ho : NoTbl o := by (intro _ z; cases z)) : Mr W (upd F p o) m (upd H p o) M ∧ Xt F m H (upd F p o) m (upd H p o) := by
  have hF : F p = none := by
    cases e : F p with
    | none => rfl
    | some u => rw [R.sub p u e] at hp; cases hp
  have f1 : ∀ a u, F a = some u → upd F p o a = some u := fun a u h => by rw [upd_ne (ne_of_none h hF)]; exact h
  refine ⟨⟨fun a u h => ?_, R.len, R.nd, fun k c q hk hq => ?_, tabs_new R.tb hp, nt_upd R.nt ho⟩, f1, fun a u h _ _ => by rw [upd_ne (ne_of_none h hp)]; exact h, fun a u h => ?_, ⟨[], by simp, by simp⟩, fun a h => ?_⟩
  · by_cases e : a = p
    · subst e; rw [upd_same] at h ⊢; exact h
    · rw [upd_ne e] at h ⊢; exact R.sub a u h
  · obtain ⟨n, r⟩ := R.mo k c q hk hq
    have hq2 : ∀ u, H q = some u → q ≠ p := fun u h => ne_of_none h hp
    cases c with
    | ml xs =>
      obtain ⟨vs, h1, h2, h3⟩ := r
      have ne := hq2 _ h1
      exact ⟨by rw [upd_ne ne]; exact n, vs, by rw [upd_ne ne]; exact h1, h2.mono f1 (fun _ _ z => z), h3⟩
    | mi c ns ds =>
      obtain ⟨hc, dx, fs, h1, h2, h3⟩ := r
      have ne := hq2 _ h1
      exact ⟨by rw [upd_ne ne]; exact n, hc, dx, fs, by rw [upd_ne ne]; exact h1, h2, h3.mono f1 (fun _ _ z => z)⟩
  · by_cases e : a = p
    · subst e; exact .inr (.inl hp)
    · rw [upd_ne e] at h; exact .inl h
  · by_cases e : a = p
    · subst e; rw [upd_same]; exact fun z => by cases z
    · rw [upd_ne e]; exact h
/-- a new thing, tracked only -/
theorem Mr.own {p : Addr} {o : HO} (R : Mr W F m H M) (hp : H p = none) : Mr W F m (upd H p o) M ∧ Xt F m H F m (upd H p o) := by
  refine ⟨⟨fun a u h => ?_, R.len, R.nd, fun k c q hk hq => ?_, tabs_new R.tb hp, R.nt⟩, fun _ _ h => h, fun a u h _ _ => by rw [upd_ne (ne_of_none h hp)]; exact h, fun a u h => .inl h, ⟨[], by simp, by simp⟩, fun a h => ?_⟩
  · have := R.sub a u h
    rw [upd_ne (ne_of_none this hp)]; exact this
  · obtain ⟨n, r⟩ := R.mo k c q hk hq
    cases c with
    | ml xs =>
      obtain ⟨vs, h1, h2⟩ := r
      exact ⟨n, vs, by rw [upd_ne (ne_of_none h1 hp)]; exact h1, h2⟩
    | mi c ns ds =>
      obtain ⟨hc, dx, fs, h1, h2⟩ := r
      exact ⟨n, hc, dx, fs, by rw [upd_ne (ne_of_none h1 hp)]; exact h1, h2⟩
  · by_cases e : a = p
    · subst e; rw [upd_same]; exact fun z => by cases z
    · rw [upd_ne e]; exact h
end
/-- where things that are tracked by the memory stand -/
theorem Mr.mut {W : Wd} {F : Hp} {m : List Addr} {H : Hp} {M : Mem} (R : Mr W F m H M) {a : Addr} (h : a ∈ m) : Mut (H a) := by
  obtain ⟨k, hk⟩ := List.getElem?_of_mem h
  have hl : k < m.length := (List.getElem?_eq_some_iff.mp hk).1
  rw [R.len] at hl
  obtain ⟨_, r⟩ := R.mo k _ a (List.getElem?_eq_getElem hl) hk
  cases hM : M[k] with
  | ml xs => rw [hM] at r; obtain ⟨_, q, _⟩ := r; rw [q]; trivial
  | mi c ns ds => rw [hM] at r; obtain ⟨_, _, _, q, _⟩ := r; rw [q]; trivial
theorem Mr.fre {W : Wd} {F : Hp} {m : List Addr} {H : Hp} {M : Mem} (R : Mr W F m H M) {a : Addr} (h : Fre [] H a) : Fre m H a := by
  rcases h with h | ⟨_, h⟩
  · exact .inl h
  · exact .inr ⟨fun z => h (R.mut z), h⟩
/-- a slot that owns -/
def isOwn : Sl → Bool
  | .d _ => false
  | _ => true
def SlR (W : Wd) (F : Hp) (m : List Addr) (H : Hp) (v : V) : Sl → Prop
  | .d x => Rp W F m v x
  | .ol xs => ∃ p vs, v = .ref p ∧ F p = none ∧ p ∉ m ∧ H p = some (.lst vs) ∧ Rps W F m vs xs ∧ vs.length ≤ lim
  | .ok ks ds => ∃ p kvs, v = .ref p ∧ F p = none ∧ p ∉ m ∧ H p = some (.dK kvs) ∧ kvs.map (·.1) = ks.map kyK ∧ (∀ k ∈ ks, kyG k) ∧ Rps W F m (kvs.map (·.2)) ds ∧ kvs.length ≤ lim
  | .ot ks ds => ∃ p kvs, v = .ref p ∧ F p = none ∧ p ∉ m ∧ H p = some (.dT kvs) ∧ kvs.map (·.1) = ks.map (·.map kyK) ∧ (∀ k ∈ ks, k.length ≤ lim ∧ ∀ y ∈ k, kyG y) ∧ Rps W F m (kvs.map (·.2)) ds ∧ kvs.length ≤ lim
/-- slot i owns the thing at p -/
def OwnAt (σ : L2.St) (r : En) (i : Nat) (p : Addr) : Prop := ∃ x, r[i]? = some (some x) ∧ isOwn x = true ∧ σ[i]? = some (some (.ref p))
structure Rl (W : Wd) (F : Hp) (m : List Addr) (H : Hp) (M : Mem) (σ : L2.St) (r : En) : Prop where
  mr : Mr W F m H M
  sl : σ.length = r.length
  sr : ∀ (i : Nat) (x : Sl), r[i]? = some (some x) → ∃ v, σ[i]? = some (some v) ∧ SlR W F m H v x
  di : ∀ i j p, OwnAt σ r i p → OwnAt σ r j p → i = j
section
variable {W : Wd} {F F1 F2 : Hp} {m m1 m2 : List Addr} {H H1 H2 : Hp} {M M1 M2 : Mem} {σ : L2.St} {r : En}
theorem SlR.own_at {v : V} {x : Sl} (h : SlR W F m H v x) (o : isOwn x = true) : ∃ p u, v = V.ref p ∧ F p = none ∧ p ∉ m ∧ H p = some u := by
  cases x with
  | d x => cases o
  | ol xs => obtain ⟨p, vs, e, h1, h2, h3, _⟩ := h; exact ⟨p, _, e, h1, h2, h3⟩
  | ok ks ds => obtain ⟨p, vs, e, h1, h2, h3, _⟩ := h; exact ⟨p, _, e, h1, h2, h3⟩
  | ot ks ds => obtain ⟨p, vs, e, h1, h2, h3, _⟩ := h; exact ⟨p, _, e, h1, h2, h3⟩
theorem SlR.own_pln {p : Addr} {x : Sl} (h : SlR W F m H (V.ref p) x) (o : isOwn x = true) : Pln H p := fun u e => by
  cases x with
  | d x => cases o
  | ol xs => obtain ⟨q, vs, e0, h1, h2, h3, _⟩ := h; cases e0; rw [h3] at e; cases e; exact ⟨fun _ z => (by cases z), fun _ z => (by cases z)⟩
  | ok ks ds => obtain ⟨q, vs, e0, h1, h2, h3, _⟩ := h; cases e0; rw [h3] at e; cases e; exact ⟨fun _ z => (by cases z), fun _ z => (by cases z)⟩
  | ot ks ds => obtain ⟨q, vs, e0, h1, h2, h3, _⟩ := h; cases e0; rw [h3] at e; cases e; exact ⟨fun _ z => (by cases z), fun _ z => (by cases z)⟩
theorem SlR.xt {v : V} {x : Sl} (h : SlR W F m H v x) (a : Xt F m H F1 m1 H1) : SlR W F1 m1 H1 v x := by
  have key : ∀ p u, F p = none → p ∉ m → H p = some u → NoTbl u → Mut (some u) → F1 p = none ∧ p ∉ m1 ∧ H1 p = some u := fun p u h1 h2 h3 h4 mu => by
    refine ⟨?_, ?_, a.hx p u h3 h2 h4⟩
    · cases e : F1 p with
      | none => rfl
      | some o =>
        rcases a.nx p o e with q | q
        · rw [h1] at q; cases q
        · exact (q.no h3 mu).elim
    · obtain ⟨l, e, n⟩ := a.mx
      rw [e]
      intro q
      rcases List.mem_append.mp q with q | q
      · exact h2 q
      · rw [n p q] at h3; cases h3
  cases x with
  | d x => exact Rp.xt h a
  | ol xs =>
    obtain ⟨p, vs, e, h1, h2, h3, h4, h5⟩ := h
    obtain ⟨k1, k2, k3⟩ := key _ _ h1 h2 h3 (fun _ z => by cases z) trivial
    exact ⟨p, vs, e, k1, k2, k3, h4.xt a, h5⟩
  | ok ks ds =>
    obtain ⟨p, vs, e, h1, h2, h3, h4, h7, h5, h6⟩ := h
    obtain ⟨k1, k2, k3⟩ := key _ _ h1 h2 h3 (fun _ z => by cases z) trivial
    exact ⟨p, vs, e, k1, k2, k3, h4, h7, h5.xt a, h6⟩
  | ot ks ds =>
    obtain ⟨p, vs, e, h1, h2, h3, h4, h7, h5, h6⟩ := h
    obtain ⟨k1, k2, k3⟩ := key _ _ h1 h2 h3 (fun _ z => by cases z) trivial
    exact ⟨p, vs, e, k1, k2, k3, h4, h7, h5.xt a, h6⟩
theorem Rl.own_pln {i : Nat} {p : Addr} (R : Rl W F m H M σ r) (o : OwnAt σ r i p) : Pln H p := by
  obtain ⟨x, h1, h2, h3⟩ := o
  obtain ⟨v, e, q⟩ := R.sr i x h1
  rw [h3] at e; cases e
  exact q.own_pln h2
/-- behind an expression -/
theorem Rl.step (R : Rl W F m H M σ r) (a : Xt F m H F1 m1 H1) (R1 : Mr W F1 m1 H1 M1) : Rl W F1 m1 H1 M1 σ r :=
  ⟨R1, R.sl, fun i x h => by obtain ⟨v, e, q⟩ := R.sr i x h; exact ⟨v, e, q.xt a⟩, R.di⟩
end
end Oc
namespace Oc
open L2 PySem PySem.Spec PyProof.Rows
theorem csS_inj' {a b : Cs} (h : csS a = csS b) : a = b := by have := congrArg (fun z => z.cps.toList) h; simpa [csS] using this
theorem kyK_inj : ∀ {a b : Ky}, kyK a = kyK b → a = b
  | .inl i, .inl j, h => by cases h; rfl
  | .inr x, .inr y, h => by rw [csS_inj' (Sum.inr.inj h)]
  | .inl i, .inr y, h => by cases h
  | .inr x, .inl j, h => by cases h
theorem kyKs_inj : ∀ {a b : List Ky}, a.map kyK = b.map kyK → a = b
  | [], [], _ => rfl
  | x :: xs, y :: ys, h => by
    simp only [List.map_cons, List.cons.injEq] at h
    rw [kyK_inj h.1, kyKs_inj h.2]
  | [], _ :: _, h => by cases h
  | _ :: _, [], h => by cases h
section
variable {W : Wd} {F : Hp} {m : List Addr} {κ κ' : Type} [DecidableEq κ] [DecidableEq κ'] {f : κ → κ'}
/-- what is laid at a key, on both sides -/
def GetR (W : Wd) (F : Hp) (m : List Addr) (o : Option V) : Option D → Prop
  | some d => ∃ v, o = some v ∧ Rp W F m v d
  | none => o = none
theorem get_val (inj : ∀ a b, f a = f b → a = b) (k : κ) : ∀ {kvs : List (κ' × V)} {ks : List κ} {ds : List D}, kvs.map (·.1) = ks.map f → Rps W F m (kvs.map (·.2)) ds → GetR W F m (valV kvs (f k)) (getK k ks ds)
  | [], [], [], _, .nil => rfl
  | (k', v) :: kvs, x :: ks, d :: ds, hk, .cons h r => by
    simp only [List.map_cons, List.cons.injEq] at hk
    unfold getK
    by_cases e : x = k
    · rw [if_pos e, valV_pos (by show k' = f k; rw [hk.1, e])]
      exact ⟨v, rfl, h⟩
    · rw [if_neg e, valV_neg (by show ¬ k' = f k; rw [hk.1]; exact fun z => e (inj _ _ z))]
      exact get_val inj k hk.2 r
  | [], _ :: _, _, hk, _ => by cases hk
  | _ :: _, [], _, hk, _ => by cases hk
theorem any_key (inj : ∀ a b, f a = f b → a = b) (k : κ) : ∀ {kvs : List (κ' × V)} {ks : List κ}, kvs.map (·.1) = ks.map f → (kvs.any fun kv => decide (kv.1 = f k)) = decide (k ∈ ks)
  | [], [], _ => by simp
  | (k', v) :: kvs, x :: ks, hk => by
    simp only [List.map_cons, List.cons.injEq] at hk
    have ih := any_key inj k hk.2
    have e : decide (k' = f k) = decide (k = x) := by
      rw [hk.1]
      by_cases z : k = x
      · rw [z]; simp
      · rw [decide_eq_false z, decide_eq_false fun y => z (inj _ _ y.symm)]
    rw [List.any_cons, ih, e]
    simp [List.mem_cons, Bool.decide_or]
  | [], _ :: _, hk => by cases hk
  | _ :: _, [], hk => by cases hk
theorem rep_keys (k' : κ') (v : V) : ∀ kvs : List (κ' × V), (kvs.map fun kv => if kv.1 = k' then (kv.1, v) else kv).map (·.1) = kvs.map (·.1)
  | [] => rfl
  | p :: kvs => by
    simp only [List.map_cons, rep_keys k' v kvs, List.cons.injEq, and_true]
    split <;> rfl
theorem rep_vals (inj : ∀ a b, f a = f b → a = b) (k : κ) {v : V} {d : D} (rv : Rp W F m v d) : ∀ {kvs : List (κ' × V)} {ks : List κ} {ds : List D}, kvs.map (·.1) = ks.map f → Rps W F m (kvs.map (·.2)) ds →
    Rps W F m ((kvs.map fun kv => if kv.1 = f k then (kv.1, v) else kv).map (·.2)) (repK k d ks ds)
  | [], [], [], _, .nil => .nil
  | (k', u) :: kvs, x :: ks, y :: ds, hk, .cons h r => by
    simp only [List.map_cons, List.cons.injEq] at hk
    have ih := rep_vals inj k rv hk.2 r
    simp only [List.map_cons, repK]
    by_cases e : x = k
    · rw [if_pos e, if_pos (by rw [hk.1, e])]
      exact .cons rv ih
    · rw [if_neg e, if_neg (by rw [hk.1]; exact fun z => e (inj _ _ z))]
      exact .cons h ih
  | [], _ :: _, _, hk, _ => by cases hk
  | _ :: _, [], _, hk, _ => by cases hk
theorem put_val (inj : ∀ a b, f a = f b → a = b) (k : κ) {v : V} {d : D} (rv : Rp W F m v d) {kvs : List (κ' × V)} {ks : List κ} {ds : List D} (hk : kvs.map (·.1) = ks.map f) (r : Rps W F m (kvs.map (·.2)) ds) :
    (L2.putK kvs (f k) v).map (·.1) = (putK k d ks ds).1.map f ∧ Rps W F m ((L2.putK kvs (f k) v).map (·.2)) (putK k d ks ds).2 := by
  unfold L2.putK putK
  rw [any_key inj k hk]
  by_cases e : k ∈ ks
  · rw [if_pos (decide_eq_true e), if_pos e]
    exact ⟨(rep_keys _ _ _).trans hk, rep_vals inj k rv hk r⟩
  · rw [if_neg (by rw [decide_eq_false e]; decide), if_neg e]
    refine ⟨?_, ?_⟩
    · rw [List.map_append, List.map_append, hk]; rfl
    · rw [List.map_append]; exact r.app (.cons rv .nil)
theorem putK_mem {k x : κ} {d : D} {ks : List κ} {ds : List D} (h : x ∈ (putK k d ks ds).1) : x = k ∨ x ∈ ks := by
  unfold putK at h
  split at h
  · exact .inr h
  · rcases List.mem_append.mp h with h | h
    · exact .inr h
    · exact .inl (List.mem_singleton.mp h)
end
section
variable {W : Wd} {F : Hp} {m : List Addr} {H : Hp} {M : Mem}
theorem ky_of {v : V} {d : D} {k : Ky} (r : Rp W F m v d) (e : kyOf d = some k) : v = kV (kyK k) ∧ kyG k := by
  cases r <;> simp [kyOf] at e
  · subst e; exact ⟨rfl, trivial⟩
  · subst e; rename_i h h2; exact ⟨rfl, h, h2⟩
theorem kys_of : ∀ {vs : List V} {ds : List D} {ks : List Ky}, Rps W F m vs ds → kysOf ds = some ks → vs = (ks.map kyK).map kV ∧ ks.length = ds.length ∧ ∀ k ∈ ks, kyG k
  | _, _, _, .nil, e => by cases e; exact ⟨rfl, rfl, by simp⟩
  | _, _, ks, .cons (d := d) (ds := ds) h r, e => by
    unfold kysOf at e
    cases e1 : kyOf d with
    | none => rw [e1] at e; simp at e
    | some y =>
      cases e2 : kysOf ds with
      | none => rw [e1, e2] at e; simp at e
      | some ys =>
        rw [e1, e2] at e; cases e
        obtain ⟨q1, q2⟩ := ky_of h e1
        obtain ⟨q3, q4, q5⟩ := kys_of r e2
        refine ⟨by rw [q1, q3]; rfl, by rw [List.length_cons, List.length_cons, q4], fun k hk => ?_⟩
        rcases List.mem_cons.mp hk with rfl | hk
        · exact q2
        · exact q5 k hk
theorem tk_of {v : V} {d : D} {ks : List Ky} (hs : ∀ a o, F a = some o → H a = some o) (r : Rp W F m v d) (e : tkOf d = some ks) : ∃ b, v = .ref b ∧ H b = some (.tup ((ks.map kyK).map kV)) ∧ F b = some (.tup ((ks.map kyK).map kV)) ∧ ks.length ≤ lim ∧ ∀ k ∈ ks, kyG k := by
  cases r <;> simp [tkOf] at e
  rename_i p vs ds h r hl
  obtain ⟨q1, q2, q3⟩ := kys_of r e
  rw [q1] at h
  exact ⟨p, rfl, hs _ _ h, h, by rw [q2, ← r.len]; exact hl, q3⟩
/-- a dict's thing at a key -/
theorem dget_at {x y : V} {a b : D} {o : Option D} (R : Mr W F m H M) (ra : Rp W F m x a) (rb : Rp W F m y b) (e : dgetD a b = some o) : ∃ p ov, x = .ref p ∧ DGet H p y ov ∧ IsD H p ∧ GetR W F m ov o := by
  cases ra with
  | dk h hk hg r hl =>
    rename_i l p kvs ks ds
    simp only [dgetD, Option.map_eq_some_iff] at e
    obtain ⟨k, e1, rfl⟩ := e
    obtain ⟨rfl, _⟩ := ky_of rb e1
    have rd := h.rd R.sub
    exact ⟨p, _, rfl, .inl ⟨kvs, _, rd, rfl, rfl⟩, .inl ⟨kvs, rd⟩, get_val (fun _ _ => kyK_inj) k hk r⟩
  | dt h hk hg r hl =>
    rename_i l p kvs ks ds
    simp only [dgetD, Option.map_eq_some_iff] at e
    obtain ⟨k, e1, rfl⟩ := e
    obtain ⟨b, rfl, q1, _⟩ := tk_of R.sub rb e1
    have rd := h.rd R.sub
    exact ⟨p, _, rfl, .inr ⟨kvs, _, b, rd, rfl, q1, rfl⟩, .inr ⟨kvs, rd⟩, get_val (f := fun k => k.map kyK) (fun _ _ => kyKs_inj) k hk r⟩
  | _ => cases e
theorem GetR.isSome {ov : Option V} {o : Option D} (h : GetR W F m ov o) : ov.isSome = o.isSome := by
  cases o with
  | none => rw [show ov = none from h]; rfl
  | some d => obtain ⟨v, rfl, _⟩ := h; rfl
theorem GetR.getD {ov : Option V} {o : Option D} {v : V} {d : D} (h : GetR W F m ov o) (r : Rp W F m v d) : Rp W F m (ov.getD v) (o.getD d) := by
  cases o with
  | none => rw [show ov = none from h]; exact r
  | some d => obtain ⟨v, rfl, q⟩ := h; exact q
theorem key_rp {k : Ky} (h : kyG k) : Rp W F m (kV (kyK k)) (keyD k) := by
  cases k with
  | inl i => exact .int i
  | inr s => exact .str h.1 h.2
theorem keys_rp : ∀ {ks : List Ky}, (∀ k ∈ ks, kyG k) → Rps W F m ((ks.map kyK).map kV) (ks.map keyD)
  | [], _ => .nil
  | k :: ks, h => .cons (key_rp (h k List.mem_cons_self)) (keys_rp fun y hy => h y (List.mem_cons_of_mem _ hy))
end
/-- d[y] by values -/
theorem ix_dict {C : Cx} (hu : C.A.units + 1 < cLine) : IxR C (fun x y H Q => ∃ a v, x = .ref a ∧ DGet H a y (some v) ∧ Q v H) := by
  intro value slice pins s σ H x y v u Q I rx ry ⟨a, w, e, g, q⟩ hs
  subst e
  obtain rfl : v = Value.ref a := rx
  have hT := dict_typeIs I g
  unfold subscriptTail
  refine wpAny_bind ?_
  rw [getitemInPython_of_ne hT.not_modules]
  refine wpAny_bind (wpAny_specialOf hT PySem.F.slot_dict_getitem.lookup ?_)
  have fin : wpAny (model C.prog C.w) C.A (subscripted slice false (.ref a) u) (fun r s₃ => wpAny (model C.prog C.w) C.A (letTemporaryGo value (.ref a) r >>= fun _ => pure r) (EP C pins σ Q) C.xe s₃) C.xe s := by
    rw [hs]
    exact wpAny_operating (d_getItem hu I g ry fun w' s3 I3 rw' => wpAny_bind (wpAny_letTemporaryGo (wpAny_pure ⟨w, H, I3, rw', q⟩)))
  first
    | exact wpAny_pure (wpAny_bind fin)
    | exact wpAny_bind (wpAny_pure (wpAny_bind fin))
    | exact wpAny_bind fin
end Oc
namespace Oc
open L2 PySem PySem.Spec PyProof.Rows
section
variable {W : Wd} {F : Hp} {m : List Addr} {H : Hp} {K : PySem.W.Frag}
mutual
theorem Rp.dp (hs : ∀ a o, F a = some o → H a = some o) : ∀ {n : Nat} {v : V} {d : D}, shp n d = true → Rp W F m v d → Dp K H v (toP d)
  | _, _, _, _, .non => by unfold toP; exact .non
  | _, _, _, _, .bl b => by unfold toP; exact .bl b
  | _, _, _, _, .int i => by unfold toP; exact .int i
  | _, _, _, _, .str h h' => by unfold toP; exact .str _
  | 0, _, _, e, .tup h r hl => by simp [shp] at e
  | n + 1, _, _, e, .tup h r hl => by unfold toP; exact .tup (SqT.of (hs _ _ h)) (Rps.dp hs (n := n) (by simpa [shp] using e) r)
  | 0, _, _, e, .lst h r hl => by simp [shp] at e
  | n + 1, _, _, e, .lst h r hl => by unfold toP; exact .lst (SqL.of (hs _ _ h)) (Rps.dp hs (n := n) (by simpa [shp] using e) r)
  | 0, _, _, e, .scr .. => by simp [shp] at e
  | _ + 1, _, _, e, .scr .. => by simp [shp] at e
  | 0, _, _, e, .dk .. => by simp [shp] at e
  | _ + 1, _, _, e, .dk .. => by simp [shp] at e
  | 0, _, _, e, .dt .. => by simp [shp] at e
  | _ + 1, _, _, e, .dt .. => by simp [shp] at e
  | 0, _, _, e, .obj .. => by simp [shp] at e
  | _ + 1, _, _, e, .obj .. => by simp [shp] at e
  | 0, _, _, e, .fn .. => by simp [shp] at e
  | _ + 1, _, _, e, .fn .. => by simp [shp] at e
  | 0, _, _, e, .hnd .. => by simp [shp] at e
  | _ + 1, _, _, e, .hnd .. => by simp [shp] at e
theorem Rps.dp (hs : ∀ a o, F a = some o → H a = some o) : ∀ {n : Nat} {vs : List V} {ds : List D}, (∀ d ∈ ds, shp n d = true) → Rps W F m vs ds → DpAll K H vs (toPs ds)
  | _, _, _, _, .nil => by unfold toPs; exact .nil
  | n, _, _, e, .cons h r => by unfold toPs; exact .cons (Rp.dp hs (n := n) (e _ List.mem_cons_self) h) (Rps.dp hs (n := n) (fun d hd => e d (List.mem_cons_of_mem _ hd)) r)
end
mutual
theorem Rp.lay : ∀ {n : Nat} {v : V} {d : D}, shp n d = true → Rp W F m v d → (toP d).canLay0 = true ∧ (toP d).depth ≤ n
  | _, _, _, _, .non => by simp [toP, PyData.canLay0, PyData.depth]
  | _, _, _, _, .bl b => by simp [toP, PyData.canLay0, PyData.depth]
  | _, _, _, _, .int i => by simp [toP, PyData.canLay0, PyData.depth]
  | _, _, _, _, .str h h' => by
    refine ⟨?_, by simp [toP, PyData.depth]⟩
    simp only [toP, PyData.canLay0]
    show PyData.strOk _ = true
    unfold PyData.strOk csS
    rw [← Array.all_toList]
    exact h'
  | 0, _, _, e, .tup h r hl => by simp [shp] at e
  | n + 1, _, _, e, .tup h r hl => by
    have q := Rps.lay (n := n) (by simpa [shp] using e) r
    simp only [toP, PyData.canLay0, PyData.depth]
    exact ⟨q.1, Nat.succ_le_succ q.2⟩
  | 0, _, _, e, .lst h r hl => by simp [shp] at e
  | n + 1, _, _, e, .lst h r hl => by
    have q := Rps.lay (n := n) (by simpa [shp] using e) r
    simp only [toP, PyData.canLay0, PyData.depth]
    exact ⟨q.1, Nat.succ_le_succ q.2⟩
  | 0, _, _, e, .scr .. => by simp [shp] at e
  | _ + 1, _, _, e, .scr .. => by simp [shp] at e
  | 0, _, _, e, .dk .. => by simp [shp] at e
  | _ + 1, _, _, e, .dk .. => by simp [shp] at e
  | 0, _, _, e, .dt .. => by simp [shp] at e
  | _ + 1, _, _, e, .dt .. => by simp [shp] at e
  | 0, _, _, e, .obj .. => by simp [shp] at e
  | _ + 1, _, _, e, .obj .. => by simp [shp] at e
  | 0, _, _, e, .fn .. => by simp [shp] at e
  | _ + 1, _, _, e, .fn .. => by simp [shp] at e
  | 0, _, _, e, .hnd .. => by simp [shp] at e
  | _ + 1, _, _, e, .hnd .. => by simp [shp] at e
theorem Rps.lay : ∀ {n : Nat} {vs : List V} {ds : List D}, (∀ d ∈ ds, shp n d = true) → Rps W F m vs ds → PyData.canLayAll0 (toPs ds) = true ∧ PyData.depthAll (toPs ds) ≤ n
  | _, _, _, _, .nil => by simp [toPs, PyData.canLayAll0, PyData.depthAll]
  | n, _, _, e, .cons h r => by
    have a := Rp.lay (n := n) (e _ List.mem_cons_self) h
    have b := Rps.lay (n := n) (fun d hd => e d (List.mem_cons_of_mem _ hd)) r
    simp only [toPs, PyData.canLayAll0, PyData.depthAll, Bool.and_eq_true]
    exact ⟨⟨a.1, b.1⟩, Nat.max_le.mpr ⟨a.2, b.2⟩⟩
end
theorem Rp.shaped {v : V} {d : D} (e : shp 40 d = true) (r : Rp W F m v d) : SeqAt.shaped (toP d) = true := by
  have q := r.lay e
  unfold SeqAt.shaped
  rw [q.1, Bool.true_and]
  exact decide_eq_true (Nat.le_trans q.2 (by decide))
end
theorem csS_beq (a b : Cs) : (csS a == csS b) = (a == b) := by
  by_cases h : a = b
  · subst h; simp
  · have : csS a ≠ csS b := fun q => h (by have := congrArg (fun z => z.cps.toList) q; simpa [csS] using this)
    rw [beq_eq_false_iff_ne.mpr h, beq_eq_false_iff_ne.mpr this]
theorem csS_inj {a b : Cs} (h : csS a = csS b) : a = b := by have := congrArg (fun z => z.cps.toList) h; simpa [csS] using this
mutual
theorem eqv_toP : ∀ {n k : Nat} {a b : D}, shp n a = true → shp k b = true → PyData.eqv (toP a) (toP b) = D.eqv a b
  | n, k, a, b, ha, hb => by
    cases a <;> cases b <;> (try (simp [toP, PyData.eqv, D.eqv]; done)) <;> (try (cases n <;> simp [shp] at ha; done)) <;> (try (cases k <;> simp [shp] at hb; done))
    case str.str x y => simp only [toP, PyData.eqv, D.eqv]; exact csS_beq x y
    case tup.tup xs ys =>
      cases n with
      | zero => simp [shp] at ha
      | succ n =>
        cases k with
        | zero => simp [shp] at hb
        | succ k =>
          simp only [toP, PyData.eqv, D.eqv]
          exact eqvL_toP (n := n) (k := k) (by simpa [shp] using ha) (by simpa [shp] using hb)
    case lst.lst xs ys =>
      cases n with
      | zero => simp [shp] at ha
      | succ n =>
        cases k with
        | zero => simp [shp] at hb
        | succ k =>
          simp only [toP, PyData.eqv, D.eqv]
          exact eqvL_toP (n := n) (k := k) (by simpa [shp] using ha) (by simpa [shp] using hb)
theorem eqvL_toP : ∀ {n k : Nat} {a b : List D}, (∀ d ∈ a, shp n d = true) → (∀ d ∈ b, shp k d = true) → PyData.eqvAll (toPs a) (toPs b) = D.eqvL a b
  | n, k, [], [], _, _ => by simp [toPs, PyData.eqvAll, D.eqvL]
  | n, k, [], _ :: _, _, _ => by simp [toPs, PyData.eqvAll, D.eqvL]
  | n, k, _ :: _, [], _, _ => by simp [toPs, PyData.eqvAll, D.eqvL]
  | n, k, x :: xs, y :: ys, ha, hb => by
    have h1 := eqv_toP (ha x List.mem_cons_self) (hb y List.mem_cons_self)
    have h2 := eqvL_toP (a := xs) (b := ys) (fun d hd => ha d (List.mem_cons_of_mem _ hd)) (fun d hd => hb d (List.mem_cons_of_mem _ hd))
    simp only [toPs, PyData.eqvAll, D.eqvL, h1, h2]
end
section
variable {W : Wd} {C : Cx}
/-- an operation on data, as a reading -/
def rB (W : Wd) (g : Mem → D → D → Option D) : R2 := fun x y H Q => ∃ F m M a b d, Mr W F m H M ∧ Rp W F m x a ∧ Rp W F m y b ∧ g M a b = some d ∧
  ∀ v F' H', Xt F m H F' m H' → Mr W F' m H' M → Rp W F' m v d → Q v H'
def bop : O2 → Operator
  | .add => .Add | .sub => .Sub | .mul => .Mult | .fdiv => .FloorDiv | .mod => .Mod | .pow => .Pow | .shl => .LShift | .shr => .RShift | .band => .BitAnd
/-- what is read as a list: frozen, or of the memory -/
theorem lsOf_at {F : Hp} {m : List Addr} {H : Hp} {M : Mem} {v : V} {d : D} {xs : List D} (R : Mr W F m H M) (r : Rp W F m v d) (e : lsOf M d = some xs) : ∃ p vs, v = .ref p ∧ H p = some (.lst vs) ∧ Rps W F m vs xs ∧ vs.length ≤ lim := by
  unfold lsOf at e
  split at e
  · cases e
    cases r with
    | lst h r hl => exact ⟨_, _, rfl, R.sub _ _ h, r, hl⟩
  · split at e
    · rename_i k _ ys hk
      cases e
      cases r with
      | hnd hp =>
        obtain ⟨_, vs, h1, h2, h3⟩ := R.mo _ _ _ hk hp
        exact ⟨_, _, rfl, h1, h2, h3⟩
    · cases e
  · cases e
theorem rp_fresh_lst {F : Hp} {m : List Addr} {p : Addr} {vs : List V} {ds : List D} {H : Hp} (h : ∀ a o, F a = some o → H a = some o) (hp : H p = none) (r : Rps W F m vs ds) (hl : vs.length ≤ lim) : Rp W (upd F p (.lst vs)) m (.ref p) (.lst ds) :=
  .lst upd_same (r.mono (fun a o e => by rw [upd_ne (ne_of_none (h a o e) hp)]; exact e) (fun _ _ z => z)) hl
theorem rp_fresh_tup {F : Hp} {m : List Addr} {p : Addr} {vs : List V} {ds : List D} {H : Hp} (h : ∀ a o, F a = some o → H a = some o) (hp : H p = none) (r : Rps W F m vs ds) (hl : vs.length ≤ lim) : Rp W (upd F p (.tup vs)) m (.ref p) (.tup ds) :=
  .tup upd_same (r.mono (fun a o e => by rw [upd_ne (ne_of_none (h a o e) hp)]; exact e) (fun _ _ z => z)) hl
theorem csS_app (a b : Cs) : csS a ++ csS b = csS (a ++ b) := by
  show Str.append _ _ = _
  simp [Str.append, csS]
theorem done_lst {F : Hp} {m : List Addr} {H : Hp} {M : Mem} {vs : List V} {ds : List D} {Q : VK} (R : Mr W F m H M) (r : Rps W F m vs ds) (hl : vs.length ≤ lim)
    (k : ∀ v F' H', Xt F m H F' m H' → Mr W F' m H' M → Rp W F' m v (.lst ds) → Q v H') : ∀ p, H p = none → Q (.ref p) (upd H p (.lst vs)) := fun p hp => by
  have q := R.fresh (o := .lst vs) hp
  exact k _ _ _ q.2 q.1 (rp_fresh_lst R.sub hp r hl)
theorem done_tup {F : Hp} {m : List Addr} {H : Hp} {M : Mem} {vs : List V} {ds : List D} {Q : VK} (R : Mr W F m H M) (r : Rps W F m vs ds) (hl : vs.length ≤ lim)
    (k : ∀ v F' H', Xt F m H F' m H' → Mr W F' m H' M → Rp W F' m v (.tup ds) → Q v H') : ∀ p, H p = none → Q (.ref p) (upd H p (.tup vs)) := fun p hp => by
  have q := R.fresh (o := .tup vs) hp
  exact k _ _ _ q.2 q.1 (rp_fresh_tup R.sub hp r hl)
theorem arD_some {f : Int → Int → Option Int} {a b d : D} (e : arD f a b = some d) : ∃ i j k, a = .int i ∧ b = .int j ∧ f i j = some k ∧ d = .int k := by
  unfold arD at e
  split at e
  · rename_i i j
    cases h : f i j with
    | none => rw [h] at e; cases e
    | some k => rw [h] at e; cases e; exact ⟨i, j, k, rfl, rfl, h, rfl⟩
  · cases e
theorem op_ar {f : Value → Value → Sem Value} {g : Int → Int → Option Int} {c : Int → Int → Prop} {h : Int → Int → Int} (ho : OpR C f (rI c fun i j => .int (h i j))) (hg : ∀ i j k, g i j = some k → c i j ∧ h i j = k) : OpR C f (rB W fun _ a b => arD g a b) := by
  intro pins s σ H x y v u Q I rx ry ⟨F, m, M, a, b, d, R, ra, rb, e, k⟩
  obtain ⟨i, j, z, rfl, rfl, e1, rfl⟩ := arD_some e
  cases ra; cases rb
  obtain ⟨q1, q2⟩ := hg _ _ _ e1
  refine ho pins s σ H _ _ v u Q I rx ry ⟨_, _, rfl, rfl, q1, ?_⟩
  show Q (.int (h i j)) H
  rw [q2]
  exact k _ F H (Xt.refl _ _ _) R (.int _)
theorem op_ar0 {f : Value → Value → Sem Value} {h : Int → Int → Int} (ho : OpR C f (rI0 fun i j => .int (h i j))) : OpR C f (rB W fun _ a b => arD (fun i j => some (h i j)) a b) := by
  intro pins s σ H x y v u Q I rx ry ⟨F, m, M, a, b, d, R, ra, rb, e, k⟩
  obtain ⟨i, j, z, rfl, rfl, e1, rfl⟩ := arD_some e
  cases ra; cases rb
  cases e1
  exact ho pins s σ H _ _ v u Q I rx ry ⟨_, _, rfl, rfl, k _ F H (Xt.refl _ _ _) R (.int _)⟩
theorem op_addD : OpR C (binaryOp .Add) (rB W addD) := by
  intro pins s σ H x y v u Q I rx ry ⟨F, m, M, a, b, d, R, ra, rb, e, k⟩
  have now : ∀ w, Rp W F m w d → Q w H := fun w q => k w F H (Xt.refl _ _ _) R q
  unfold addD at e
  split at e
  · cases e; cases ra; cases rb
    exact op_add pins s σ H _ _ v u Q I rx ry ⟨_, _, rfl, rfl, now _ (.int _)⟩
  · split at e <;> cases e
    rename_i hl
    cases ra with
    | str h1 h2 =>
      cases rb with
      | str h3 h4 =>
        refine op_add_str pins s σ H _ _ v u Q I rx ry ⟨_, _, rfl, rfl, by rw [csS_len, csS_len, ← lim_line]; exact hl, ?_⟩
        rw [csS_app]
        exact now _ (.str (by rw [List.length_append]; exact hl) (by rw [List.all_append, h2, h4]; rfl))
  · split at e <;> cases e
    rename_i hl
    cases ra with
    | tup h1 r1 l1 =>
      cases rb with
      | tup h2 r2 l2 =>
        have e1 := r1.len
        have e2 := r2.len
        refine op_catA pins s σ H _ _ v u Q I rx ry ⟨_, _, _, _, rfl, rfl, SqT.of (R.sub _ _ h1), SqT.of (R.sub _ _ h2), by rw [e1, e2, ← lim_line]; exact hl, fun z => ?_, fun _ z => ?_, fun _ _ p hp => ?_⟩
        · subst z
          cases r1
          exact now _ (.tup h2 r2 l2)
        · subst z
          cases r2
          rw [List.append_nil] at now
          exact now _ (.tup h1 r1 l1)
        · exact done_tup R (r1.app r2) (by rw [List.length_append, e1, e2]; exact hl) k p hp
  · split at e
    · split at e <;> cases e
      rename_i hx hy hl
      obtain ⟨p, vs, rfl, h1, r1, l1⟩ := lsOf_at R ra hx
      obtain ⟨q, ws, rfl, h2, r2, l2⟩ := lsOf_at R rb hy
      have e1 := r1.len
      have e2 := r2.len
      refine op_cat pins s σ H _ _ v u Q I rx ry ⟨_, _, _, _, rfl, rfl, h1, h2, by rw [e1, e2, ← lim_line]; exact hl, fun p hp => ?_⟩
      exact done_lst R (r1.app r2) (by rw [List.length_append, e1, e2]; exact hl) k p hp
    · cases e
theorem mulI_ok (i j k : Int) (e : mulI i j = some k) : CMul i j ∧ i * j = k := by
  unfold mulI at e; split at e <;> cases e; rename_i h; exact ⟨h, rfl⟩
theorem op_mulD : OpR C (binaryOp .Mult) (rB W fun _ a b => mulD a b) := by
  intro pins s σ H x y v u Q I rx ry ⟨F, m, M, a, b, d, R, ra, rb, e, k⟩
  replace e : mulD a b = some d := e
  unfold mulD at e
  split at e
  · split at e <;> cases e
    rename_i hc
    cases rb
    cases ra with
    | lst h r hl =>
      have e1 := r.len
      refine op_rep pins s σ H _ _ v u Q I rx ry ⟨_, _, _, rfl, rfl, R.sub _ _ h, hc.1, hc.2.1, by rw [e1, ← lim_line]; exact hc.2.2, fun p hp => ?_⟩
      refine done_lst R (r.rep _) ?_ k p hp
      rw [(r.rep _).len]
      have : ∀ (n : Nat) (l : List D), (List.replicate n l).flatten.length = l.length * n := fun n l => by simp [Nat.mul_comm]
      rw [this]; exact hc.2.2
  · split at e <;> cases e
    rename_i ds kk hc
    cases rb
    cases ra with
    | tup h r hl =>
      rename_i pp vs
      have e1 := r.len
      have hne : vs ≠ [] := fun z => by
        subst z
        cases r
        cases hc.1
      have fl : ∀ (n : Nat) (l : List D), (List.replicate n l).flatten.length = l.length * n := fun n l => by simp [Nat.mul_comm]
      by_cases k1 : kk = 1
      · subst k1
        refine op_repT1 pins s σ H _ _ v u Q I rx ry ⟨_, _, rfl, rfl, SqT.of (R.sub _ _ h), k _ F H (Xt.refl _ _ _) R ?_⟩
        have e3 : (List.replicate (1 : Int).toNat ds).flatten = ds := by
          show (List.replicate 1 ds).flatten = ds
          simp
        rw [e3]
        exact .tup h r hl
      · refine op_repT pins s σ H _ _ v u Q I rx ry ⟨_, _, _, rfl, rfl, SqT.of (R.sub _ _ h), hne, by have := hc.2.1; omega, hc.2.2.1, by rw [e1]; exact hc.2.2.2, fun p hp => ?_⟩
        refine done_tup R (r.rep _) ?_ k p hp
        rw [(r.rep _).len, fl]
        have a1 : ds.length * kk.toNat ≤ 1000 * 1000 := Nat.mul_le_mul hc.2.2.2 (by have := hc.2.2.1; omega)
        show _ ≤ 16777216
        omega
  · split at e <;> cases e
    rename_i ds kk hc
    cases rb
    cases ra with
    | str h1 h2 =>
      refine op_repS pins s σ H _ _ v u Q I rx ry ⟨_, _, rfl, rfl, hc.1, hc.2.1, by rw [csS_len]; exact hc.2.2, ?_⟩
      rw [csS_cps]
      refine k _ F H (Xt.refl _ _ _) R (.str ?_ ?_)
      · have fl : ∀ (n : Nat) (l : List Nat), (List.replicate n l).flatten.length = l.length * n := fun n l => by simp [Nat.mul_comm]
        rw [fl]
        have a1 : ds.length * kk.toNat ≤ 1000 * 1000 := Nat.mul_le_mul hc.2.2 (by have := hc.2.1; omega)
        show _ ≤ 16777216
        omega
      · rw [List.all_eq_true] at h2 ⊢
        intro z hz
        obtain ⟨l, hl, hz⟩ := List.mem_flatten.mp hz
        rw [List.eq_of_mem_replicate hl] at hz
        exact h2 z hz
  · exact op_ar op_mul mulI_ok pins s σ H x y v u Q I rx ry ⟨F, m, M, a, b, d, R, ra, rb, e, k⟩
theorem op_bin (o : O2) : OpR C (binaryOp (bop o)) (rB W fun M a b => binD M o a b) := by
  cases o
  case add => exact op_addD
  case sub => exact op_ar0 op_sub
  case mul => exact op_mulD
  case fdiv => exact op_ar op_fdivW fun i j k e => by unfold fdivI at e; split at e <;> cases e; rename_i h; exact ⟨wide_div (b := 64) h.1 (by have := h.1; have := h.2; show j.natAbs < 18446744073709551616; omega) (by decide) (by decide), rfl⟩
  case mod => exact op_ar op_mod fun i j k e => by unfold modI at e; split at e <;> cases e; rename_i h; exact ⟨h, rfl⟩
  case pow => exact op_ar op_pow fun i j k e => by unfold powI at e; split at e <;> cases e; rename_i h; exact ⟨h, rfl⟩
  case shl => exact op_ar op_shl fun i j k e => by unfold shlI at e; split at e <;> cases e; rename_i h; exact ⟨h, rfl⟩
  case shr => exact op_ar op_shr fun i j k e => by unfold shrI at e; split at e <;> cases e; rename_i h; exact ⟨h, rfl⟩
  case band => exact op_ar0 op_and
def cop : CO → CmpOp
  | .lt => .Lt | .le => .LtE | .gt => .Gt | .ge => .GtE | .eq => .Eq | .ne => .NotEq | .inn => .In | .nin => .NotIn | .is => .Is | .isN => .IsNot
theorem ltS_eq : ∀ a b : Cs, ltS a b = decide (a < b)
  | [], [] => by simp [ltS]
  | _ :: _, [] => by simp [ltS]
  | [], _ :: _ => by simp [ltS]
  | x :: xs, y :: ys => by
    have ih := ltS_eq xs ys
    simp only [ltS, ih, List.cons_lt_cons_iff]
    by_cases h : x < y <;> by_cases h2 : x = y <;> simp [h, h2]
theorem op_eq2 {k : Nat} (hr : Room k C.A) : OpR C (compareOp .Eq) (rB W fun _ a b => (eqD a b).map .bl) := by
  intro pins s σ H x y v u Q I rx ry ⟨F, m, M, a, b, d, R, ra, rb, e, k⟩
  replace e : (eqD a b).map .bl = some d := e
  unfold eqD at e
  split at e
  · rename_i h
    simp only [Bool.and_eq_true] at h
    simp only [Option.map_some, Option.some.injEq] at e
    subst e
    refine op_eqD hr.units pins s σ H x y v u Q I rx ry ⟨_, _, ra.dp R.sub h.1, rb.dp R.sub h.2, ra.shaped h.1, rb.shaped h.2, ?_⟩
    rw [eqv_toP h.1 h.2]
    exact k _ F H (Xt.refl _ _ _) R (.bl _)
  · cases e
theorem op_ne2 {k : Nat} (hr : Room k C.A) : OpR C (compareOp .NotEq) (rB W fun _ a b => ((eqD a b).map not).map .bl) := by
  intro pins s σ H x y v u Q I rx ry ⟨F, m, M, a, b, d, R, ra, rb, e, k⟩
  replace e : ((eqD a b).map not).map .bl = some d := e
  unfold eqD at e
  split at e
  · rename_i h
    simp only [Bool.and_eq_true] at h
    simp only [Option.map_some, Option.some.injEq] at e
    subst e
    refine op_neD hr.units pins s σ H x y v u Q I rx ry ⟨_, _, ra.dp R.sub h.1, rb.dp R.sub h.2, ra.shaped h.1, rb.shaped h.2, ?_⟩
    rw [eqv_toP h.1 h.2]
    exact k _ F H (Xt.refl _ _ _) R (.bl _)
  · cases e
theorem ord_at {F : Hp} {m : List Addr} {H : Hp} {M : Mem} {x y : V} {u v : Value} {a b : D} {pins : List (Addr × Obj)} {σ : L2.St} {s : Shared} (hu : C.A.units + 64 < cLine) (I : L2.Inv C pins σ H s) (R : Mr W F m H M) (ra : Rp W F m x a) (rb : Rp W F m y b) (rx : L2.RelV x v) (ry : L2.RelV y u) (h : ordOk a b = true) :
    ∃ as bs, Reads s.heap v (toP a) as ∧ Reads s.heap u (toP b) bs ∧ PySem.W.alike (toP a) (toP b) = true ∧ PySem.W.alike (toP b) (toP a) = true ∧ C.A.units + min (toP a).depth (toP b).depth < cLine ∧ C.A.units + min (toP b).depth (toP a).depth < cLine := by
  unfold ordOk at h
  simp only [Bool.and_eq_true] at h
  obtain ⟨⟨⟨h1, h2⟩, h3⟩, h4⟩ := h
  obtain ⟨as, r1⟩ := Dp.reads I _ _ _ (Rp.dp (K := C.K) R.sub h1 ra) rx
  obtain ⟨bs, r2⟩ := Dp.reads I _ _ _ (Rp.dp (K := C.K) R.sub h2 rb) ry
  have d1 := (Rp.lay h1 ra).2
  exact ⟨as, bs, r1, r2, h3, h4, by omega, by omega⟩
theorem op_lt2 (hu : C.A.units + 64 < cLine) : OpR C (compareOp .Lt) (rB W fun _ a b => (ltD a b).map .bl) := by
  intro pins s σ H x y v u Q I rx ry ⟨F, m, M, a, b, d, R, ra, rb, e, k⟩
  replace e : (ltD a b).map .bl = some d := e
  unfold ltD at e
  split at e
  · cases e; cases ra; cases rb
    exact op_lt pins s σ H _ _ v u Q I rx ry ⟨_, _, rfl, rfl, k _ F H (Xt.refl _ _ _) R (.bl _)⟩
  · cases e
    cases ra; cases rb
    refine op_lt_str pins s σ H _ _ v u Q I rx ry ⟨_, _, rfl, rfl, ?_⟩
    rw [csS_cps, csS_cps, ← ltS_eq]
    exact k _ F H (Xt.refl _ _ _) R (.bl _)
  · split at e <;> cases e
    rename_i hok
    obtain ⟨as, bs, r1, r2, g1, g2, g3, g4⟩ := ord_at hu I R ra rb rx ry hok
    exact PySem.W.lt_data r1 r2 g1 (by unfold toP; exact fun z => by cases z) g3 ⟨.bl _, H, I, rfl, k _ F H (Xt.refl _ _ _) R (.bl _)⟩
  · cases e
theorem op_gt2 (hu : C.A.units + 64 < cLine) : OpR C (compareOp .Gt) (rB W fun _ a b => (ltD b a).map .bl) := by
  intro pins s σ H x y v u Q I rx ry ⟨F, m, M, a, b, d, R, ra, rb, e, k⟩
  replace e : (ltD b a).map .bl = some d := e
  unfold ltD at e
  split at e
  · cases e; cases ra; cases rb
    exact op_gt pins s σ H _ _ v u Q I rx ry ⟨_, _, rfl, rfl, k _ F H (Xt.refl _ _ _) R (.bl _)⟩
  · cases e
    cases ra; cases rb
    refine op_gt_str pins s σ H _ _ v u Q I rx ry ⟨_, _, rfl, rfl, ?_⟩
    rw [csS_cps, csS_cps, ← ltS_eq]
    exact k _ F H (Xt.refl _ _ _) R (.bl _)
  · split at e <;> cases e
    rename_i hok
    obtain ⟨as, bs, r1, r2, g1, g2, g3, g4⟩ := ord_at hu I R rb ra ry rx hok
    exact PySem.W.gt_data r2 r1 g2 (by unfold toP; exact fun z => by cases z) g4 ⟨.bl _, H, I, rfl, k _ F H (Xt.refl _ _ _) R (.bl _)⟩
  · cases e
theorem op_le2 (hu : C.A.units + 64 < cLine) : OpR C (compareOp .LtE) (rB W fun _ a b => (leD a b).map .bl) := by
  intro pins s σ H x y v u Q I rx ry ⟨F, m, M, a, b, d, R, ra, rb, e, k⟩
  replace e : (leD a b).map .bl = some d := e
  unfold leD at e
  split at e
  · cases e; cases ra; cases rb
    exact op_le pins s σ H _ _ v u Q I rx ry ⟨_, _, rfl, rfl, k _ F H (Xt.refl _ _ _) R (.bl _)⟩
  · split at e <;> cases e
    rename_i hok
    obtain ⟨as, bs, r1, r2, g1, g2, g3, g4⟩ := ord_at hu I R ra rb rx ry hok
    exact PySem.W.le_data r1 r2 g1 (by unfold toP; exact fun z => by cases z) g3 ⟨.bl _, H, I, rfl, k _ F H (Xt.refl _ _ _) R (.bl _)⟩
  · cases e
theorem op_ge2 (hu : C.A.units + 64 < cLine) : OpR C (compareOp .GtE) (rB W fun _ a b => (leD b a).map .bl) := by
  intro pins s σ H x y v u Q I rx ry ⟨F, m, M, a, b, d, R, ra, rb, e, k⟩
  replace e : (leD b a).map .bl = some d := e
  unfold leD at e
  split at e
  · cases e; cases ra; cases rb
    exact op_ge pins s σ H _ _ v u Q I rx ry ⟨_, _, rfl, rfl, k _ F H (Xt.refl _ _ _) R (.bl _)⟩
  · split at e <;> cases e
    rename_i hok
    obtain ⟨as, bs, r1, r2, g1, g2, g3, g4⟩ := ord_at hu I R rb ra ry rx hok
    exact PySem.W.ge_data r2 r1 g2 (by unfold toP; exact fun z => by cases z) g4 ⟨.bl _, H, I, rfl, k _ F H (Xt.refl _ _ _) R (.bl _)⟩
  · cases e
theorem isD_some {F : Hp} {m : List Addr} {x y : V} {a b : D} {k : Bool} (ra : Rp W F m x a) (rb : Rp W F m y b) (e : isD a b = some k) : y = .non ∧ decide (x = .non) = k := by
  unfold isD at e
  split at e <;> cases e <;> cases rb <;> cases ra <;> simp_all
theorem op_is2 : OpR C (compareOp .Is) (rB W fun _ a b => (isD a b).map .bl) := by
  intro pins s σ H x y v u Q I rx ry ⟨F, m, M, a, b, d, R, ra, rb, e, k⟩
  replace e : (isD a b).map .bl = some d := e
  cases h : isD a b with
  | none => rw [h] at e; cases e
  | some z =>
    rw [h] at e; cases e
    obtain ⟨e1, e2⟩ := isD_some ra rb h
    refine op_isN pins s σ H _ _ v u Q I rx ry ⟨e1, ?_⟩
    rw [e2]
    exact k _ F H (Xt.refl _ _ _) R (.bl _)
theorem op_isn2 : OpR C (compareOp .IsNot) (rB W fun _ a b => ((isD a b).map not).map .bl) := by
  intro pins s σ H x y v u Q I rx ry ⟨F, m, M, a, b, d, R, ra, rb, e, k⟩
  replace e : ((isD a b).map not).map .bl = some d := e
  cases h : isD a b with
  | none => rw [h] at e; cases e
  | some z =>
    rw [h] at e; cases e
    obtain ⟨e1, e2⟩ := isD_some ra rb h
    refine op_notN pins s σ H _ _ v u Q I rx ry ⟨e1, ?_⟩
    rw [e2]
    exact k _ F H (Xt.refl _ _ _) R (.bl _)
theorem flatV_of {F : Hp} {m : List Addr} {x : V} {a : D} (r : Rp W F m x a) (h : scal a = true) : flatV x = true := by
  cases r <;> first | rfl | cases h
theorem eqV_of {F : Hp} {m : List Addr} {x y : V} {a b : D} (r : Rp W F m x a) (q : Rp W F m y b) (h : scal a = true) (h2 : scal b = true) : eqV x y = D.eqv a b := by
  cases r <;> cases q <;> first | (cases h; done) | (cases h2; done) | (simp [eqV, D.eqv]; done) | (simp only [eqV, D.eqv]; exact csS_beq _ _)
theorem Rps.flat_all {F : Hp} {m : List Addr} : ∀ {vs : List V} {ds : List D}, Rps W F m vs ds → ds.all scal = true → vs.all flatV = true
  | _, _, .nil, _ => rfl
  | _, _, .cons h r, e => by
    simp only [List.all_cons, Bool.and_eq_true] at e ⊢
    exact ⟨flatV_of h e.1, r.flat_all e.2⟩
theorem Rps.any_eq {F : Hp} {m : List Addr} {x : V} {a : D} (q : Rp W F m x a) (hq : scal a = true) : ∀ {vs : List V} {ds : List D}, Rps W F m vs ds → ds.all scal = true → (vs.any fun y => eqV y x) = ds.any fun y => D.eqv y a
  | _, _, .nil, _ => rfl
  | _, _, .cons h r, e => by
    simp only [List.all_cons, Bool.and_eq_true] at e
    simp only [List.any_cons, eqV_of h q e.1 hq, r.any_eq q hq e.2]
theorem inD_seq {H : Hp} {F : Hp} {m : List Addr} {M : Mem} {K : PySem.W.Frag} {x y : V} {a b : D} {k : Bool} (R : Mr W F m H M) (ra : Rp W F m x a) (rb : Rp W F m y b) (e : inD a b = some k) :
    (∃ p xs, y = .ref p ∧ (SqL K H p xs ∨ SqT K H p xs) ∧ flatV x = true ∧ xs.all flatV = true ∧ inV x xs = k) ∨ (∃ (c : Nat) (z : Str), x = .str ⟨#[c]⟩ ∧ y = .str z ∧ decide (c ∈ z.cps.toList) = k) ∨ (∃ p o, y = .ref p ∧ DGet H p x o ∧ o.isSome = k) := by
  have dic : ∀ o : Option Bool, o = some k → o = (dgetD b a).map (·.isSome) → (∃ p o, y = .ref p ∧ DGet H p x o ∧ o.isSome = k) := fun o h1 h2 => by
    rw [h1] at h2
    obtain ⟨z, e1, e2⟩ := Option.map_eq_some_iff.mp h2.symm
    obtain ⟨p, ov, q1, q2, _, q3⟩ := dget_at R rb ra e1
    exact ⟨p, ov, q1, q2, by rw [q3.isSome]; exact e2⟩
  unfold inD at e
  split at e
  · split at e <;> cases e
    rename_i h
    simp only [Bool.and_eq_true] at h
    cases rb with
    | lst h1 r l => exact .inl ⟨_, _, rfl, .inl (SqL.of (R.sub _ _ h1)), flatV_of ra h.1, r.flat_all h.2, r.any_eq ra h.1 h.2⟩
  · split at e <;> cases e
    rename_i h
    simp only [Bool.and_eq_true] at h
    cases rb with
    | tup h1 r l => exact .inl ⟨_, _, rfl, .inr (SqT.of (R.sub _ _ h1)), flatV_of ra h.1, r.flat_all h.2, r.any_eq ra h.1 h.2⟩
  · cases e
    cases ra; cases rb
    refine .inr (.inl ⟨_, _, rfl, rfl, ?_⟩)
    rw [csS_cps]
    simp [List.contains_eq_mem]
  · exact .inr (.inr (dic _ e rfl))
  · exact .inr (.inr (dic _ e rfl))
  · cases e
theorem op_in2 (hu : C.A.units + 1 < cLine) : OpR C (compareOp .In) (rB W fun _ a b => (inD a b).map .bl) := by
  intro pins s σ H x y v u Q I rx ry ⟨F, m, M, a, b, d, R, ra, rb, e, k⟩
  replace e : (inD a b).map .bl = some d := e
  cases h : inD a b with
  | none => rw [h] at e; cases e
  | some z =>
    rw [h] at e; cases e
    rcases inD_seq (K := C.K) R ra rb h with ⟨p, xs, e1, e2, e3, e4, e5⟩ | ⟨c, z, e1, e2, e3⟩ | ⟨p, o, rfl, g, e3⟩
    · refine op_in_seq pins s σ H _ _ v u Q I rx ry ⟨p, xs, e1, e2, e3, e4, ?_⟩
      simp only [Bool.false_eq_true, if_false, e5]
      exact k _ F H (Xt.refl _ _ _) R (.bl _)
    · refine op_in_sign pins s σ H _ _ v u Q I rx ry ⟨c, z, e1, e2, ?_⟩
      rw [e3]
      exact k _ F H (Xt.refl _ _ _) R (.bl _)
    · obtain rfl : u = Value.ref p := ry
      exact d_in hu I g rx fun s3 I3 => ⟨.bl o.isSome, H, I3, rfl, by rw [e3]; exact k _ F H (Xt.refl _ _ _) R (.bl _)⟩
theorem op_nin2 (hu : C.A.units + 1 < cLine) : OpR C (compareOp .NotIn) (rB W fun _ a b => ((inD a b).map not).map .bl) := by
  intro pins s σ H x y v u Q I rx ry ⟨F, m, M, a, b, d, R, ra, rb, e, k⟩
  replace e : ((inD a b).map not).map .bl = some d := e
  cases h : inD a b with
  | none => rw [h] at e; cases e
  | some z =>
    rw [h] at e; cases e
    rcases inD_seq (K := C.K) R ra rb h with ⟨p, xs, e1, e2, e3, e4, e5⟩ | ⟨c, z, e1, e2, e3⟩ | ⟨p, o, rfl, g, e3⟩
    · refine op_notIn_seq pins s σ H _ _ v u Q I rx ry ⟨p, xs, e1, e2, e3, e4, ?_⟩
      simp only [if_true, e5]
      exact k _ F H (Xt.refl _ _ _) R (.bl _)
    · refine op_notIn_sign pins s σ H _ _ v u Q I rx ry ⟨c, z, e1, e2, ?_⟩
      rw [e3]
      exact k _ F H (Xt.refl _ _ _) R (.bl _)
    · obtain rfl : u = Value.ref p := ry
      exact d_notIn hu I g rx fun s3 I3 => ⟨.bl (!o.isSome), H, I3, rfl, by rw [e3]; exact k _ F H (Xt.refl _ _ _) R (.bl _)⟩
theorem op_cmp (o : CO) {k : Nat} (hr : Room k C.A) : OpR C (compareOp (cop o)) (rB W fun _ a b => (cmpD o a b).map .bl) := by
  cases o
  case lt => exact op_lt2 (by have := hr.un; omega)
  case le => exact op_le2 (by have := hr.un; omega)
  case gt => exact op_gt2 (by have := hr.un; omega)
  case ge => exact op_ge2 (by have := hr.un; omega)
  case eq => exact op_eq2 hr
  case ne => exact op_ne2 hr
  case inn => exact op_in2 (by have := hr.un; omega)
  case nin => exact op_nin2 (by have := hr.un; omega)
  case is => exact op_is2
  case isN => exact op_isn2
theorem ixO_eq (n : Nat) (i : Int) : ixO n i = ixN n i := rfl
theorem Rps.atI {F : Hp} {m : List Addr} {vs : List V} {ds : List D} {i : Int} {d : D} (r : Rps W F m vs ds) (e : atO ds i = some d) : ∃ v, L2.atI vs i = some v ∧ Rp W F m v d := by
  unfold atO at e
  unfold L2.atI
  rw [r.len]
  cases h : ixO ds.length i with
  | none => rw [h] at e; cases e
  | some j =>
    rw [h] at e
    rw [ixO_eq] at h
    rw [h]
    exact r.get e
theorem ix_sub (hu : C.A.units + 1 < cLine) : IxR C (rB W subD) := by
  intro value slice pins s σ H x y v u Q I rx ry ⟨F, m, M, a, b, d, R, ra, rb, e, k⟩ hs
  replace e : subD M a b = some d := e
  unfold subD at e
  split at e
  · rename_i z i
    cases h : atO z i with
    | none => rw [h] at e; cases e
    | some c =>
      rw [h] at e; cases e
      cases rb
      cases ra with
      | str h1 h2 =>
        refine ix_str value slice pins s σ H _ _ v u Q I rx ry ⟨_, _, c, rfl, rfl, by rw [csS_len, ← lim_line]; exact h1, by rw [csS_cps]; exact h, ?_⟩ hs
        have hc : c ∈ z := by
          unfold atO at h
          cases h3 : ixO z.length i with
          | none => rw [h3] at h; cases h
          | some j => rw [h3] at h; exact List.mem_of_getElem? h
        exact k _ F H (Xt.refl _ _ _) R (.str (s := [c]) (by show 1 ≤ lim; decide) (by simp only [List.all_cons, List.all_nil, Bool.and_true]; exact List.all_eq_true.mp h2 c hc))
  · cases rb
    cases ra with
    | tup h1 r l =>
      obtain ⟨w, e1, q⟩ := r.atI e
      exact ix_tup value slice pins s σ H _ _ v u Q I rx ry ⟨_, _, _, _, rfl, rfl, SqT.of (R.sub _ _ h1), e1, k _ F H (Xt.refl _ _ _) R q⟩ hs
  · cases rb
    cases ra with
    | lst h1 r l =>
      obtain ⟨w, e1, q⟩ := r.atI e
      exact ix_list value slice pins s σ H _ _ v u Q I rx ry ⟨_, _, _, _, rfl, rfl, SqL.of (R.sub _ _ h1), e1, k _ F H (Xt.refl _ _ _) R q⟩ hs
  · split at e
    · rename_i i _ xs hk
      cases rb
      cases ra with
      | hnd hp =>
        obtain ⟨_, vs, h1, r, _⟩ := R.mo _ _ _ hk hp
        obtain ⟨w, e1, q⟩ := r.atI e
        exact ix_list value slice pins s σ H _ _ v u Q I rx ry ⟨_, _, _, _, rfl, rfl, SqL.of h1, e1, k _ F H (Xt.refl _ _ _) R q⟩ hs
    · cases e
  · obtain ⟨o, e1, e2⟩ := Option.bind_eq_some_iff.mp e
    obtain rfl : o = some d := e2
    obtain ⟨p, ov, q1, q2, _, w, rfl, q3⟩ := dget_at R ra rb e1
    exact ix_dict hu value slice pins s σ H _ _ v u Q I rx ry ⟨p, w, q1, q2, k _ F H (Xt.refl _ _ _) R q3⟩ hs
  · obtain ⟨o, e1, e2⟩ := Option.bind_eq_some_iff.mp e
    obtain rfl : o = some d := e2
    obtain ⟨p, ov, q1, q2, _, w, rfl, q3⟩ := dget_at R ra rb e1
    exact ix_dict hu value slice pins s σ H _ _ v u Q I rx ry ⟨p, w, q1, q2, k _ F H (Xt.refl _ _ _) R q3⟩ hs
  · cases e
theorem Rps.cut {F : Hp} {m : List Addr} {vs : List V} {ds : List D} (lo hi : Option Int) (r : Rps W F m vs ds) : Rps W F m (cutV vs lo hi) (cutO ds lo hi) := by
  unfold cutV cutO
  rw [r.len]
  exact (r.drop _).take _
theorem cutO_len {α : Type} (xs : List α) (lo hi : Option Int) : (cutO xs lo hi).length ≤ xs.length := by
  unfold cutO
  rw [List.length_take, List.length_drop]; omega
theorem cutO_all {α : Type} (xs : List α) (lo hi : Option Int) (p : α → Bool) (h : xs.all p = true) : (cutO xs lo hi).all p = true := by
  rw [List.all_eq_true] at h ⊢
  exact fun x hx => h x (List.mem_of_mem_drop (List.mem_of_mem_take hx))
/-- a slice, as a reading -/
def rSlc (W : Wd) : V → Option Int → Option Int → Hp → VK → Prop := fun x lo hi H Q => ∃ F m M a d, Mr W F m H M ∧ Rp W F m x a ∧ slcD a lo hi = some d ∧
  ∀ v F' H', Xt F m H F' m H' → Mr W F' m H' M → Rp W F' m v d → Q v H'
theorem sl_any : L2.SlR C (rSlc W) := by
  have h3 := (sl_str (X := C)).or ((sl_tupA (X := C)).or (sl_list (X := C)))
  intro pins s σ H x v vl vu lo hi sl Q I rx hsl pl pu ⟨F, m, M, a, d, R, ra, e, k⟩
  refine h3 pins s σ H x v vl vu lo hi sl Q I rx hsl pl pu ?_
  unfold slcD at e
  split at e <;> cases e
  · cases ra with
    | str h1 h2 =>
      refine .inl ⟨_, rfl, by rw [csS_len, ← lim_line]; exact h1, ?_⟩
      have : cutS (csS ‹Cs›) lo hi = csS (cutO ‹Cs› lo hi) := by
        unfold cutS cutO
        rw [csS_cps, csS_len]; rfl
      rw [this]
      exact k _ F H (Xt.refl _ _ _) R (.str (Nat.le_trans (cutO_len _ _ _) h1) (cutO_all _ _ _ _ h2))
  · cases ra with
    | tup h1 r l =>
      refine .inr (.inl ⟨_, _, rfl, SqT.of (R.sub _ _ h1), fun hw => ?_, fun _ => done_tup R (r.cut lo hi) (Nat.le_trans (cutV_length _ _ _) l) k⟩)
      refine k _ F H (Xt.refl _ _ _) R ?_
      have e1 := r.len
      have : ∀ xs : List D, sIxO xs.length 0 lo = 0 ∧ sIxO xs.length xs.length hi = xs.length → cutO xs lo hi = xs := fun xs hh => by
        unfold cutO
        rw [hh.1, hh.2]; simp
      rw [this _ (by rw [e1] at hw; exact hw)]
      exact .tup h1 r l
  · cases ra with
    | lst h1 r l =>
      exact .inr (.inr ⟨_, _, rfl, SqL.of (R.sub _ _ h1), done_lst R (r.cut lo hi) (Nat.le_trans (cutV_length _ _ _) l) k⟩)
/-- a built-in on data, as a reading -/
def rCa (W : Wd) (g : Mem → List D → Option D) : List V → Hp → VK → Prop := fun xs H Q => ∃ F m M ds d, Mr W F m H M ∧ Rps W F m xs ds ∧ g M ds = some d ∧
  ∀ v F' H', Xt F m H F' m H' → Mr W F' m H' M → Rp W F' m v d → Q v H'
theorem lenD_at {K : PySem.W.Frag} {F : Hp} {m : List Addr} {H : Hp} {M : Mem} {x : V} {a : D} {n : Nat} (R : Mr W F m H M) (r : Rp W F m x a) (e : lenD M a = some n) : LenV K x H n ∨ (∃ p, x = .ref p ∧ ((∃ kvs, Rd H p (.dK kvs) ∧ kvs.length = n) ∨ ∃ kvs, Rd H p (.dT kvs) ∧ kvs.length = n)) := by
  unfold lenD at e
  split at e
  · cases e
    cases r with
    | str h1 h2 => exact .inl ⟨by rw [csS_len, ← lim_line]; exact h1, (csS_len _).symm⟩
  · cases e
    cases r with
    | tup h1 r l => exact .inl (.inr ⟨_, SqT.of (R.sub _ _ h1), r.len.symm⟩)
  · cases e
    cases r with
    | lst h1 r l => exact .inl (.inl ⟨_, SqL.of (R.sub _ _ h1), r.len.symm⟩)
  · cases e
    cases r with
    | dk h hk hg r hl => exact .inr ⟨_, rfl, .inl ⟨_, h.rd R.sub, by have := congrArg List.length hk; simpa using this⟩⟩
  · cases e
    cases r with
    | dt h hk hg r hl => exact .inr ⟨_, rfl, .inr ⟨_, h.rd R.sub, by have := congrArg List.length hk; simpa using this⟩⟩
  · split at e
    · cases e
      rename_i hk
      cases r with
      | hnd hp =>
        obtain ⟨_, vs, h1, r, _⟩ := R.mo _ _ _ hk hp
        exact .inl (.inl ⟨_, SqL.of h1, r.len.symm⟩)
    · cases e
  · cases e
theorem len_any {F : Hp} {m : List Addr} {M : Mem} {x : V} {a : D} {n : Nat} {pins : List (Addr × Obj)} {σ : L2.St} {H : Hp} {s : Shared} {Q : VK} {us : List Value} (I : L2.Inv C pins σ H s) (rx : Vals [x] us) (R : Mr W F m H M) (r : Rp W F m x a) (e : lenD M a = some n) (q : Q (.int (n : Int)) H) :
    wpAny (model C.prog C.w) C.A (call (.builtin "len") us) (EP C pins σ Q) C.xe s := by
  rcases lenD_at (K := C.K) R r e with h | ⟨p, rfl, ⟨kvs, h, hl⟩ | ⟨kvs, h, hl⟩⟩
  · exact call_len pins s σ H _ us Q I rx ⟨_, n, rfl, h, q⟩
  · obtain ⟨u, rfl, rx2⟩ := vals1 rx
    obtain rfl : u = .ref p := rx2
    subst hl
    exact d_len I h fun t s' I' => ⟨.int kvs.length, H, I', ⟨_, rfl⟩, q⟩
  · obtain ⟨u, rfl, rx2⟩ := vals1 rx
    obtain rfl : u = .ref p := rx2
    subst hl
    obtain ⟨z, hd, ys, rel, dd⟩ := dt_rd I.hok h
    have hl : kvs.length = ys.length := Paired.length rel
    refine call_len_dictH hd dd (by rw [← hl]; rw [sizeLine_eq] at z; omega) ?_
    rw [← hl]
    exact ⟨.int ((kvs.length : Nat) : Int), H, I.tok _, ⟨_, rfl⟩, q⟩
/-- the built-in by its kind: a function or a type -/
def biV : Bi → Value
  | .len => .builtin "len" | .int => .type "int" | .str => .type "str" | .sum => .builtin "sum" | .abs => .builtin "abs" | .tuple => .type "tuple" | .list => .type "list"
  | .max2 => .builtin "max" | .min2 => .builtin "min" | .sorted => .builtin "sorted" | .maxL => .builtin "max" | .minL => .builtin "min"
theorem strI_ok (i : Int) : csS (strI i) = (toString i : PySem.Str) := csS_of _
theorem toPs_map : ∀ xs : List D, toPs xs = xs.map toP
  | [] => rfl
  | x :: xs => by rw [toPs, toPs_map xs]; rfl
mutual
theorem toP_inj : ∀ {n k : Nat} {a b : D}, shp n a = true → shp k b = true → toP a = toP b → a = b
  | n, k, a, b, ha, hb, e => by
    cases a <;> (try (cases n <;> simp [shp] at ha; done)) <;> cases b <;> (try (cases k <;> simp [shp] at hb; done)) <;> simp only [toP] at e <;> (try (cases e; done))
    case non.non => rfl
    case bl.bl => cases e; rfl
    case int.int => cases e; rfl
    case str.str x y => rw [csS_inj (PyData.str.inj e)]
    case tup.tup xs ys =>
      cases n with
      | zero => simp [shp] at ha
      | succ n =>
        cases k with
        | zero => simp [shp] at hb
        | succ k => rw [toPs_inj (n := n) (k := k) (by simpa [shp] using ha) (by simpa [shp] using hb) (PyData.tuple.inj e)]
    case lst.lst xs ys =>
      cases n with
      | zero => simp [shp] at ha
      | succ n =>
        cases k with
        | zero => simp [shp] at hb
        | succ k => rw [toPs_inj (n := n) (k := k) (by simpa [shp] using ha) (by simpa [shp] using hb) (PyData.list.inj e)]
theorem toPs_inj : ∀ {n k : Nat} {a b : List D}, (∀ d ∈ a, shp n d = true) → (∀ d ∈ b, shp k d = true) → toPs a = toPs b → a = b
  | _, _, [], [], _, _, _ => rfl
  | _, _, [], _ :: _, _, _, e => by simp [toPs] at e
  | _, _, _ :: _, [], _, _, e => by simp [toPs] at e
  | n, k, x :: xs, y :: ys, ha, hb, e => by
    simp only [toPs, List.cons.injEq] at e
    rw [toP_inj (ha x List.mem_cons_self) (hb y List.mem_cons_self) e.1, toPs_inj (fun d hd => ha d (List.mem_cons_of_mem _ hd)) (fun d hd => hb d (List.mem_cons_of_mem _ hd)) e.2]
end
theorem each_rp {F : Hp} {m : List Addr} : ∀ {vs : List V} {ds : List D} {us : List Value}, Rps W F m vs ds → Vals vs us → PySem.W.EachIs (fun u d => ∃ y, RelV y u ∧ Rp W F m y d) us ds
  | _, _, _, .nil, .nil => .nil
  | _, _, _, .cons h r, .cons q s => .cons ⟨_, q, h⟩ (each_rp r s)
theorem rp_each {F : Hp} {m : List Addr} : ∀ {us : List Value} {ds : List D}, PySem.W.EachIs (fun u d => ∃ y, RelV y u ∧ Rp W F m y d) us ds → ∃ ys, Vals ys us ∧ Rps W F m ys ds
  | _, _, .nil => ⟨[], .nil, .nil⟩
  | _, _, .cons h h2 => by
    obtain ⟨y, q, r⟩ := h
    obtain ⟨ys, q2, r2⟩ := rp_each h2
    exact ⟨y :: ys, .cons q q2, .cons r r2⟩
theorem each_reads {F : Hp} {m : List Addr} {H : Hp} {pins : List (Addr × Obj)} {σ : L2.St} {s : Shared} (I : L2.Inv C pins σ H s) (hs : ∀ a o, F a = some o → H a = some o) : ∀ {vs : List V} {ds : List D} {us : List Value}, ds.all (shp 8) = true → Rps W F m vs ds → Vals vs us →
    PySem.W.EachIs (fun u d => ∃ as, Reads s.heap u (toP d) as) us ds
  | _, _, _, _, .nil, .nil => .nil
  | _, _, _, e, .cons h r, .cons q s => by
    simp only [List.all_cons, Bool.and_eq_true] at e
    exact .cons (Dp.reads I _ _ _ (Rp.dp (K := C.K) hs e.1 h) q) (each_reads I hs e.2 r s)
theorem alk_all {xs : List D} (h : alkOk xs = true) : xs.all (shp 8) = true ∧ PySem.W.AllAlike (xs.map toP) ∧ PySem.W.AlikeAll (toPs xs) := by
  unfold alkOk at h
  simp only [Bool.and_eq_true] at h
  obtain ⟨⟨h1, h2⟩, h3⟩ := h
  have key : PySem.W.AllAlike (xs.map toP) := fun d hd d' hd' => by
    obtain ⟨x, hx, rfl⟩ := List.mem_map.mp hd
    obtain ⟨y, hy, rfl⟩ := List.mem_map.mp hd'
    exact List.all_eq_true.mp (List.all_eq_true.mp h3 x hx) y hy
  refine ⟨h1, key, fun d hd d' hd' => ?_, fun d hd => ?_⟩
  · rw [toPs_map] at hd hd'
    exact key d hd d' hd'
  · rw [toPs_map] at hd
    obtain ⟨x, hx, rfl⟩ := List.mem_map.mp hd
    have := List.all_eq_true.mp h2 x hx
    have := List.all_eq_true.mp h1 x hx
    cases x <;> simp_all [notNon, toP, shp]
theorem minO_toP (xs : List D) : ∀ x : D, toP (minO x xs) = PySem.W.minD (toP x) (toPs xs) := by
  rw [toPs_map]
  unfold minO PySem.W.minD
  induction xs with
  | nil => intro x; rfl
  | cons y ys ih =>
    intro x
    simp only [List.foldl_cons, List.map_cons]
    rw [ih]
    congr 1
    unfold ltO
    split <;> rfl
theorem maxO_toP (xs : List D) : ∀ x : D, toP (maxO x xs) = PySem.W.maxD (toP x) (toPs xs) := by
  rw [toPs_map]
  unfold maxO PySem.W.maxD
  induction xs with
  | nil => intro x; rfl
  | cons y ys ih =>
    intro x
    simp only [List.foldl_cons, List.map_cons]
    rw [ih]
    congr 1
    unfold ltO
    split <;> rfl
theorem minO_mem (xs : List D) : ∀ x : D, minO x xs ∈ x :: xs := by
  unfold minO
  induction xs with
  | nil => intro x; exact List.mem_cons_self
  | cons y ys ih =>
    intro x
    rw [List.foldl_cons]
    have := ih (if ltO y x = true then y else x)
    rcases List.mem_cons.mp this with e | h
    · rw [e]; split <;> simp
    · exact List.mem_cons_of_mem _ (List.mem_cons_of_mem _ h)
theorem maxO_mem (xs : List D) : ∀ x : D, maxO x xs ∈ x :: xs := by
  unfold maxO
  induction xs with
  | nil => intro x; exact List.mem_cons_self
  | cons y ys ih =>
    intro x
    rw [List.foldl_cons]
    have := ih (if ltO x y = true then y else x)
    rcases List.mem_cons.mp this with e | h
    · rw [e]; split <;> simp
    · exact List.mem_cons_of_mem _ (List.mem_cons_of_mem _ h)
theorem vals_at : ∀ {vs : List V} {us : List Value} {i : Nat} {u : Value}, Vals vs us → us[i]? = some u → ∃ y, vs[i]? = some y ∧ RelV y u
  | _, _, _, _, .nil, e => by simp at e
  | _, _, 0, _, .cons h _, e => by simp at e; subst e; exact ⟨_, rfl, h⟩
  | _, _, i + 1, _, .cons _ r, e => by
    obtain ⟨v, e1, q⟩ := vals_at (i := i) r (by simpa using e)
    exact ⟨v, by simpa using e1, q⟩
theorem depth_all {xs : List D} (h : xs.all (shp 8) = true) {F : Hp} {m : List Addr} {vs : List V} (r : Rps W F m vs xs) : PyData.depthAll (toPs xs) ≤ 8 := (Rps.lay (n := 8) (by simpa using h) r).2
/-- what comes out of min or max is the very item -/
theorem best_at {F : Hp} {m : List Addr} {H : Hp} {pins : List (Addr × Obj)} {σ : L2.St} {s : Shared} {h' : Heap} {tk : Nat} (I : L2.Inv C pins σ H s) (hs : ∀ a o, F a = some o → H a = some o) {vs : List V} {ds : List D} {us : List Value} (hx : ds.all (shp 8) = true) (r : Rps W F m vs ds) (q : Vals vs us)
    {i : Nat} {u : Value} {z : D} {as : List Addr} (hu : us[i]? = some u) (hz : z ∈ ds) (hk : ∀ b o, s.heap.get? b = some o → h'.get? b = some o) (hr : Reads h' u (toP z) as) : ∃ y, RelV y u ∧ Rp W F m y z := by
  obtain ⟨y, e1, q1⟩ := vals_at q hu
  obtain ⟨d, e2, r2⟩ := r.getV e1
  have hd := List.all_eq_true.mp hx d (List.mem_of_getElem? e2)
  have I' : L2.Inv C pins σ H { s with heap := h', toks := tk } := I.kept hk
  obtain ⟨bs, rd⟩ := Dp.reads I' _ _ _ (Rp.dp (K := C.K) hs hd r2) q1
  have lay := (Rp.lay hd r2).1
  have e3 := (Reads.unique rd _ _ hr).1
  have := toP_inj hd (List.all_eq_true.mp hx z hz) e3
  subst this
  exact ⟨y, q1, r2⟩
theorem ca_sorted (hu : C.A.units + 64 < cLine) {F : Hp} {m : List Addr} {M : Mem} {ds : List D} {xs : List V} {us : List Value} {pins : List (Addr × Obj)} {σ : L2.St} {H : Hp} {s : Shared} {Q : VK} (I : L2.Inv C pins σ H s) (rx : Vals xs us) (R : Mr W F m H M) (rs : Rps W F m xs [.lst ds]) (ok : srtOk ds = true)
    (k : ∀ v F' H', Xt F m H F' m H' → Mr W F' m H' M → Rp W F' m v (.lst (ds.mergeSort leO)) → Q v H') : wpAny (model C.prog C.w) C.A (call (.builtin "sorted") us) (EP C pins σ Q) C.xe s := by
  obtain ⟨v, rfl, ra⟩ := rs.one
  unfold srtOk at ok
  simp only [Bool.and_eq_true, Bool.or_eq_true] at ok
  obtain ⟨ok1, ok2⟩ := ok
  obtain ⟨hsh, hal, _⟩ := alk_all ok1
  cases ra with
  | lst h r l =>
    obtain ⟨its, rv, hl, hz⟩ := I.list (SqL.of (R.sub _ _ h))
    obtain ⟨u, rfl, ru⟩ := vals1 rx
    obtain rfl : u = Value.ref _ := ru
    refine PySem.W.sorted_data (enc := toP) (vs := its) (bs := ds) hl.isList (each_rp r rv) (each_reads I R.sub hsh r rv) hal ?_ (by rw [← r.len, ← lim_line]; exact l) (fun b hb => ?_) fun out hlen ho => ?_
    · rcases ok2 with h2 | h2
      · refine .inl fun d hd => ?_
        obtain ⟨x, hx, rfl⟩ := List.mem_map.mp hd
        have := List.all_eq_true.mp h2 x hx
        unfold neTup at this
        split at this
        · rw [toP, toPs]; exact ⟨_, _, rfl⟩
        · cases this
      · refine .inr fun d hd => ?_
        obtain ⟨x, hx, rfl⟩ := List.mem_map.mp hd
        have q1 := List.all_eq_true.mp h2 x hx
        have q2 := List.all_eq_true.mp hsh x hx
        cases x <;> simp_all [notTN, toP, shp]
    · obtain ⟨i, hi⟩ := List.getElem?_of_mem hb
      obtain ⟨y, _, ry⟩ := r.get hi
      have := (ry.lay (List.all_eq_true.mp hsh b hb)).2
      omega
    · obtain ⟨ys, q1, q2⟩ := rp_each ho
      have e0 : (List.toArray out).toList = out := by simp
      obtain ⟨ep, he'⟩ := PyProof.Rows.sortedAll_at s.heap its (List.toArray out)
      have hy : ys.length ≤ lim := by rw [q2.len, List.length_mergeSort, ← r.len]; exact l
      have hn : H (s.heap.objs.size + 1) = none := I.hok.fresh (Nat.le_succ _)
      have fr := R.fresh (o := .lst ys) hn
      exact ⟨.ref _, upd H (s.heap.objs.size + 1) (.lst ys), I.laid (t' := s.toks) (fun _ _ => PyProof.Rows.sortedAll_old) (Nat.le_succ _) ⟨by rw [← lim_line]; exact hy, out, ep, q1, he'⟩, rfl, k _ _ _ fr.2 fr.1 (rp_fresh_lst R.sub hn q2 hy)⟩
theorem ca_minL (hc : C.calm = true) (hu : C.A.units + 64 < cLine) {F : Hp} {m : List Addr} {M : Mem} {x : D} {ds : List D} {xs : List V} {us : List Value} {pins : List (Addr × Obj)} {σ : L2.St} {H : Hp} {s : Shared} {Q : VK} (I : L2.Inv C pins σ H s) (rx : Vals xs us) (R : Mr W F m H M) (rs : Rps W F m xs [.lst (x :: ds)]) (ok : alkOk (x :: ds) = true)
    (k : ∀ v, Rp W F m v (minO x ds) → Q v H) : wpAny (model C.prog C.w) C.A (call (.builtin "min") us) (EP C pins σ Q) C.xe s := by
  obtain ⟨v, rfl, ra⟩ := rs.one
  obtain ⟨hsh, hal, hal2⟩ := alk_all ok
  cases ra with
  | lst h r l =>
    obtain ⟨its, rv, hl, hz⟩ := I.list (SqL.of (R.sub _ _ h))
    obtain ⟨u, rfl, ru⟩ := vals1 rx
    obtain rfl : u = Value.ref _ := ru
    obtain ⟨as, hr⟩ := Dp.readsAll I (toPs (x :: ds)) _ its (Rps.dp (K := C.K) R.sub (n := 8) (by simpa using hsh) r) rv
    have hd := depth_all hsh r
    rw [toPs] at hr hal2 hd
    refine PySem.W.min_list_data (I.ok.hd hc) hl.isList (by simpa using hr) hal2 (by omega) fun i u h' tk bs hi hr2 hk => ?_
    rw [← minO_toP] at hr2
    obtain ⟨y, q1, q2⟩ := best_at (tk := tk) I R.sub hsh r rv (by simpa using hi) (minO_mem ds x) hk hr2
    exact ⟨y, H, I.kept hk, q1, k y q2⟩
theorem ca_maxL (hc : C.calm = true) (hu : C.A.units + 64 < cLine) {F : Hp} {m : List Addr} {M : Mem} {x : D} {ds : List D} {xs : List V} {us : List Value} {pins : List (Addr × Obj)} {σ : L2.St} {H : Hp} {s : Shared} {Q : VK} (I : L2.Inv C pins σ H s) (rx : Vals xs us) (R : Mr W F m H M) (rs : Rps W F m xs [.lst (x :: ds)]) (ok : alkOk (x :: ds) = true)
    (k : ∀ v, Rp W F m v (maxO x ds) → Q v H) : wpAny (model C.prog C.w) C.A (call (.builtin "max") us) (EP C pins σ Q) C.xe s := by
  obtain ⟨v, rfl, ra⟩ := rs.one
  obtain ⟨hsh, hal, hal2⟩ := alk_all ok
  cases ra with
  | lst h r l =>
    obtain ⟨its, rv, hl, hz⟩ := I.list (SqL.of (R.sub _ _ h))
    obtain ⟨u, rfl, ru⟩ := vals1 rx
    obtain rfl : u = Value.ref _ := ru
    obtain ⟨as, hr⟩ := Dp.readsAll I (toPs (x :: ds)) _ its (Rps.dp (K := C.K) R.sub (n := 8) (by simpa using hsh) r) rv
    have hd := depth_all hsh r
    rw [toPs] at hr hal2 hd
    refine PySem.W.max_list_data (I.ok.hd hc) hl.isList (by simpa using hr) hal2 (by omega) fun i u h' tk bs hi hr2 hk => ?_
    rw [← maxO_toP] at hr2
    obtain ⟨y, q1, q2⟩ := best_at (tk := tk) I R.sub hsh r rv (by simpa using hi) (maxO_mem ds x) hk hr2
    exact ⟨y, H, I.kept hk, q1, k y q2⟩
theorem csS_cpsS (a : Cs) : (csS a).cps.toList = a := by simp [csS]
theorem ca_bi (kd : Bi) (hc : C.calm = true) (hu : C.A.units + 64 < cLine) (hW : ∀ a ns, W.sq a ns → SqK C.K a (ns.map V.int)) : CallR C (biV kd) (rCa W fun M ds => biD M kd ds) := by
  intro pins s σ H xs us Q I rx ⟨F, m, M, ds, d, R, rs, e, k⟩
  replace e : biD M kd ds = some d := e
  have now : ∀ w, Rp W F m w d → Q w H := fun w q => k w F H (Xt.refl _ _ _) R q
  unfold biD at e
  split at e <;> split at e <;> (try (cases e; done))
  · rename_i a
    obtain ⟨v, rfl, ra⟩ := rs.one
    cases h : lenD M a with
    | none => rw [h] at e; cases e
    | some n =>
      rw [h] at e; cases e
      exact len_any I rx R ra h (now _ (.int _))
  · cases e
    obtain ⟨v, rfl, ra⟩ := rs.one
    cases ra
    exact call_int1 pins s σ H _ us Q I rx (.inl ⟨_, rfl, now _ (.int _)⟩)
  · cases e
    obtain ⟨v, rfl, ra⟩ := rs.one
    cases ra
    exact call_int1 pins s σ H _ us Q I rx (.inr ⟨_, rfl, now _ (.int _)⟩)
  · split at e <;> (try (cases e; done))
    rename_i a hl
    obtain ⟨v, rfl, ra⟩ := rs.one
    cases h : intText? (csS a) with
    | none => rw [h] at e; cases e
    | some n =>
      rw [h] at e; cases e
      cases ra with
      | str h1 h2 => exact call_int_str pins s σ H _ us Q I rx ⟨_, _, rfl, h, by rw [csS_len]; exact hl, now _ (.int _)⟩
  · split at e <;> cases e
    rename_i hl
    obtain ⟨v, rfl, ra⟩ := rs.one
    cases ra
    refine call_str_int pins s σ H _ us Q I rx ⟨_, rfl, hl.1, ?_⟩
    rw [← strI_ok]
    exact now _ (.str hl.2.1 hl.2.2)
  · rename_i ys
    obtain ⟨v, rfl, ra⟩ := rs.one
    cases h : intsOf ys with
    | none => rw [h] at e; cases e
    | some ns =>
      rw [h] at e; cases e
      cases ra with
      | lst h1 r l =>
        rw [r.ints_of h] at h1
        exact cr_sum hc pins s σ H _ us Q I rx ⟨_, ns, rfl, SqL.of (R.sub _ _ h1), now _ (.int _)⟩
  · cases e
    obtain ⟨v, rfl, ra⟩ := rs.one
    cases ra
    exact call_abs pins s σ H _ us Q I rx ⟨_, rfl, now _ (.int _)⟩
  · cases e
    obtain ⟨v, rfl, ra⟩ := rs.one
    cases ra with
    | lst h1 r l => exact call_tuple_of pins s σ H _ us Q I rx ⟨_, _, rfl, .inl ⟨SqL.of (R.sub _ _ h1), done_tup R r l k⟩⟩
  · cases e
    obtain ⟨v, rfl, ra⟩ := rs.one
    cases ra with
    | tup h1 r l => exact call_tuple_of pins s σ H _ us Q I rx ⟨_, _, rfl, .inr ⟨SqT.of (R.sub _ _ h1), now _ (.tup h1 r l)⟩⟩
  · cases e
    obtain ⟨v, rfl, ra⟩ := rs.one
    cases ra with
    | lst h1 r l => exact call_list_of pins s σ H _ us Q I rx ⟨_, _, rfl, .inl (SqL.of (R.sub _ _ h1)), done_lst R r l k⟩
  · cases e
    obtain ⟨v, rfl, ra⟩ := rs.one
    cases ra with
    | tup h1 r l => exact call_list_of pins s σ H _ us Q I rx ⟨_, _, rfl, .inr (SqT.of (R.sub _ _ h1)), done_lst R r l k⟩
  · cases e
    obtain ⟨v, rfl, ra⟩ := rs.one
    cases ra with
    | scr h1 l => exact call_list_of pins s σ H _ us Q I rx ⟨_, _, rfl, .inl (scr_sq hW R.sub h1), done_lst R (Rps.ints _) (by rw [List.length_map]; exact l) k⟩
  · cases e
    obtain ⟨v, w, rfl, ra, rb⟩ := rs.two
    cases ra; cases rb
    exact call_max2 hc pins s σ H _ us Q I rx ⟨_, _, rfl, now _ (.int _)⟩
  · cases e
    obtain ⟨v, w, rfl, ra, rb⟩ := rs.two
    rename_i a b
    cases ra with
    | str h1 h2 =>
      cases rb with
      | str h3 h4 =>
        refine call_max2S hc pins s σ H _ us Q I rx ⟨_, _, rfl, ?_⟩
        rw [csS_cpsS, csS_cpsS]
        have e0 := ltS_eq a b
        by_cases hab : a < b
        · rw [decide_eq_true hab] at e0
          rw [if_pos hab]
          have := now _ (show Rp W F m (.str (csS b)) (.str (if ltS a b = true then b else a)) by rw [if_pos e0]; exact .str h3 h4)
          exact this
        · rw [decide_eq_false hab] at e0
          rw [if_neg hab]
          exact now _ (show Rp W F m (.str (csS a)) (.str (if ltS a b = true then b else a)) by rw [if_neg (by rw [e0]; decide)]; exact .str h1 h2)
  · cases e
    obtain ⟨v, w, rfl, ra, rb⟩ := rs.two
    cases ra; cases rb
    exact call_min2 hc pins s σ H _ us Q I rx ⟨_, _, rfl, now _ (.int _)⟩
  · cases e
    obtain ⟨v, w, rfl, ra, rb⟩ := rs.two
    rename_i a b
    cases ra with
    | str h1 h2 =>
      cases rb with
      | str h3 h4 =>
        refine call_min2S hc pins s σ H _ us Q I rx ⟨_, _, rfl, ?_⟩
        rw [csS_cpsS, csS_cpsS]
        have e0 := ltS_eq b a
        by_cases hab : b < a
        · rw [decide_eq_true hab] at e0
          rw [if_pos hab]
          exact now _ (show Rp W F m (.str (csS b)) (.str (if ltS b a = true then b else a)) by rw [if_pos e0]; exact .str h3 h4)
        · rw [decide_eq_false hab] at e0
          rw [if_neg hab]
          exact now _ (show Rp W F m (.str (csS a)) (.str (if ltS b a = true then b else a)) by rw [if_neg (by rw [e0]; decide)]; exact .str h1 h2)
  · split at e <;> cases e
    rename_i ok
    exact ca_sorted hu I rx R rs ok k
  · split at e <;> cases e
    rename_i ok
    exact ca_maxL hc hu I rx R rs ok now
  · split at e <;> cases e
    rename_i ok
    exact ca_minL hc hu I rx R rs ok now
def rMe (W : Wd) (g : Mem → D → List D → Option D) : V → List V → Hp → VK → Prop := fun x xs H Q => ∃ F m M a ds d, Mr W F m H M ∧ Rp W F m x a ∧ Rps W F m xs ds ∧ g M a ds = some d ∧
  ∀ v F' H', Xt F m H F' m H' → Mr W F' m H' M → Rp W F' m v d → Q v H'
theorem joinS_eq (a : Cs) : ∀ ys : List Cs, csS (joinS a ys) = Str.join (csS a) (ys.map csS)
  | [] => rfl
  | [x] => rfl
  | x :: y :: r => by
    have ih := joinS_eq a (y :: r)
    show csS (x ++ a ++ joinS a (y :: r)) = csS x ++ csS a ++ Str.join (csS a) ((y :: r).map csS)
    rw [← ih, csS_app, csS_app]
theorem joinS_len (a : Cs) : ∀ ys : List Cs, (joinS a ys).length ≤ (ys.map (·.length)).sum + ys.length * a.length
  | [] => by simp [joinS]
  | [x] => by simp [joinS]
  | x :: y :: r => by
    have ih := joinS_len a (y :: r)
    simp only [joinS, List.length_append, List.map_cons, List.sum_cons, List.length_cons, Nat.add_mul, Nat.one_mul] at ih ⊢
    omega
theorem joinS_all (a : Cs) (p : Nat → Bool) (ha : a.all p = true) : ∀ ys : List Cs, (∀ y ∈ ys, y.all p = true) → (joinS a ys).all p = true
  | [], _ => rfl
  | [x], h => h x List.mem_cons_self
  | x :: y :: r, h => by
    have ih := joinS_all a p ha (y :: r) fun z hz => h z (List.mem_cons_of_mem _ hz)
    simp only [joinS, List.all_append, Bool.and_eq_true]
    exact ⟨⟨h x List.mem_cons_self, ha⟩, ih⟩
theorem me_join : MtR C "str.join" (rMe W fun M a ds => meD M .join a ds) := by
  intro pins s σ H x xs v us Q I rx rxs ⟨F, m, M, a, ds, d, R, ra, rs, e, k⟩
  replace e : meJoin a ds = some d := e
  unfold meJoin at e
  split at e <;> (try (cases e; done))
  rename_i a ys
  cases h : strsOf ys with
  | none => rw [h] at e; cases e
  | some zs =>
    rw [h] at e
    dsimp only at e
    split at e <;> cases e
    rename_i hl
    obtain ⟨w, rfl, rb⟩ := rs.one
    cases ra with
    | str h1 h2 =>
      cases rb with
      | lst h3 r l =>
        have e1 := r.strs_of h
        have e2 := r.strs_ok h
        subst e1
        have key : ((zs.map csS).map (·.length)).sum + (zs.map csS).length * (csS a).length = (zs.map (·.length)).sum + zs.length * a.length := by
          rw [List.map_map, List.length_map, csS_len]
          congr 2
        refine mt_join pins s σ H _ _ v us Q I rx rxs ⟨_, _, zs.map csS, rfl, rfl, .inl (SqL.of (R.sub _ _ h3)), by rw [key]; exact hl, ?_⟩
        rw [TL.join_eq, ← joinS_eq]
        exact k _ F H (Xt.refl _ _ _) R (.str (Nat.le_trans (joinS_len _ _) hl) (joinS_all _ _ h2 _ fun y hy => (e2 y hy).2))
theorem strs_rep {F : Hp} {m : List Addr} : ∀ {zs : List Str}, (∀ z ∈ zs, z.length ≤ lim ∧ z.cps.toList.all (· < 0x110000) = true) → Rps W F m (zs.map V.str) ((zs.map fun z => z.cps.toList).map D.str)
  | [], _ => .nil
  | z :: zs, h => by
    have h1 := h z List.mem_cons_self
    refine .cons ?_ (strs_rep fun y hy => h y (List.mem_cons_of_mem _ hy))
    have := Rp.str (W := W) (F := F) (m := m) (s := z.cps.toList) (by rw [← csS_len, csS_of]; exact h1.1) h1.2
    rw [csS_of] at this
    exact this
theorem me_split : MtR C "str.split" (rMe W fun M a ds => meD M .split a ds) := by
  intro pins s σ H x xs v us Q I rx rxs ⟨F, m, M, a, ds, d, R, ra, rs, e, k⟩
  replace e : meSplit a ds = some d := e
  unfold meSplit at e
  split at e <;> (try (cases e; done))
  rename_i a b
  split at e <;> cases e
  rename_i hc
  obtain ⟨h1, h2, h3, h4⟩ := hc
  obtain ⟨w, rfl, rb⟩ := rs.one
  cases ra with
  | str g1 g2 =>
    cases rb with
    | str g3 g4 =>
      refine mt_split pins s σ H _ _ v us Q I rx rxs ⟨_, _, rfl, rfl, by rw [csS_len]; simp only [beq_eq_false_iff_ne]; exact h1, by rw [csS_len, ← lim_line]; exact h2, ?_⟩
      have hz : ∀ z ∈ Txt.split (csS a) (csS b), z.length ≤ lim ∧ z.cps.toList.all (· < 0x110000) = true := fun z hz => by
        have := List.all_eq_true.mp h4 z.cps.toList (List.mem_map.mpr ⟨z, hz, rfl⟩)
        simp only [Bool.and_eq_true, decide_eq_true_eq] at this
        exact ⟨by rw [← csS_of z, csS_len]; exact this.1, this.2⟩
      exact fun p hp => done_lst R (strs_rep hz) (by rw [List.length_map]; unfold splitS at h3; rw [List.length_map] at h3; exact h3) k p hp
theorem me_rstrip : MtR C "str.rstrip" (rMe W fun M a ds => meD M .rstrip a ds) := by
  intro pins s σ H x xs v us Q I rx rxs ⟨F, m, M, a, ds, d, R, ra, rs, e, k⟩
  replace e : meRstrip a ds = some d := e
  unfold meRstrip at e
  split at e <;> (try (cases e; done))
  rename_i a
  split at e <;> cases e
  rename_i hc
  obtain ⟨h1, h2, h3⟩ := hc
  cases rs
  cases ra with
  | str g1 g2 =>
    refine mt_rstrip pins s σ H _ _ v us Q I rx rxs ⟨_, rfl, rfl, by rw [csS_len, ← lim_line]; exact h1, ?_⟩
    have := Rp.str (W := W) (F := F) (m := m) h2 h3
    rw [show csS (rstripS a) = Txt.rstrip (csS a) from csS_of _] at this
    exact k _ F H (Xt.refl _ _ _) R this
theorem me_index (hu : C.A.units + 65 < cLine) : MtR C "list.index" (rMe W fun M a ds => meD M .index a ds) := by
  intro pins s σ H x xs v us Q I rx rxs ⟨F, m, M, a, ds, d, R, ra, rs, e, k⟩
  replace e : meIndex a ds = some d := e
  unfold meIndex at e
  split at e <;> (try (cases e; done))
  rename_i zs y
  split at e <;> (try (cases e; done))
  rename_i hs
  simp only [Bool.and_eq_true] at hs
  obtain ⟨j, e1, rfl⟩ := Option.map_eq_some_iff.mp e
  obtain ⟨w, rfl, rb⟩ := rs.one
  obtain ⟨hj, e2, e3⟩ := List.findIdx?_eq_some_iff_getElem.mp e1
  have dl := Rp.dp (K := C.K) R.sub hs.1 ra
  have dy := Rp.dp (K := C.K) R.sub hs.2 rb
  have sl := ra.shaped hs.1
  have sy := rb.shaped hs.2
  have hz : zs.all (shp 39) = true := hs.1
  have at_ : ∀ i (hi : i < zs.length), (toPs zs)[i]? = some (toP zs[i]) := fun i hi => by rw [toPs_map, List.getElem?_map, List.getElem?_eq_getElem hi]; rfl
  have eq_ : ∀ i (hi : i < zs.length), PyData.eqv (toP zs[i]) (toP y) = D.eqv zs[i] y := fun i hi => eqv_toP (List.all_eq_true.mp hz _ (List.getElem_mem hi)) hs.2
  cases ra with
  | lst h r l =>
    have e0 : toP (.lst zs) = .list (toPs zs) := by unfold toP; rfl
    rw [e0] at dl sl
    refine mt_indexD hu pins s σ H _ _ v us Q I rx rxs ⟨_, w, toP y, toPs zs, j, toP zs[j], rfl, rfl, dl, dy, sl, sy, at_ j hj, by rw [eq_ j hj]; exact e2, fun i z' hi hz' => ?_, k _ F H (Xt.refl _ _ _) R (.int _)⟩
    have hil : i < zs.length := by omega
    rw [at_ i hil] at hz'
    cases hz'
    rw [eq_ i hil]
    have := e3 i hi
    simpa using this
theorem me_count : MtR C "list.count" (rMe W fun M a ds => meD M .count a ds) := by
  intro pins s σ H x xs v us Q I rx rxs ⟨F, m, M, a, ds, d, R, ra, rs, e, k⟩
  replace e : meCount a ds = some d := e
  unfold meCount at e
  split at e <;> (try (cases e; done))
  obtain ⟨ns, e1, rfl⟩ := Option.map_eq_some_iff.mp e
  obtain ⟨w, rfl, rb⟩ := rs.one
  cases rb
  cases ra with
  | lst h r l =>
    rw [r.ints_of e1] at h
    exact mt_lcount pins s σ H _ _ v us Q I rx rxs ⟨_, ns, _, rfl, rfl, SqL.of (R.sub _ _ h), k _ F H (Xt.refl _ _ _) R (.int _)⟩
theorem tru_at {K : PySem.W.Frag} {F : Hp} {m : List Addr} {H : Hp} {M : Mem} {x : V} {a : D} {b : Bool} (R : Mr W F m H M) (r : Rp W F m x a) (e : tru M a = some b) : TruV K x H b := by
  cases r with
  | non => cases e; rfl
  | bl k => cases e; rfl
  | int i => cases e; rfl
  | str h1 h2 =>
    cases e
    refine ⟨by rw [csS_len, ← lim_line]; exact h1, ?_⟩
    rw [csS_len]
    cases ‹Cs› with
    | nil => rfl
    | cons a l =>
      have : ((l.length : Int) + 1 != 0) = true := by simp; omega
      simpa using this.symm
  | tup h1 r l =>
    cases e
    refine .inr (.inl ⟨_, SqT.of (R.sub _ _ h1), ?_⟩)
    cases r <;> rfl
  | lst h1 r l =>
    cases e
    refine .inl ⟨_, SqL.of (R.sub _ _ h1), ?_⟩
    cases r <;> rfl
  | scr h1 l => cases e
  | dk => cases e
  | dt => cases e
  | obj => cases e
  | fn => cases e
  | hnd => cases e
end
end Oc
namespace Oc
open L2 PySem PySem.Spec PyProof.Rows
/-- an exception of the class k with its fields -/
def ErR (W : Wd) (F : Hp) (m : List Addr) (H : Hp) (k : Nat) (fs : List D) (cls : Value) (dd : Option Addr) : Prop :=
  cls = .ref (W.ca k) ∧ match fs with
    | [] => dd = none
    | _ => ∃ d fvs, dd = some d ∧ H d = some (.xd ((W.er k).zip fvs)) ∧ Rps W F m fvs fs
/-- what is wished of a result, from a state on -/
def EQ {α : Type} (W : Wd) (F : Hp) (m : List Addr) (H : Hp) (Ex : Value → Option Addr → Hp → Prop) (K : Mem → α → Hp → List Addr → Hp → Prop) : R α → Prop
  | .ok M d => ∀ F' m' H', Xt F m H F' m' H' → Mr W F' m' H' M → K M d F' m' H'
  | .er M k fs => ∀ F' m' H' cls dd, Xt F m H F' m' H' → Mr W F' m' H' M → ErR W F' m' H' k fs cls dd → Ex cls dd H'
  | .st => False
section
variable {α β : Type} {W : Wd} {F F1 : Hp} {m m1 : List Addr} {H H1 : Hp} {Ex : Value → Option Addr → Hp → Prop} {K K' : Mem → α → Hp → List Addr → Hp → Prop} {M : Mem}
theorem EQ.fwd {x : R α} (a : Xt F m H F1 m1 H1) (h : EQ W F m H Ex K x) : EQ W F1 m1 H1 Ex K x := by
  cases x with
  | ok M d => exact fun F' m' H' b r => h F' m' H' (a.trans b) r
  | er M k fs => exact fun F' m' H' c d b r q => h F' m' H' c d (a.trans b) r q
  | st => exact h
theorem EQ.mono {x : R α} (h : EQ W F m H Ex K x) (k : ∀ M d F' m' H', Xt F m H F' m' H' → Mr W F' m' H' M → K M d F' m' H' → K' M d F' m' H') : EQ W F m H Ex K' x := by
  cases x with
  | ok M d => exact fun F' m' H' b r => k M d F' m' H' b r (h F' m' H' b r)
  | er M k fs => exact h
  | st => exact h
theorem EQ.bind {x : R α} {f : Mem → α → R β} {K : Mem → β → Hp → List Addr → Hp → Prop} (h : EQ W F m H Ex K (x.bind f)) : EQ W F m H Ex (fun M d F' m' H' => EQ W F' m' H' Ex K (f M d)) x := by
  cases x with
  | ok M d => exact fun F' m' H' b r => EQ.fwd b h
  | er M k fs => exact h
  | st => exact h
theorem EQ.now {d : α} (h : EQ W F m H Ex K (.ok M d)) (R : Mr W F m H M) : K M d F m H := h F m H (Xt.refl _ _ _) R
end
/-- an expression's reading -/
def tE (W : Wd) (X : Fx) (Ex : WX) (c : E) : TE := fun σ H Q => ∃ F m M r, Rl W F m H M σ r ∧ EQ W F m H (fun cls dd H' => Ex cls dd σ H') (fun _ d F' m' H' => ∀ v, Rp W F' m' v d → Q v H') (ev X c M r)
/-- an argument list's -/
def tA (W : Wd) (X : Fx) (Ex : WX) (c : E) : TA := fun σ H Q => ∃ F m M r, Rl W F m H M σ r ∧ EQ W F m H (fun cls dd H' => Ex cls dd σ H') (fun _ d F' m' H' => ∀ ds, d = .tup ds → ∀ vs, Rps W F' m' vs ds → Q vs H') (ev X c M r)
/-- a test's -/
def tT (W : Wd) (X : Fx) (Ex : WX) (c : E) : TT := fun σ H Q => ∃ F m M r, Rl W F m H M σ r ∧ EQ W F m H (fun cls dd H' => Ex cls dd σ H') (fun _ b _ _ H' => Q b H') (evB X c M r)
/-- a new thing at p, nobody else's -/
def FrR (W : Wd) (F : Hp) (m : List Addr) (H : Hp) (p : Addr) : D → Prop
  | .lst ds => ∃ vs, H p = some (.lst vs) ∧ Rps W F m vs ds ∧ vs.length ≤ lim
  | .dk l ks ds => l = false ∧ ∃ kvs, H p = some (.dK kvs) ∧ kvs.map (·.1) = ks.map kyK ∧ (∀ k ∈ ks, kyG k) ∧ Rps W F m (kvs.map (·.2)) ds ∧ kvs.length ≤ lim
  | .dt l ks ds => l = false ∧ ∃ kvs, H p = some (.dT kvs) ∧ kvs.map (·.1) = ks.map (·.map kyK) ∧ (∀ k ∈ ks, k.length ≤ lim ∧ ∀ y ∈ k, kyG y) ∧ Rps W F m (kvs.map (·.2)) ds ∧ kvs.length ≤ lim
  | _ => False
/-- the reading of an expression that makes a new list or dict -/
def tO (W : Wd) (X : Fx) (Ex : WX) (c : E) : TE := fun σ H Q => ∃ F m M r, Rl W F m H M σ r ∧ EQ W F m H (fun cls dd H' => Ex cls dd σ H')
  (fun _ d F' m' H' => ∀ p, F' p = none → p ∉ m' → H p = none → FrR W F' m' H' p d → Q (.ref p) H') (ev X c M r)
/-- at turn i the i-th of xs comes -/
structure Wk (W : Wd) (F : Hp) (m : List Addr) (J : It) (xs : List D) : Prop where
  go : ∀ (i : Nat) (H : Hp), (∀ a o, F a = some o → H a = some o) → i < xs.length → J.go i H
  stop : ∀ (H : Hp), (∀ a o, F a = some o → H a = some o) → J.stop xs.length H
  yld : ∀ (i : Nat) (d : D) (v : V) (F1 : Hp) (m1 : List Addr) (H H' : Hp) (M : Mem), (∀ a o, F a = some o → F1 a = some o) → (∀ (k : Nat) (p : Addr), m[k]? = some p → m1[k]? = some p) → Mr W F1 m1 H M → xs[i]? = some d → J.yld i H v H' →
    ∃ F2, Xt F1 m1 H F2 m1 H' ∧ Mr W F2 m1 H' M ∧ Rp W F2 m1 v d
/-- what is walked -/
def tI (W : Wd) (X : Fx) (Ex : WX) (c : E) : TI := fun σ H R => ∃ F m M r, Rl W F m H M σ r ∧ EQ W F m H (fun cls dd H' => Ex cls dd σ H')
  (fun _ d F' m' H' => ∃ xs, itms d = some xs ∧ (xs.length ≤ lim → ∀ J, Wk W F' m' J xs → R J H')) (ev X c M r)
inductive Tg where
  | e (x : Expr) | l (xs : List Expr) | i (tp : Bool) (x : Expr)
def Tg.pl : Tg → Option Expr
  | .e x => some x
  | .i _ x => some x
  | .l _ => none
def isTupE : Expr → Bool
  | .Tuple _ _ _ => true
  | _ => false
/-- what stands in the text beside the defs: the numbers of defs that stand, of those called by name; int constants; built-in names that are nobody's own; classes' names; properties' names -/
structure Tb where
  av : Nat → Bool
  top : Nat → Bool
  cns : List (Str × Int)
  blt : List Str
  cl : Nat → Option Str
  prp : Nat → Nat → Option Str
  exc : Nat → Option Str
  exi : Nat → Bool
  fls : List Str
  eq : Nat → Bool
  lam : List Str → Bool
  mth : Nat → Nat → Option Str
  exn : Nat → List Str
  exx : Bool
def okNm (x : Str) : Bool := !(x == ("__debug__" : Str)) && !(x == ("__classdict__" : Str)) && !(x == ("__name__" : Str))
def visB (sc : Scope) (x : Str) : Bool := match sc.names.lookup x with
  | some .local | some .cell | some .free => true
  | _ => false
def glB (sc : Scope) (x : Str) : Bool := match sc.names.lookup x with
  | some .globalImplicit => true
  | _ => false
def locB (sc : Scope) (x : Str) : Bool := match sc.names.lookup x with
  | some .local | some .cell => true
  | _ => false
def lclB (sc : Scope) (x : Str) : Bool := match sc.names.lookup x with
  | some .local => true
  | _ => false
def notStar : Expr → Bool
  | .Starred _ _ => false
  | _ => true
def notSet : Expr → Bool
  | .Set _ _ _ => false
  | _ => true
def notSlice : Expr → Bool
  | .Slice _ _ _ _ => false
  | _ => true
def okBase : Expr → Bool
  | .Call _ [] [] _ => false
  | _ => true
def isNilE : E → Bool
  | .nil => true
  | _ => false
def biN : Bi → Str
  | .len => "len" | .int => "int" | .str => "str" | .sum => "sum" | .abs => "abs" | .tuple => "tuple" | .list => "list"
  | .max2 => "max" | .min2 => "min" | .sorted => "sorted" | .maxL => "max" | .minL => "min"
def clN : Cl → Option Str
  | .int => some "int" | .bool => some "bool" | .str => some "str" | .tuple => some "tuple" | .list => some "list" | .own _ => none
def opB : O2 → Operator → Bool
  | .add, .Add | .sub, .Sub | .mul, .Mult | .fdiv, .FloorDiv | .mod, .Mod | .pow, .Pow | .shl, .LShift | .shr, .RShift | .band, .BitAnd => true
  | _, _ => false
def cmB : CO → CmpOp → Bool
  | .lt, .Lt | .le, .LtE | .gt, .Gt | .ge, .GtE | .eq, .Eq | .ne, .NotEq | .inn, .In | .nin, .NotIn | .is, .Is | .isN, .IsNot => true
  | _, _ => false
def ownP (N : List Str) (own : List Nat) : List (Str × Nat) := own.map fun i => (N.getD i Str.empty, i)
/-- a lambda's parameters: one -/
def par1 (x : Str) (a : Arguments) : Bool := a.posonlyargs.isEmpty && a.vararg.isNone && a.kwonlyargs.isEmpty && a.kw_defaults.isEmpty && a.kwarg.isNone && a.defaults.isEmpty && (match a.args with | [y] => decide (y.arg = x) && y.annotation.isNone | _ => false)
def lamSc (sc : Scope) : Bool := (match sc.kind with | .function => true | _ => false) && !sc.isCoroutine && !sc.isGenerator && sc.names.all fun z => match z.2 with | .free | .cell => false | _ => true
def locOnce (sc : Scope) : Bool := sc.names.all fun z => match z.2 with | .local => decide (sc.names.lookup z.1 = some .local) | _ => true
def lsKey (sc sc2 : Scope) (sm ab y y2 x x2 : Str) (ps : Arguments) : Bool :=
  decide (x = ("weights" : Str)) && decide (x2 = ("weights" : Str)) && decide (y = ("weight" : Str)) && decide (y2 = ("weight" : Str)) && decide (sm = ("sum" : Str)) && decide (ab = ("abs" : Str)) && par1 ("weights" : Str) ps && lamSc sc && lamSc sc2 && locOnce sc2 &&
      lclB sc ("weights" : Str) && glB sc ("sum" : Str) && lclB sc2 ("weight" : Str) && glB sc2 ("abs" : Str)
def nmV : Expr → Option Str
  | .Name x _ => some x
  | _ => none
def callV : Expr → Option (Expr × Expr)
  | .Call f [a] [] _ => some (f, a)
  | _ => none
def lcV : Expr → Option (Expr × Expr × Expr × Scope)
  | .ListComp e [⟨t, i, [], 0⟩] s _ => some (e, t, i, s)
  | _ => none
def lamV : Expr → Option (Arguments × Expr × Expr × Scope)
  | .Lambda ps (.Tuple [a, b] _ _) s _ => some (ps, a, b, s)
  | _ => none
theorem nmV_ok {e : Expr} {x : Str} (h : nmV e = some x) : ∃ p, e = .Name x p := by
  unfold nmV at h
  split at h <;> cases h
  exact ⟨_, rfl⟩
theorem callV_ok {e f a : Expr} (h : callV e = some (f, a)) : ∃ p, e = .Call f [a] [] p := by
  unfold callV at h
  split at h <;> cases h
  exact ⟨_, rfl⟩
theorem lcV_ok {e f t i : Expr} {s : Scope} (h : lcV e = some (f, t, i, s)) : ∃ p, e = .ListComp f [⟨t, i, [], 0⟩] s p := by
  unfold lcV at h
  split at h <;> cases h
  exact ⟨_, rfl⟩
theorem lamV_ok {e a b : Expr} {ps : Arguments} {s : Scope} (h : lamV e = some (ps, a, b, s)) : ∃ p k q, e = .Lambda ps (.Tuple [a, b] p k) s q := by
  unfold lamV at h
  split at h <;> cases h
  exact ⟨_, _, _, rfl⟩
def lamSort (l : Expr) : Bool :=
  match lamV l with
  | some (ps, a, b, sc) => match callV a with
    | some (f, c) => match lcV c with
      | some (d, t, i, sc2) => match callV d with
        | some (g, z) => match nmV f, nmV g, nmV z, nmV t, nmV i, nmV b with
          | some sm, some ab, some y, some y2, some x, some x2 => lsKey sc sc2 sm ab y y2 x x2 ps
          | _, _, _, _, _, _ => false
        | none => false
      | none => false
    | none => false
  | none => false
theorem lamSort_ok {l : Expr} (h : lamSort l = true) : ∃ ps sm p0 ab p1 y p2 p3 y2 p4 x p5 sc2 p6 p7 x2 p8 k p9 sc lpos, l = .Lambda ps (.Tuple [.Call (.Name sm p0) [.ListComp (.Call (.Name ab p1) [.Name y p2] [] p3) [⟨.Name y2 p4, .Name x p5, [], 0⟩] sc2 p6] [] p7, .Name x2 p8] p9 k) sc lpos ∧ lsKey sc sc2 sm ab y y2 x x2 ps = true := by
  unfold lamSort at h
  split at h <;> try (cases h; done)
  rename_i e1
  split at h <;> try (cases h; done)
  rename_i e2
  split at h <;> try (cases h; done)
  rename_i e3
  split at h <;> try (cases h; done)
  rename_i e4
  split at h <;> try (cases h; done)
  rename_i f1 f2 f3 f4 f5 f6
  obtain ⟨_, _, _, rfl⟩ := lamV_ok e1
  obtain ⟨_, rfl⟩ := callV_ok e2
  obtain ⟨_, rfl⟩ := lcV_ok e3
  obtain ⟨_, rfl⟩ := callV_ok e4
  obtain ⟨_, rfl⟩ := nmV_ok f1
  obtain ⟨_, rfl⟩ := nmV_ok f2
  obtain ⟨_, rfl⟩ := nmV_ok f3
  obtain ⟨_, rfl⟩ := nmV_ok f4
  obtain ⟨_, rfl⟩ := nmV_ok f5
  obtain ⟨_, rfl⟩ := nmV_ok f6
  exact ⟨_, _, _, _, _, _, _, _, _, _, _, _, _, _, _, _, _, _, _, _, _, rfl, h⟩
def chkNms (N : List Str) (sc : Scope) (own : Option (List Nat)) : List Nat → List Expr → Bool
  | [], [] => true
  | i :: is, .Name x _ :: es => decide (N[i]? = some x) && locB sc x && (match own with | some l => l.contains i | none => true) && chkNms N sc own is es
  | _, _ => false
def chkPt (N : List Str) (sc : Scope) (own : Option (List Nat)) : Pt → Expr → Bool
  | .nm i, .Name x _ => decide (N[i]? = some x) && locB sc x && (match own with | some l => l.contains i | none => true)
  | .tp is, .Tuple es _ _ => chkNms N sc own is es
  | _, _ => false
def chk (P : Pg) (T : Tb) (N : List Str) : E → Scope → Tg → Bool
  | .nil, _, t => (match t with | .l [] => true | _ => false)
  | .cons a l, sc, t => (match t with | .l (x :: xs) => notStar x && chk P T N a sc (.e x) && chk P T N l sc (.l xs) | _ => false)
  | .vr i, sc, t => (match t.pl with | some (.Name x _) => decide (N[i]? = some x) && visB sc x && okNm x | _ => false)
  | .brw _ e, sc, t => (match t.pl with | some x => chk P T N e sc (.e x) | none => false)
  | .gi y i, sc, t => (match t.pl with | some (.Name x _) => decide (x = y) && glB sc x && okNm x && decide ((y, i) ∈ T.cns) | _ => false)
  | .int i, sc, t => (match t.pl with | some (.Constant (.int j) _ _) => decide (i = j) | _ => false)
  | .str s, sc, t => (match t.pl with | some (.Constant (.str x) _ _) => decide (x = csS s) && decide (s.length ≤ lim) && s.all (· < 0x110000) | _ => false)
  | .bl b, sc, t => (match t.pl with | some (.Constant (.bool c) _ _) => b == c | _ => false)
  | .non, sc, t => (match t.pl with | some (.Constant .none _ _) => true | _ => false)
  | .bin o a b, sc, t => (match t.pl with | some (.BinOp x q y _) => opB o q && chk P T N a sc (.e x) && chk P T N b sc (.e y) | _ => false)
  | .neg a, sc, t => (match t.pl with | some (.UnaryOp .USub x _) => chk P T N a sc (.e x) | _ => false)
  | .not a, sc, t => (match t.pl with | some (.UnaryOp .Not x _) => chk P T N a sc (.e x) | _ => false)
  | .and a b, sc, t => (match t.pl with | some (.BoolOp .And (x :: y :: r) p) => chk P T N a sc (.e x) && (match r with | [] => chk P T N b sc (.e y) | z :: r => chk P T N b sc (.e (.BoolOp .And (y :: z :: r) p))) | _ => false)
  | .or a b, sc, t => (match t.pl with | some (.BoolOp .Or (x :: y :: r) p) => chk P T N a sc (.e x) && (match r with | [] => chk P T N b sc (.e y) | z :: r => chk P T N b sc (.e (.BoolOp .Or (y :: z :: r) p))) | _ => false)
  | .cmp o a b, sc, t => (match t.pl with | some (.Compare x [q] [y] _) => cmB o q && notSet y && chk P T N a sc (.e x) && chk P T N b sc (.e y) | _ => false)
  | .chn o q a b c, sc, t => (match t.pl with | some (.Compare x [o', q'] [y, z] _) => cmB o o' && cmB q q' && notSet z && chk P T N a sc (.e x) && chk P T N b sc (.e y) && chk P T N c sc (.e z) | _ => false)
  | .ife c a b, sc, t => (match t.pl with | some (.IfExp z x y _) => chk P T N c sc (.e z) && chk P T N a sc (.e x) && chk P T N b sc (.e y) | _ => false)
  | .tup l, sc, t => (match t.pl with | some (.Tuple es _ _) => decide (es.length ≤ 1000) && chk P T N l sc (.l es) | _ => false)
  | .lst l, sc, t => (match t.pl with | some (.List es _) => decide (es.length ≤ 1000) && chk P T N l sc (.l es) | _ => false)
  | .lc own elt pt it cd, sc, t => (match t.pl with
    | some (.ListComp x [⟨tg, iter, ifs, 0⟩] scope _) => notSet iter && chk P T N it sc (.i (isTupE tg) iter) && blkC N sc scope (ownP N own) && chkPt N scope (some own) pt tg && chk P T N elt scope (.e x) &&
      (match ifs with
        | [] => isNilE cd
        | [c] => !isNilE cd && chk P T N cd scope (.e c)
        | _ => false)
    | _ => false)
  | .cal f l, sc, t => (match t.pl with
    | some (.Call (.Name x _) (a :: as) [] _) => T.av f && T.top f && (match P.df f with | some d => decide (x = d.nm) | none => false) && glB sc x && okNm x && notStar a && chk P T N l sc (.l (a :: as))
    | _ => false)
  | .bi k l, sc, t => (match t.pl with
    | some (.Call (.Name x _) (a :: as) [] _) => decide (x = biN k) && decide (x ∈ T.blt) && glB sc x && okNm x && chk P T N l sc (.l (a :: as))
    | _ => false)
  | .me k o l, sc, t => (match t.pl with
    | some (.Call (.Attribute y x apos) [a] [] pos) => (match k with | .join => decide (x = ("join" : Str)) | .split => decide (x = ("split" : Str)) | .get1 => decide (x = ("get" : Str)) | .index => decide (x = ("index" : Str)) | .count => decide (x = ("count" : Str)) | _ => false) && okBase y && (apos.endLine == pos.line) && notStar a && chk P T N o sc (.e y) && chk P T N l sc (.l [a])
    | some (.Call (.Attribute y x apos) [a, b] [] pos) => (match k with | .get2 => decide (x = ("get" : Str)) | _ => false) && okBase y && (apos.endLine == pos.line) && notStar a && notStar b && chk P T N o sc (.e y) && chk P T N l sc (.l [a, b])
    | some (.Call (.Attribute y x apos) [] [] pos) => (match k with | .rstrip => decide (x = ("rstrip" : Str)) | _ => false) && okBase y && (apos.endLine == pos.line) && chk P T N o sc (.e y) && isNilE l
    | _ => false)
  | .isi a c, sc, t => (match t.pl with
    | some (.Call (.Name x _) [y, .Name z _] [] _) => decide (x = ("isinstance" : Str)) && decide (x ∈ T.blt) && glB sc x && notStar y && okNm z && glB sc z && chk P T N a sc (.e y) &&
      (match c with
        | .own k => decide (T.cl k = some z)
        | c => decide (clN c = some z) && decide (z ∈ T.blt))
    | _ => false)
  | .mk c l, sc, t => (match t.pl with
    | some (.Call (.Name x _) (a :: as) [] _) => decide (T.cl c = some x) && (match P.ini c with | some f => T.av f && (P.df f).isSome | none => false) && glB sc x && okNm x && notStar a && chk P T N l sc (.l (a :: as))
    | _ => false)
  | .fld a x, sc, t => (match t.pl with | some (.Attribute y z _) => decide (x = z) && decide (x ∈ T.fls) && okBase y && chk P T N a sc (.e y) | _ => false)
  | .prp a f c, sc, t => (match t.pl with | some (.Attribute y z _) => T.av f && (P.df f).isSome && (T.cl c).isSome && decide (T.prp f c = some z) && okBase y && chk P T N a sc (.e y) | _ => false)
  | .sub a i, sc, t => (match t.pl with | some (.Subscript y z _) => notSlice z && chk P T N a sc (.e y) && chk P T N i sc (.e z) | _ => false)
  | .slc a lo hi, sc, t => (match t.pl with
    | some (.Subscript y (.Slice l h none _) _) => chk P T N a sc (.e y) && (match l with | none => isNilE lo | some x => !isNilE lo && chk P T N lo sc (.e x)) && (match h with | none => isNilE hi | some x => !isNilE hi && chk P T N hi sc (.e x))
    | _ => false)
  | .rg1 a, sc, t => (match t with | .i _ (.Call (.Name x _) [y] [] _) => decide (x = ("range" : Str)) && decide (x ∈ T.blt) && glB sc x && notStar y && chk P T N a sc (.e y) | _ => false)
  | .rg2 a b, sc, t => (match t with | .i _ (.Call (.Name x _) [y, z] [] _) => decide (x = ("range" : Str)) && decide (x ∈ T.blt) && glB sc x && notStar y && notStar z && chk P T N a sc (.e y) && chk P T N b sc (.e z) | _ => false)
  | .lr1 a, sc, t => false
  | .lr2 a b, sc, t => false
  | .enu a, sc, t => (match t with | .i true (.Call (.Name x _) [y] [] _) => decide (x = ("enumerate" : Str)) && decide (x ∈ T.blt) && glB sc x && notStar y && chk P T N a sc (.e y) | _ => false)
  | .zp a b, sc, t => (match t with | .i true (.Call (.Name x _) [y, z] [] _) => decide (x = ("zip" : Str)) && decide (x ∈ T.blt) && glB sc x && notStar y && notStar z && chk P T N a sc (.e y) && chk P T N b sc (.e z) | _ => false)
  | .zp3 a b c, sc, t => (match t with | .i true (.Call (.Name x _) [y, z, u] [] _) => decide (x = ("zip" : Str)) && decide (x ∈ T.blt) && glB sc x && notStar y && notStar z && notStar u && chk P T N a sc (.e y) && chk P T N b sc (.e z) && chk P T N c sc (.e u) | _ => false)
  | .rvL a, sc, t => (match t with | .i _ (.Call (.Name x _) [y] [] _) => decide (x = ("reversed" : Str)) && decide (x ∈ T.blt) && glB sc x && notStar y && chk P T N a sc (.e y) | _ => false)
  | .rvR a, sc, t => (match t with | .i _ (.Call (.Name z _) [.Call (.Name x _) [y] [] _] [] _) => decide (z = ("reversed" : Str)) && decide (z ∈ T.blt) && glB sc z && decide (x = ("range" : Str)) && decide (x ∈ T.blt) && glB sc x && notStar y && chk P T N a sc (.e y) | _ => false)
  | .rg3 a b c, sc, t => false
  | .lc2 own own2 elt pt it pt2 it2 cd, sc, t => (match t.pl with
    | some (.ListComp x [⟨tg, iter, ifs, 0⟩, ⟨tg2, iter2, ifs2, 0⟩] scope _) => notSet iter && notSet iter2 && chk P T N it sc (.i (isTupE tg) iter) && blkC N sc scope (ownP N own) && chkPt N scope (some own) pt tg && ifs.isEmpty && chk P T N elt scope (.e x) &&
      chk P T N it2 scope (.i (isTupE tg2) iter2) && chkPt N scope (some own2) pt2 tg2 && own2.all own.contains &&
      (match ifs2 with
        | [] => isNilE cd
        | [c] => !isNilE cd && chk P T N cd scope (.e c)
        | _ => false)
    | _ => false)
  | .bln a, sc, t => (match t.pl with | some (.Call (.Attribute y x apos) [] [] pos) => decide (x = ("bit_length" : Str)) && okBase y && (apos.endLine == pos.line) && chk P T N a sc (.e y) | _ => false)
  | .fs s a u, sc, t => (match t.pl with | some (.JoinedStr [.Constant (.str x) _ _, .FormattedValue y (-1) none _, .Constant (.str z) _ _] _) => decide (x = csS s) && decide (z = csS u) && decide (s.length ≤ lim) && s.all (· < 0x110000) && u.all (· < 0x110000) && chk P T N a sc (.e y) | _ => false)
  | .rep a b, sc, t => false
  | .cat a b, sc, t => (match t.pl with | some (.BinOp x .Add y _) => chk P T N a sc (.e x) && chk P T N b sc (.e y) | _ => false)
  | .srs a, sc, t => (match t.pl with | some (.Call (.Name z _) [.Call (.Name x _) [y] [] _] [] _) => decide (z = ("sorted" : Str)) && decide (z ∈ T.blt) && glB sc z && decide (x = ("set" : Str)) && decide (x ∈ T.blt) && glB sc x && notStar y && chk P T N a sc (.e y) | _ => false)
  | .srk a, sc, t => (match t.pl with | some (.Call (.Name z _) [y] [⟨some kw, lm, _⟩] _) => T.lam N && decide (z = ("sorted" : Str)) && decide (z ∈ T.blt) && glB sc z && decide (kw = ("key" : Str)) && decide (("sum" : Str) ∈ T.blt) && decide (("abs" : Str) ∈ T.blt) && lamSort lm && notStar y && chk P T N a sc (.e y) | _ => false)
  | .mnk a, sc, t => false
  | .dnk, sc, t => (match t.pl with | some (.Dict [] [] _) => true | _ => false)
  | .dnt, sc, t => (match t.pl with | some (.Dict [] [] _) => true | _ => false)
  | .ds1 lk tp k v, sc, t => (match t.pl with | some (.Dict [some x] [y] _) => chk P T N k sc (.e x) && chk P T N v sc (.e y) | _ => false)
  | .dcp lk a, sc, t => (match t.pl with | some (.Call (.Name z _) [y] [] _) => decide (z = ("dict" : Str)) && decide (z ∈ T.blt) && glB sc z && notStar y && chk P T N a sc (.e y) | _ => false)
  | .dsp _ _, sc, t => false
  | .dco lk own k v pt it cd, sc, t => false
  | .ldk a, sc, t => (match t.pl with | some (.Call (.Name z _) [y] [] _) => decide (z = ("list" : Str)) && decide (z ∈ T.blt) && glB sc z && notStar y && chk P T N a sc (.e y) | _ => false)
  | .mdn a, sc, t => (match t.pl with | some (.Call (.Name z _) [y] [⟨some kw, .Constant .none _ _, _⟩] _) => decide (z = ("min" : Str)) && decide (z ∈ T.blt) && glB sc z && decide (kw = ("default" : Str)) && notStar y && chk P T N a sc (.e y) | _ => false)
  | .rpt a b, sc, t => false
  | .mth a f c g l, sc, t => false
  | .lno a f c, sc, t => false
  | .rps a b, sc, t => false
  | .slo a lo, sc, t => false
  | .fnm f, sc, t => false
  | .cla fs a l, sc, t => false
end Oc
namespace Oc
open L2 PySem PySem.Spec PyProof.Rows
section
variable {W : Wd} {F F1 F2 : Hp} {m m1 m2 : List Addr} {H H1 H2 : Hp} {M M1 M2 : Mem} {σ : L2.St} {r : En}
theorem OwnAt.of_set {σ : L2.St} {r : En} {i j : Nat} {v : V} {x : D} {p : Addr} (h : OwnAt (σ.set i (some v)) (setE r i x) j p) : j ≠ i ∧ OwnAt σ r j p := by
  obtain ⟨y, h1, h2, h3⟩ := h
  unfold setE at h1
  by_cases e : j = i
  · subst e
    by_cases hl : j < r.length
    · rw [List.getElem?_set_self hl] at h1
      cases h1; cases h2
    · rw [List.getElem?_eq_none (by rw [List.length_set]; omega)] at h1; cases h1
  · rw [List.getElem?_set_ne (fun z => e z.symm)] at h1 h3
    exact ⟨e, y, h1, h2, h3⟩
theorem Rl.set {v : V} {x : D} (R : Rl W F m H M σ r) (i : Nat) (rv : Rp W F m v x) : Rl W F m H M (σ.set i (some v)) (setE r i x) := by
  refine ⟨R.mr, by unfold setE; rw [List.length_set, List.length_set]; exact R.sl, fun j y h => ?_, fun j k p h1 h2 => R.di j k p h1.of_set.2 h2.of_set.2⟩
  unfold setE at h
  by_cases e : j = i
  · subst e
    by_cases hl : j < r.length
    · rw [List.getElem?_set_self hl] at h
      cases h
      exact ⟨v, List.getElem?_set_self (by rw [R.sl]; exact hl), rv⟩
    · rw [List.getElem?_eq_none (by rw [List.length_set]; omega)] at h; cases h
  · rw [List.getElem?_set_ne (fun z => e z.symm)] at h
    obtain ⟨w, h1, h2⟩ := R.sr j y h
    exact ⟨w, by rw [List.getElem?_set_ne (fun z => e z.symm)]; exact h1, h2⟩
theorem Rl.drop1 (R : Rl W F m H M σ r) (i : Nat) : Rl W F m H M (σ.set i none) (r.set i none) := by
  have key : ∀ j p, OwnAt (σ.set i none) (r.set i none) j p → OwnAt σ r j p := fun j p h => by
    obtain ⟨y, h1, h2, h3⟩ := h
    by_cases e : j = i
    · subst e
      by_cases hl : j < r.length
      · rw [List.getElem?_set_self hl] at h1; cases h1
      · rw [List.getElem?_eq_none (by rw [List.length_set]; omega)] at h1; cases h1
    · rw [List.getElem?_set_ne (fun z => e z.symm)] at h1 h3
      exact ⟨y, h1, h2, h3⟩
  refine ⟨R.mr, by rw [List.length_set, List.length_set]; exact R.sl, fun j y h => ?_, fun j k p h1 h2 => R.di j k p (key _ _ h1) (key _ _ h2)⟩
  by_cases e : j = i
  · subst e
    by_cases hl : j < r.length
    · rw [List.getElem?_set_self hl] at h; cases h
    · rw [List.getElem?_eq_none (by rw [List.length_set]; omega)] at h; cases h
  · rw [List.getElem?_set_ne (fun z => e z.symm)] at h
    obtain ⟨w, h1, h2⟩ := R.sr j y h
    exact ⟨w, by rw [List.getElem?_set_ne (fun z => e z.symm)]; exact h1, h2⟩
theorem Rl.wipe (R : Rl W F m H M σ r) : ∀ vs : List Nat, Rl W F m H M (L2.wipe σ vs) (wipE r vs)
  | [] => R
  | v :: vs => (Rl.wipe R vs).drop1 v
theorem vsl_some {i : Nat} {x : D} (h : vsl r i = some x) : r[i]? = some (some (.d x)) := by
  unfold vsl at h
  split at h
  · cases h; assumption
  · cases h
theorem Rl.var {i : Nat} {x : D} (R : Rl W F m H M σ r) (h : vsl r i = some x) : ∃ v, σ[i]? = some (some v) ∧ Rp W F m v x := R.sr i _ (vsl_some h)
theorem EQ.monoE {α : Type} {x : R α} {ex : Value → Option Addr → Hp → Prop} {K K' : Mem → α → Hp → List Addr → Hp → Prop} (h : EQ W F m H ex K x) (k : ∀ M d F' m' H', x = .ok M d → Xt F m H F' m' H' → Mr W F' m' H' M → K M d F' m' H' → K' M d F' m' H') : EQ W F m H ex K' x := by
  cases x with
  | ok M d => exact fun F' m' H' b r => k M d F' m' H' rfl b r (h F' m' H' b r)
  | er M k fs => exact h
  | st => exact h
theorem EQ.noEr {α : Type} {x : R α} {ex ex' : Value → Option Addr → Hp → Prop} {K : Mem → α → Hp → List Addr → Hp → Prop} (h : EQ W F m H ex K x.noEr) : EQ W F m H ex' K x := by
  cases x with
  | ok M d => exact h
  | er M k fs => exact h.elim
  | st => exact h
/-- the wished end of an R.opt -/
theorem EQ.opt {α : Type} {ex : Value → Option Addr → Hp → Prop} {K : Mem → α → Hp → List Addr → Hp → Prop} {o : Option α} (h : EQ W F m H ex K (R.opt M o)) : ∃ d, o = some d ∧ ∀ F' m' H', Xt F m H F' m' H' → Mr W F' m' H' M → K M d F' m' H' := by
  cases o with
  | none => exact h.elim
  | some d => exact ⟨d, rfl, h⟩
end
theorem _root_.L2.PE.wk {C : Cx} {e : Expr} {t t' : TE} (h : PE C e t) (k : ∀ σ H Q, t' σ H Q → t σ H Q) : PE C e t' := ⟨fun pins s σ H Q I q => h.run pins s σ H Q I (k σ H Q q)⟩
theorem _root_.L2.PT.wk {C : Cx} {e : Expr} {t t' : TT} (h : PT C e t) (k : ∀ σ H Q, t' σ H Q → t σ H Q) : PT C e t' := ⟨fun pins s σ H Q I q => h.run pins s σ H Q I (k σ H Q q)⟩
theorem _root_.L2.PW.wk {C : Cx} {e : Expr} {t t' : TT} (h : PW C e t) (k : ∀ σ H Q, t' σ H Q → t σ H Q) : PW C e t' := ⟨fun w pins s σ H Q I q => h.run w pins s σ H Q I (k σ H Q q)⟩
theorem _root_.L2.PA.wk {C : Cx} {e : List Expr} {t t' : TA} (h : PA C e t) (k : ∀ σ H Q, t' σ H Q → t σ H Q) : PA C e t' := ⟨fun p pins s σ H Q I q => h.run p pins s σ H Q I (k σ H Q q)⟩
theorem _root_.L2.PI.wk {C : Cx} {tg e : Expr} {t t' : TI} (h : PI C tg e t) (k : ∀ σ H Q, t' σ H Q → t σ H Q) : PI C tg e t' := ⟨fun pins s σ H Q I q => h.run pins s σ H Q I (k σ H Q q)⟩
theorem R.bind_ok {α : Type} (x : R α) : x.bind (fun M d => .ok M d) = x := by cases x <;> rfl
section
variable {W : Wd} {X : Fx} {Ex : WX} {F : Hp} {m : List Addr} {H : Hp} {M : Mem} {σ : L2.St} {r : En} {c : E} {β : Type} {ex : Value → Option Addr → Hp → Prop} {K : Mem → β → Hp → List Addr → Hp → Prop} {f : Mem → D → R β}
theorem tE_bind {Q : VK} (R : Rl W F m H M σ r) (h : EQ W F m H (fun cls dd H' => Ex cls dd σ H') K ((ev X c M r).bind f))
    (k : ∀ M1 d F1 m1 H1 v, Rl W F1 m1 H1 M1 σ r → Xt F m H F1 m1 H1 → Rp W F1 m1 v d → EQ W F1 m1 H1 (fun cls dd H' => Ex cls dd σ H') K (f M1 d) → Q v H1) : tE W X Ex c σ H Q :=
  ⟨F, m, M, r, R, (EQ.bind h).mono fun M1 d F1 m1 H1 a r1 q v rv => k M1 d F1 m1 H1 v (R.step a r1) a rv q⟩
theorem tA_bind {Q : List V → Hp → Prop} (R : Rl W F m H M σ r) (h : EQ W F m H (fun cls dd H' => Ex cls dd σ H') K ((ev X c M r).bind f))
    (k : ∀ M1 ds F1 m1 H1 vs, ev X c M r = .ok M1 (.tup ds) → Rl W F1 m1 H1 M1 σ r → Xt F m H F1 m1 H1 → Rps W F1 m1 vs ds → EQ W F1 m1 H1 (fun cls dd H' => Ex cls dd σ H') K (f M1 (.tup ds)) → Q vs H1) : tA W X Ex c σ H Q :=
  ⟨F, m, M, r, R, (EQ.bind h).monoE fun M1 d F1 m1 H1 e0 a r1 q ds e vs rv => by subst e; exact k M1 ds F1 m1 H1 vs e0 (R.step a r1) a rv q⟩
theorem tT_bind {Q : Bool → Hp → Prop} {f : Mem → Bool → R β} (R : Rl W F m H M σ r) (h : EQ W F m H (fun cls dd H' => Ex cls dd σ H') K ((evB X c M r).bind f))
    (k : ∀ M1 b F1 m1 H1, Rl W F1 m1 H1 M1 σ r → Xt F m H F1 m1 H1 → EQ W F1 m1 H1 (fun cls dd H' => Ex cls dd σ H') K (f M1 b) → Q b H1) : tT W X Ex c σ H Q :=
  ⟨F, m, M, r, R, (EQ.bind h).mono fun M1 d F1 m1 H1 a r1 q => k M1 d F1 m1 H1 (R.step a r1) a q⟩
theorem tI_bind {Q : It → Hp → Prop} (R : Rl W F m H M σ r) (h : EQ W F m H (fun cls dd H' => Ex cls dd σ H') K ((ev X c M r).bind f))
    (k : ∀ M1 d F1 m1 H1, Rl W F1 m1 H1 M1 σ r → Xt F m H F1 m1 H1 → EQ W F1 m1 H1 (fun cls dd H' => Ex cls dd σ H') K (f M1 d) → ∃ xs, itms d = some xs ∧ (xs.length ≤ lim → ∀ J, Wk W F1 m1 J xs → Q J H1)) : tI W X Ex c σ H Q :=
  ⟨F, m, M, r, R, (EQ.bind h).mono fun M1 d F1 m1 H1 a r1 q => k M1 d F1 m1 H1 (R.step a r1) a q⟩
end
theorem star_cons {e : Expr} {es : List Expr} {env : Env} (h : notStar e = true) : starEach (e :: es) env = (false, eval e env) :: starEach es env := by
  cases e <;> first | rfl | cases h
theorem star_any {P : Pg} {T : Tb} {N : List Str} {sc : Scope} {env : Env} {pos : Pos} : ∀ {l : E} {es : List Expr}, chk P T N l sc (.l es) = true → (backTo pos (starEach es env)).any (·.1) = false
  | l, [], _ => rfl
  | l, e :: es, h => by
    cases l <;> simp [chk, Tg.pl] at h
    rw [star_cons h.1.1]
    simp only [backTo, List.map_cons, List.any_cons, Bool.false_or]
    exact star_any (pos := pos) h.2
theorem base_ok {o : Expr} {x : Str} {env : Env} (h : okBase o = true) : attributeBase o x env (eval o env) = eval o env := by
  cases o <;> first | rfl | skip
  case Call f as ks pos =>
    cases f <;> first | rfl | skip
    cases as with
    | cons a as => rfl
    | nil =>
      cases ks with
      | cons k ks => rfl
      | nil => cases h
theorem plain_ix {b : Expr} (h : notSlice b = true) : PlainIx b := by
  intro o i
  cases b <;> first | rfl | cases h
theorem plain_fold {e : Expr} (h : notSet e = true) (env : Env) (x : Value) : foldedSetIterable e env x = pure x := by
  cases e <;> first | rfl | cases h
theorem mark_set {op : CmpOp} {b : Expr} (h : notSet b = true) : behindInMarks op b = false := by
  cases b <;> first | rfl | cases h
theorem cop_of {o : CO} {q : CmpOp} (h : cmB o q = true) : q = cop o := by
  cases o <;> cases q <;> first | rfl | cases h
theorem bop_of {o : O2} {q : Operator} (h : opB o q = true) : q = bop o := by
  cases o <;> cases q <;> first | rfl | cases h
end Oc
namespace Oc
open L2 PySem PySem.Spec PyProof.Rows
/-- a def's promise: what the small language computes -/
def spF (W : Wd) (P : Pg) (n f : Nat) : Sp := fun vs H Q E => ∃ F m M ds, Mr W F m H M ∧ Rps W F m vs ds ∧
  EQ W F m H E (fun _ d F' m' H' => ∀ v, Rp W F' m' v d → Q v H') (P.call n f M ds)
/-- a class of the text whose instances are made -/
structure ClsF (K : PySem.W.Frag) (mg : Str → Option Value) (C : Addr) : Prop where
  c : Cls K C
  kc : PySem.W.keepIn K (.ref C) = true
  kt : ∀ T ∈ ["NoneType", "bool", "int", "str", "tuple", "list"], PySem.W.kitOne K (.type T) (.ref C) = some false
  ks : PySem.W.kitOne K (.ref C) (.ref C) = some true
  ha : PySem.W.findIn K (.ref C) "__class__" = some (some (.builtin "object.__class__"))
  hn : PySem.W.specialIn K (.builtin "object.__class__") "__get__" = some (some (.builtin "getset_descriptor.__get__"))
  ht : PySem.W.takesIn K (.builtin "object.__class__") = some true
  hm : PySem.W.mroIn K C (.type "object") = some true
/-- a class with its own == -/
structure EqF (K : PySem.W.Frag) (C f : Addr) : Prop where
  at_ : PySem.W.findIn K (.ref C) "__eq__" = some (some (.ref f))
  fn : PySem.W.isFn K (.ref f) = true
  nt : PySem.W.subIn K (.type "tuple") (.ref C) = some false
/-- an exception class of the text without own __init__ -/
structure ExcF (K : PySem.W.Frag) (mg : Str → Option Value) (x : Str) (C : Addr) : Prop where
  g : mg x = some (.ref C)
  k : PySem.W.keepIn K (.ref C) = true
  b : PySem.W.subIn K (.ref C) (.type "BaseException") = some true
  t : PySem.W.typeIn K (.ref C) = some (.type "type")
/-- the promise of an exception's own __init__ that keeps its fields (the last one ahead) -/
def spX (C : Addr) (fs : List Str) : Sp := fun vs H Q _ => ∃ (a : Addr) (ys : List V), vs = .ref a :: ys ∧ ys.length = fs.length ∧ H a = some (exo a C none) ∧
  ∀ d H', H d = none → d ≠ a → H' a = some (exo a C (some d)) → H' d = some (exd d (fs.zip ys.reverse)) → (∀ b, b ≠ a → b ≠ d → H' b = H b) → Q .non H'
/-- an exception class of the text with an own __init__ -/
structure XinF (prog : Program) (w : World) (K : PySem.W.Frag) (mg : Str → Option Value) (base : Heap) (C : Addr) (fs : List Str) : Prop where
  ox : OexC K C
  fn : ∃ fI fd ps, ps.length = fs.length + 1 ∧ PySem.W.findIn K (.ref C) "__init__" = some (some (.ref fI)) ∧ PySem.W.typeIn K (.ref fI) = some (.type "function") ∧ FnOk prog w K mg base (L2.CX prog w) 1 fI fd ps (spX C fs) ∧ Binds K fd ps []
/-- all that the text's proofs lean on -/
structure Gt (W : Wd) (P : Pg) (T : Tb) (n : Nat) (prog : Program) (w : World) (K : PySem.W.Frag) (mg : Str → Option Value) (base : Heap) : Prop where
  fns : ∀ f d, T.av f = true → P.df f = some d → ∃ fd, FnOk prog w K mg base (L2.CX prog w) (2 * n + 2) (W.fa f) fd (d.ns.take d.np) (spF W P n f) ∧ Binds K fd (d.ns.take d.np) []
  top : ∀ f d, T.av f = true → T.top f = true → P.df f = some d → mg d.nm = some (.ref (W.fa f)) ∧ PySem.W.keepIn K (.ref (W.fa f)) = true
  cns : ∀ x i, (x, i) ∈ T.cns → ∃ t, mg x = some (.int i t)
  blt : ∀ x, x ∈ T.blt → mg x = none
  wok : ∀ c x, T.cl c = some x → W.ok c = true ∧ mg x = some (.ref (W.ca c))
  cls : ∀ c, W.ok c = true → ClsF K mg (W.ca c)
  fls : ∀ c x, W.ok c = true → x ∈ T.fls → NoAttr K (W.ca c) x
  ini : ∀ c f x, T.cl c = some x → P.ini c = some f → Mk K (W.ca c) (W.fa f)
  prp : ∀ f c x, T.prp f c = some x → ∃ p, PropOf K (W.ca c) x p (W.fa f)
  mth : ∀ f c x, T.mth f c = some x → Meth K (W.ca c) x (W.fa f)
  eqf : ∀ c f, W.ok c = true → P.eqf c = some f → T.av f = true ∧ EqF K (W.ca c) (W.fa f)
  dfs : ∀ f d, T.av f = true → P.df f = some d → d.np ≤ d.ns.length
  exc : ∀ c x, T.exc c = some x → ExcF K mg x (W.ca c)
  exo : ∀ c x, T.exc c = some x → T.exi c = true → PySem.W.excIn K (W.ca c) [.type "ValueError", .type "Exception", .type "BaseException", .type "object"] "ValueError.__new__" = true
  exm : ∀ c k b, P.exs c k = some b → PySem.W.exmOne K (.ref (W.ca c)) (.ref (W.ca k)) = some b
  sq : ∀ a ns, W.sq a ns → SqK K a (ns.map V.int)
  xin : ∀ c x, T.exc c = some x → T.exn c ≠ [] → XinF prog w K mg base (W.ca c) (T.exn c)
  xfc : ∀ c x, T.exc c = some x → T.exn c ≠ [] → XfC K (W.ca c) ∧ ∀ f ∈ T.exn c, PySem.W.findIn K (.ref (W.ca c)) f = some none
  isx : T.exx = true → ∀ c k b, P.exs c k = some b → ExcC K (W.ca c) ∧ PySem.W.kitOne K (.ref (W.ca c)) (.ref (W.ca k)) = some b
  ern : ∀ c, W.er c = T.exn c
  tbs : ∀ p ∈ W.cs, LamX.TabB base mg p.1 p.2.1
/-- the scope that runs, against the written one -/
structure ScOk (C : Cx) (sc : Scope) : Prop where
  kd : sc.kind = .function
  ek : C.env.scope.kind = .function
  vis : ∀ x, visB sc x = true → Vis C.env.scope x
  gl : ∀ x, glB sc x = true → Gl C x
  loc : ∀ x, locB sc x = true → Loc C.env.scope x ∧ (C.fn x = true ∨ C.env.scope.names.lookup x = some .local)
  lcl : ∀ x, lclB sc x = true → C.env.scope.names.lookup x = some .local
  cf : ∀ x, sc.names.lookup x = some .cell ∨ sc.names.lookup x = some .free → C.env.scope.names.lookup x = some .cell ∨ C.env.scope.names.lookup x = some .free
/-- the block's lambda: its maker's code object, its table -/
def LamAt (W : Wd) (C : Cx) : Prop := ∃ c Pt, C.env.code = .ref c ∧ (c, Pt, C.env.qual ++ "<lambda>") ∈ W.cs ∧ ∀ p ∈ W.cs, p.2.1 = Pt → p.2.2 = C.env.qual ++ "<lambda>"
structure Ct (W : Wd) (P : Pg) (T : Tb) (n : Nat) (N : List Str) (C : Cx) (sc : Scope) (Ex : WX) : Prop where
  g : Gt W P T n C.prog C.w C.K C.mg C.base
  hN : C.N = N
  nd : N.Nodup
  calm : C.calm = true
  room : Room (2 * n + 3) C.A
  tk : Takes C Ex
  so : ScOk C sc
  lam : T.lam N = true → LamAt W C
theorem takes0' {X : Cx} : Takes X (fun _ _ _ _ => False) := fun _ _ x => by
  obtain ⟨_, _, _, _, _, _, _, _, _, _, _, _, _, _, _, _, z⟩ := x
  exact z.elim
theorem lookup_relabel (env : Env) (x : Str) : ∀ names : List (Str × NameKind),
    (names.map fun (n, k) => if (k == NameKind.free && env.scope.kind == .function && env.kindOf n == some .cell) then (n, NameKind.cell) else (n, k)).lookup x =
      (names.lookup x).map fun k => if (k == NameKind.free && env.scope.kind == .function && env.kindOf x == some .cell) then NameKind.cell else k
  | [] => rfl
  | (n, k) :: r => by
    have ih := lookup_relabel env x r
    by_cases h : x = n
    · subst h
      simp only [List.map_cons]
      split
      · rename_i hc
        simp only [List.lookup, beq_self_eq_true, Option.map_some, hc, if_true]
      · rename_i hc
        simp only [List.lookup, beq_self_eq_true, Option.map_some, hc, if_false]
        rfl
    · have hb : (x == n) = false := beq_eq_false_iff_ne.mpr h
      simp only [List.map_cons]
      split
      · simp only [List.lookup, hb]; exact ih
      · simp only [List.lookup, hb]; exact ih
theorem blk_lookup {scope : Scope} {cl : List (Str × Addr)} {c0 : Addr} {env : Env} {x : Str} {k : NameKind} (h : scope.names.lookup x = some k) :
    (compEnvC scope cl c0 env).scope.names.lookup x = some (if (k == NameKind.free && env.scope.kind == .function && env.kindOf x == some .cell) then NameKind.cell else k) := by
  have := lookup_relabel env x scope.names
  rw [h] at this
  exact this
theorem ScOk.blk {C : Cx} {scope : Scope} {s : Shared} {H : Hp} {cl : List (Str × Addr)} {c0 : Addr} {fp : List Addr} (hk : scope.kind = .function) : ScOk (C.blk s H scope (compEnvC scope cl c0 C.env) fp) scope where
  kd := hk
  ek := hk
  vis := fun x h => by
    unfold visB at h
    split at h
    · rename_i e; exact .inl (blk_lookup e)
    · rename_i e; exact .inr (.inl (blk_lookup e))
    · rename_i e
      have := blk_lookup (cl := cl) (c0 := c0) (env := C.env) e
      split at this
      · exact .inr (.inl this)
      · exact .inr (.inr this)
    · cases h
  gl := fun x h => by
    unfold glB at h
    split at h
    · rename_i e; exact blk_lookup e
    · cases h
  loc := fun x h => by
    unfold locB at h
    split at h
    · rename_i e; exact ⟨.inl (blk_lookup e), .inr (blk_lookup e)⟩
    · rename_i e; exact ⟨.inr (blk_lookup e), .inl (by show (scope.names.lookup x == some NameKind.cell) = true; rw [e]; rfl)⟩
    · cases h
  lcl := fun x h => by
    unfold lclB at h
    split at h
    · rename_i e; exact blk_lookup e
    · cases h
  cf := fun x h => by
    rcases h with e | e
    · exact .inl (blk_lookup e)
    · have := blk_lookup (cl := cl) (c0 := c0) (env := C.env) e
      split at this
      · exact .inl this
      · exact .inr this
theorem blkC_ok {N : List Str} {C : Cx} {sc scope : Scope} {own : List (Str × Nat)} (so : ScOk C sc) (h : blkC N sc scope own = true) : BlkOk N C.env.scope scope own := by
  have q := blkOk_by h
  exact ⟨q.kind, q.uniq, q.ix, fun y hy e => so.cf _ (q.free y hy e), q.own⟩
section
variable {W : Wd} {P : Pg} {T : Tb} {n : Nat} {N : List Str} {C : Cx} {sc scope : Scope} {Ex : WX}
theorem Ct.blk (c : Ct W P T n N C sc Ex) (hk : scope.kind = .function) (s : Shared) (H : Hp) (c0 : Addr) (cl : List (Str × Addr)) (fp : List Addr) :
    Ct W P T n N (C.blk s H scope (compEnvC scope cl c0 C.env) fp) scope (fun _ _ _ _ => False) where
  g := c.g
  hN := c.hN
  nd := c.nd
  calm := c.calm
  room := c.room
  tk := takes0'
  so := ScOk.blk hk
  lam := c.lam
/-- names -/
theorem okNm_of {x : Str} (h : okNm x = true) : (x == ("__debug__" : Str)) = false ∧ (x == ("__classdict__" : Str)) = false ∧ x ≠ ("__name__" : Str) := by
  unfold okNm at h
  simp only [Bool.and_eq_true, Bool.not_eq_true'] at h
  exact ⟨h.1.1, h.1.2, fun e => by have := h.2; subst e; simp at this⟩
/-- targets -/
theorem pgs_ok (c : Ct W P T n N C sc Ex) {own : Option (List Nat)} : ∀ {is : List Nat} {es : List Expr}, chkNms N sc own is es = true →
    PGs C es (fun vs σ H Q => vs.length = is.length ∧ Q ((is.zip vs).foldl (fun σ p => σ.set p.1 (some p.2)) σ) H)
  | [], [], _ => ⟨fun pins s σ H vs us Q I r h => pgs_nil.run pins s σ H vs us Q I r ⟨List.length_eq_zero_iff.mp h.1, by have := List.length_eq_zero_iff.mp h.1; subst this; exact h.2⟩⟩
  | i :: is, e :: es, h => by
    cases e <;> simp [chkNms] at h
    rename_i x pos
    obtain ⟨⟨⟨h1, h2⟩, _⟩, h4⟩ := h
    have l := c.so.loc x h2
    have g := pg_name (X := C) (pos := pos) (i := i) (by rw [c.hN]; exact c.nd) (by rw [c.hN]; exact h1) l.1 l.2
    have q := pgs_cons g (pgs_ok c h4) (by rfl)
    refine ⟨fun pins s σ H vs us Q I r hq => q.run pins s σ H vs us Q I r ?_⟩
    cases vs with
    | nil => cases hq.1
    | cons v vs => exact ⟨v, vs, rfl, Nat.succ.inj hq.1, hq.2⟩
  | [], _ :: _, h => by simp [chkNms] at h
  | _ :: _, [], h => by simp [chkNms] at h
def ptSlots : Pt → List Nat
  | .nm i => [i]
  | .tp is => is
/-- a target's reading -/
def tP (W : Wd) (p : Pt) : TG := fun v σ H Q => ∃ F m M r d, Rl W F m H M σ r ∧ Rp W F m v d ∧ ∃ r', setPt p d r = some r' ∧ ∀ σ', Rl W F m H M σ' r' → (∀ j, j ∉ ptSlots p → σ'[j]? = σ[j]?) → σ'.length = σ.length → Q σ' H
theorem setL_ok {F : Hp} {m : List Addr} {H : Hp} {M : Mem} : ∀ {is : List Nat} {ds : List D} {vs : List V} {r r' : En} {σ : L2.St}, Rl W F m H M σ r → Rps W F m vs ds → setL is ds r = some r' →
    Rl W F m H M ((is.zip vs).foldl (fun σ p => σ.set p.1 (some p.2)) σ) r' ∧ (∀ j, j ∉ is → ((is.zip vs).foldl (fun σ p => σ.set p.1 (some p.2)) σ)[j]? = σ[j]?) ∧ ((is.zip vs).foldl (fun σ p => σ.set p.1 (some p.2)) σ).length = σ.length
  | [], [], vs, r, r', σ, R, rs, e => by cases e; cases rs; exact ⟨R, fun _ _ => rfl, rfl⟩
  | i :: is, d :: ds, _, r, r', σ, R, .cons h rs, e => by
    have q := setL_ok (R.set i h) rs e
    refine ⟨q.1, fun j hj => (q.2.1 j fun z => hj (List.mem_cons_of_mem _ z)).trans ?_, q.2.2.trans (List.length_set ..)⟩
    exact List.getElem?_set_ne fun z => hj (by rw [← z]; exact List.mem_cons_self)
  | [], _ :: _, _, _, _, _, _, _, e => by cases e
  | _ :: _, [], _, _, _, _, _, _, e => by cases e
theorem setL_len : ∀ {is : List Nat} {ds : List D} {r r' : En}, setL is ds r = some r' → ds.length = is.length
  | [], [], _, _, _ => rfl
  | i :: is, d :: ds, r, r', e => congrArg (· + 1) (setL_len (is := is) (ds := ds) e)
  | [], _ :: _, _, _, e => by cases e
  | _ :: _, [], _, _, e => by cases e
theorem nms_each {own : Option (List Nat)} {env : Env} : ∀ {is : List Nat} {es : List Expr}, chkNms N sc own is es = true → (assignEach es env).length = is.length ∧ (assignEach es env).findIdx? (·.1) = none
  | [], [], _ => ⟨rfl, rfl⟩
  | i :: is, e :: es, h => by
    cases e <;> simp [chkNms] at h
    have q := nms_each (env := env) h.2
    refine ⟨congrArg (· + 1) q.1, ?_⟩
    show List.findIdx? _ ((false, _) :: assignEach es env) = none
    rw [List.findIdx?_cons]
    simp [q.2]
  | [], _ :: _, h => by simp [chkNms] at h
  | _ :: _, [], h => by simp [chkNms] at h
theorem pg_pt (c : Ct W P T n N C sc Ex) {own : Option (List Nat)} {p : Pt} {tg : Expr} (h : chkPt N sc own p tg = true) : PG C tg (tP W p) := by
  cases p with
  | nm i =>
    cases tg <;> simp [chkPt] at h
    rename_i x pos
    obtain ⟨⟨h1, h2⟩, _⟩ := h
    have l := c.so.loc x h2
    have g := pg_name (X := C) (pos := pos) (i := i) (by rw [c.hN]; exact c.nd) (by rw [c.hN]; exact h1) l.1 l.2
    refine ⟨fun pins s σ H v u Q I rv hq => g.run pins s σ H v u Q I rv ?_⟩
    obtain ⟨F, m, M, r, d, R, rd, r', e, k⟩ := hq
    cases e
    exact k _ (R.set i rd) (fun j hj => List.getElem?_set_ne fun z => hj (by rw [← z]; exact List.mem_cons_self)) (List.length_set ..)
  | tp is =>
    cases tg <;> simp [chkPt] at h
    rename_i es kk pos
    have e := nms_each (env := C.env) h
    have g := pg_tup (X := C) (pos := pos) (k := kk) c.calm (pgs_ok c h) e.1 e.2
    have g' := pg_lst (X := C) (pos := pos) (k := kk) c.calm (pgs_ok c h) e.1 e.2
    refine ⟨fun pins s σ H v u Q I rv hq => ?_⟩
    obtain ⟨F, m, M, r, d, R, rd, r', e, k⟩ := hq
    cases d <;> simp [setPt] at e
    · rename_i ds
      refine g.run pins s σ H v u Q I rv ?_
      cases rd with
      | tup h1 rs hl =>
        have el := setL_len e
        have q := setL_ok R rs e
        exact ⟨_, _, rfl, SqT.of (R.mr.sub _ _ h1), by rw [rs.len]; exact el, by rw [rs.len]; exact el, k _ q.1 q.2.1 q.2.2⟩
    · rename_i ds
      refine g'.run pins s σ H v u Q I rv ?_
      cases rd with
      | lst h1 rs hl =>
        have el := setL_len e
        have q := setL_ok R rs e
        exact ⟨_, _, rfl, SqL.of (R.mr.sub _ _ h1), by rw [rs.len]; exact el, by rw [rs.len]; exact el, k _ q.1 q.2.1 q.2.2⟩
end
end Oc
namespace Oc
open L2 PySem PySem.Spec PyProof.Rows
set_option maxHeartbeats 1000000 in
theorem meets_enum1 {v : Value} {o : Obj} {Hh : Heap → Prop} (B : Begins v o Hh) :
    Meets (Builtin.«enumerate.__new__» ⟨[.type "enumerate", v], []⟩) (fun _ R s => Hh s.heap ∧
      R (.ok (.ret (.ref (s.heap.push o).objs.size)))
        { s with heap := (s.heap.push o).push { cls := .type "enumerate", data := .fields #[.none, .bool false, .ref s.heap.objs.size, rawInt 0, .none, .none] } }) :=
  .of_wp fun prog w A R s h => by
    obtain ⟨hp, g, d, tk, os⟩ := s
    obtain ⟨h1, h⟩ := h
    have hsub := sub_enumerate
    have q1 : ∀ {A' : Around} {E : Value → Shared → Prop} {Q : Value → Shared → Prop}, Q (.ref hp.objs.size) ⟨(hp.push o), g, d, tk, os⟩ → wpAny (model prog w) A' (pyIter v) Q E ⟨hp, g, d, tk, os⟩ :=
      fun q => B.iter prog w _ _ ⟨hp, g, d, tk, os⟩ _ (B.keeps _ _ h1 fun b o' e => e) q
    wp_walk
    refine wpAny_stack_any fun st => wpAny_pure ?_
    split
    · rename_i c _ _ _ _ _
      cases (c == Value.type "enumerate")
      · wp_walk using q1
        exact ⟨_, rfl, h⟩
      · wp_walk using q1
        exact ⟨_, rfl, h⟩
    · wp_walk using q1
      exact ⟨_, rfl, h⟩
section
variable {prog : Program} {w : World} {A : Around} {E : Value → Shared → Prop} {s : Shared}
theorem enum_begins1 {v : Value} {o : Obj} {Hh : Heap → Prop} {Q : Value → Shared → Prop} (B : Begins v o Hh) (h1 : Hh s.heap)
    (h : ∀ h', IsEnum h' (s.heap.objs.size + 1) s.heap.objs.size 0 .none → h'.get? s.heap.objs.size = some o → h'.objs.size = s.heap.objs.size + 2 →
      (∀ b o, s.heap.get? b = some o → h'.get? b = some o) → Q (.ref (s.heap.objs.size + 1)) { s with heap := h' }) :
    wpAny (model prog w) A (call (.type "enumerate") [v]) Q E s := by
  refine callType_new F.called_enumerate (by decide) (F.typeCall_enumerate_1 _) (F.newCall_enumerate_1 _) (fun obj => F.args_object_init_2 obj _) F.entry_enumerate_new
    (meets_enum1 B) ⟨h1, ?_⟩
  have hz : (s.heap.push o).objs.size = s.heap.objs.size + 1 := Heap.size_push ..
  show _ ∧ _
  rw [hz]
  have he : IsEnum ((s.heap.push o).push
      { cls := .type "enumerate", data := .fields #[.none, .bool false, .ref s.heap.objs.size, rawInt 0, .none, .none] }) (s.heap.objs.size + 1) s.heap.objs.size 0 .none := by
    have := Heap.get?_push_size (s.heap.push o)
      (o := { cls := .type "enumerate", data := .fields #[.none, .bool false, .ref s.heap.objs.size, rawInt 0, .none, .none] }) rfl
    rw [hz] at this; exact this
  refine ⟨⟨_, he, rfl⟩, h _ he (Heap.get?_push_of_some _ (Heap.get?_push_size _ B.free)) (by rw [Heap.size_push, hz]) fun b o x => Heap.get?_push_of_some _ (Heap.get?_push_of_some _ x)⟩
theorem draws_weak {it : Addr} {fp : List Addr} {n : Nat} {P P' : Nat → Value → Prop} {St : Nat → Heap → Prop} (D : Draws prog w A it fp n P St) (h : ∀ i v, P i v → P' i v) : Draws prog w A it fp n P' St where
  live := D.live
  frame := D.frame
  item := fun i s Q E hi st hQ => D.item i s Q E hi st fun x h' tk p => hQ x h' tk (h _ _ p)
  done := D.done
end
theorem vals_getV : ∀ {xs : List V} {us : List Value} {i : Nat} {u : Value}, Vals xs us → us[i]? = some u → ∃ x, xs[i]? = some x ∧ L2.RelV x u
  | _, _, _, _, .nil, e => by simp at e
  | _, _, 0, _, .cons h _, e => by simp at e; subst e; exact ⟨_, rfl, h⟩
  | _, _, i + 1, _, .cons _ r, e => by
    obtain ⟨x, e1, q⟩ := vals_getV (i := i) r (by simpa using e)
    exact ⟨x, by simpa using e1, q⟩
/-- a source that is walked -/
inductive Sk where
  | ls (a : Addr) | tp (a : Addr) | tx (s : Str) (t : Tok)
def Sk.val : Sk → Value
  | .ls a => .ref a
  | .tp a => .ref a
  | .tx s t => .str s t
def Sk.adr : Sk → Option Addr
  | .ls a => some a
  | .tp a => some a
  | .tx _ _ => none
def Sk.it : Sk → Addr → Nat → Heap → Prop
  | .ls a, i, k, h => h.IsListIter i a k
  | .tp a, i, k, h => h.IsTupleIter i a k
  | .tx s t, i, k, h => h.IsStrIter i (strIterType s) s t k
def Sk.obj : Sk → Obj
  | .ls a => { cls := .type "list_iterator", data := .fields #[.ref a, .int 0 0] }
  | .tp a => { cls := .type "tuple_iterator", data := .fields #[.ref a, .int 0 0] }
  | .tx s t => { cls := .type (strIterType s), data := .fields #[.str s t, .int 0 0] }
def Sk.src : Sk → List Value → Heap → Prop
  | .ls a, its, h => h.IsList a its.toArray
  | .tp a, its, h => h.IsTuple a its.toArray
  | .tx _ _, _, _ => True
def Sk.at (K : PySem.W.Frag) (H : Hp) : Sk → List V → Prop
  | .ls a, vs => SqL K H a vs
  | .tp a, vs => SqT K H a vs
  | .tx s _, vs => vs = s.cps.toList.map fun c => .str ⟨#[c]⟩
def Sk.fp (k : Sk) (it : Addr) : List Addr := match k.adr with
  | some a => [it, a]
  | none => [it]
theorem Sk.begins (k : Sk) (its : List Value) : Begins k.val k.obj (k.src its) := by
  cases k with
  | ls a => exact begins_list a its.toArray
  | tp a => exact begins_tuple a its.toArray
  | tx s t =>
    have b := begins_text s t
    exact ⟨fun prog w A E s' Q _ h => b.iter prog w A E s' Q trivial h, fun h h' x hk => trivial, rfl⟩
theorem Sk.it_start (k : Sk) {h : Heap} {i : Addr} (e : h.get? i = some k.obj) : k.it i 0 h := by
  cases k with
  | ls a => exact ⟨_, e, rfl, rfl⟩
  | tp a => exact ⟨_, e, rfl, rfl⟩
  | tx s t => exact ⟨_, e, rfl, rfl⟩
theorem Sk.it_get (k : Sk) {h : Heap} {i : Addr} {n : Nat} (e : k.it i n h) : ∃ o, h.get? i = some o ∧ ∀ v, o.data ≠ .cell v := by
  cases k with
  | ls a => obtain ⟨o, e1, _, d⟩ := e; exact ⟨o, e1, fun v q => by rw [d] at q; cases q⟩
  | tp a => obtain ⟨o, e1, _, d⟩ := e; exact ⟨o, e1, fun v q => by rw [d] at q; cases q⟩
  | tx s t => obtain ⟨o, e1, _, d⟩ := e; exact ⟨o, e1, fun v q => by rw [d] at q; cases q⟩
theorem Sk.it_keep (k : Sk) {h h' : Heap} {i : Addr} {n : Nat} (e : k.it i n h) (kp : ∀ o, h.get? i = some o → h'.get? i = some o) : k.it i n h' := by
  cases k with
  | ls a => obtain ⟨o, e1, c, d⟩ := e; exact ⟨o, kp _ e1, c, d⟩
  | tp a => obtain ⟨o, e1, c, d⟩ := e; exact ⟨o, kp _ e1, c, d⟩
  | tx s t => obtain ⟨o, e1, c, d⟩ := e; exact ⟨o, kp _ e1, c, d⟩
section
variable {X : Cx} {pins : List (Addr × Obj)} {σ : L2.St} {H : Hp} {s : Shared}
theorem Sk.inj (k : Sk) {vs us : List V} (I : L2.Inv X pins σ H s) (h : k.at X.K H vs) (h2 : k.at X.K H us) : us = vs := by
  cases k with
  | ls a => exact I.list_inj h2 h
  | tp a => exact I.tuple_inj h2 h
  | tx z t => exact h2.trans h.symm
/-- what the source draws -/
theorem Sk.draws (k : Sk) {vs : List V} (I : L2.Inv X pins σ H s) (h : k.at X.K H vs) (hc : X.calm = true) : ∃ its : List Value, Vals vs its ∧ k.src its s.heap ∧ (∀ a, k.adr = some a → a < s.heap.objs.size) ∧
    ∀ it, (∀ a, k.adr = some a → a ≠ it) → Draws X.prog X.w X.A.in1 it (k.fp it) vs.length (fun i v => ∃ x, vs[i]? = some x ∧ L2.RelV x v) (fun i h => k.it it i h ∧ k.src its h) := by
  have hh : X.A.in1.handled = none := I.ok.hd hc
  cases k with
  | ls a =>
    obtain ⟨its, rv, p, _⟩ := I.list h
    refine ⟨its, rv, p.isList, fun b e => by cases e; exact p.lt, fun it ne => ?_⟩
    have D := Draws.list (prog := X.prog) (w := X.w) hh it a (ne a rfl) its.toArray
    rw [show its.toArray.size = vs.length by rw [List.size_toArray, rv.length]] at D
    refine draws_weak D fun i v e => ?_
    have e' : its[i]? = some v := by simpa using e
    obtain ⟨x, h1, h2⟩ := vals_getV rv e'
    exact ⟨x, h1, h2⟩
  | tp a =>
    obtain ⟨its, rv, p, _⟩ := I.tuple h
    refine ⟨its, rv, p, fun b e => by cases e; exact p.lt, fun it ne => ?_⟩
    have D := Draws.tuple (prog := X.prog) (w := X.w) hh it a (ne a rfl) its.toArray
    rw [show its.toArray.size = vs.length by rw [List.size_toArray, rv.length]] at D
    refine draws_weak D fun i v e => ?_
    have e' : its[i]? = some v := by simpa using e
    obtain ⟨x, h1, h2⟩ := vals_getV rv e'
    exact ⟨x, h1, h2⟩
  | tx z t =>
    subst h
    refine ⟨z.cps.toList.map fun c => .str ⟨#[c]⟩ 0, ?_, trivial, fun a e => (by cases e), fun it _ => ?_⟩
    · generalize z.cps.toList = l
      induction l with
      | nil => exact .nil
      | cons c l ih => exact .cons ⟨_, rfl⟩ ih
    · have D := Draws.text (prog := X.prog) (w := X.w) hh it z t
      rw [List.length_map, Array.length_toList]
      have D2 := draws_weak (P' := fun i v => ∃ x, (z.cps.toList.map fun c => V.str ⟨#[c]⟩)[i]? = some x ∧ L2.RelV x v) D fun i v ⟨c, u, e1, e2⟩ => ⟨.str ⟨#[c]⟩, by rw [List.getElem?_map]; simp [e1], by subst e2; exact ⟨_, rfl⟩⟩
      exact ⟨fun i h st => D2.live i h st.1, fun i h h' st kp => ⟨D2.frame i h h' st.1 kp, trivial⟩, fun i s Q E hi st hQ => D2.item i s Q E hi st.1 fun x h' tk p q => hQ x h' tk p ⟨q, trivial⟩, fun s Q E st hE => D2.done s Q E st.1 hE⟩
end
/-- the items as they stand at each turn, each in a new pair -/
def IteD (K : PySem.W.Frag) (k : Sk) : It :=
  ⟨fun i H => ∃ (vs : List V) (x : V), k.at K H vs ∧ vs[i]? = some x, fun i H v H' => ∃ T x, v = .ref T ∧ H T = none ∧ H' = upd H T (.tup [.int (i : Nat), x]) ∧ ∀ vs, k.at K H vs → vs[i]? = some x, fun i H => ∃ vs : List V, k.at K H vs ∧ vs.length = i⟩
theorem turn_enumD {P : Program} {w : World} {K : PySem.W.Frag} {elts : List Expr} {kk : Nat} {tpos : Pos} (k : Sk) (e it : Addr) (far : ∀ a, k.adr = some a → a ≠ it ∧ a ≠ e) :
    Turn P w K (.Tuple elts kk tpos) (IteD K k) [e, it] e (fun i h => (∃ old, IsEnum h e it ((i : Nat) : Int) old) ∧ k.it it i h ∧ e ≠ it) where
  mem := by simp
  obj := fun i h st b hb => by
    obtain ⟨⟨old, he⟩, hit, _⟩ := st
    have e' : b = e ∨ b = it := by simpa using hb
    rcases e' with z | z
    · rw [z]; exact ⟨_, he, fun v q => nomatch q⟩
    · rw [z]; exact k.it_get hit
  keep := fun i h h' st kp => let ⟨⟨old, he⟩, hi, hne⟩ := st; ⟨⟨old, kp e (by simp) _ he⟩, k.it_keep hi fun o q => kp it (by simp) o q, hne⟩
  item := by
    intro X hP hw hK hc i pins s σ H E I hf st hg
    subst hP hw hK
    obtain ⟨⟨old, he⟩, hit, hne⟩ := st
    obtain ⟨vs, x, hq, hx⟩ := hg
    obtain ⟨its, rv, hsrc, hlt, D⟩ := k.draws I hq hc
    have D := D it fun a q => (far a q).1
    have hel : e < s.heap.objs.size := Heap.lt_size he
    have hil : it < s.heap.objs.size := by obtain ⟨o, q, _⟩ := k.it_get hit; exact Heap.lt_size q
    have hlen : i < vs.length := (List.getElem?_eq_some_iff.mp hx).1
    refine wpAny_pyNext_enum_itemD D he ⟨hit, hsrc⟩ hlen hne (fun z => ?_) fun u h' tk hp ho hst hT hsz hk => ?_
    · unfold Sk.fp at z
      split at z
      · rename_i a ha
        rcases List.mem_cons.mp z with z | z
        · exact hne z
        · have := List.mem_singleton.mp z; exact (far a ha).2 this.symm
      · exact hne (List.mem_singleton.mp z)
    obtain ⟨x', hx', ru⟩ := hp
    rw [hx] at hx'; cases hx'
    refine ⟨_, rfl, wpAny_letOwnedTupleGo_enum (s := { s with heap := h', toks := tk + 1 }) ho fun h'' he' sb => ?_⟩
    have hT2 : h''.get? s.heap.objs.size = some { cls := .type "tuple", data := .seq #[.int i tk, u] } := (sb.2 _ (Nat.ne_of_gt hel)).trans hT
    have new : ObjOk X.prog X.w (upd H s.heap.objs.size (.tup [.int (i : Nat), x])) h'' s.heap.objs.size (.tup [.int (i : Nat), x]) :=
      ⟨by show 2 ≤ sizeLine; decide, [.int i tk, u], .cons ⟨_, rfl⟩ (.cons ru .nil), ⟨_, hT2, rfl, _, rfl⟩⟩
    have I1 : L2.Inv X pins σ (upd H s.heap.objs.size (.tup [.int (i : Nat), x])) { s with heap := h'', toks := tk + 1 } :=
      I.turnedNew (ch := [e, it]) (fun b ob hb q => (sb.2 b (fun z => hb (by simp [z]))).trans (hk b ob (fun z => hb (by simp [z])) (fun z => hb (by simp [z])) q)) hf (Nat.le_refl _) new
    refine ⟨.ref s.heap.objs.size, _, I1, rfl, ⟨_, x, rfl, I.hok.fresh (Nat.le_refl _), rfl, fun us hu => by rw [k.inj I hq hu]; exact hx⟩, ⟨⟨u, ?_⟩, k.it_keep hst.1 fun o q => (sb.2 it (Ne.symm hne)).trans q, hne⟩, fun b hb => ?_⟩
    · have e1 : ((i + 1 : Nat) : Int) = (i : Int) + 1 := by omega
      rw [e1]; exact he'
    · have hb' : b < s.heap.objs.size := by
        have e' : b = e ∨ b = it := by simpa using hb
        rcases e' with z | z
        · rw [z]; exact hel
        · rw [z]; exact hil
      rw [upd_ne (Nat.ne_of_lt hb')]
      exact (hf b hb).1
  done := by
    intro X hP hw hK hc i pins s σ H E I hf st hg
    subst hP hw hK
    obtain ⟨⟨old, he⟩, hit, hne⟩ := st
    obtain ⟨vs, hq, hx⟩ := hg
    obtain ⟨its, rv, hsrc, hlt, D⟩ := k.draws I hq hc
    have D := D it fun a q => (far a q).1
    subst hx
    obtain ⟨f0, f1, f2, f3, f4, f5⟩ := hf it (by simp)
    exact wpAny_pyNext_enum_endD D he ⟨hit, hsrc⟩ fun h' eb => ⟨rfl, I.turned (t' := s.toks) (fun b o hb q => eb b o hb q) f0 f1 f3 f4 f5⟩
  self := fun A i s Q E st h => let ⟨⟨_, he⟩, _⟩ := st; wpAny_pyIter_enum he h
def qEnumD (K : PySem.W.Frag) (R : It → Hp → Prop) (v : V) (H1 : Hp) : Prop := ∃ vs, ((∃ a, v = .ref a ∧ SqL K H1 a vs ∧ R (IteD K (.ls a)) H1) ∨ (∃ a, v = .ref a ∧ SqT K H1 a vs ∧ R (IteD K (.tp a)) H1) ∨
  (∃ z : Str, v = .str z ∧ vs = (z.cps.toList.map fun c => V.str ⟨#[c]⟩) ∧ ∀ t, R (IteD K (.tx z t)) H1))
def iEnumD (K : PySem.W.Frag) (te : TE) : TI := fun σ H R => te σ H (qEnumD K R)
theorem pi_enumD {X : Cx} {e : Expr} {te : TE} {p pos tpos : Pos} {elts : List Expr} {kk : Nat} (hg : Gl X "enumerate") (hm : X.mg "enumerate" = none) (he : PE X e te) (hs : starEach [e] X.env = [(false, eval e X.env)]) :
    PI X (.Tuple elts kk tpos) (.Call (.Name "enumerate" p) [e] [] pos) (iEnumD X.K te) := by
  refine ⟨fun pins s σ H R I h => ?_⟩
  have ha : PA X [e] (tCons te tNil) := pa_cons he pa_nil hs
  refine Call_ (ld_blt I hg hm boot_enumerate (PyProof.Rows.callWith_type1 (thn (ha.run pos pins s σ H (fun us H1 => match us with | [v] => qEnumD X.K R v H1 | _ => False) I h) fun us s1 ⟨ws, H1, I1, r1, q1⟩ => ?_) hs rfl))
  cases r1 with
  | nil => exact q1.elim
  | cons r rr =>
    cases rr with
    | cons _ _ => exact q1.elim
    | nil =>
      rename_i v u _
      replace q1 : qEnumD X.K R v H1 := q1
      have key : ∀ (k : Sk) (vs : List V), u = k.val → k.at X.K H1 vs → (∀ its, Vals vs its → k.src its s1.heap → True) → (∃ its, k.src its s1.heap ∧ ∀ a, k.adr = some a → a < s1.heap.objs.size) → R (IteD X.K k) H1 →
          wpAny (model X.prog X.w) X.A (call (.type "enumerate") [u]) (fun v s1 => wpAny (model X.prog X.w) X.A (pyIter v) (PIE X pins σ (.Tuple elts kk tpos) R) X.xe s1) X.xe s1 := by
        rintro k vs rfl hk - ⟨its, hsrc, hlt⟩ q
        refine enum_begins1 (k.begins its) hsrc fun h' he ho hsz hkp => wpAny_pyIter_enum he ?_
        have I2 : L2.Inv X pins σ H1 { s1 with heap := h' } := I1.kept (t' := s1.toks) hkp
        refine ⟨s1.heap.objs.size + 1, [s1.heap.objs.size + 1, s1.heap.objs.size], _, _, H1, rfl, I2, turn_enumD k (s1.heap.objs.size + 1) s1.heap.objs.size (fun a e => ?_), ⟨⟨.none, he⟩, k.it_start ho, Nat.succ_ne_self _⟩, fun b hb => ?_, q⟩
        · have := hlt a e
          exact ⟨Nat.ne_of_lt this, Nat.ne_of_lt (Nat.lt_succ_of_lt this)⟩
        · have e' : b = s1.heap.objs.size + 1 ∨ b = s1.heap.objs.size := by simpa using hb
          have hle : s1.heap.objs.size ≤ b := by
            rcases e' with z | z
            · rw [z]; exact Nat.le_add_right _ _
            · rw [z]; exact Nat.le_refl _
          exact I1.fpOk hle (I1.hok.fresh hle)
      obtain ⟨vs, ⟨a, rfl, hq, q⟩ | ⟨a, rfl, hq, q⟩ | ⟨z, rfl, hq, q⟩⟩ := q1
      · cases r
        obtain ⟨its, rv, pl, _⟩ := I1.list hq
        exact key (.ls a) vs rfl hq (fun _ _ _ => trivial) ⟨its, pl.isList, fun b e => by cases e; exact pl.lt⟩ q
      · cases r
        obtain ⟨its, rv, pl, _⟩ := I1.tuple hq
        exact key (.tp a) vs rfl hq (fun _ _ _ => trivial) ⟨its, pl, fun b e => by cases e; exact pl.lt⟩ q
      · obtain ⟨t, rfl⟩ := r
        exact key (.tx z t) vs rfl hq (fun _ _ _ => trivial) ⟨[], trivial, fun b e => (by cases e)⟩ (q t)
end Oc
namespace Oc
open L2 PySem PySem.Spec PyProof.Rows
theorem Sk.mem_fp {k : Sk} {it x : Addr} (h : x ∈ k.fp it) : x = it ∨ k.adr = some x := by
  unfold Sk.fp at h
  split at h
  · rename_i a ha
    rcases List.mem_cons.mp h with h | h
    · exact .inl h
    · rw [List.mem_singleton.mp h]; exact .inr ha
  · exact .inl (List.mem_singleton.mp h)
theorem Sk.fp_mem {k : Sk} {it : Addr} : it ∈ k.fp it := by
  unfold Sk.fp; split <;> simp
theorem sep_zip (n : Nat) (k1 k2 : Sk) (f1 : ∀ a, k1.adr = some a → a < n) (f2 : ∀ a, k2.adr = some a → a < n) : ZipSep2 (n + 4) (n + 2) (n + 3) n (n + 1) (k1.fp n) (k2.fp (n + 1)) where
  TIz := fun z => absurd (show (n + 2 : Nat) = n + 4 from z) (by omega)
  TOz := fun z => absurd (show (n + 3 : Nat) = n + 4 from z) (by omega)
  TITO := fun z => absurd (show (n + 2 : Nat) = n + 3 from z) (by omega)
  TIi1 := fun z => absurd (show (n + 2 : Nat) = n from z) (by omega)
  mem1 := Sk.fp_mem
  zf1 := fun z => (Sk.mem_fp z).elim (fun z => absurd (show (n + 4 : Nat) = n from z) (by omega)) (fun z => absurd (show (n + 4 : Nat) < n from f1 _ z) (by omega))
  Tf1 := fun z => (Sk.mem_fp z).elim (fun z => absurd (show (n + 3 : Nat) = n from z) (by omega)) (fun z => absurd (show (n + 3 : Nat) < n from f1 _ z) (by omega))
  TIi2 := fun z => absurd (show (n + 2 : Nat) = n + 1 from z) (by omega)
  mem2 := Sk.fp_mem
  zf2 := fun z => (Sk.mem_fp z).elim (fun z => absurd (show (n + 4 : Nat) = n + 1 from z) (by omega)) (fun z => absurd (show (n + 4 : Nat) < n from f2 _ z) (by omega))
  Tf2 := fun z => (Sk.mem_fp z).elim (fun z => absurd (show (n + 3 : Nat) = n + 1 from z) (by omega)) (fun z => absurd (show (n + 3 : Nat) < n from f2 _ z) (by omega))
  sep1_2 := fun z => (Sk.mem_fp z).elim (fun z => absurd (show (n : Nat) = n + 1 from z) (by omega)) (fun z => absurd (show (n : Nat) < n from f2 _ z) (by omega))
  sep2_1 := fun z => (Sk.mem_fp z).elim (fun z => absurd (show (n + 1 : Nat) = n from z) (by omega)) (fun z => absurd (show (n + 1 : Nat) < n from f1 _ z) (by omega))
/-- the items as they stand at each turn, in new pairs -/
def ItzD (K : PySem.W.Frag) (k1 k2 : Sk) : It :=
  ⟨fun i H => ∃ (xs ys : List V) (x y : V), k1.at K H xs ∧ k2.at K H ys ∧ xs[i]? = some x ∧ ys[i]? = some y,
   fun i H v H' => ∃ T x y, v = .ref T ∧ H T = none ∧ H' = upd H T (.tup [x, y]) ∧ (∀ xs, k1.at K H xs → xs[i]? = some x) ∧ ∀ ys, k2.at K H ys → ys[i]? = some y,
   fun i H => ∃ xs ys : List V, k1.at K H xs ∧ k2.at K H ys ∧ i ≤ xs.length ∧ i ≤ ys.length ∧ (i = xs.length ∨ i = ys.length)⟩
theorem turn_zipD {P : Program} {w : World} {K : PySem.W.Frag} {elts : List Expr} {kk : Nat} {tpos : Pos} (k1 k2 : Sk) (n : Nat) (f1 : ∀ a, k1.adr = some a → a < n) (f2 : ∀ a, k2.adr = some a → a < n) :
    Turn P w K (.Tuple elts kk tpos) (ItzD K k1 k2) [n + 4, n + 2, n + 3, n, n + 1] (n + 4) (fun i h => IsZip h (n + 4) (n + 2) (n + 3) .none ∧ IsTupOf2 h (n + 2) (.ref n) (.ref (n + 1)) ∧ (∃ x y, IsTupOf2 h (n + 3) x y) ∧ k1.it n i h ∧ k2.it (n + 1) i h) where
  mem := by simp
  obj := fun i h st c hc => by
    obtain ⟨hz, hTI, ⟨x, y, hTO⟩, i1, i2⟩ := st
    have e' : c = n + 4 ∨ c = n + 2 ∨ c = n + 3 ∨ c = n ∨ c = n + 1 := by simpa using hc
    rcases e' with q | q | q | q | q <;> subst q
    · exact ⟨_, hz, fun v q => nomatch q⟩
    · exact ⟨_, hTI, fun v q => nomatch q⟩
    · exact ⟨_, hTO, fun v q => nomatch q⟩
    · exact k1.it_get i1
    · exact k2.it_get i2
  keep := fun i h h' st k => by
    obtain ⟨hz, hTI, ⟨x, y, hTO⟩, h1, h2⟩ := st
    exact ⟨k (n + 4) (by simp) _ hz, k (n + 2) (by simp) _ hTI, ⟨x, y, k (n + 3) (by simp) _ hTO⟩, k1.it_keep h1 fun o q => k n (by simp) o q, k2.it_keep h2 fun o q => k (n + 1) (by simp) o q⟩
  item := by
    intro X hP hw hK hc i pins s σ H E I hf st hg
    subst hP hw hK
    obtain ⟨hz, hTI, ⟨x0, y0, hTO⟩, h1, h2⟩ := st
    obtain ⟨xs, ys, x, y, hqx, hqy, hx, hy⟩ := hg
    obtain ⟨its1, rv1, src1, lt1, D1⟩ := k1.draws I hqx hc
    obtain ⟨its2, rv2, src2, lt2, D2⟩ := k2.draws I hqy hc
    have D1 := D1 n fun a q => Nat.ne_of_lt (f1 a q)
    have D2 := D2 (n + 1) fun a q => Nat.ne_of_lt (Nat.lt_succ_of_lt (f2 a q))
    have hzl : n + 4 < s.heap.objs.size := Heap.lt_size hz
    have S := sep_zip n k1 k2 f1 f2
    refine wpAny_pyNext_zipD2_item S D1 D2 hz hTI hTO ⟨h1, src1⟩ ⟨h2, src2⟩ (List.getElem?_eq_some_iff.mp hx).1 (List.getElem?_eq_some_iff.mp hy).1 fun u1 u2 h' tk p1 p2 z' TO' s1' s2' hT hsz hk => ?_
    obtain ⟨x', hx', ru⟩ := p1
    obtain ⟨y', hy', ru2⟩ := p2
    rw [hx] at hx'; cases hx'
    rw [hy] at hy'; cases hy'
    refine ⟨_, rfl, wpAny_letOwnedTupleGo_zip (s := { s with heap := h', toks := tk }) z' fun h'' z'' sb => ?_⟩
    have hT2 : h''.get? s.heap.objs.size = some { cls := .type "tuple", data := .seq #[u1, u2] } := (sb.2 _ (Nat.ne_of_gt hzl)).trans hT
    have new : ObjOk X.prog X.w (upd H s.heap.objs.size (.tup [x, y])) h'' s.heap.objs.size (.tup [x, y]) :=
      ⟨by show 2 ≤ sizeLine; decide, [u1, u2], .cons ru (.cons ru2 .nil), ⟨_, hT2, rfl, _, rfl⟩⟩
    have I1 : L2.Inv X pins σ (upd H s.heap.objs.size (.tup [x, y])) { s with heap := h'', toks := tk } :=
      I.turnedNew (ch := [n + 4, n + 2, n + 3, n, n + 1]) (fun c o hb q => (sb.2 c (fun q' => hb (by simp [q']))).trans (hk c o (fun q' => hb (by simp [q'])) (fun q' => hb (by simp [q'])) (fun q' => hb (by simp [q'])) (fun q' => hb (by simp [q'])) q)) hf (Nat.le_refl _) new
    refine ⟨.ref s.heap.objs.size, _, I1, rfl, ⟨_, x, y, rfl, I.hok.fresh (Nat.le_refl _), rfl, fun us hu => by rw [k1.inj I hqx hu]; exact hx, fun us hu => by rw [k2.inj I hqy hu]; exact hy⟩, ⟨z'', ?_, ⟨u1, u2, ?_⟩, ?_, ?_⟩, fun c hcm => ?_⟩
    · exact (sb.2 _ S.TIz).trans (hk _ _ S.TIz S.TITO S.TIi1 S.TIi2 hTI)
    · exact (sb.2 _ S.TOz).trans TO'
    · exact k1.it_keep s1'.1 fun o q => (sb.2 _ S.zi1.symm).trans q
    · exact k2.it_keep s2'.1 fun o q => (sb.2 _ S.zi2.symm).trans q
    · have hlt : c < s.heap.objs.size := by
        have e' : c = n + 4 ∨ c = n + 2 ∨ c = n + 3 ∨ c = n ∨ c = n + 1 := by simpa using hcm
        have hzl' : (n + 4 : Nat) < s.heap.objs.size := hzl
        rcases e' with q | q | q | q | q <;> rw [q] <;> (show (_ : Nat) < s.heap.objs.size; omega)
      rw [upd_ne (Nat.ne_of_lt hlt)]
      exact (hf c hcm).1
  done := by
    intro X hP hw hK hc i pins s σ H E I hf st hg
    subst hP hw hK
    obtain ⟨hz, hTI, ⟨x0, y0, hTO⟩, h1, h2⟩ := st
    obtain ⟨xs, ys, hqx, hqy, l1, l2, hend⟩ := hg
    obtain ⟨its1, rv1, src1, lt1, D1⟩ := k1.draws I hqx hc
    obtain ⟨its2, rv2, src2, lt2, D2⟩ := k2.draws I hqy hc
    have D1 := D1 n fun a q => Nat.ne_of_lt (f1 a q)
    have D2 := D2 (n + 1) fun a q => Nat.ne_of_lt (Nat.lt_succ_of_lt (f2 a q))
    have S := sep_zip n k1 k2 f1 f2
    exact wpAny_pyNext_zipD2_end S D1 D2 hz hTI hTO ⟨h1, src1⟩ ⟨h2, src2⟩ l1 l2 hend fun h' tk hk => ⟨rfl, I.turnedL (t' := tk) (ch := [n + 4, n + 2, n + 3, n, n + 1]) (fun c o hb q =>
      hk c o (fun q' => hb (by simp [q'])) (fun q' => hb (by simp [q'])) (fun q' => hb (by simp [q'])) (fun q' => hb (by simp [q'])) q) hf⟩
  self := fun A i s Q E st h => wpAny_pyIter_zip st.1 h
/-- what v is, as a source of k's kind with the items xs -/
def SrcV (K : PySem.W.Frag) (H : Hp) (v : V) (xs : List V) (R : Sk → Prop) : Prop := (∃ a, v = .ref a ∧ SqL K H a xs ∧ R (.ls a)) ∨ (∃ a, v = .ref a ∧ SqT K H a xs ∧ R (.tp a)) ∨ (∃ z : Str, v = .str z ∧ xs = (z.cps.toList.map fun c => V.str ⟨#[c]⟩) ∧ ∀ t, R (.tx z t))
theorem src_of {X : Cx} {pins : List (Addr × Obj)} {σ : L2.St} {H : Hp} {s : Shared} {v : V} {u : Value} {xs : List V} {R : Sk → Prop} (I : L2.Inv X pins σ H s) (r : L2.RelV v u) (h : SrcV X.K H v xs R) :
    ∃ (k : Sk) (its : List Value), u = k.val ∧ k.at X.K H xs ∧ k.src its s.heap ∧ (∀ a, k.adr = some a → a < s.heap.objs.size) ∧ R k := by
  obtain ⟨a, rfl, hq, q⟩ | ⟨a, rfl, hq, q⟩ | ⟨z, rfl, hq, q⟩ := h
  · cases r
    obtain ⟨its, rv, pl, _⟩ := I.list hq
    exact ⟨.ls a, its, rfl, hq, pl.isList, fun b e => by cases e; exact pl.lt, q⟩
  · cases r
    obtain ⟨its, rv, pl, _⟩ := I.tuple hq
    exact ⟨.tp a, its, rfl, hq, pl, fun b e => by cases e; exact pl.lt, q⟩
  · obtain ⟨t, rfl⟩ := r
    exact ⟨.tx z t, [], rfl, hq, trivial, fun b e => (by cases e), q t⟩
def qZipD (K : PySem.W.Frag) (R : It → Hp → Prop) (v v2 : V) (H1 : Hp) : Prop := ∃ xs ys, SrcV K H1 v xs fun k1 => SrcV K H1 v2 ys fun k2 => R (ItzD K k1 k2) H1
def iZipD (K : PySem.W.Frag) (te te2 : TE) : TI := fun σ H R => te σ H fun v H1 => te2 σ H1 fun v2 H2 => qZipD K R v v2 H2
theorem pi_zipD {X : Cx} {e e2 : Expr} {te te2 : TE} {p pos tpos : Pos} {elts : List Expr} {kk : Nat} (hg : Gl X "zip") (hm : X.mg "zip" = none) (he : PE X e te) (he2 : PE X e2 te2)
    (hs : starEach [e, e2] X.env = (false, eval e X.env) :: starEach [e2] X.env) (hs2 : starEach [e2] X.env = [(false, eval e2 X.env)]) :
    PI X (.Tuple elts kk tpos) (.Call (.Name "zip" p) [e, e2] [] pos) (iZipD X.K te te2) := by
  refine ⟨fun pins s σ H R I h => ?_⟩
  have ha : PA X [e, e2] (tCons te (tCons te2 tNil)) := pa_cons he (pa_cons he2 pa_nil hs2) hs
  refine Call_ (ld_blt I hg hm PyProof.Rows.boot_zip (PyProof.Rows.callWith_type1 (thn (ha.run pos pins s σ H (fun us H1 => match us with | [v, v2] => qZipD X.K R v v2 H1 | _ => False) I h) fun us s1 ⟨ws, H1, I1, r1, q1⟩ => ?_) hs (by rw [hs2]; rfl)))
  cases r1 with
  | nil => exact q1.elim
  | cons r rr =>
    cases rr with
    | nil => exact q1.elim
    | cons r2 rr =>
      cases rr with
      | cons _ _ => exact q1.elim
      | nil =>
        obtain ⟨xs, ys, q1⟩ := q1
        obtain ⟨k1, its1, rfl, at1, src1, lt1, q2⟩ := src_of I1 r q1
        obtain ⟨k2, its2, rfl, at2, src2, lt2, q⟩ := src_of I1 r2 q2
        refine zip_begins2 (k1.begins its1) (k2.begins its2) src1 src2 fun h' hz hTI hTO h1 h2 hsz hk => wpAny_pyIter_zip hz ?_
        have I2 : L2.Inv X pins σ H1 { s1 with heap := h' } := I1.kept (t' := s1.toks) hk
        refine ⟨s1.heap.objs.size + 4, [s1.heap.objs.size + 4, s1.heap.objs.size + 2, s1.heap.objs.size + 3, s1.heap.objs.size, s1.heap.objs.size + 1], _, _, H1, rfl, I2, turn_zipD k1 k2 s1.heap.objs.size lt1 lt2, ⟨hz, hTI, ⟨_, _, hTO⟩, k1.it_start h1, k2.it_start h2⟩, fun c hcm => ?_, q⟩
        have e' : c = s1.heap.objs.size + 4 ∨ c = s1.heap.objs.size + 2 ∨ c = s1.heap.objs.size + 3 ∨ c = s1.heap.objs.size ∨ c = s1.heap.objs.size + 1 := by simpa using hcm
        have hle : s1.heap.objs.size ≤ c := by rcases e' with q | q | q | q | q <;> rw [q] <;> (show s1.heap.objs.size ≤ (_ : Nat); omega)
        exact I1.fpOk hle (I1.hok.fresh hle)
end Oc
namespace Oc
open L2 PySem PySem.Spec PyProof.Rows
section
variable {W : Wd} {P : Pg} {T : Tb} {n : Nat} {N : List Str} {C : Cx} {sc : Scope} {Ex : WX} {X : Fx}
/-- from a new thing to a frozen one -/
theorem frz_new {F F' : Hp} {m m' : List Addr} {H H' : Hp} {M : Mem} {p : Addr} {d : D} (a : Xt F m H F' m' H') (R : Mr W F' m' H' M) (h1 : F' p = none) (h2 : p ∉ m') (h3 : H p = none) (q : FrR W F' m' H' p d) :
    ∃ F'', Xt F m H F'' m' H' ∧ Mr W F'' m' H' M ∧ Rp W F'' m' (.ref p) d := by
  obtain ⟨o, ho, hnt⟩ : ∃ o, H' p = some o ∧ NoTbl o := by
    cases d <;> first | exact q.elim | (obtain ⟨_, e, _⟩ := q; exact ⟨_, e, fun _ z => (by cases z)⟩) | (obtain ⟨_, _, e, _⟩ := q; exact ⟨_, e, fun _ z => (by cases z)⟩)
  have f1 : ∀ b u, F' b = some u → upd F' p o b = some u := fun b u h => by rw [upd_ne (ne_of_none h h1)]; exact h
  have R2 : Mr W (upd F' p o) m' H' M := by
    refine ⟨fun b u h => ?_, R.len, R.nd, fun k c b hk hb => ?_, R.tb, nt_upd R.nt hnt⟩
    · by_cases e : b = p
      · subst e; rw [upd_same] at h; cases h; exact ho
      · rw [upd_ne e] at h; exact R.sub b u h
    · obtain ⟨n1, r⟩ := R.mo k c b hk hb
      have ne : b ≠ p := fun e => h2 (e ▸ List.mem_of_getElem? hb)
      refine ⟨by rw [upd_ne ne]; exact n1, ?_⟩
      cases c with
      | ml xs => obtain ⟨vs, q1, q2, q3⟩ := r; exact ⟨vs, q1, q2.mono f1 (fun _ _ z => z), q3⟩
      | mi c ns ds => obtain ⟨hc, dx, fs, q1, q2, q3⟩ := r; exact ⟨hc, dx, fs, q1, q2, q3.mono f1 (fun _ _ z => z)⟩
  refine ⟨upd F' p o, ⟨fun b u h => f1 b u (a.fx b u h), a.hx, fun b u h => ?_, a.mx, a.dx⟩, R2, ?_⟩
  · by_cases e : b = p
    · subst e; exact .inr (.inl h3)
    · rw [upd_ne e] at h; exact a.nx b u h
  · cases d <;> first | exact q.elim | skip
    · obtain ⟨vs, q1, q2, q3⟩ := q
      rw [ho] at q1; cases q1
      exact .lst upd_same (q2.mono f1 (fun _ _ z => z)) q3
    · obtain ⟨rfl, vs, q1, q2, q5, q3, q4⟩ := q
      rw [ho] at q1; cases q1
      exact .dk (.inr ⟨rfl, upd_same⟩) q2 q5 (q3.mono f1 (fun _ _ z => z)) q4
    · obtain ⟨rfl, vs, q1, q2, q5, q3, q4⟩ := q
      rw [ho] at q1; cases q1
      exact .dt (.inr ⟨rfl, upd_same⟩) q2 q5 (q3.mono f1 (fun _ _ z => z)) q4
theorem tE_of_O {e : Expr} {c : E} (h : PE C e (tO W X Ex c)) : PE C e (tE W X Ex c) := h.wk fun σ H Q ⟨F, m, M, r, R, q⟩ =>
  ⟨F, m, M, r, R, by
    cases hx : ev X c M r with
    | st => rw [hx] at q; exact q.elim
    | er M k fs => rw [hx] at q; exact q
    | ok M1 d =>
      rw [hx] at q
      intro F' m' H' a r1 p h1 h2 h3 hf
      obtain ⟨F'', a2, r2, rp⟩ := frz_new a r1 h1 h2 h3 hf
      exact q F'' m' H' a2 r2 _ rp⟩
theorem ok_vr {i : Nat} {x : Str} {pos : Pos} (c : Ct W P T n N C sc Ex) (h1 : N[i]? = some x) (h2 : visB sc x = true) (h3 : okNm x = true) : PE C (.Name x pos) (tE W X Ex (.vr i)) := by
  have o := okNm_of h3
  refine (pe_var (i := i) (by rw [c.hN]; exact h1) (c.so.vis x h2) o.1 o.2.1).wk fun σ H Q ⟨F, m, M, r, R, q⟩ => ?_
  obtain ⟨d, e, k⟩ := EQ.opt (show EQ _ _ _ _ _ _ (Oc.R.opt M (vsl r i)) from q)
  obtain ⟨v, h4, h5⟩ := R.var e
  exact ⟨v, h4, k _ _ _ (Xt.refl _ _ _) R.mr v h5⟩
theorem ok_gi {x : Str} {i : Int} {pos : Pos} (c : Ct W P T n N C sc Ex) (h1 : glB sc x = true) (h2 : okNm x = true) (h3 : (x, i) ∈ T.cns) : PE C (.Name x pos) (tE W X Ex (.gi x i)) := by
  have o := okNm_of h2
  obtain ⟨t, e⟩ := c.g.cns x i h3
  exact (pe_glob (v := .int i) (c.so.gl x h1) e ⟨_, rfl⟩ o.1).wk fun σ H Q ⟨F, m, M, r, R, q⟩ => EQ.now q R.mr _ (.int i)
theorem ok_int {i : Int} {j : Nat} {pos : Pos} : PE C (.Constant (.int i) j pos) (tE W X Ex (.int i)) := pe_int.wk fun σ H Q ⟨F, m, M, r, R, q⟩ => EQ.now q R.mr _ (.int i)
theorem ok_bl {b : Bool} {j : Nat} {pos : Pos} : PE C (.Constant (.bool b) j pos) (tE W X Ex (.bl b)) := pe_bl.wk fun σ H Q ⟨F, m, M, r, R, q⟩ => EQ.now q R.mr _ (.bl b)
theorem ok_non {j : Nat} {pos : Pos} : PE C (.Constant .none j pos) (tE W X Ex .non) := pe_non.wk fun σ H Q ⟨F, m, M, r, R, q⟩ => EQ.now q R.mr _ .non
theorem ok_str {s : Cs} {j : Nat} {pos : Pos} (h1 : s.length ≤ lim) (h2 : s.all (· < 0x110000) = true) : PE C (.Constant (.str (csS s)) j pos) (tE W X Ex (.str s)) :=
  pe_str.wk fun σ H Q ⟨F, m, M, r, R, q⟩ => EQ.now q R.mr _ (.str h1 h2)
variable {a b e3 : E} {x y z : Expr} {pos : Pos}
theorem ok_bin {o : O2} (ha : PE C x (tE W X Ex a)) (hb : PE C y (tE W X Ex b)) : PE C (.BinOp x (bop o) y pos) (tE W X Ex (.bin o a b)) :=
  (pe_op (op_bin (W := W) o) ha hb).wk fun σ H Q ⟨F, m, M, r, R, q⟩ => tE_bind R q fun M1 d F1 m1 H1 v R1 a1 rv h1 => tE_bind R1 h1 fun M2 e F2 m2 H2 w R2 a2 rw2 h2 => by
    obtain ⟨dd, e1, k⟩ := EQ.opt h2
    exact ⟨F2, m2, M2, d, e, dd, R2.mr, rv.xt a2, rw2, e1, fun u F' H' x1 m1' r1 => k F' m2 H' x1 m1' u r1⟩
theorem ok_neg (ha : PE C x (tE W X Ex a)) : PE C (.UnaryOp .USub x pos) (tE W X Ex (.neg a)) :=
  (pe_un un_neg ha).wk fun σ H Q ⟨F, m, M, r, R, q⟩ => tE_bind R q fun M1 d F1 m1 H1 v R1 a1 rv h1 => by
    cases rv <;> first | exact h1.elim | skip
    exact ⟨_, rfl, EQ.now h1 R1.mr _ (.int _)⟩
theorem ok_not (ha : PE C x (tE W X Ex a)) : PE C (.UnaryOp .Not x pos) (tE W X Ex (.not a)) :=
  (pe_notT ha).wk fun σ H Q ⟨F, m, M, r, R, q⟩ => tE_bind R q fun M1 d F1 m1 H1 v R1 a1 rv h1 => by
    cases ht : tru M1 d with
    | none => rw [ht] at h1; exact h1.elim
    | some k =>
      rw [ht] at h1
      exact ⟨k, tru_at R1.mr rv ht, EQ.now h1 R1.mr _ (.bl _)⟩
theorem ok_and {rest : List Expr} (ha : PE C x (tE W X Ex a)) (hb : PE C (.BoolOp .And (y :: rest) pos) (tE W X Ex b)) : PE C (.BoolOp .And (x :: y :: rest) pos) (tE W X Ex (.and a b)) :=
  (pe_andT ha hb).wk fun σ H Q ⟨F, m, M, r, R, q⟩ => tE_bind R q fun M1 d F1 m1 H1 v R1 a1 rv h1 => by
    cases ht : tru M1 d with
    | none => rw [ht] at h1; exact h1.elim
    | some k =>
      rw [ht] at h1
      refine ⟨k, tru_at R1.mr rv ht, ?_⟩
      cases k with
      | true => exact iteT ⟨F1, m1, M1, r, R1, h1⟩
      | false => exact iteF (EQ.now h1 R1.mr _ rv)
theorem ok_or {rest : List Expr} (ha : PE C x (tE W X Ex a)) (hb : PE C (.BoolOp .Or (y :: rest) pos) (tE W X Ex b)) : PE C (.BoolOp .Or (x :: y :: rest) pos) (tE W X Ex (.or a b)) :=
  (pe_orT ha hb).wk fun σ H Q ⟨F, m, M, r, R, q⟩ => tE_bind R q fun M1 d F1 m1 H1 v R1 a1 rv h1 => by
    cases ht : tru M1 d with
    | none => rw [ht] at h1; exact h1.elim
    | some k =>
      rw [ht] at h1
      refine ⟨k, tru_at R1.mr rv ht, ?_⟩
      cases k with
      | true => exact iteT (EQ.now h1 R1.mr _ rv)
      | false => exact iteF ⟨F1, m1, M1, r, R1, h1⟩
theorem ok_ife (hc : PT C z (tT W X Ex e3)) (ha : PE C x (tE W X Ex a)) (hb : PE C y (tE W X Ex b)) : PE C (.IfExp z x y pos) (tE W X Ex (.ife e3 a b)) :=
  (pe_ifExp hc ha hb).wk fun σ H Q ⟨F, m, M, r, R, q⟩ => by
    have q' : EQ W F m H (fun cls dd H' => Ex cls dd σ H') (fun _ d F' m' H' => ∀ v, Rp W F' m' v d → Q v H') ((evB X e3 M r).bind fun M1 k => if k = true then ev X a M1 r else ev X b M1 r) := by
      have e : (evB X e3 M r).bind (fun M1 k => if k = true then ev X a M1 r else ev X b M1 r) = ev X (.ife e3 a b) M r := by
        show ((ev X e3 M r).bind fun M1 x => Oc.R.opt M1 (tru M1 x)).bind _ = (ev X e3 M r).bind _
        cases ev X e3 M r with
        | st => rfl
        | er M k fs => rfl
        | ok M1 d =>
          show (Oc.R.opt M1 (tru M1 d)).bind _ = _
          cases h : tru M1 d with
          | none => simp [Oc.R.opt, Oc.R.bind, h]
          | some k => cases k <;> simp [Oc.R.opt, Oc.R.bind, h]
      rw [e]; exact q
    exact tT_bind R q' fun M1 k F1 m1 H1 R1 a1 h1 => by
      cases k with
      | true => exact iteT ⟨F1, m1, M1, r, R1, h1⟩
      | false => exact iteF ⟨F1, m1, M1, r, R1, h1⟩
theorem ok_nil : PA C [] (tA W X Ex .nil) := pa_nil.wk fun σ H Q ⟨F, m, M, r, R, q⟩ => EQ.now q R.mr [] rfl [] .nil
theorem ok_cons {xs : List Expr} (hs : notStar x = true) (ha : PE C x (tE W X Ex a)) (hb : PA C xs (tA W X Ex b)) : PA C (x :: xs) (tA W X Ex (.cons a b)) :=
  (pa_cons ha hb (star_cons hs)).wk fun σ H Q ⟨F, m, M, r, R, q⟩ => tE_bind R q fun M1 d F1 m1 H1 v R1 a1 rv h1 => tA_bind R1 h1 fun M2 ds F2 m2 H2 vs _ R2 a2 rvs h2 =>
    EQ.now h2 R2.mr _ rfl _ (.cons (rv.xt a2) rvs)
theorem ev_len {l : E} : ∀ {es : List Expr}, chk P T N l sc (.l es) = true → ∀ {M : Mem} {r : En} {M' : Mem} {ds : List D}, ev X l M r = .ok M' (.tup ds) → ds.length = es.length := by
  induction l with
  | nil => intro es h M r M' ds e; cases es <;> simp [chk] at h; simp only [ev, R.ok.injEq, D.tup.injEq] at e; rw [← e.2]; rfl
  | cons a l _ ih =>
    intro es h M r M' ds e
    cases es <;> simp [chk] at h
    rename_i x xs
    simp only [ev] at e
    cases h1 : ev X a M r with
    | st => rw [h1] at e; cases e
    | er => rw [h1] at e; cases e
    | ok M1 d =>
      rw [h1] at e
      simp only [R.bind] at e
      cases h2 : ev X l M1 r with
      | st => rw [h2] at e; cases e
      | er => rw [h2] at e; cases e
      | ok M2 d2 =>
        rw [h2] at e
        cases d2 <;> simp [R.bind, ctup] at e
        rename_i ds2
        rw [← e.2, List.length_cons, ih h.2 h2, List.length_cons]
  | _ => intro es h; simp [chk, Tg.pl] at h
theorem ok_tup {l : E} {es : List Expr} {k : Nat} (h0 : es.length ≤ 1000) (hc : chk P T N l sc (.l es) = true) (h : PA C es (tA W X Ex l)) : PE C (.Tuple es k pos) (tE W X Ex (.tup l)) :=
  (pe_tup h).wk fun σ H Q ⟨F, m, M, r, R, q⟩ => tA_bind R (show EQ W F m H (fun cls dd H' => Ex cls dd σ H') (fun _ d F' m' H' => ∀ v, Rp W F' m' v d → Q v H') ((ev X l M r).bind fun M d => .ok M d) by rw [Oc.R.bind_ok]; exact q) fun M1 ds F1 m1 H1 vs e R1 a1 rv h1 => by
    have hl : vs.length ≤ 1000 := by rw [rv.len, ev_len hc e]; exact h0
    exact ⟨Nat.le_trans hl (by rw [← lim_line]; decide), done_tup R1.mr rv (Nat.le_trans hl (by decide)) fun v F' H' x1 m1' rp => h1 F' m1 H' x1 m1' v rp⟩
theorem ok_lstO {l : E} {es : List Expr} (h0 : es.length ≤ 1000) (hc : chk P T N l sc (.l es) = true) (h : PA C es (tA W X Ex l)) : PE C (.List es pos) (tO W X Ex (.lst l)) :=
  (pe_lst h).wk fun σ H Q ⟨F, m, M, r, R, q⟩ => tA_bind R q fun M1 ds F1 m1 H1 vs e R1 a1 rv h1 => by
    have hl : vs.length ≤ 1000 := by rw [rv.len, ev_len hc e]; exact h0
    refine ⟨Nat.le_trans hl (by rw [← lim_line]; decide), fun p hp => ?_⟩
    obtain ⟨R2, x2⟩ := R1.mr.own (o := .lst vs) hp
    have hm : p ∉ m1 := fun z => by
      obtain ⟨k, hk⟩ := List.getElem?_of_mem z
      have hk' : k < m1.length := (List.getElem?_eq_some_iff.mp hk).1
      rw [R1.mr.len] at hk'
      obtain ⟨_, r3⟩ := R1.mr.mo k _ p (List.getElem?_eq_getElem hk') hk
      cases hM : M1[k] with
      | ml xs => rw [hM] at r3; obtain ⟨_, q1, _⟩ := r3; rw [hp] at q1; cases q1
      | mi c ns ds => rw [hM] at r3; obtain ⟨_, _, _, q1, _⟩ := r3; rw [hp] at q1; cases q1
    have hF : F1 p = none := by
      cases e : F1 p with
      | none => rfl
      | some u => rw [R1.mr.sub _ _ e] at hp; cases hp
    have h0 : H p = none := by
      cases e : H p with
      | none => rfl
      | some u => exact absurd hp (a1.dx p (by rw [e]; exact fun z => by cases z))
    exact h1 F1 m1 _ x2 R2 p hF hm h0 ⟨vs, upd_same, rv, Nat.le_trans hl (by decide)⟩
end
end Oc
namespace Oc
open L2 PySem PySem.Spec PyProof.Rows
section
variable {W : Wd} {P : Pg} {T : Tb} {n : Nat} {N : List Str} {C : Cx} {sc : Scope} {Ex : WX}
/-- an instance against a thing, by the class's own == -/
def rEO (W : Wd) (P : Pg) (n : Nat) : R2 := fun x y H Q => ∃ F m M c ns vs y' f, Mr W F m H M ∧ Rp W F m x (.obj c ns vs) ∧ Rp W F m y y' ∧ P.eqf c = some f ∧ eqOk c y' = true ∧
  EQ W F m H (fun _ _ _ => False) (fun _ d _ _ H' => ∃ b, d = .bl b ∧ Q (.bl b) H') (P.call n f M [.obj c ns vs, y'])
theorem eo_ok (g : Gt W P T n C.prog C.w C.K C.mg C.base) (hr : Room (2 * n + 3) C.A) : OpR C (compareOp .Eq) (rEO W P n) := by
  intro pins s σ H x y v u Q I rx ry ⟨F, m, M, c, ns, vs, y', f, R, ra, rb, hf, hy, q⟩
  show wpAny (model C.prog C.w) C.A (richCompare .Eq v u) (EP C pins σ Q) C.xe s
  cases ra with
  | obj h1 hc hk r =>
    rename_i p dx fs
    cases rx
    have ha := R.sub _ _ h1
    obtain ⟨mA, J, _⟩ := ins_get I.hok ha
    obtain ⟨od, J, _⟩ := J.look
    obtain ⟨mm, hF⟩ := I.fr
    obtain ⟨hav, ef⟩ := g.eqf c f hc hf
    have hsp : spF W P n f [.ref p, y] H (fun w H' => ∃ b, w = .bl b ∧ Q (.bl b) H') (fun _ _ _ => False) := by
      refine ⟨F, m, M, _, R, .cons (.obj h1 hc hk r) (.cons rb .nil), q.mono fun M1 d F1 m1 H1 _ _ k w rw1 => ?_⟩
      obtain ⟨b, e, k⟩ := k
      subst e
      cases rw1
      exact ⟨b, rfl, k⟩
    obtain ⟨d, hd⟩ : ∃ d, P.df f = some d := by
      cases h : P.df f with
      | some d => exact ⟨d, rfl⟩
      | none =>
        exfalso
        cases n with
        | zero => exact q.elim
        | succ k => simp only [Pg.call, h] at q; exact q.elim
    obtain ⟨fd, FO, bd⟩ := g.fns f d hav hd
    have hr2 : Room (2 * n + 2) C.A := hr.mono (Nat.le_succ _)
    have call : ∀ (b : Value), RelV y b → wpAny (model C.prog C.w) C.A (call (.ref (W.fa f)) [.ref p, b]) (PySem.W.CmpBack (EP C pins σ Q)) C.xe s := fun b hb => by
      have r2 : Vals [V.ref p, y] [Value.ref p, b] := .cons rfl (.cons hb .nil)
      have hl := FO.len _ _ _ _ hsp
      refine wpAny_call (codeAny_mono (FO.run C.A C.stack s H ⟨[.ref p, b], []⟩ [.ref p, b] [.ref p, y] _ _ hr2 I.env0 (by
        have := bd s [.ref p, b] I.kIn (by simpa using hl)
        simpa using this) r2 hsp) fun r s' hq => ?_)
      cases r with
      | error e =>
        obtain ⟨_, _, _, _, _, _, _, _, _, _, _, _, z⟩ := hq
        exact z.elim
      | ok fl =>
        cases fl with
        | ret w =>
          obtain ⟨z, H', I', rz, b, ez, ex⟩ := I.after hq
          subst ez
          cases rz
          exact ⟨.bl b, H', I', rfl, ex⟩
        | next => exact False.elim hq
        | brk => exact False.elim hq
        | cont => exact False.elim hq
    cases rb with
    | obj h2 hc2 hk2 r2 =>
      rename_i p2 dx2 fs2 c2 ns2 ds2
      cases ry
      have hb' := R.sub _ _ h2
      obtain ⟨mB, J', _⟩ := ins_get I.hok hb'
      obtain ⟨od', J', _⟩ := J'.look
      have ec : c2 = c := by simpa [eqOk] using hy
      subst ec
      exact PySem.W.cmp_K (op := .Eq) (tb := .ref (W.ca c2)) hr.units0 hF I.ok.mod.kin J J'.type (by simp [PySem.W.notFirst]) ef.at_ ef.fn (call _ rfl)
    | tup h2 r2 l2 =>
      rename_i p2 vs2 ds2
      cases ry
      obtain ⟨_, _, _, o, ho, hcl, _⟩ := (show ObjOk C.prog C.w H s.heap p2 (.tup vs2) from I.hok p2 _ (R.sub _ _ h2))
      exact PySem.W.cmp_K (op := .Eq) (tb := .type "tuple") hr.units0 hF I.ok.mod.kin J (fun A Q E s k q => wpAny_typeOf_ref (k _ _ ho) (by rw [hcl]; exact q)) (by simp [PySem.W.notFirst, ef.nt]) ef.at_ ef.fn (call _ rfl)
    | _ => simp [eqOk] at hy
variable {a b e3 : E} {x y z : Expr} {pos : Pos}
/-- the two kinds of comparison -/
def rC (W : Wd) (P : Pg) (n : Nat) (o : CO) : R2 := fun x y H Q => rB W (fun _ a b => (cmpD o a b).map .bl) x y H Q ∨ (o = .eq ∧ rEO W P n x y H Q)
theorem opC (o : CO) (g : Gt W P T n C.prog C.w C.K C.mg C.base) (hr : Room (2 * n + 3) C.A) : OpR C (compareOp (cop o)) (rC W P n o) := by
  intro pins s σ H x y v u Q I rx ry h
  rcases h with h | ⟨rfl, h⟩
  · exact op_cmp o hr pins s σ H x y v u Q I rx ry h
  · exact eo_ok g hr pins s σ H x y v u Q I rx ry h
theorem rd_cmp (o : CO) {F : Hp} {m : List Addr} {H : Hp} {M M' : Mem} {σ : L2.St} {r : En} {Q : VK} (R : Rl W F m H M σ r)
    (q : EQ W F m H (fun cls dd H' => Ex cls dd σ H') (fun _ d F' m' H' => ∀ v, Rp W F' m' v d → Q v H') (ev (P.fx n) (.cmp o a b) M r)) : tOp (rC W P n o) (tE W (P.fx n) Ex a) (tE W (P.fx n) Ex b) σ H Q :=
  tE_bind R q fun M1 d F1 m1 H1 v R1 a1 rv h1 => tE_bind R1 h1 fun M2 e F2 m2 H2 w R2 a2 rw2 h2 => by
    have gen : ∀ {dd : Option D}, EQ W F2 m2 H2 (fun cls dd H' => Ex cls dd σ H') (fun _ d F' m' H' => ∀ v, Rp W F' m' v d → Q v H') (Oc.R.opt M2 dd) → dd = (cmpD o d e).map .bl → rC W P n o v w H2 Q := fun h2 ed => by
      obtain ⟨dd, e1, k⟩ := EQ.opt h2
      exact .inl ⟨F2, m2, M2, d, e, dd, R2.mr, rv.xt a2, rw2, by show (cmpD o d e).map D.bl = some dd; rw [← ed]; exact e1, fun u F' H' x1 m1' r1 => k F' m2 H' x1 m1' u r1⟩
    by_cases ho : o = .eq
    · subst ho
      cases d with
      | obj c ns vs =>
        refine .inr ⟨rfl, ?_⟩
        dsimp only [Pg.fx] at h2
        cases hf : P.eqf c with
        | none => rw [hf] at h2; exact h2.elim
        | some f =>
          rw [hf] at h2
          dsimp only at h2
          split at h2
          · rename_i hy
            refine ⟨F2, m2, M2, c, ns, vs, e, f, R2.mr, rv.xt a2, rw2, hf, hy, ?_⟩
            cases hc : P.call n f M2 [.obj c ns vs, e] with
            | st => rw [hc] at h2; exact h2.elim
            | er M k fs => rw [hc] at h2; exact h2.elim
            | ok M3 z =>
              rw [hc] at h2
              cases z <;> first | exact h2.elim | skip
              exact fun F' m' H' x1 r1 => ⟨_, rfl, h2 F' m' H' x1 r1 _ (.bl _)⟩
          · exact h2.elim
      | _ => exact gen h2 rfl
    · cases o <;> first | exact gen h2 rfl | exact absurd rfl ho
theorem ok_cmp {o : CO} (c : Ct W P T n N C sc Ex) (hs : notSet y = true) (ha : PE C x (tE W (P.fx n) Ex a)) (hb : PE C y (tE W (P.fx n) Ex b)) : PE C (.Compare x [cop o] [y] pos) (tE W (P.fx n) Ex (.cmp o a b)) :=
  (pe_cmpR (opC (W := W) o c.g c.room) ha hb (mark_set hs)).wk fun σ H Q ⟨F, m, M, r, R, q⟩ => rd_cmp (M' := M) o R q
theorem bind_okE {α β : Type} {x : R α} {f : Mem → α → R β} {M : Mem} {d : β} (h : x.bind f = .ok M d) : ∃ M1 z, x = .ok M1 z ∧ f M1 z = .ok M d := by
  cases x with
  | ok M1 z => exact ⟨M1, z, rfl, h⟩
  | er => cases h
  | st => cases h
theorem map_bl {M M' : Mem} {o : Option Bool} {d : D} (h : Oc.R.opt M (o.map D.bl) = .ok M' d) : ∃ k, d = .bl k := by
  cases o with
  | none => cases h
  | some k => cases h; exact ⟨k, rfl⟩
theorem cmp_bl {X : Fx} {o : CO} {M M' : Mem} {r : En} {d : D} (h : ev X (.cmp o a b) M r = .ok M' d) : ∃ k, d = .bl k := by
  obtain ⟨M1, z, _, h⟩ := bind_okE (show (ev X a M r).bind _ = _ from h)
  obtain ⟨M2, z2, _, h⟩ := bind_okE h
  split at h
  · split at h
    · split at h
      · split at h
        · cases h; exact ⟨_, rfl⟩
        · cases h
      · cases h
    · cases h
  · exact map_bl h
theorem chn_bl {X : Fx} {o p : CO} {M M' : Mem} {r : En} {d : D} (h : ev X (.chn o p a b e3) M r = .ok M' d) : ∃ k, d = .bl k := by
  obtain ⟨M1, z, _, h⟩ := bind_okE (show (ev X a M r).bind _ = _ from h)
  obtain ⟨M2, z2, _, h⟩ := bind_okE h
  split at h
  · obtain ⟨M3, z3, _, h⟩ := bind_okE h
    exact map_bl h
  · cases h; exact ⟨_, rfl⟩
  · cases h
/-- a bool's test -/
theorem bl_test {X : Fx} {c : E} {F : Hp} {m : List Addr} {H : Hp} {M : Mem} {r : En} {σ : L2.St} {Q : Bool → Hp → Prop} (hb : ∀ M' d, ev X c M r = .ok M' d → ∃ k, d = .bl k)
    (q : EQ W F m H (fun cls dd H' => Ex cls dd σ H') (fun _ b _ _ H' => Q b H') (evB X c M r)) :
    EQ W F m H (fun cls dd H' => Ex cls dd σ H') (fun _ d F' m' H' => ∀ v, Rp W F' m' v d → ∃ k, v = .bl k ∧ Q k H') (ev X c M r) :=
  (EQ.bind q).monoE fun M1 d F1 m1 H1 e a1 R1 h1 v rv => by
    obtain ⟨k, rfl⟩ := hb M1 d e
    cases rv
    exact ⟨k, rfl, EQ.now h1 R1⟩
theorem ok_cmpT {o : CO} (c : Ct W P T n N C sc Ex) (hs : notSet y = true) (ha : PE C x (tE W (P.fx n) Ex a)) (hb : PE C y (tE W (P.fx n) Ex b)) : PT C (.Compare x [cop o] [y] pos) (tT W (P.fx n) Ex (.cmp o a b)) :=
  (pt_cmpR (opC (W := W) o c.g c.room) ha hb (mark_set hs)).wk fun σ H Q ⟨F, m, M, r, R, q⟩ => rd_cmp (M' := M) (Ex := Ex) o R (bl_test (fun _ _ h => cmp_bl h) q)
theorem last_marks {o p : CmpOp} {y z : Expr} (h : notSet z = true) : lastMarks [o, p] [y, z] = false := mark_set h
theorem rd_chn (o p : CO) {F : Hp} {m : List Addr} {H : Hp} {M : Mem} {σ : L2.St} {r : En} {Q : VK} (R : Rl W F m H M σ r)
    (q : EQ W F m H (fun cls dd H' => Ex cls dd σ H') (fun _ d F' m' H' => ∀ v, Rp W F' m' v d → Q v H') (ev (P.fx n) (.chn o p a b e3) M r)) :
    tChain (rB W fun _ a b => (cmpD o a b).map .bl) (rB W fun _ a b => (cmpD p a b).map .bl) (tE W (P.fx n) Ex a) (tE W (P.fx n) Ex b) (tE W (P.fx n) Ex e3) σ H Q :=
  tE_bind R q fun M1 d F1 m1 H1 v R1 a1 rv h1 => tE_bind R1 h1 fun M2 e F2 m2 H2 w R2 a2 rw2 h2 => by
    cases hc : cmpD o d e with
    | none => rw [hc] at h2; exact h2.elim
    | some k =>
      rw [hc] at h2
      refine ⟨F2, m2, M2, d, e, .bl k, R2.mr, rv.xt a2, rw2, by show (cmpD o d e).map D.bl = _; rw [hc]; rfl, fun u F' H' x1 m1' r1 => ?_⟩
      cases r1
      refine ⟨k, rfl, ?_⟩
      have R3 := R2.step x1 m1'
      have h3 := EQ.fwd x1 h2
      cases k with
      | true =>
        exact iteT (tE_bind R3 h3 fun M4 g F4 m4 H4 u R4 a4 ru h4 => by
          obtain ⟨dd, e1, k⟩ := EQ.opt h4
          exact ⟨F4, m4, M4, e, g, dd, R4.mr, (rw2.xt x1).xt a4, ru, e1, fun u F' H' x1 m1' r1 => k F' m4 H' x1 m1' u r1⟩)
      | false => exact iteF (EQ.now h3 m1' _ (.bl _))
theorem ok_chn {o p : CO} (c : Ct W P T n N C sc Ex) (hs : notSet z = true) (ha : PE C x (tE W (P.fx n) Ex a)) (hb : PE C y (tE W (P.fx n) Ex b)) (hc : PE C z (tE W (P.fx n) Ex e3)) :
    PE C (.Compare x [cop o, cop p] [y, z] pos) (tE W (P.fx n) Ex (.chn o p a b e3)) :=
  (pe_chain (op_cmp (W := W) o c.room) (op_cmp (W := W) p c.room) ha hb hc (last_marks hs)).wk fun σ H Q ⟨F, m, M, r, R, q⟩ => rd_chn o p R q
theorem ok_chnT {o p : CO} (c : Ct W P T n N C sc Ex) (hs : notSet z = true) (ha : PE C x (tE W (P.fx n) Ex a)) (hb : PE C y (tE W (P.fx n) Ex b)) (hc : PE C z (tE W (P.fx n) Ex e3)) :
    PT C (.Compare x [cop o, cop p] [y, z] pos) (tT W (P.fx n) Ex (.chn o p a b e3)) :=
  (pt_chain (op_cmp (W := W) o c.room) (op_cmp (W := W) p c.room) ha hb hc (last_marks hs)).wk fun σ H Q ⟨F, m, M, r, R, q⟩ => rd_chn o p R (bl_test (fun _ _ h => chn_bl h) q)
theorem pt_gen {c : E} {X : Fx} (h : PE C x (tE W X Ex c)) (he : ∀ whole, isTrue x C.env whole = (do let v ← whole; standAt x.pos; holding [v] (truthy v))) : PT C x (tT W X Ex c) :=
  (pt_truth h he).wk fun σ H Q ⟨F, m, M, r, R, q⟩ => tE_bind R q fun M1 d F1 m1 H1 v R1 a1 rv h1 => by
    obtain ⟨k, e, k2⟩ := EQ.opt h1
    exact ⟨k, tru_at R1.mr rv e, k2 _ _ _ (Xt.refl _ _ _) R1.mr⟩
theorem evB_not {X : Fx} {M : Mem} {r : En} : evB X (.not a) M r = (evB X a M r).bind fun M1 k => .ok M1 (!k) := by
  show ((ev X a M r).bind _).bind _ = ((ev X a M r).bind _).bind _
  cases ev X a M r with
  | st => rfl
  | er => rfl
  | ok M1 d =>
    show (Oc.R.opt M1 ((tru M1 d).map _)).bind _ = (Oc.R.opt M1 (tru M1 d)).bind _
    cases tru M1 d <;> rfl
theorem evB_and {X : Fx} {M : Mem} {r : En} : evB X (.and a b) M r = (evB X a M r).bind fun M1 k => if k = true then evB X b M1 r else .ok M1 false := by
  show ((ev X a M r).bind _).bind _ = ((ev X a M r).bind _).bind _
  cases ev X a M r with
  | st => rfl
  | er => rfl
  | ok M1 d =>
    show R.bind (match tru M1 d with | some true => ev X b M1 r | some false => .ok M1 d | none => .st) _ = (Oc.R.opt M1 (tru M1 d)).bind _
    cases h : tru M1 d with
    | none => rfl
    | some k =>
      cases k with
      | true => rfl
      | false => simp [Oc.R.bind, Oc.R.opt, h]
theorem evB_or {X : Fx} {M : Mem} {r : En} : evB X (.or a b) M r = (evB X a M r).bind fun M1 k => if k = true then .ok M1 true else evB X b M1 r := by
  show ((ev X a M r).bind _).bind _ = ((ev X a M r).bind _).bind _
  cases ev X a M r with
  | st => rfl
  | er => rfl
  | ok M1 d =>
    show R.bind (match tru M1 d with | some true => .ok M1 d | some false => ev X b M1 r | none => .st) _ = (Oc.R.opt M1 (tru M1 d)).bind _
    cases h : tru M1 d with
    | none => rfl
    | some k =>
      cases k with
      | true => simp [Oc.R.bind, Oc.R.opt, h]
      | false => rfl
theorem ok_notT {X : Fx} (ha : PT C x (tT W X Ex a)) : PT C (.UnaryOp .Not x pos) (tT W X Ex (.not a)) :=
  (pt_not ha).wk fun σ H Q ⟨F, m, M, r, R, q⟩ => by
    rw [evB_not] at q
    exact tT_bind R q fun M1 k F1 m1 H1 R1 a1 h1 => EQ.now h1 R1.mr
theorem ok_andT {X : Fx} {rest : List Expr} (ha : PT C x (tT W X Ex a)) (hb : PW C (.BoolOp .And (y :: rest) pos) (tT W X Ex b)) : PW C (.BoolOp .And (x :: y :: rest) pos) (tT W X Ex (.and a b)) :=
  (pw_and ha hb).wk fun σ H Q ⟨F, m, M, r, R, q⟩ => by
    rw [evB_and] at q
    exact tT_bind R q fun M1 k F1 m1 H1 R1 a1 h1 => by
      cases k with
      | true => exact iteT ⟨F1, m1, M1, r, R1, h1⟩
      | false => exact iteF (EQ.now h1 R1.mr)
theorem ok_orT {X : Fx} {rest : List Expr} (ha : PT C x (tT W X Ex a)) (hb : PW C (.BoolOp .Or (y :: rest) pos) (tT W X Ex b)) : PW C (.BoolOp .Or (x :: y :: rest) pos) (tT W X Ex (.or a b)) :=
  (pw_or ha hb).wk fun σ H Q ⟨F, m, M, r, R, q⟩ => by
    rw [evB_or] at q
    exact tT_bind R q fun M1 k F1 m1 H1 R1 a1 h1 => by
      cases k with
      | true => exact iteT (EQ.now h1 R1.mr)
      | false => exact iteF ⟨F1, m1, M1, r, R1, h1⟩
end
end Oc
namespace Oc
open L2 PySem PySem.Spec PyProof.Rows
section
variable {P : Program} {w : World} {A : Around} {E : Value → Shared → Prop} {s : Shared}
/-- the set that is made, empty -/
abbrev nuSet (w : World) : Obj := { cls := .type "set", dict := none, data := .set #[] 0 (.fresh 0 0 (!w.params.followText "set-order")) }
/-- the empty set in its heap -/
theorem nu_at (h : Heap) (w : World) : (h.push (nuSet w)).get? h.objs.size = some (nuSet w) := Heap.get?_push_size _ rfl
/-- set(l), l a list of whole numbers -/
theorem call_setL {l : Addr} {items : Array Value} (ns : List Int) {Q : Value → Shared → Prop} (ha : A.handled = none) (hl : s.heap.IsList l items) (hv : IntsAre items.toList ns) (hb : ns.length + 1 < scanBound)
    (fin : ∀ (g : Heap) (k c : Nat), SetR w g s.heap.objs.size (fun j => decide (j ∈ ns)) c → c ≤ ns.length → (∀ b o, s.heap.get? b = some o → g.get? b = some o) → Q (.ref s.heap.objs.size) { s with heap := g, toks := k }) :
    wpAny (model P w) A (call (.type "set") [.ref l]) Q E s := by
  have sz : items.size = ns.length := by have q := IntsAre.length hv; rwa [Array.length_toList] at q
  obtain ⟨c0, tl, m0⟩ := F.called_set.mro
  have m1 := F.called_set.made
  have m2 := F.called_set.sub
  refine wpAny_call (codeAny_of_tree ?_)
  show wpAny _ _ (callAny (.type "set") _) _ _ _
  refine wpAny_pure ⟨Code.quiet_builtin _ (by decide +kernel), codeAny_builtin F.entry_type_call ?_⟩
  rw [Around.under_plain (weight_type_call_type "set" [.ref l] []) rfl]
  have m3 := F.called_set.notType
  have m4 := F.called_set.canCreate
  have m5 := F.typeCall_set_1 (.ref l)
  repeat (any_goals (first | assumption | wp_step))
  refine codeAny_mono (code_set_led1 (.ref l) (E := E) (Q₁ := fun x z => x = .ref s.heap.objs.size ∧ z = { s with heap := s.heap.push (nuSet w) }) ⟨rfl, rfl⟩) fun f z hz => ?_
  cases f with
  | error e => exact hz
  | ok f =>
    cases f with
    | ret x =>
      obtain ⟨rfl, rfl⟩ := hz
      have at0 := nu_at s.heap w
      have ty0 : Shared.TypeIs { s with heap := s.heap.push (nuSet w) } (.ref s.heap.objs.size) "set" := ⟨_, at0, rfl⟩
      have i1 := F.called_set.init.lookup
      have i2 := F.called_set.init.bind (.ref s.heap.objs.size)
      repeat (any_goals (first | assumption | wp_step))
      refine codeAny_mono (codeAny_call_builtin (R := wants (fun r z => r = .none ∧ ∃ g k c, z = { s with heap := g, toks := k } ∧ SetR w g s.heap.objs.size (fun j => decide (j ∈ ns)) c ∧ c ≤ ns.length ∧
          ∀ b o, s.heap.get? b = some o → g.get? b = some o) E) F.called_set.init.plain F.entry_set_init (check_set_init_1 ty0 ?_)) fun f z hz => ?_
      · obtain ⟨ob, hob, oc, on, od⟩ := hl
        obtain ⟨o1, o2, o3, o4⟩ := ob
        simp only at oc od
        subst oc; subst od
        have hob' : (s.heap.push (nuSet w)).get? l = some { cls := .type "list", dict := o2, data := .seq items on, slots := o4 } := Heap.get?_push_of_some _ hob
        have n1 := F.sub_list_set
        have n2 := F.sub_list_frozenset
        have n3 : (Value.type "list" == Value.type "dict") = false := by decide
        have li : (s.heap.push (nuSet w)).IsList l items := ⟨_, hob', rfl, on, rfl⟩
        unfold Builtin.«set.__init__» noKeywords Builtin.Frozenset.updateFrom
        generalize hPI : pyIter = PI
        wp_walk
        subst hPI
        refine wpAny_pyIter_list li ?_
        refine wpAny_bind (wpAny_runValue ?_)
        have lt : l < s.heap.objs.size := Heap.lt_size hob
        have a3 : A.in1.in1.in1.handled = none := by simp [ha]
        have neI : l ≠ (s.heap.push (nuSet w)).objs.size := by
          rw [Heap.size_push]
          exact Nat.ne_of_lt (Nat.lt_succ_of_lt lt)
        have nS : s.heap.objs.size ∉ [(s.heap.push (nuSet w)).objs.size, l] := by
          rw [Heap.size_push]; simp only [List.mem_cons, List.mem_singleton, List.not_mem_nil, or_false, not_or]
          exact ⟨Nat.ne_of_lt (Nat.lt_succ_self _), Nat.ne_of_gt lt⟩
        have vals : ∀ (i : Nat) (v : Value), items[i]? = some v → ∃ k t, ns[i]? = some k ∧ v = .int k t := fun i v e => by
          have hi : i < ns.length := by rw [← sz]; exact (Array.getElem?_eq_some_iff.mp e).1
          obtain ⟨t, q⟩ := PyProof.Rows.IntsAre.int_at hv i v (by rw [Array.getElem?_toList]; exact e)
          refine ⟨ns[i], t, List.getElem?_eq_getElem hi, ?_⟩
          rw [q, List.getD_eq_getElem?_getD, List.getElem?_eq_getElem hi] <;> rfl
        refine set_update_ints ((Walks.list a3 _ l neI items).toS) s.heap.objs.size nS ns sz hb vals (items.size - 0) 0 _ (by omega) (Nat.zero_le _) ⟨⟨_, Heap.get?_push_size _ rfl, rfl, rfl⟩, li.push _⟩ ?z0 ?zR
        case z0 =>
          exact ⟨0, Nat.le_refl 0, setR_new_at (Heap.get?_push_of_some _ at0)⟩
        case zR =>
          intro z c mv hc hS
          obtain ⟨g, g2, d2, k2, o2⟩ := z
          have eg : g2 = s.gens := mv.gens
          have ed : d2 = s.drawn := mv.drawn
          have eo : o2 = s.os := mv.os
          subst eg; subst ed; subst eo
          show wpAny _ _ _ _ _ _
          refine wpAny_pure ?_
          show wpAny _ _ (ret Value.none) _ _ _
          rw [sz] at hc
          refine wpAny_pure ⟨rfl, g, k2, c, rfl, hS, hc, fun b o e => ?_⟩
          have b0 : b < s.heap.objs.size := Heap.lt_size e
          have b2 : b ≠ (s.heap.push (nuSet w)).objs.size := by
            rw [Heap.size_push]
            exact Nat.ne_of_lt (Nat.lt_succ_of_lt b0)
          exact mv.heap b o (by simp only [List.mem_cons, List.mem_singleton, List.not_mem_nil, or_false, not_or]; exact ⟨Nat.ne_of_lt b0, b2⟩) (Heap.get?_push_of_some _ (Heap.get?_push_of_some _ e))
      · cases f with
        | error e => exact hz
        | ok f =>
          cases f with
          | ret r =>
            obtain ⟨rfl, g, k, c, rfl, q1, q2, q3⟩ := hz
            repeat (any_goals (first | assumption | wp_step))
            exact fin _ _ _ q1 q2 q3
          | _ => exact hz.elim
    | _ => exact hz.elim
end
/-- set(x), x a list or tuple of ints -/
theorem cr_setAny {C : Cx} (hc : C.calm = true) : CallR C (.type "set") (fun xs H Q => ∃ (a : Addr) (ns : List Int), xs = [.ref a] ∧ (SqT C.K H a (ns.map V.int) ∨ SqL C.K H a (ns.map V.int)) ∧ ns.length < 64 ∧ ∀ p c, H p = none → c ≤ ns.length → Q (.ref p) (upd H p (SetO C.w p (fun j => decide (j ∈ ns)) c))) := by
  intro pins s σ H xs us Q I rx ⟨a, ns, e, hs, hl, q⟩
  rcases hs with hs | hs
  · exact cr_setTup hc pins s σ H xs us Q I rx ⟨a, ns, e, hs, hl, q⟩
  · subst e
    obtain ⟨its, rv, ht, _⟩ := I.list hs
    rw [Vals.ref1 rx]
    refine call_setL ns (I.ok.hd hc) ht.isList (by simpa using rv.ints) (by unfold scanBound; omega) fun g tk c R hn hk => ?_
    have hf : H s.heap.objs.size = none := I.hok.fresh (Nat.le_refl _)
    exact ⟨.ref _, _, I.laid (t' := tk) hk (Nat.le_refl _) (setO_new R), rfl, q _ c hf hn⟩
end Oc
namespace Oc
open L2 PySem PySem.Spec PyProof.Rows
/-- an entry's text -/
def keyT (e : Int × Value) : Str := match e.2 with
  | .str k _ => k
  | _ => Str.empty
def GoodT (w : World) (e : Int × Value) : Prop := ∃ k tk, e.2 = Value.str k tk ∧ e.1 = hashStr w k
/-- the set of texts at a: S its members, n their number -/
def SetT (w : World) (h : Heap) (a : Addr) (S : Str → Bool) (n : Nat) : Prop :=
  ∃ o es ep t, h.get? a = some o ∧ o.ExactSet ∧ o.data = .set es ep t ∧ (∀ e ∈ es.toList, GoodT w e) ∧ (es.toList.map keyT).Nodup ∧ (∀ k, S k = true ↔ k ∈ es.toList.map keyT) ∧
    es.size < scanBound ∧ t.fits es.size = true ∧ es.size = n ∧ Ris t.place.toList ∧ (w.params.followText "set-order" = true ∨ t.led = true)
section
variable {P : Program} {w : World} {h h' : Heap} {a : Addr} {S : Str → Bool} {n : Nat}
theorem SetT.at (R : SetT w h a S n) (k : ∀ o, h.get? a = some o → h'.get? a = some o) : SetT w h' a S n := by
  obtain ⟨o, es, ep, t, ho, r⟩ := R
  exact ⟨o, es, ep, t, k o ho, r⟩
end
end Oc
namespace Oc
open L2 PySem PySem.Spec PyProof.Rows
theorem CallR.or {C : Cx} {f : Value} {r1 r2 : List V → Hp → VK → Prop} (h1 : CallR C f r1) (h2 : CallR C f r2) : CallR C f (fun xs H Q => r1 xs H Q ∨ r2 xs H Q) := by
  intro pins s σ H xs us Q I rx h
  rcases h with h | h
  · exact h1 pins s σ H xs us Q I rx h
  · exact h2 pins s σ H xs us Q I rx h
end Oc
namespace Oc
open L2 PySem PySem.Spec PyProof.Rows
section
variable {W : Wd} {P : Pg} {T : Tb} {n : Nat} {N : List Str} {C : Cx} {sc : Scope} {Ex : WX}
theorem chk_head {l : E} {a : Expr} {as : List Expr} {env : Env} {pos : Pos} (h : chk P T N l sc (.l (a :: as)) = true) : notStar a = true ∧ (backTo pos (starEach as env)).any (·.1) = false := by
  cases l <;> simp [chk, Tg.pl] at h
  exact ⟨h.1.1, star_any h.2⟩
variable {a b l : E} {x y z : Expr} {as : List Expr} {pos p : Pos}
theorem ok_cal {f : Nat} {d : Df} (c : Ct W P T n N C sc Ex) (hav : T.av f = true) (ht : T.top f = true) (hd : P.df f = some d) (hg : glB sc d.nm = true) (hn : okNm d.nm = true) (hl : chk P T N l sc (.l (x :: as)) = true) (h : PA C (x :: as) (tA W (P.fx n) Ex l)) :
    PE C (.Call (.Name d.nm p) (x :: as) [] pos) (tE W (P.fx n) Ex (.cal f l)) := by
  obtain ⟨fd, F, bd⟩ := c.g.fns f d hav hd
  obtain ⟨e1, e2⟩ := c.g.top f d hav ht hd
  have hs := chk_head (env := C.env) (pos := pos) hl
  refine (pe_callS F (c.room.mono (Nat.le_succ _)) (c.so.gl _ hg) e1 e2 bd (fun σ => passAt c.tk σ) h (okNm_of hn).1 (star_cons hs.1) hs.2).wk fun σ H Q ⟨F, m, M, r, R, q⟩ => ?_
  exact tA_bind R q fun M1 ds F1 m1 H1 vs _ R1 a1 rv h1 => ⟨F1, m1, M1, ds, R1.mr, rv, h1⟩
theorem boot_bi (k : Bi) : bootBuiltins (biN k) = some (biV k) := by cases k <;> decide +kernel
theorem ok_bi {k : Bi} (c : Ct W P T n N C sc Ex) (hb : biN k ∈ T.blt) (hg : glB sc (biN k) = true) (hn : okNm (biN k) = true) (hl : chk P T N l sc (.l (x :: as)) = true) (h : PA C (x :: as) (tA W (P.fx n) Ex l)) :
    PE C (.Call (.Name (biN k) p) (x :: as) [] pos) (tE W (P.fx n) Ex (.bi k l)) := by
  have hs := chk_head (env := C.env) (pos := pos) hl
  have o := okNm_of hn
  have ca := ca_bi (W := W) (C := C) k c.calm (by have := c.room.un; omega) c.g.sq
  have hv := boot_bi k
  have rd : ∀ σ H Q, tE W (P.fx n) Ex (.bi k l) σ H Q → tCB (rCa W fun M ds => biD M k ds) (tA W (P.fx n) Ex l) σ H Q := fun σ H Q ⟨F, m, M, r, R, q⟩ =>
    tA_bind R q fun M1 ds F1 m1 H1 vs _ R1 a1 rv h1 => by
      obtain ⟨dd, e1, k2⟩ := EQ.opt h1
      exact ⟨F1, m1, M1, ds, dd, R1.mr, rv, e1, fun u F' H' x1 m1' r1 => k2 F' m1 H' x1 m1' u r1⟩
  cases hk : biV k <;> first | (exfalso; revert hk; cases k <;> (intro hk; cases hk); done) | skip
  · rw [hk] at ca hv
    exact (pe_callTy ca (c.so.gl _ hg) (c.g.blt _ hb) hv h o.2.2 o.1 (star_cons hs.1) hs.2).wk rd
  · rw [hk] at ca hv
    exact (pe_callB ca (c.so.gl _ hg) (c.g.blt _ hb) hv h o.2.2 o.1 (star_cons hs.1) hs.2).wk rd
theorem mem_insA {k x : Int} : ∀ {l : List Int}, k ∈ insA x l ↔ k = x ∨ k ∈ l
  | [] => by simp [insA]
  | y :: l => by
    unfold insA
    split
    · simp
    · split
      · rename_i h1 h2; subst h2; simp
      · rw [List.mem_cons, mem_insA (l := l), List.mem_cons]
        constructor
        · rintro (h | h | h) <;> simp [h]
        · rintro (h | h | h) <;> simp [h]
theorem insA_asc {x : Int} : ∀ {l : List Int}, l.Pairwise (· < ·) → (insA x l).Pairwise (· < ·)
  | [], _ => by simp [insA]
  | y :: l, h => by
    have h2 := List.pairwise_cons.mp h
    unfold insA
    split
    · rename_i c
      refine List.pairwise_cons.mpr ⟨fun z hz => ?_, h⟩
      rcases List.mem_cons.mp hz with e | e
      · omega
      · have := h2.1 z e; omega
    · split
      · exact h
      · refine List.pairwise_cons.mpr ⟨fun z hz => ?_, insA_asc h2.2⟩
        rcases mem_insA.mp hz with e | e
        · omega
        · exact h2.1 z e
theorem srsA_asc : ∀ l : List Int, (srsA l).Pairwise (· < ·)
  | [] => List.Pairwise.nil
  | x :: l => insA_asc (srsA_asc l)
theorem mem_srsA {k : Int} : ∀ {l : List Int}, k ∈ srsA l ↔ k ∈ l
  | [] => by simp [srsA]
  | x :: l => by
    show k ∈ insA x (srsA l) ↔ _
    rw [mem_insA, mem_srsA (l := l), List.mem_cons]
theorem asc_uniq : ∀ {l m : List Int}, l.Pairwise (· < ·) → m.Pairwise (· < ·) → (∀ k, k ∈ l ↔ k ∈ m) → l = m
  | [], [], _, _, _ => rfl
  | [], y :: m, _, _, h => absurd ((h y).mpr List.mem_cons_self) (by simp)
  | x :: l, [], _, _, h => absurd ((h x).mp List.mem_cons_self) (by simp)
  | x :: l, y :: m, hl, hm, h => by
    have hl2 := List.pairwise_cons.mp hl
    have hm2 := List.pairwise_cons.mp hm
    have e : x = y := by
      rcases List.mem_cons.mp ((h x).mp List.mem_cons_self) with e | e
      · exact e
      · rcases List.mem_cons.mp ((h y).mpr List.mem_cons_self) with e2 | e2
        · exact e2.symm
        · have := hm2.1 x e; have := hl2.1 y e2; omega
    subst e
    rw [asc_uniq hl2.2 hm2.2 fun k => ?_]
    constructor
    · intro hk
      rcases List.mem_cons.mp ((h k).mp (List.mem_cons_of_mem _ hk)) with e | e
      · have := hl2.1 k hk; omega
      · exact e
    · intro hk
      rcases List.mem_cons.mp ((h k).mpr (List.mem_cons_of_mem _ hk)) with e | e
      · have := hm2.1 k hk; omega
      · exact e
theorem boot_sorted : bootBuiltins "sorted" = some (.builtin "sorted") := by decide +kernel
theorem ok_srs {p2 q2 : Pos} (c : Ct W P T n N C sc Ex) (hb1 : ("sorted" : Str) ∈ T.blt) (hg1 : glB sc ("sorted" : Str) = true) (hb2 : ("set" : Str) ∈ T.blt) (hg2 : glB sc ("set" : Str) = true) (hs : notStar x = true) (ha : PE C x (tE W (P.fx n) Ex a)) :
    PE C (.Call (.Name "sorted" p) [.Call (.Name "set" p2) [x] [] q2] [] pos) (tE W (P.fx n) Ex (.srs a)) := by
  have inner : PE C (.Call (.Name "set" p2) [x] [] q2) _ := pe_callTy (cr_setAny c.calm) (c.so.gl _ hg2) (c.g.blt _ hb2) PyProof.Rows.boot_set (pa_cons ha pa_nil (star_cons hs)) (by decide) (by decide) (star_cons hs) rfl
  refine (pe_callB (cr_sortedSet c.calm) (c.so.gl _ hg1) (c.g.blt _ hb1) boot_sorted (pa_cons inner pa_nil rfl) (by decide) (by decide) rfl rfl).wk fun σ H Q ⟨F, m, M, r, R, q⟩ => ?_
  refine tE_bind R q fun M1 d F1 m1 H1 v R1 a1 rv h1 => ?_
  obtain ⟨dd, e1, k2⟩ := EQ.opt h1
  have alt : (∃ (ns : List Int) (pa : Addr), ns.length < 64 ∧ v = .ref pa ∧ dd = .lst ((srsA ns).map .int) ∧ (SqT C.K H1 pa (ns.map V.int) ∨ SqL C.K H1 pa (ns.map V.int))) := by
    unfold srsD at e1
    split at e1
    · rename_i xs
      cases hi : intsOf xs with
      | none => rw [hi] at e1; cases e1
      | some ns =>
        rw [hi] at e1
        dsimp only at e1
        split at e1 <;> cases e1
        rename_i hl
        cases rv with
        | tup h2 r2 l2 => rw [r2.ints_of hi] at h2; exact ⟨ns, _, hl, rfl, rfl, .inl (SqT.of (R1.mr.sub _ _ h2))⟩
    · rename_i xs
      cases hi : intsOf xs with
      | none => rw [hi] at e1; cases e1
      | some ns =>
        rw [hi] at e1
        dsimp only at e1
        split at e1 <;> cases e1
        rename_i hl
        cases rv with
        | lst h2 r2 l2 => rw [r2.ints_of hi] at h2; exact ⟨ns, _, hl, rfl, rfl, .inr (SqL.of (R1.mr.sub _ _ h2))⟩
    · cases e1
  obtain ⟨ns, pa, hl, e2, e3, hs⟩ := alt
  subst e2; subst e3
  refine ⟨_, ns, rfl, hs, hl, fun p0 c0 hp hc0 => ?_⟩
  have ow := R1.mr.own (o := SetO C.w p0 (fun j => decide (j ∈ ns)) c0) hp
  refine ⟨p0, _, c0, rfl, upd_same, by omega, fun zs pz h3 h4 h5 h6 => ?_⟩
  have e3 : zs = srsA ns := asc_uniq h3 (srsA_asc ns) fun k => by rw [h4, mem_srsA, decide_eq_true_eq]
  subst e3
  have fr := ow.1.fresh (o := .lst ((srsA ns).map V.int)) h6
  refine k2 _ _ _ (ow.2.trans fr.2) fr.1 _ (rp_fresh_lst ow.1.sub h6 (Rps.ints _) ?_)
  rw [List.length_map]
  show _ ≤ 16777216
  omega
theorem few_one {e : Expr} {env : Env} {q : Pos} (h : notStar e = true) : ((backTo q (starEach [e] env)).all (fun x => !x.1) && (backToKw q (keywordEach [] env)).all (fun x => x.1.isSome)
      && decide (([e] : List Expr).length + ([] : List Keyword).length + (if ([] : List Keyword).isEmpty then 0 else 1) < 30)) = true := by
  rw [star_cons h]; rfl
theorem ok_join {o : E} {apos : Pos} (c : Ct W P T n N C sc Ex) (ho : okBase y = true) (hln : (apos.endLine == pos.line) = true) (hl : chk P T N l sc (.l [x]) = true) (he : PE C y (tE W (P.fx n) Ex o)) (h : PA C [x] (tA W (P.fx n) Ex l)) :
    PE C (.Call (.Attribute y "join" apos) [x] [] pos) (tE W (P.fx n) Ex (.me .join o l)) := by
  have hs := chk_head (env := C.env) (pos := pos) hl
  refine (pe_bm PySem.F.plainAttrs_str PySem.F.slot_str_join PySem.F.type_str_join (me_join (W := W)) he h (base_ok ho) (few_one hs.1) hln (star_cons hs.1) hs.2).wk fun σ H Q ⟨F, m, M, r, R, q⟩ => ?_
  refine tE_bind R q fun M1 d F1 m1 H1 v R1 a1 rv h1 => ?_
  split at h1
  · rename_i hk
    cases d <;> simp [meOk] at hk
    cases rv with
    | str q1 q2 =>
      refine ⟨rfl, tA_bind R1 h1 fun M2 ds F2 m2 H2 vs _ R2 a2 rvs h2 => ?_⟩
      obtain ⟨dd, e1, k2⟩ := EQ.opt h2
      exact ⟨F2, m2, M2, _, ds, dd, R2.mr, .str q1 q2, rvs, e1, fun u F' H' x1 m1' r1 => k2 F' m2 H' x1 m1' u r1⟩
  · exact h1.elim
theorem ok_lsme {o : E} {kd : Me} {nm : Str} {id : String} {apos : Pos} (c : Ct W P T n N C sc Ex) (slot : Slot "list" nm id) (hty : typeOf (.builtin id) = pure (.type "method_descriptor")) (hm : MtR C id (rMe W fun M a ds => meD M kd a ds)) (hk : ∀ d, meOk kd d = true → ∃ xs, d = .lst xs) (ho : okBase y = true) (hln : (apos.endLine == pos.line) = true) (hl : chk P T N l sc (.l [x]) = true) (he : PE C y (tE W (P.fx n) Ex o)) (h : PA C [x] (tA W (P.fx n) Ex l)) :
    PE C (.Call (.Attribute y nm apos) [x] [] pos) (tE W (P.fx n) Ex (.me kd o l)) := by
  have hs := chk_head (env := C.env) (pos := pos) hl
  refine (pe_bm PySem.F.plainAttrs_list slot hty hm he h (base_ok ho) (few_one hs.1) hln (star_cons hs.1) hs.2).wk fun σ H Q ⟨F, m, M, r, R, q⟩ => ?_
  refine tE_bind R q fun M1 d F1 m1 H1 v R1 a1 rv h1 => ?_
  split at h1
  · rename_i hok
    obtain ⟨xs, rfl⟩ := hk d hok
    cases rv with
    | lst q1 q2 q3 =>
      refine ⟨.inl ⟨rfl, _, SqL.of (R1.mr.sub _ _ q1)⟩, tA_bind R1 h1 fun M2 ds F2 m2 H2 vs _ R2 a2 rvs h2 => ?_⟩
      obtain ⟨dd, e1, k2⟩ := EQ.opt h2
      exact ⟨F2, m2, M2, _, ds, dd, R2.mr, (Rp.lst q1 q2 q3).xt a2, rvs, e1, fun u F' H' x1 m1' r1 => k2 F' m2 H' x1 m1' u r1⟩
  · exact h1.elim
theorem ok_index {o : E} {apos : Pos} (c : Ct W P T n N C sc Ex) (ho : okBase y = true) (hln : (apos.endLine == pos.line) = true) (hl : chk P T N l sc (.l [x]) = true) (he : PE C y (tE W (P.fx n) Ex o)) (h : PA C [x] (tA W (P.fx n) Ex l)) : PE C (.Call (.Attribute y "index" apos) [x] [] pos) (tE W (P.fx n) Ex (.me .index o l)) :=
  ok_lsme c PySem.F.slot_list_index PySem.F.type_list_index (me_index (by have := c.room.un; omega)) (fun d h => by cases d <;> first | exact ⟨_, rfl⟩ | cases h) ho hln hl he h
theorem ok_count {o : E} {apos : Pos} (c : Ct W P T n N C sc Ex) (ho : okBase y = true) (hln : (apos.endLine == pos.line) = true) (hl : chk P T N l sc (.l [x]) = true) (he : PE C y (tE W (P.fx n) Ex o)) (h : PA C [x] (tA W (P.fx n) Ex l)) : PE C (.Call (.Attribute y "count" apos) [x] [] pos) (tE W (P.fx n) Ex (.me .count o l)) :=
  ok_lsme c PySem.F.slot_list_count PySem.F.type_list_count me_count (fun d h => by cases d <;> first | exact ⟨_, rfl⟩ | cases h) ho hln hl he h
/-- d.get(..), d a dict that may be locked -/
theorem pe_getD {o e : Expr} {es : List Expr} {to : TE} {t : TA} {apos cpos : Pos} {g : V → List V → Hp → VK → Prop} (hm : MtR C "dict.get" g) (ho : PE C o to) (ha : PA C (e :: es) t) (hb : attributeBase o "get" C.env (eval o C.env) = eval o C.env)
    (hf : ((backTo cpos (starEach (e :: es) C.env)).all (fun x => !x.1) && (backToKw cpos (keywordEach [] C.env)).all (fun x => x.1.isSome) && decide ((e :: es).length + ([] : List Keyword).length + (if ([] : List Keyword).isEmpty then 0 else 1) < 30)) = true)
    (hln : (apos.endLine == cpos.line) = true) (hs : starEach (e :: es) C.env = (false, eval e C.env) :: starEach es C.env) (hp : (backTo cpos (starEach es C.env)).any (·.1) = false) :
    PE C (.Call (.Attribute o "get" apos) (e :: es) [] cpos) (fun σ H Q => to σ H fun x H1 => (∃ p, x = .ref p ∧ IsD H1 p) ∧ t σ H1 fun xs H2 => g x xs H2 Q) := by
  refine ⟨fun pins s σ H Q I q => ?_⟩
  refine wpAny_Call_method_late hb hf hln rfl (thn (ho.run pins s σ H _ I q) fun v s1 ⟨x, H1, I1, r1, ⟨p, ex, d⟩, q1⟩ => ?_)
  subst ex
  obtain rfl : v = Value.ref p := r1
  obtain ⟨t1, t2, _⟩ := isD_at I1 d
  refine ⟨"dict", "dict.get", PySem.F.plainAttrs_dict, PySem.F.slot_dict_get, PySem.F.type_dict_get, t1, t2, ?_⟩
  have run := ha.run cpos pins s1 σ H1 _ I1 q1
  rw [hs] at run ⊢
  refine Calls.callWith_builtin (by show (false || (backTo cpos (starEach es C.env)).any (·.1)) = false; rw [hp] <;> rfl) (Calls.evalArgs_plain ?_)
  exact thn run fun us s2 ⟨vs, H2, I2, r2, q2⟩ => hm pins s2 σ H2 (.ref p) vs (.ref p) us Q I2 rfl r2 q2
theorem me_get1 (hu : C.A.units + 1 < cLine) : MtR C "dict.get" (rMe W fun M a ds => meD M .get1 a ds) := by
  intro pins s σ H x xs v us Q I rx rxs ⟨F, m, M, a, ds, d, R, ra, rs, e, k⟩
  replace e : meGet1 a ds = some d := e
  unfold meGet1 at e
  split at e <;> (try (cases e; done))
  obtain ⟨z, e1, rfl⟩ := Option.map_eq_some_iff.mp e
  obtain ⟨y, rfl, rb⟩ := rs.one
  obtain ⟨p, ov, rfl, g, _, q⟩ := dget_at R ra rb e1
  obtain rfl : v = Value.ref p := rx
  obtain ⟨u, rfl, ry⟩ := vals1 rxs
  exact d_get1 hu I g ry fun w' s' I' rw' => ⟨_, H, I', rw', k _ F H (Xt.refl _ _ _) R (q.getD .non)⟩
theorem me_get2 (hu : C.A.units + 1 < cLine) : MtR C "dict.get" (rMe W fun M a ds => meD M .get2 a ds) := by
  intro pins s σ H x xs v us Q I rx rxs ⟨F, m, M, a, ds, d, R, ra, rs, e, k⟩
  replace e : meGet2 a ds = some d := e
  unfold meGet2 at e
  split at e <;> (try (cases e; done))
  obtain ⟨z, e1, rfl⟩ := Option.map_eq_some_iff.mp e
  obtain ⟨y, y2, rfl, rb, rb2⟩ := rs.two
  obtain ⟨p, ov, rfl, g, _, q⟩ := dget_at R ra rb e1
  obtain rfl : v = Value.ref p := rx
  obtain ⟨u, u2, rfl, ry, ry2⟩ := vals2 rxs
  exact d_get2 hu I g ry ry2 fun w' s' I' rw' => ⟨_, H, I', rw', k _ F H (Xt.refl _ _ _) R (q.getD rb2)⟩
theorem isD_of {F : Hp} {m : List Addr} {H : Hp} {M : Mem} {v : V} {d : D} {k : Me} (R : Mr W F m H M) (r : Rp W F m v d) (hk : k = .get1 ∨ k = .get2) (h : meOk k d = true) : ∃ p, v = .ref p ∧ IsD H p := by
  cases r with
  | dk h1 => exact ⟨_, rfl, .inl ⟨_, h1.rd R.sub⟩⟩
  | dt h1 => exact ⟨_, rfl, .inr ⟨_, h1.rd R.sub⟩⟩
  | _ => rcases hk with rfl | rfl <;> cases h
theorem ok_get {o : E} {k : Me} {as : List Expr} {apos : Pos} (c : Ct W P T n N C sc Ex) (hk : k = .get1 ∨ k = .get2) (has : as.length ≤ 1) (ho : okBase y = true) (hln : (apos.endLine == pos.line) = true) (hl : chk P T N l sc (.l (x :: as)) = true) (he : PE C y (tE W (P.fx n) Ex o)) (h : PA C (x :: as) (tA W (P.fx n) Ex l))
    (hf : ((backTo pos (starEach (x :: as) C.env)).all (fun x => !x.1) && (backToKw pos (keywordEach [] C.env)).all (fun x => x.1.isSome) && decide ((x :: as).length + ([] : List Keyword).length + (if ([] : List Keyword).isEmpty then 0 else 1) < 30)) = true) :
    PE C (.Call (.Attribute y "get" apos) (x :: as) [] pos) (tE W (P.fx n) Ex (.me k o l)) := by
  have hs := chk_head (env := C.env) (pos := pos) hl
  have hu : C.A.units + 1 < cLine := by have := c.room.un; omega
  have mt : MtR C "dict.get" (rMe W fun M a ds => meD M k a ds) := by
    rcases hk with rfl | rfl
    · exact me_get1 hu
    · exact me_get2 hu
  refine (pe_getD mt he h (base_ok ho) hf hln (star_cons hs.1) hs.2).wk fun σ H Q ⟨F, m, M, r, R, q⟩ => ?_
  refine tE_bind R q fun M1 d F1 m1 H1 v R1 a1 rv h1 => ?_
  split at h1
  · rename_i hok
    refine ⟨isD_of R1.mr rv hk hok, tA_bind R1 h1 fun M2 ds F2 m2 H2 vs _ R2 a2 rvs h2 => ?_⟩
    obtain ⟨dd, e1, k2⟩ := EQ.opt h2
    exact ⟨F2, m2, M2, _, ds, dd, R2.mr, rv.xt a2, rvs, e1, fun u F' H' x1 m1' r1 => k2 F' m2 H' x1 m1' u r1⟩
  · exact h1.elim
theorem few_two {e f : Expr} {env : Env} {q : Pos} (h : notStar e = true) (h2 : notStar f = true) : ((backTo q (starEach [e, f] env)).all (fun x => !x.1) && (backToKw q (keywordEach [] env)).all (fun x => x.1.isSome)
    && decide (([e, f] : List Expr).length + ([] : List Keyword).length + (if ([] : List Keyword).isEmpty then 0 else 1) < 30)) = true := by
  rw [star_cons h, star_cons h2]; rfl
theorem ok_split {o : E} {apos : Pos} (c : Ct W P T n N C sc Ex) (ho : okBase y = true) (hln : (apos.endLine == pos.line) = true) (hl : chk P T N l sc (.l [x]) = true) (he : PE C y (tE W (P.fx n) Ex o)) (h : PA C [x] (tA W (P.fx n) Ex l)) :
    PE C (.Call (.Attribute y "split" apos) [x] [] pos) (tE W (P.fx n) Ex (.me .split o l)) := by
  have hs := chk_head (env := C.env) (pos := pos) hl
  refine (pe_bm PySem.F.plainAttrs_str PySem.F.slot_str_split PySem.F.type_str_split (me_split (W := W)) he h (base_ok ho) (few_one hs.1) hln (star_cons hs.1) hs.2).wk fun σ H Q ⟨F, m, M, r, R, q⟩ => ?_
  refine tE_bind R q fun M1 d F1 m1 H1 v R1 a1 rv h1 => ?_
  split at h1
  · rename_i hk
    cases d <;> simp [meOk] at hk
    cases rv with
    | str q1 q2 =>
      refine ⟨rfl, tA_bind R1 h1 fun M2 ds F2 m2 H2 vs _ R2 a2 rvs h2 => ?_⟩
      obtain ⟨dd, e1, k2⟩ := EQ.opt h2
      exact ⟨F2, m2, M2, _, ds, dd, R2.mr, .str q1 q2, rvs, e1, fun u F' H' x1 m1' r1 => k2 F' m2 H' x1 m1' u r1⟩
  · exact h1.elim
theorem ok_rstrip {o : E} {apos : Pos} (c : Ct W P T n N C sc Ex) (ho : okBase y = true) (hln : (apos.endLine == pos.line) = true) (he : PE C y (tE W (P.fx n) Ex o)) :
    PE C (.Call (.Attribute y "rstrip" apos) [] [] pos) (tE W (P.fx n) Ex (.me .rstrip o .nil)) := by
  refine (pe_bm0 PySem.F.plainAttrs_str PySem.F.slot_str_rstrip PySem.F.type_str_rstrip (me_rstrip (W := W)) he (base_ok ho) hln).wk fun σ H Q ⟨F, m, M, r, R, q⟩ => ?_
  refine tE_bind R q fun M1 d F1 m1 H1 v R1 a1 rv h1 => ?_
  split at h1
  · rename_i hk
    cases d <;> simp [meOk] at hk
    cases rv with
    | str q1 q2 =>
      obtain ⟨dd, e1, k2⟩ := EQ.opt h1
      exact ⟨rfl, F1, m1, M1, _, [], dd, R1.mr, .str q1 q2, .nil, e1, fun u F' H' x1 m1' r1 => k2 F' m1 H' x1 m1' u r1⟩
  · exact h1.elim
theorem boot_cl {c : Cl} {z : Str} (h : clN c = some z) : ∃ nm : String, bootBuiltins z = some (.type nm) ∧ (nm = "int" ∧ c = .int ∨ nm = "bool" ∧ c = .bool ∨ nm = "str" ∧ c = .str ∨ nm = "tuple" ∧ c = .tuple ∨ nm = "list" ∧ c = .list) := by
  cases c <;> cases h
  · exact ⟨"int", by decide +kernel, .inl ⟨rfl, rfl⟩⟩
  · exact ⟨"bool", by decide +kernel, .inr (.inl ⟨rfl, rfl⟩)⟩
  · exact ⟨"str", by decide +kernel, .inr (.inr (.inl ⟨rfl, rfl⟩))⟩
  · exact ⟨"tuple", by decide +kernel, .inr (.inr (.inr (.inl ⟨rfl, rfl⟩)))⟩
  · exact ⟨"list", by decide +kernel, .inr (.inr (.inr (.inr ⟨rfl, rfl⟩)))⟩
theorem kits : (∀ a ∈ ["NoneType", "bool", "int", "str", "tuple", "list"], ∀ b ∈ ["int", "bool", "str", "tuple", "list"], kitB a b = some (a == b || (a == "bool" && b == "int"))) := by decide +kernel
/-- the type of data, and whether it is of the class -/
theorem isi_at {K : PySem.W.Frag} {mg : Str → Option Value} {F : Hp} {m : List Addr} {H : Hp} {M : Mem} {v : V} {d : D} {cl : Cl} {k : Bool} {u : Value} (R : Mr W F m H M) (rv : Rp W F m v d) (hcl : ∀ c, W.ok c = true → ClsF K mg (W.ca c))
    (hu : (∃ nm : String, u = .type nm ∧ (nm = "int" ∧ cl = .int ∨ nm = "bool" ∧ cl = .bool ∨ nm = "str" ∧ cl = .str ∨ nm = "tuple" ∧ cl = .tuple ∨ nm = "list" ∧ cl = .list)) ∨ ∃ c, cl = .own c ∧ W.ok c = true ∧ u = .ref (W.ca c))
    (e : isiD M d cl = some k) : ∃ t, TyX K H v t ∧ PySem.W.kitOne K t u = some k := by
  have two : ∀ {a b : String} {k : Bool}, a ∈ ["NoneType", "bool", "int", "str", "tuple", "list"] → b ∈ ["int", "bool", "str", "tuple", "list"] → (a == b || (a == "bool" && b == "int")) = k → PySem.W.kitOne K (.type a) (.type b) = some k := fun ha hb he => kit_ty (he ▸ kits _ ha _ hb)
  rcases hu with ⟨nm, rfl, hu⟩ | ⟨c, rfl, hc, rfl⟩
  · cases rv with
    | non => refine ⟨_, .base .non, ?_⟩; rcases hu with ⟨rfl, rfl⟩ | ⟨rfl, rfl⟩ | ⟨rfl, rfl⟩ | ⟨rfl, rfl⟩ | ⟨rfl, rfl⟩ <;> cases e <;> exact two (by decide) (by decide) (by decide)
    | bl b => refine ⟨_, .base (.bl b), ?_⟩; rcases hu with ⟨rfl, rfl⟩ | ⟨rfl, rfl⟩ | ⟨rfl, rfl⟩ | ⟨rfl, rfl⟩ | ⟨rfl, rfl⟩ <;> cases e <;> exact two (by decide) (by decide) (by decide)
    | int b => refine ⟨_, .base (.int b), ?_⟩; rcases hu with ⟨rfl, rfl⟩ | ⟨rfl, rfl⟩ | ⟨rfl, rfl⟩ | ⟨rfl, rfl⟩ | ⟨rfl, rfl⟩ <;> cases e <;> exact two (by decide) (by decide) (by decide)
    | str h1 h2 => refine ⟨_, .base (.str _), ?_⟩; rcases hu with ⟨rfl, rfl⟩ | ⟨rfl, rfl⟩ | ⟨rfl, rfl⟩ | ⟨rfl, rfl⟩ | ⟨rfl, rfl⟩ <;> cases e <;> exact two (by decide) (by decide) (by decide)
    | tup h r hl => refine ⟨_, .base (.tup (R.sub _ _ h)), ?_⟩; rcases hu with ⟨rfl, rfl⟩ | ⟨rfl, rfl⟩ | ⟨rfl, rfl⟩ | ⟨rfl, rfl⟩ | ⟨rfl, rfl⟩ <;> cases e <;> exact two (by decide) (by decide) (by decide)
    | lst h r hl => refine ⟨_, .base (.lst (R.sub _ _ h)), ?_⟩; rcases hu with ⟨rfl, rfl⟩ | ⟨rfl, rfl⟩ | ⟨rfl, rfl⟩ | ⟨rfl, rfl⟩ | ⟨rfl, rfl⟩ <;> cases e <;> exact two (by decide) (by decide) (by decide)
    | _ => rcases hu with ⟨rfl, rfl⟩ | ⟨rfl, rfl⟩ | ⟨rfl, rfl⟩ | ⟨rfl, rfl⟩ | ⟨rfl, rfl⟩ <;> cases e
  · have cf := hcl c hc
    cases rv with
    | non => cases e; exact ⟨_, .base .non, cf.kt _ (by decide)⟩
    | bl b => cases e; exact ⟨_, .base (.bl b), cf.kt _ (by decide)⟩
    | int b => cases e; exact ⟨_, .base (.int b), cf.kt _ (by decide)⟩
    | str h1 h2 => cases e; exact ⟨_, .base (.str _), cf.kt _ (by decide)⟩
    | tup h r hl => cases e; exact ⟨_, .base (.tup (R.sub _ _ h)), cf.kt _ (by decide)⟩
    | lst h r hl => cases e; exact ⟨_, .base (.lst (R.sub _ _ h)), cf.kt _ (by decide)⟩
    | obj h hc2 hk r =>
      simp only [isiD] at e
      split at e <;> cases e
      rename_i ec
      subst ec
      exact ⟨_, .base (.ins (R.sub _ _ h) cf.c cf.ha cf.hn cf.ht cf.hm), cf.ks⟩
    | _ => cases e
theorem ok_isi {cl : Cl} {zn : Str} {zp : Pos} (c : Ct W P T n N C sc Ex) (hb : ("isinstance" : Str) ∈ T.blt) (hg : glB sc ("isinstance" : Str) = true) (hs : notStar x = true) (hz : okNm zn = true) (hgz : glB sc zn = true)
    (hcl : (∃ k, cl = .own k ∧ T.cl k = some zn) ∨ (clN cl = some zn ∧ zn ∈ T.blt)) (he : PE C x (tE W (P.fx n) Ex a)) : PE C (.Call (.Name "isinstance" p) [x, .Name zn zp] [] pos) (tE W (P.fx n) Ex (.isi a cl)) := by
  have o := okNm_of hz
  obtain ⟨u, hn2, hu, hrel⟩ : ∃ (u : Value) (vv : V), PE C (.Name zn zp) (tC vv) ∧ ((∃ nm : String, u = .type nm ∧ (nm = "int" ∧ cl = .int ∨ nm = "bool" ∧ cl = .bool ∨ nm = "str" ∧ cl = .str ∨ nm = "tuple" ∧ cl = .tuple ∨ nm = "list" ∧ cl = .list)) ∨ ∃ c, cl = .own c ∧ W.ok c = true ∧ u = .ref (W.ca c)) ∧ ClsV vv u := by
    rcases hcl with ⟨k, rfl, hk⟩ | ⟨hc, hb2⟩
    · obtain ⟨w1, w2⟩ := c.g.wok k zn hk
      exact ⟨.ref (W.ca k), .ref (W.ca k), pe_glob (c.so.gl _ hgz) w2 rfl o.1, .inr ⟨k, rfl, w1, rfl⟩, .own _⟩
    · obtain ⟨nm, e1, e2⟩ := boot_cl hc
      exact ⟨.type nm, .ty nm, pe_bltn (c.so.gl _ hgz) (c.g.blt _ hb2) e1 rfl o.2.2 o.1, .inl ⟨nm, rfl, e2⟩, .ty _⟩
  refine (pe_callB call_isi (c.so.gl _ hg) (c.g.blt _ hb) (by decide +kernel) (pa_cons he (pa_cons hu pa_nil rfl) (star_cons hs)) (by decide) (by decide) (star_cons hs) rfl).wk fun σ H Q ⟨F, m, M, r, R, q⟩ => ?_
  refine tE_bind R q fun M1 d F1 m1 H1 v R1 a1 rv h1 => ?_
  obtain ⟨dd, e1, k2⟩ := EQ.opt h1
  cases hk : isiD M1 d cl with
  | none => rw [hk] at e1; cases e1
  | some k =>
    rw [hk] at e1; cases e1
    obtain ⟨t, t1, t2⟩ := isi_at (K := C.K) (mg := C.mg) R1.mr rv c.g.cls hrel.1 hk
    exact ⟨v, _, t, u, k, rfl, hrel.2, t1, t2, k2 _ _ _ (Xt.refl _ _ _) R1.mr _ (.bl _)⟩
theorem lk_zip {F : Hp} {m : List Addr} {x : Str} {d : D} : ∀ {fs : List (Str × V)} {ds : List D}, Rps W F m (fs.map (·.2)) ds → ((fs.map (·.1)).zip ds).lookup x = some d → ∃ v, fs.lookup x = some v ∧ Rp W F m v d
  | [], _, _, e => by simp at e
  | (k, w) :: fs, [], r, _ => by cases r
  | (k, w) :: fs, d0 :: ds, .cons h r, e => by
    simp only [List.map_cons, List.zip_cons_cons, List.lookup] at e ⊢
    split at e
    · cases e; exact ⟨w, rfl, h⟩
    · exact lk_zip r e
theorem ins_at {F : Hp} {m : List Addr} {H : Hp} {M : Mem} {v : V} {d : D} {c : Nat} (R : Mr W F m H M) (rv : Rp W F m v d) (e : clsOf M d = some c) : W.ok c = true ∧ ∃ p dx fs, v = .ref p ∧ H p = some (.ins (W.ca c) dx fs) := by
  unfold clsOf at e
  split at e
  · cases e
    cases rv with
    | obj h hc hk r => exact ⟨hc, _, _, _, rfl, R.sub _ _ h⟩
  · split at e
    · cases e
      rename_i hk
      cases rv with
      | hnd hp =>
        obtain ⟨_, hc, dx, fs, q1, _⟩ := R.mo _ _ _ hk hp
        exact ⟨hc, _, _, _, rfl, q1⟩
    · cases e
  · cases e
theorem ok_fld {f : Str} (c : Ct W P T n N C sc Ex) (hf : f ∈ T.fls) (hb : okBase x = true) (he : PE C x (tE W (P.fx n) Ex a)) : PE C (.Attribute x f pos) (tE W (P.fx n) Ex (.fld a f)) := by
  refine (pe_fld he (base_ok hb)).wk fun σ H Q ⟨F, m, M, r, R, q⟩ => tE_bind R q fun M1 d F1 m1 H1 v R1 a1 rv h1 => ?_
  cases d <;> first | exact h1.elim | skip
  · rename_i k ns ds
    obtain ⟨dd, e1, k2⟩ := EQ.opt h1
    cases rv with
    | obj h hc hk r =>
      subst hk
      obtain ⟨w, l1, l2⟩ := lk_zip r e1
      exact ⟨_, _, _, _, w, rfl, R1.mr.sub _ _ h, (c.g.cls _ hc).c, c.g.fls _ _ hc hf, l1, k2 _ _ _ (Xt.refl _ _ _) R1.mr _ l2⟩
  · rename_i k
    dsimp only at h1
    cases hm : M1[k]? with
    | none => rw [hm] at h1; exact h1.elim
    | some mo =>
      rw [hm] at h1
      cases mo with
      | ml xs => exact h1.elim
      | mi c2 ns ds =>
        obtain ⟨dd, e1, k2⟩ := EQ.opt h1
        cases rv with
        | hnd hp =>
          obtain ⟨_, hc, dx, fs, q1, hk, r⟩ := R1.mr.mo _ _ _ hm hp
          subst hk
          obtain ⟨w, l1, l2⟩ := lk_zip r e1
          exact ⟨_, _, _, _, w, rfl, q1, (c.g.cls _ hc).c, c.g.fls _ _ hc hf, l1, k2 _ _ _ (Xt.refl _ _ _) R1.mr _ l2⟩
theorem ok_prp {f k : Nat} {d0 : Df} {g : Str} (c : Ct W P T n N C sc Ex) (hav : T.av f = true) (hd : P.df f = some d0) (hp : T.prp f k = some g) (hok : W.ok k = true) (hb : okBase x = true) (he : PE C x (tE W (P.fx n) Ex a)) : PE C (.Attribute x g pos) (tE W (P.fx n) Ex (.prp a f k)) := by
  obtain ⟨fd, F, bd⟩ := c.g.fns f d0 hav hd
  obtain ⟨p, hpr⟩ := c.g.prp f k g hp
  refine (pe_prop (ds := []) (dvs := []) he (c.g.cls k hok).c hpr F c.room bd .nil (passL (X := C.nox)) (base_ok hb)).wk fun σ H Q ⟨F, m, M, r, R, q⟩ => tE_bind R q fun M1 d F1 m1 H1 v R1 a1 rv h1 => ?_
  split at h1
  · rename_i e
    obtain ⟨_, pa, dx, fs, rfl, hq⟩ := ins_at R1.mr rv e
    refine ⟨pa, dx, fs, rfl, hq, F1, m1, M1, [d], R1.mr, .cons rv .nil, ?_⟩
    show EQ _ _ _ _ _ _ (P.call n f M1 [d])
    replace h1 : EQ W F1 m1 H1 (fun cls dd H' => Ex cls dd σ H') (fun _ d F' m' H' => ∀ v, Rp W F' m' v d → Q v H') (match P.call n f M1 [d] with | .ok M2 z => .ok M2 z | _ => .st) := h1
    cases hx : P.call n f M1 [d] with
    | st => rw [hx] at h1; exact h1.elim
    | er M2 k fs => rw [hx] at h1; exact h1.elim
    | ok M2 z => rw [hx] at h1; exact h1
  · exact h1.elim
theorem ok_sub (c : Ct W P T n N C sc Ex) (hs : notSlice y = true) (ha : PE C x (tE W (P.fx n) Ex a)) (hb : PE C y (tE W (P.fx n) Ex b)) : PE C (.Subscript x y pos) (tE W (P.fx n) Ex (.sub a b)) :=
  (pe_ix (ix_sub (W := W) (by have := c.room.un; omega)) ha hb (plain_ix hs)).wk fun σ H Q ⟨F, m, M, r, R, q⟩ => tE_bind R q fun M1 d F1 m1 H1 v R1 a1 rv h1 => tE_bind R1 h1 fun M2 e F2 m2 H2 w R2 a2 rw2 h2 => by
    obtain ⟨dd, e1, k⟩ := EQ.opt h2
    exact ⟨F2, m2, M2, d, e, dd, R2.mr, rv.xt a2, rw2, e1, fun u F' H' x1 m1' r1 => k F' m2 H' x1 m1' u r1⟩
/-- a part of a slice -/
def evO (X : Fx) (c : E) (M : Mem) (r : En) : R D := match c with
  | .nil => .ok M .non
  | _ => (ev X c M r).bind intO
def tPO (W : Wd) (X : Fx) (Ex : WX) (c : E) : TO := fun σ H Q => ∃ F m M r, Rl W F m H M σ r ∧ EQ W F m H (fun cls dd H' => Ex cls dd σ H') (fun _ d F' m' H' => ∃ o, optI d = some o ∧ Q o H') (evO X c M r)
theorem po_nil {X : Fx} : PO C none (tPO W X Ex .nil) := ⟨fun pins s σ H Q I ⟨F, m, M, r, R, q⟩ => po_none.run pins s σ H Q I (by
  obtain ⟨o, e, k⟩ := EQ.now (show EQ W F m H _ _ (Oc.R.ok M D.non) from q) R.mr
  cases e; exact k)⟩
theorem po_e {X : Fx} (hn : isNilE a = false) (h : PE C x (tE W X Ex a)) : PO C (some x) (tPO W X Ex a) := ⟨fun pins s σ H Q I ⟨F, m, M, r, R, q⟩ => (po_some h).run pins s σ H Q I (by
  have e0 : evO X a M r = (ev X a M r).bind intO := by cases a <;> first | rfl | cases hn
  rw [e0] at q
  exact tE_bind R q fun M1 d F1 m1 H1 v R1 a1 rv h1 => by
    cases d <;> first | exact h1.elim | skip
    obtain ⟨o, e, k⟩ := EQ.now h1 R1.mr
    cases e
    cases rv
    exact ⟨_, rfl, k⟩)⟩
theorem evO_opt {X : Fx} {c : E} {M M' : Mem} {r : En} {d : D} (h : evO X c M r = .ok M' d) : ∃ o, optI d = some o := by
  have key : ∀ c, (ev X c M r).bind intO = .ok M' d → ∃ o, optI d = some o := fun c h => by
    obtain ⟨M1, z, _, h⟩ := bind_okE h
    cases z <;> cases h
    exact ⟨_, rfl⟩
  cases c <;> first | exact key _ h | (cases h; done) | (cases h; exact ⟨_, rfl⟩)
theorem ok_slc {lo hi : Option Expr} {el eh : E} {sp : Pos} (ha : PE C x (tE W (P.fx n) Ex a)) (hl : PO C lo (tPO W (P.fx n) Ex el)) (hh : PO C hi (tPO W (P.fx n) Ex eh)) : PE C (.Subscript x (.Slice lo hi none sp) pos) (tE W (P.fx n) Ex (.slc a el eh)) :=
  (pe_slice (sl_any (W := W)) ha hl hh).wk fun σ H Q ⟨F, m, M, r, R, q⟩ => tE_bind R q fun M1 d F1 m1 H1 v R1 a1 rv h1 => by
    refine ⟨F1, m1, M1, r, R1, (EQ.bind (show EQ _ _ _ _ _ _ ((evO (P.fx n) el M1 r).bind _) from h1)).monoE fun M2 d2 F2 m2 H2 e2 a2 r2 h2 => ?_⟩
    obtain ⟨o2, ho2⟩ := evO_opt e2
    refine ⟨o2, ho2, ?_⟩
    have R2 := R1.step a2 r2
    refine ⟨F2, m2, M2, r, R2, (EQ.bind (show EQ _ _ _ _ _ _ ((evO (P.fx n) eh M2 r).bind _) from h2)).monoE fun M3 d3 F3 m3 H3 e3 a3 r3 h3 => ?_⟩
    obtain ⟨o3, ho3⟩ := evO_opt e3
    refine ⟨o3, ho3, ?_⟩
    rw [ho2, ho3] at h3
    obtain ⟨dd, e1, k⟩ := EQ.opt h3
    exact ⟨F3, m3, M3, d, dd, r3, (rv.xt a2).xt a3, e1, fun u F' H' x1 m1' r1 => k F' m3 H' x1 m1' u r1⟩
end
end Oc
namespace Oc
open L2 PySem PySem.Spec PyProof.Rows
section
variable {W : Wd} {F F1 : Hp} {m m1 : List Addr} {H H1 : Hp} {M M1 : Mem} {σ : L2.St} {r : En}
mutual
theorem Rp.hfree : ∀ {k : Nat} {v : V} {d : D}, hf k d = true → Rp W F m v d → Rp W F [] v d
  | _, _, _, _, .non => .non
  | _, _, _, _, .bl b => .bl b
  | _, _, _, _, .int i => .int i
  | _, _, _, _, .str h h' => .str h h'
  | _, _, _, _, .scr h hl => .scr h hl
  | _, _, _, _, .fn f => .fn f
  | 0, _, _, e, .tup h r hl => by simp [hf] at e
  | k + 1, _, _, e, .tup h r hl => .tup h (Rps.hfree (k := k) (by simpa [hf] using e) r) hl
  | 0, _, _, e, .lst h r hl => by simp [hf] at e
  | k + 1, _, _, e, .lst h r hl => .lst h (Rps.hfree (k := k) (by simpa [hf] using e) r) hl
  | 0, _, _, e, .dk h hk hg r hl => by simp [hf] at e
  | k + 1, _, _, e, .dk h hk hg r hl => .dk h hk hg (Rps.hfree (k := k) (by simpa [hf] using e) r) hl
  | 0, _, _, e, .dt h hk hg r hl => by simp [hf] at e
  | k + 1, _, _, e, .dt h hk hg r hl => .dt h hk hg (Rps.hfree (k := k) (by simpa [hf] using e) r) hl
  | 0, _, _, e, .obj h hc hk r => by simp [hf] at e
  | k + 1, _, _, e, .obj h hc hk r => .obj h hc hk (Rps.hfree (k := k) (by simpa [hf] using e) r)
  | 0, _, _, e, .hnd h => by simp [hf] at e
  | _ + 1, _, _, e, .hnd h => by simp [hf] at e
theorem Rps.hfree : ∀ {k : Nat} {vs : List V} {ds : List D}, (∀ d ∈ ds, hf k d = true) → Rps W F m vs ds → Rps W F [] vs ds
  | _, _, _, _, .nil => .nil
  | k, _, _, e, .cons h r => .cons (Rp.hfree (k := k) (e _ List.mem_cons_self) h) (Rps.hfree (k := k) (fun d hd => e d (List.mem_cons_of_mem _ hd)) r)
end
open Classical in
/-- the own things of the slots, frozen for a while -/
noncomputable def frzOwn (F H : Hp) (σ : L2.St) (r : En) : Hp := fun a => if (∃ i, OwnAt σ r i a) then H a else F a
theorem frzOwn_own {a : Addr} (h : ∃ i, OwnAt σ r i a) : frzOwn F H σ r a = H a := by unfold frzOwn; rw [if_pos h]
theorem frzOwn_not {a : Addr} (h : ¬ ∃ i, OwnAt σ r i a) : frzOwn F H σ r a = F a := by unfold frzOwn; rw [if_neg h]
theorem Rl.ownF (R : Rl W F m H M σ r) {a : Addr} (h : ∃ i, OwnAt σ r i a) : F a = none ∧ a ∉ m ∧ ∃ u, H a = some u ∧ ∀ vs, u ≠ .tup vs := by
  obtain ⟨i, x, h1, h2, h3⟩ := h
  obtain ⟨v, e, q⟩ := R.sr i x h1
  rw [h3] at e
  cases e
  cases x with
  | d x => cases h2
  | ol xs => obtain ⟨p, vs, e, q1, q2, q3, _⟩ := q; cases e; exact ⟨q1, q2, _, q3, fun _ z => by cases z⟩
  | ok ks ds => obtain ⟨p, vs, e, q1, q2, q3, _⟩ := q; cases e; exact ⟨q1, q2, _, q3, fun _ z => by cases z⟩
  | ot ks ds => obtain ⟨p, vs, e, q1, q2, q3, _⟩ := q; cases e; exact ⟨q1, q2, _, q3, fun _ z => by cases z⟩
theorem frzOwn_sub (R : Rl W F m H M σ r) (a : Addr) (o : HO) (h : F a = some o) : frzOwn F H σ r a = some o := by
  rw [frzOwn_not]
  · exact h
  · intro z
    rw [(R.ownF z).1] at h; cases h
theorem clr_at {v : V} {x : Sl} (R : Rl W F m H M σ r) {i : Nat} (h : r[i]? = some (some x)) {y : D} (hc : clrS (some x) = some (.d y)) (hy : hf 40 y = true) : ∃ v, σ[i]? = some (some v) ∧ Rp W (frzOwn F H σ r) [] v y := by
  obtain ⟨v, e, q⟩ := R.sr i x h
  refine ⟨v, e, ?_⟩
  have mono : ∀ {v d}, Rp W F m v d → Rp W (frzOwn F H σ r) m v d := fun rp => rp.mono (frzOwn_sub R) fun _ _ z => z
  have monos : ∀ {v d}, Rps W F m v d → Rps W (frzOwn F H σ r) m v d := fun rp => rp.mono (frzOwn_sub R) fun _ _ z => z
  cases x with
  | d x => cases hc; exact Rp.hfree hy (mono q)
  | ol xs =>
    cases hc
    obtain ⟨p, vs, ev, q1, q2, q3, q4, q5⟩ := q
    subst ev
    have ho : frzOwn F H σ r p = some (.lst vs) := by rw [frzOwn_own ⟨i, _, h, rfl, e⟩]; exact q3
    exact Rp.hfree hy (.lst ho (monos q4) q5)
  | ok ks ds =>
    cases hc
    obtain ⟨p, vs, ev, q1, q2, q3, q4, q7, q5, q6⟩ := q
    subst ev
    have ho : frzOwn F H σ r p = some (.dK vs) := by rw [frzOwn_own ⟨i, _, h, rfl, e⟩]; exact q3
    exact Rp.hfree hy (.dk (.inr ⟨rfl, ho⟩) q4 q7 (monos q5) q6)
  | ot ks ds =>
    cases hc
    obtain ⟨p, vs, ev, q1, q2, q3, q4, q7, q5, q6⟩ := q
    subst ev
    have ho : frzOwn F H σ r p = some (.dT vs) := by rw [frzOwn_own ⟨i, _, h, rfl, e⟩]; exact q3
    exact Rp.hfree hy (.dt (.inr ⟨rfl, ho⟩) q4 q7 (monos q5) q6)
theorem mskE_len (r : En) : ∀ is : List Nat, (mskE r is).length = r.length
  | [] => List.length_map ..
  | i :: is => (List.length_set ..).trans (mskE_len r is)
theorem mskE_at {r : En} {j : Nat} {x : Sl} : ∀ {is : List Nat}, (mskE r is)[j]? = some (some x) → mskS r[j]? = some x
  | [], h => by
    unfold mskE at h
    rw [List.getElem?_map] at h
    cases e : r[j]? <;> rw [e] at h <;> simp at h
  | i :: is, h => by
    unfold mskE at h
    by_cases e : j = i
    · subst e
      by_cases hl : j < (mskE r is).length
      · rw [List.getElem?_set_self hl] at h
        exact Option.some.inj h
      · rw [List.getElem?_eq_none (by rw [List.length_set]; omega)] at h; cases h
    · rw [List.getElem?_set_ne (fun z => e z.symm)] at h
      exact mskE_at h
theorem mskS_some {o : Option (Option Sl)} {x : Sl} (h : mskS o = some x) : ∃ y s, x = .d y ∧ o = some (some s) ∧ clrS (some s) = some (.d y) ∧ hf 40 y = true := by
  unfold mskS at h
  split at h
  · rename_i s
    cases s with
    | none => simp [clrS] at h
    | some s =>
      split at h
      · rename_i y hy
        split at h <;> cases h
        rename_i hh
        exact ⟨y, s, rfl, rfl, hy, hh⟩
      · cases h
  · cases h
theorem frzOwn_nt (R : Rl W F m H M σ r) {a : Addr} {o : HO} (h : frzOwn F H σ r a = some o) : NoTbl o := by
  by_cases z : ∃ i, OwnAt σ r i a
  · rw [frzOwn_own z] at h
    obtain ⟨i, x, h1, h2, h3⟩ := z
    obtain ⟨v, e, q⟩ := R.sr i x h1
    rw [h3] at e
    cases e
    exact (q.own_pln h2 o h).1
  · rw [frzOwn_not z] at h; exact R.mr.nt a o h
theorem Rl.masked (R : Rl W F m H M σ r) (is : List Nat) : Rl W (frzOwn F H σ r) [] H [] σ (mskE r is) := by
  refine ⟨⟨fun a o h => ?_, rfl, .nil, fun k c p h => by simp at h, R.mr.tb, fun a o h => frzOwn_nt R h⟩, by rw [mskE_len]; exact R.sl, fun i x h => ?_, fun i j p h1 => ?_⟩
  · by_cases z : ∃ i, OwnAt σ r i a
    · rw [frzOwn_own z] at h; exact h
    · rw [frzOwn_not z] at h; exact R.mr.sub a o h
  · obtain ⟨y, s, rfl, e1, e2, e3⟩ := mskS_some (mskE_at h)
    exact clr_at (v := .non) R e1 e2 e3
  · obtain ⟨x, e1, e2, _⟩ := h1
    obtain ⟨y, s, rfl, _⟩ := mskS_some (mskE_at e1)
    cases e2
open Classical in
theorem brw_back (R : Rl W F m H M σ r) {F2 : Hp} {m2 : List Addr} {H2 : Hp} (a : Xt (frzOwn F H σ r) [] H F2 m2 H2) (R2 : Mr W F2 m2 H2 []) :
    ∃ F3, Xt F m H F3 m H2 ∧ Mr W F3 m H2 M ∧ ∀ v d, Rp W F2 m2 v d → flat 40 d = true → Rp W F3 m v d := by
  have em : m2 = [] := List.length_eq_zero_iff.mp R2.len
  subst em
  have same : ∀ b o, H b = some o → NoTbl o → H2 b = some o := fun b o h ht => a.hx b o h (by simp) ht
  have f1 : ∀ b o, F b = some o → (if (∃ i, OwnAt σ r i b) then none else F2 b) = some o := fun b o h => by
    have hn : ¬ ∃ i, OwnAt σ r i b := fun z => by rw [(R.ownF z).1] at h; cases h
    rw [if_neg hn]
    exact a.fx b o (frzOwn_sub R b o h)
  refine ⟨fun b => if (∃ i, OwnAt σ r i b) then none else F2 b, ⟨f1, fun b o h _ ht => same b o h ht, fun b o h => ?_, ⟨[], by simp, by simp⟩, a.dx⟩, ⟨fun b o h => ?_, R.mr.len, R.mr.nd, fun k c p hk hp => ?_, R2.tb, fun b o h => ?_⟩, fun v d rp fl => ?_⟩
  · split at h
    · cases h
    · rename_i hn
      rcases a.nx b o h with q | q
      · rw [frzOwn_not hn] at q; exact .inl q
      · exact .inr (R.mr.fre q)
  · split at h
    · cases h
    · exact R2.sub b o h
  · obtain ⟨n1, q⟩ := R.mr.mo k c p hk hp
    have hH : ∃ u, H p = some u := by
      cases c with
      | ml xs => obtain ⟨vs, q1, _⟩ := q; exact ⟨_, q1⟩
      | mi c ns ds => obtain ⟨_, dx, fs, q1, _⟩ := q; exact ⟨_, q1⟩
    have hno : ¬ ∃ i, OwnAt σ r i p := fun z => (R.ownF z).2.1 (List.mem_of_getElem? hp)
    refine ⟨?_, ?_⟩
    · rw [if_neg hno]
      cases e : F2 p with
      | none => rfl
      | some u =>
        obtain ⟨u', hu⟩ := hH
        rcases a.nx p u e with q | q
        · rw [frzOwn_not hno, n1] at q; cases q
        · exact absurd (R.mr.mut (List.mem_of_getElem? hp)) (fun mu => by rw [hu] at mu; exact q.no hu mu)
    · cases c with
      | ml xs => obtain ⟨vs, q1, q2, q3⟩ := q; exact ⟨vs, same _ _ q1 (fun _ z => by cases z), q2.mono f1 (fun _ _ z => z), q3⟩
      | mi c ns ds => obtain ⟨hc, dx, fs, q1, q2, q3⟩ := q; exact ⟨hc, dx, fs, same _ _ q1 (fun _ z => by cases z), q2, q3.mono f1 (fun _ _ z => z)⟩
  · split at h
    · cases h
    · exact R2.nt b o h
  · have t1 : Rp W (fun b => if (∃ i, OwnAt σ r i b) then none else F2 b) [] v d := rp.thin (fun b vs h => by
      rw [if_neg]
      · exact h
      · intro z
        obtain ⟨_, _, u, hu, hn⟩ := R.ownF z
        have := a.fx b u (by rw [frzOwn_own z]; exact hu)
        rw [h] at this
        cases this
        exact hn _ rfl) fl
    exact t1.mono (fun _ _ z => z) fun k p h => by simp at h
end
section
variable {W : Wd} {P : Pg} {T : Tb} {n : Nat} {N : List Str} {C : Cx} {sc : Scope} {Ex : WX}
variable {a b l : E} {x y z : Expr} {as : List Expr} {pos p : Pos}
theorem ok_brw {X : Fx} {is : List Nat} (h : PE C x (tE W X Ex a)) : PE C x (tE W X Ex (.brw is a)) := h.wk fun σ H Q ⟨F, m, M, r, R, q⟩ => by
  refine ⟨frzOwn F H σ r, [], [], mskE r is, R.masked is, ?_⟩
  replace q : EQ W F m H (fun cls dd H' => Ex cls dd σ H') (fun _ d F' m' H' => ∀ v, Rp W F' m' v d → Q v H') (match ev X a [] (mskE r is) with
    | .ok [] x => if flat 40 x then .ok M x else .st
    | _ => .st) := q
  cases hx : ev X a [] (mskE r is) with
  | st => rw [hx] at q; exact q.elim
  | er M k fs => rw [hx] at q; exact q.elim
  | ok M1 d =>
    rw [hx] at q
    cases M1 with
    | cons c M1 => exact q.elim
    | nil =>
      dsimp only at q
      split at q
      · rename_i fl
        intro F2 m2 H2 a2 R2 v rp
        obtain ⟨F3, b1, b2, b3⟩ := brw_back R a2 R2
        exact q F3 m H2 b1 b2 v (b3 v d rp fl)
      · exact q.elim
theorem tru_any (M M' : Mem) (d : D) : tru M d = tru M' d := by cases d <;> rfl
theorem ok_brwT0 {X : Fx} {is : List Nat} : ∀ σ H (Q : Bool → Hp → Prop), tT W X Ex (.brw is a) σ H Q → tT W X Ex a σ H Q := fun σ H Q ⟨F, m, M, r, R, q⟩ => by
  refine ⟨frzOwn F H σ r, [], [], mskE r is, R.masked is, ?_⟩
  have q2 := EQ.bind (show EQ W F m H (fun cls dd H' => Ex cls dd σ H') (fun _ b _ _ H' => Q b H') ((match ev X a [] (mskE r is) with
    | .ok [] x => if flat 40 x then .ok M x else .st
    | _ => .st : Oc.R D).bind fun M1 x => Oc.R.opt M1 (tru M1 x)) from q)
  show EQ _ _ _ _ _ _ ((ev X a [] (mskE r is)).bind fun M1 x => Oc.R.opt M1 (tru M1 x))
  cases hx : ev X a [] (mskE r is) with
  | st => rw [hx] at q2; exact q2.elim
  | er M k fs => rw [hx] at q2; exact q2.elim
  | ok M1 d =>
    rw [hx] at q2
    cases M1 with
    | cons c M1 => exact q2.elim
    | nil =>
      dsimp only at q2
      split at q2
      · have q3 := EQ.now q2 R.mr
        show EQ _ _ _ _ _ _ (Oc.R.opt [] (tru [] d))
        rw [tru_any [] M d]
        cases ht : tru M d with
        | none => rw [ht] at q3; exact q3.elim
        | some k =>
          rw [ht] at q3
          intro F2 m2 H2 a2 R2
          obtain ⟨F3, b1, b2, _⟩ := brw_back R a2 R2
          exact q3 F3 m H2 b1 b2
      · exact q2.elim
theorem ok_brwT {X : Fx} {is : List Nat} (h : PT C x (tT W X Ex a)) : PT C x (tT W X Ex (.brw is a)) := h.wk ok_brwT0
theorem ok_brwW {X : Fx} {is : List Nat} (h : PW C x (tT W X Ex a)) : PW C x (tT W X Ex (.brw is a)) := h.wk ok_brwT0
theorem run_makeS {A fI : Addr} {fd : FuncData} {ps : List Str} {sp : Sp} {E : L2.St → XK} {k : Nat} {pins : List (Addr × Obj)} {σ : L2.St} {H : Hp} {s : Shared} {Q : VK} {us : List Value} {vs : List V} {CX : CXT} (M : Mk C.K A fI) (F : FnOk C.prog C.w C.K C.mg C.base CX k fI fd ps sp) (hr : Room (k + 1) C.A) (hb : Binds C.K fd ps [])
    (hx : PassesAt CX C σ (E σ)) (I : L2.Inv C pins σ H s) (r : Vals vs us)
    (h : ∀ x dx, H x = none → H dx = none → dx ≠ x → sp (.ref x :: vs) (upd (upd H dx (.own x)) x (.ins A dx [])) (fun v H2 => v = .non ∧ Q (.ref x) H2) (E σ)) :
    wpAny (model C.prog C.w) C.A (call (.ref A) us) (EP C pins σ Q) C.xe s := by
  have hq := h (s.heap.objs.size + 1) s.heap.objs.size (I.hok.fresh (Nat.le_succ _)) (I.hok.fresh (Nat.le_refl _)) (Nat.ne_of_lt (Nat.lt_succ_self _))
  have I2 := L2.Inv.made (C := A) I
  have r2 : Vals (V.ref (s.heap.objs.size + 1) :: vs) (Value.ref (s.heap.objs.size + 1) :: us) := .cons rfl r
  have hl : (Value.ref (s.heap.objs.size + 1) :: us).length = ps.length := by
    have e := r2.length
    rw [F.len _ _ _ _ hq] at e
    exact e.symm
  have hbb := hb _ (Value.ref (s.heap.objs.size + 1) :: us) I2.kIn (by rw [List.append_nil]; exact hl)
  rw [List.append_nil] at hbb
  refine wpAny_call (make_map (f := fI) I.kIn M.makes M.init (beq_iff_eq.mp M.fn) (codeAny_mono (F.run _ C.stack _ _ ⟨Value.ref (s.heap.objs.size + 1) :: us, []⟩ (Value.ref (s.heap.objs.size + 1) :: us) _ _ (E σ) (hr.make A us [])
    (I2.env0.make A us []) hbb r2 hq) fun r s' hq' => ?_))
  cases r with
  | error e => exact hx pins _ _ e s' I2 hq'
  | ok fl =>
    cases fl with
    | ret u =>
      obtain ⟨v, H', I3, rv, ev, q3⟩ := I2.after hq'
      subst ev
      exact ⟨rv, ⟨V.ref (s.heap.objs.size + 1), H', I3, rfl, q3⟩⟩
    | next => exact False.elim hq'
    | brk => exact False.elim hq'
    | cont => exact False.elim hq'
/-- a new instance in the memory -/
theorem Mr.push {F : Hp} {m : List Addr} {H : Hp} {M : Mem} {c : Nat} {q dq : Addr} (R : Mr W F m H M) (hc : W.ok c = true) (h1 : H q = none) (h2 : H dq = none) (hne : dq ≠ q) :
    Mr W F (m ++ [q]) (upd (upd H dq (.own q)) q (.ins (W.ca c) dq [])) (M ++ [.mi c [] []]) ∧ Xt F m H F (m ++ [q]) (upd (upd H dq (.own q)) q (.ins (W.ca c) dq [])) := by
  have hF : ∀ a u, F a = some u → a ≠ q ∧ a ≠ dq := fun a u h => ⟨ne_of_none (R.sub a u h) h1, ne_of_none (R.sub a u h) h2⟩
  have up : ∀ a, a ≠ q → a ≠ dq → upd (upd H dq (.own q)) q (.ins (W.ca c) dq []) a = H a := fun a e1 e2 => by rw [upd_ne e1, upd_ne e2]
  have hm : ∀ a ∈ m, H a ≠ none := fun a ha => by
    obtain ⟨k, hk⟩ := List.getElem?_of_mem ha
    have hk' : k < m.length := (List.getElem?_eq_some_iff.mp hk).1
    rw [R.len] at hk'
    obtain ⟨_, r3⟩ := R.mo k _ a (List.getElem?_eq_getElem hk') hk
    cases hM : M[k] with
    | ml xs => rw [hM] at r3; obtain ⟨_, q1, _⟩ := r3; rw [q1]; exact fun z => by cases z
    | mi c ns ds => rw [hM] at r3; obtain ⟨_, _, _, q1, _⟩ := r3; rw [q1]; exact fun z => by cases z
  have hqm : q ∉ m := fun z => hm q z h1
  have pre : ∀ (k : Nat) (p : Addr), m[k]? = some p → (m ++ [q])[k]? = some p := fun k p h => by
    rw [List.getElem?_append_left (List.getElem?_eq_some_iff.mp h).1]; exact h
  refine ⟨⟨fun a u h => ?_, by rw [List.length_append, List.length_append, R.len]; rfl, ?_, fun k mo a hk ha => ?_, tabs_new (tabs_new R.tb h2) (by rw [upd_ne (Ne.symm hne)]; exact h1), R.nt⟩, ⟨fun _ _ h => h, fun a u h _ _ => ?_, fun a u h => .inl h, ⟨[q], rfl, fun a ha => by simp at ha; subst ha; exact h1⟩, fun a h => ?_⟩⟩
  · rw [up a (hF a u h).1 (hF a u h).2]; exact R.sub a u h
  · rw [List.nodup_append]
    exact ⟨R.nd, by simp, fun a ha b hb => by simp at hb; subst hb; exact fun z => hqm (z ▸ ha)⟩
  · by_cases hk2 : k < M.length
    · rw [List.getElem?_append_left hk2] at hk
      rw [List.getElem?_append_left (by rw [R.len]; exact hk2)] at ha
      obtain ⟨n1, r⟩ := R.mo k mo a hk ha
      have e1 : a ≠ q := fun z => hqm (z ▸ List.mem_of_getElem? ha)
      have e2 : a ≠ dq := fun z => hm a (List.mem_of_getElem? ha) (z ▸ h2)
      refine ⟨n1, ?_⟩
      cases mo with
      | ml xs => obtain ⟨vs, q1, q2, q3⟩ := r; exact ⟨vs, by rw [up a e1 e2]; exact q1, q2.mono (fun _ _ z => z) pre, q3⟩
      | mi c ns ds => obtain ⟨hc, dx, fs, q1, q2, q3⟩ := r; exact ⟨hc, dx, fs, by rw [up a e1 e2]; exact q1, q2, q3.mono (fun _ _ z => z) pre⟩
    · rw [List.getElem?_append_right (by omega)] at hk
      rw [List.getElem?_append_right (by rw [R.len]; omega)] at ha
      rw [R.len] at ha
      cases hk3 : k - M.length with
      | zero =>
        rw [hk3] at hk ha
        simp at hk ha
        subst hk; subst ha
        refine ⟨?_, hc, dq, [], upd_same, rfl, .nil⟩
        cases e : F q with
        | none => rfl
        | some u => rw [R.sub _ _ e] at h1; cases h1
      | succ j => rw [hk3] at hk; simp at hk
  · rw [up a (ne_of_none h h1) (ne_of_none h h2)]; exact h
  · by_cases e : a = q
    · subst e; rw [upd_same]; exact fun z => by cases z
    · rw [upd_ne e]
      by_cases e2 : a = dq
      · subst e2; rw [upd_same]; exact fun z => by cases z
      · rw [upd_ne e2]; exact h
theorem Rps.hfreeL {F : Hp} {m : List Addr} {vs : List V} {ds : List D} (h : ds.all (hf 40) = true) (r : Rps W F m vs ds) : Rps W F [] vs ds := r.hfree (k := 40) (by simpa using h)
theorem nil_ix (m1 : List Addr) : ∀ (k : Nat) (p : Addr), ([] : List Addr)[k]? = some p → m1[k]? = some p := fun k p h => by simp at h
/-- a state that came without the memory, with it again -/
theorem Mr.under {F F' : Hp} {m m' : List Addr} {H H' : Hp} {M M' : Mem} (R : Mr W F m H M) (a : Xt F [] H F' m' H') (R' : Mr W F' m' H' M') : Xt F m H F' m H' ∧ Mr W F' m H' M := by
  have same : ∀ b o, H b = some o → NoTbl o → H' b = some o := fun b o h ht => a.hx b o h (by simp) ht
  refine ⟨⟨a.fx, fun b o h _ ht => same b o h ht, fun b o h => (a.nx b o h).imp id R.fre, ⟨[], by simp, by simp⟩, a.dx⟩, R'.sub, R.len, R.nd, fun k c p hk hp => ?_, R'.tb, R'.nt⟩
  obtain ⟨n1, q⟩ := R.mo k c p hk hp
  have hno : H p ≠ none → F' p = none := fun hh => by
    cases e : F' p with
    | none => rfl
    | some u =>
      rcases a.nx p u e with q | q
      · rw [n1] at q; cases q
      · obtain ⟨w, hw⟩ := Option.ne_none_iff_exists'.mp hh
        exact (q.no hw (by have := R.mut (List.mem_of_getElem? hp); rw [hw] at this; exact this)).elim
  cases c with
  | ml xs => obtain ⟨vs, q1, q2, q3⟩ := q; exact ⟨hno (by rw [q1]; exact fun z => by cases z), vs, same _ _ q1 (fun _ z => by cases z), q2.mono a.fx (fun _ _ z => z), q3⟩
  | mi c ns ds => obtain ⟨hc, dx, fs, q1, q2, q3⟩ := q; exact ⟨hno (by rw [q1]; exact fun z => by cases z), hc, dx, fs, same _ _ q1 (fun _ z => by cases z), q2, q3.mono a.fx (fun _ _ z => z)⟩
theorem ok_mk {k : Nat} {xn : Str} {f : Nat} {d0 : Df} (c : Ct W P T n N C sc Ex) (hcl : T.cl k = some xn) (hini : P.ini k = some f) (hav : T.av f = true) (hd : P.df f = some d0) (hg : glB sc xn = true) (hn : okNm xn = true) (hl : chk P T N l sc (.l (x :: as)) = true) (h : PA C (x :: as) (tA W (P.fx n) Ex l)) :
    PE C (.Call (.Name xn p) (x :: as) [] pos) (tE W (P.fx n) Ex (.mk k l)) := by
  obtain ⟨fd, FO, bd⟩ := c.g.fns f d0 hav hd
  obtain ⟨hok, hm⟩ := c.g.wok k xn hcl
  have M0 := c.g.ini k f xn hcl hini
  have hs := chk_head (env := C.env) (pos := pos) hl
  refine ⟨fun pins s σ H Q I ⟨F, m, M, r, R, q⟩ => ?_⟩
  refine wpAny_Call_Name_kw (ld_glob I (c.so.gl _ hg) hm ?_ (okNm_of hn).1)
  have rd : tA W (P.fx n) Ex l σ H (fun vs H1 => ∀ x dx, H1 x = none → H1 dx = none → dx ≠ x → spF W P n f (.ref x :: vs) (upd (upd H1 dx (.own x)) x (.ins (W.ca k) dx [])) (fun v H2 => v = .non ∧ Q (.ref x) H2) (WE Ex σ)) := by
    refine tA_bind R q fun M1 ds F1 m1 H1 vs _ R1 a1 rv h1 => fun qa dq e1 e2 ne => ?_
    have hini' : (P.fx n).ini k = some f := hini
    rw [hini'] at h1
    dsimp only at h1
    split at h1
    · split at h1
      · rename_i hfr
        have rv0 : Rps W F1 [] vs ds := Rps.hfreeL hfr rv
        have R0 : Mr W F1 [] H1 [] := ⟨R1.mr.sub, rfl, .nil, fun k c p h => by simp at h, R1.mr.tb, R1.mr.nt⟩
        obtain ⟨R2, a2⟩ := R0.push (c := k) hok e1 e2 ne
        refine ⟨F1, [qa], [.mi k [] []], .hnd 0 :: ds, R2, .cons (.hnd rfl) (rv0.mono (fun _ _ z => z) (nil_ix _)), ?_⟩
        replace h1 : EQ W F1 m1 H1 (fun cls dd H' => Ex cls dd σ H') (fun _ d F' m' H' => ∀ v, Rp W F' m' v d → Q v H') (match P.call n f [.mi k [] []] (.hnd 0 :: ds) with
          | .ok [.mi k' ns vs] .non => if k' = k ∧ vs.all (hf 40) = true then .ok M1 (.obj k ns vs) else .st
          | .er _ k fs => if fs.all (hf 40) then .er M1 k fs else .st
          | _ => .st) := h1
        cases hx : P.call n f [.mi k [] []] (.hnd 0 :: ds) with
        | st => rw [hx] at h1; exact h1.elim
        | er M2 k2 fs =>
          rw [hx] at h1
          dsimp only at h1
          split at h1
          · rename_i hfs
            intro F' m' H' cls dd a3 R3 er
            obtain ⟨b1, b2⟩ := R1.mr.under (a2.trans a3) R3
            refine h1 F' m1 H' cls dd b1 b2 ⟨er.1, ?_⟩
            have e2 := er.2
            cases fs with
            | nil => trivial
            | cons f0 fr =>
              obtain ⟨d, fvs, z1, z2, z3⟩ := e2
              exact ⟨d, fvs, z1, z2, (Rps.hfreeL hfs z3).mono (fun _ _ z => z) (nil_ix _)⟩
          · exact h1.elim
        | ok M2 z =>
          rw [hx] at h1
          split at h1
          · rename_i k' ns vs' heq
            cases heq
            split at h1
            · rename_i hh
              obtain ⟨rfl, hfv⟩ := hh
              intro F' m' H' a3 R3 v rv3
              cases rv3
              refine ⟨rfl, ?_⟩
              have em : m' = [qa] := by
                obtain ⟨l3, e3, _⟩ := a3.mx
                have := R3.len
                rw [e3] at this
                simp at this
                rw [e3, this]; rfl
              subst em
              obtain ⟨n1, hc3, dx3, fs3, q1, q2, q3⟩ := R3.mo 0 _ qa rfl rfl
              obtain ⟨b1, b2⟩ := R1.mr.under (a2.trans a3) R3
              have hqm : qa ∉ m1 := fun z => by
                obtain ⟨j, hj⟩ := List.getElem?_of_mem z
                have hj' : j < m1.length := (List.getElem?_eq_some_iff.mp hj).1
                rw [R1.mr.len] at hj'
                obtain ⟨_, r3⟩ := R1.mr.mo j _ qa (List.getElem?_eq_getElem hj') hj
                cases hM : M1[j] with
                | ml xs => rw [hM] at r3; obtain ⟨_, q1, _⟩ := r3; rw [e1] at q1; cases q1
                | mi c ns ds => rw [hM] at r3; obtain ⟨_, _, _, q1, _⟩ := r3; rw [e1] at q1; cases q1
              have f1 : ∀ b u, F' b = some u → upd F' qa (.ins (W.ca k') dx3 fs3) b = some u := fun b u h => by rw [upd_ne (ne_of_none h n1)]; exact h
              refine h1 (upd F' qa (.ins (W.ca k') dx3 fs3)) m1 H' ⟨fun b u h => f1 b u (b1.fx b u h), b1.hx, fun b u h => ?_, b1.mx, b1.dx⟩ ⟨fun b u h => ?_, b2.len, b2.nd, fun j c b hj hb => ?_, b2.tb, nt_upd b2.nt (fun _ z => (by cases z))⟩ _ (.obj upd_same hc3 q2 ((Rps.hfreeL hfv q3).mono f1 (nil_ix _)))
              · by_cases e : b = qa
                · subst e; exact .inr (.inl e1)
                · rw [upd_ne e] at h; exact b1.nx b u h
              · by_cases e : b = qa
                · subst e; rw [upd_same] at h; cases h; exact q1
                · rw [upd_ne e] at h; exact b2.sub b u h
              · obtain ⟨z1, z2⟩ := b2.mo j c b hj hb
                have ne2 : b ≠ qa := fun e => hqm (e ▸ List.mem_of_getElem? hb)
                refine ⟨by rw [upd_ne ne2]; exact z1, ?_⟩
                cases c with
                | ml xs => obtain ⟨vs, q1, q2, q3⟩ := z2; exact ⟨vs, q1, q2.mono f1 (fun _ _ z => z), q3⟩
                | mi c ns ds => obtain ⟨hc, dx, fs, q1, q2, q3⟩ := z2; exact ⟨hc, dx, fs, q1, q2, q3.mono f1 (fun _ _ z => z)⟩
            · exact h1.elim
          · rename_i heq; cases heq
          · exact h1.elim
      · exact h1.elim
    · obtain ⟨R2, a2⟩ := R1.mr.push (c := k) hok e1 e2 ne
      refine ⟨F1, m1 ++ [qa], M1 ++ [.mi k [] []], .hnd M1.length :: ds, R2, .cons (.hnd (by rw [← R1.mr.len]; simp)) (rv.xt a2), ?_⟩
      replace h1 : EQ W F1 m1 H1 (fun cls dd H' => Ex cls dd σ H') (fun _ d F' m' H' => ∀ v, Rp W F' m' v d → Q v H') (match P.call n f (M1 ++ [.mi k [] []]) (.hnd M1.length :: ds) with
        | .ok M2 .non => .ok M2 (.hnd M1.length)
        | .er M2 k fs => .er M2 k fs
        | _ => .st) := h1
      cases hx : P.call n f (M1 ++ [.mi k [] []]) (.hnd M1.length :: ds) with
      | st => rw [hx] at h1; exact h1.elim
      | er M2 k2 fs => rw [hx] at h1; exact EQ.fwd a2 h1
      | ok M2 z =>
        rw [hx] at h1
        cases z <;> first | exact h1.elim | skip
        intro F' m' H' a3 R3 v rv3
        cases rv3
        exact ⟨rfl, h1 F' m' H' (a2.trans a3) R3 _ (.hnd (a3.ix _ _ (by rw [← R1.mr.len]; simp)))⟩
  refine PySem.W.callWith_K (h₀ := C.base) I.ok.mod.kin M0.kp (thn (h.run pos pins s σ H _ I rd) fun us s1 ⟨vs, H1, I1, r, q⟩ => ⟨I1.kIn, ?_⟩) (star_cons hs.1) hs.2
  exact run_makeS M0 FO c.room bd (passAt c.tk σ) I1 r q
end
end Oc
namespace Oc
open L2 PySem PySem.Spec PyProof.Rows
section
variable {W : Wd} {F : Hp} {m : List Addr} {H : Hp} {M : Mem}
theorem wk_list {K : PySem.W.Frag} {p : Addr} {vs : List V} {ds : List D} (sq : ∀ {H : Hp}, (∀ a o, F a = some o → H a = some o) → SqL K H p vs) (r : Rps W F m vs ds) : Wk W F m (Itl K p) ds := by
  refine ⟨fun i H hs hi => ?_, fun H hs => ⟨vs, sq hs, by rw [r.len]; exact Nat.le_refl _⟩, fun i d v F1 m1 H H' M hF hm R e y => ?_⟩
  · have hi2 : i < vs.length := by rw [r.len]; exact hi
    exact ⟨vs, vs[i], sq hs, List.getElem?_eq_getElem hi2⟩
  · obtain ⟨rfl, y⟩ := y
    obtain ⟨w, e1, rw1⟩ := r.get e
    have := y vs (sq fun a o q => R.sub a o (hF a o q))
    rw [e1] at this
    cases this
    exact ⟨F1, Xt.refl _ _ _, R, rw1.mono hF hm⟩
end
theorem sqt_inj {C : Cx} {pins : List (Addr × Obj)} {σ : L2.St} {H0 : Hp} {s : Shared} {F : Hp} {p : Addr} {vs : List V} (I : L2.Inv C pins σ H0 s) (hs0 : ∀ a o, F a = some o → H0 a = some o) (h : F p = some (.tup vs)) :
    ∀ (H : Hp) (xs : List V), (∀ a o, F a = some o → H a = some o) → SqT C.K H p xs → xs = vs := by
  intro H xs hs q
  rcases q with q | ⟨o, its, k, e, _⟩
  · rcases q with q | ⟨o, q⟩
    · rw [hs _ _ h] at q; cases q; rfl
    · rw [hs _ _ h] at q; cases q
  · exfalso
    have b := I.bs p o (I.ok.mod.kin p o e)
    rw [hs0 _ _ h] at b; cases b.2
section
variable {W : Wd} {F : Hp} {m : List Addr} {H : Hp} {M : Mem}
theorem wk_tup {K : PySem.W.Frag} {p : Addr} {vs : List V} {ds : List D} (h : F p = some (.tup vs)) (r : Rps W F m vs ds) (inj : ∀ H xs, (∀ a o, F a = some o → H a = some o) → SqT K H p xs → xs = vs) : Wk W F m (Itt K p) ds := by
  refine ⟨fun i H hs hi => ?_, fun H hs => ⟨vs, SqT.of (hs _ _ h), by rw [r.len]; exact Nat.le_refl _⟩, fun i d v F1 m1 H H' M hF hm R e y => ?_⟩
  · have hi2 : i < vs.length := by rw [r.len]; exact hi
    exact ⟨vs, vs[i], SqT.of (hs _ _ h), List.getElem?_eq_getElem hi2⟩
  · obtain ⟨rfl, y⟩ := y
    obtain ⟨w, e1, rw1⟩ := r.get e
    have := y vs (SqT.of (R.sub _ _ (hF _ _ h)))
    rw [e1] at this
    cases this
    exact ⟨F1, Xt.refl _ _ _, R, rw1.mono hF hm⟩
theorem wk_str {s : Cs} (h2 : s.all (· < 0x110000) = true) : Wk W F m (Its (csS s)) (s.map fun c => .str [c]) := by
  have hz : (csS s).cps.size = s.length := by simp [csS]
  refine ⟨fun i H hs hi => ?_, fun H hs => ?_, fun i d v F1 m1 H H' M hF hm R e y => ?_⟩
  · show i < (csS s).cps.size
    rw [hz]; simpa using hi
  · show (csS s).cps.size ≤ _
    rw [hz]; simp
  · obtain ⟨rfl, c, e1, rfl⟩ := y
    rw [List.getElem?_map] at e
    have e2 : s[i]? = some c := by simpa [csS] using e1
    rw [e2] at e
    cases e
    exact ⟨F1, Xt.refl _ _ _, R, .str (s := [c]) (by show 1 ≤ lim; decide) (by simp only [List.all_cons, List.all_nil, Bool.and_true]; exact List.all_eq_true.mp h2 c (List.mem_of_getElem? e2))⟩
theorem wk_rng (lo : Int) (k : Nat) : Wk W F m (Itr lo k) ((List.range k).map fun (i : Nat) => .int (lo + i)) := by
  refine ⟨fun i H hs hi => by show i < k; simpa using hi, fun H hs => by show k ≤ _; simp, fun i d v F1 m1 H H' M hF hm R e y => ?_⟩
  obtain ⟨rfl, rfl⟩ := y
  rw [List.getElem?_map] at e
  cases h : (List.range k)[i]? with
  | none => rw [h] at e; cases e
  | some j =>
    rw [h] at e; cases e
    have : j = i := by
      have := List.getElem?_range (i := i) (n := k) (by
        have := (List.getElem?_eq_some_iff.mp h).1
        simpa using this)
      rw [h] at this; exact Option.some.inj this
    subst this
    exact ⟨F1, Xt.refl _ _ _, R, .int _⟩
end
/-- a tuple that stands is read -/
theorem Mr.take {W : Wd} {F : Hp} {m : List Addr} {H : Hp} {M : Mem} {p : Addr} {vs : List V} (R : Mr W F m H M) (h : H p = some (.tup vs)) : Mr W (upd F p (.tup vs)) m H M ∧ Xt F m H (upd F p (.tup vs)) m H := by
  have f1 : ∀ a o, F a = some o → upd F p (.tup vs) a = some o := fun a o e => by
    by_cases z : a = p
    · subst z; rw [R.sub _ _ e] at h; rw [upd_same, ← h]
    · rw [upd_ne z]; exact e
  have nm : p ∉ m := fun z => by have := R.mut z; rw [h] at this; exact this
  refine ⟨⟨fun a o e => ?_, R.len, R.nd, fun k c q hk hq => ?_, R.tb, nt_upd R.nt (fun _ z => by cases z)⟩, f1, fun a o e _ _ => e, fun a o e => ?_, ⟨[], by simp, by simp⟩, fun _ e => e⟩
  · by_cases z : a = p
    · subst z; rw [upd_same] at e; cases e; exact h
    · rw [upd_ne z] at e; exact R.sub a o e
  · obtain ⟨n1, r⟩ := R.mo k c q hk hq
    have ne : q ≠ p := fun z => nm (z ▸ List.mem_of_getElem? hq)
    refine ⟨by rw [upd_ne ne]; exact n1, ?_⟩
    cases c with
    | ml xs => obtain ⟨ws, q1, q2, q3⟩ := r; exact ⟨ws, q1, q2.mono f1 (fun _ _ z => z), q3⟩
    | mi c ns ds => obtain ⟨hc, dx, fs, q1, q2, q3⟩ := r; exact ⟨hc, dx, fs, q1, q2, q3.mono f1 (fun _ _ z => z)⟩
  · by_cases z : a = p
    · subst z; exact .inr (.inr ⟨nm, fun mu => by rw [h] at mu; exact mu⟩)
    · rw [upd_ne z] at e; exact .inl e
section
variable {W : Wd} {F : Hp} {m : List Addr}
theorem wk_keys {p : Addr} {o : Obj} {kvs : List (Key × V)} {ks : List Ky} (h : F p = some (.frz o (.dK kvs))) (hk : kvs.map (·.1) = ks.map kyK) (hg : ∀ k ∈ ks, kyG k) : Wk W F m (Itk p o kvs) (ks.map keyD) := by
  have hl : kvs.length = ks.length := by have := congrArg List.length hk; simpa using this
  refine ⟨fun i H hs hi => ⟨hs _ _ h, by rw [hl]; simpa using hi⟩, fun H hs => ⟨hs _ _ h, by rw [hl, List.length_map]; exact Nat.le_refl _⟩, fun i d v F1 m1 H H' M hF hm R e y => ?_⟩
  obtain ⟨rfl, k, u, e1, rfl⟩ := y
  rw [List.getElem?_map] at e
  obtain ⟨y, e2, rfl⟩ := Option.map_eq_some_iff.mp e
  have e3 : (kvs.map (·.1))[i]? = some k := by rw [List.getElem?_map, e1]; rfl
  rw [hk, List.getElem?_map, e2] at e3
  cases e3
  exact ⟨F1, Xt.refl _ _ _, R, key_rp (hg y (List.mem_of_getElem? e2))⟩
theorem wk_keysT {p : Addr} {o : Obj} {kvs : List (List Key × V)} {ks : List (List Ky)} (h : F p = some (.frz o (.dT kvs))) (hk : kvs.map (·.1) = ks.map (·.map kyK)) (hg : ∀ k ∈ ks, k.length ≤ lim ∧ ∀ y ∈ k, kyG y) : Wk W F m (Itkt p o kvs) (ks.map fun k => .tup (k.map keyD)) := by
  have hl : kvs.length = ks.length := by have := congrArg List.length hk; simpa using this
  refine ⟨fun i H hs hi => ⟨hs _ _ h, by rw [hl]; simpa using hi⟩, fun H hs => ⟨hs _ _ h, by rw [hl, List.length_map]; exact Nat.le_refl _⟩, fun i d v F1 m1 H H' M hF hm R e y => ?_⟩
  obtain ⟨rfl, k, u, q, e1, rfl, hq⟩ := y
  rw [List.getElem?_map] at e
  obtain ⟨y, e2, rfl⟩ := Option.map_eq_some_iff.mp e
  have e3 : (kvs.map (·.1))[i]? = some k := by rw [List.getElem?_map, e1]; rfl
  rw [hk, List.getElem?_map, e2] at e3
  cases e3
  obtain ⟨g1, g2⟩ := hg y (List.mem_of_getElem? e2)
  obtain ⟨R2, x2⟩ := R.take hq
  exact ⟨_, x2, R2, .tup upd_same (keys_rp g2) (by rw [List.length_map, List.length_map]; exact g1)⟩
end
section
variable {W : Wd} {F : Hp} {m : List Addr} {H : Hp} {M : Mem}
theorem rps_chars {s : Cs} (h2 : s.all (· < 0x110000) = true) : Rps W F m ((csS s).cps.toList.map fun c => V.str ⟨#[c]⟩) (s.map fun c => .str [c]) := by
  rw [csS_cps]
  rw [List.all_eq_true] at h2
  induction s with
  | nil => exact .nil
  | cons c s ih => exact .cons (.str (s := [c]) (by show 1 ≤ lim; decide) (by simp only [List.all_cons, List.all_nil, Bool.and_true]; exact h2 c List.mem_cons_self)) (ih fun x hx => h2 x (List.mem_cons_of_mem _ hx))
theorem wk_enum {K : PySem.W.Frag} {k : Sk} {vs : List V} {xs : List D} (sq : ∀ {H : Hp}, (∀ a o, F a = some o → H a = some o) → k.at K H vs) (r : Rps W F m vs xs) :
    Wk W F m (IteD K k) (xs.zipIdx.map fun p => .tup [.int p.2, p.1]) := by
  refine ⟨fun i H hs hi => ?_, fun H hs => ⟨vs, sq hs, by rw [List.length_map, List.length_zipIdx, r.len]⟩, fun i d v F1 m1 H H' M hF hm R e y => ?_⟩
  · rw [List.length_map, List.length_zipIdx] at hi
    have hi2 : i < vs.length := by rw [r.len]; exact hi
    exact ⟨vs, vs[i], sq hs, List.getElem?_eq_getElem hi2⟩
  · obtain ⟨T, x, rfl, hT, rfl, y⟩ := y
    have hx := y vs (sq fun a o h => R.sub a o (hF a o h))
    obtain ⟨xd, e1, rx⟩ := r.getV hx
    have rx1 := rx.mono hF hm
    obtain ⟨R2, x2⟩ := R.fresh (o := .tup [.int (i : Nat), x]) hT
    refine ⟨_, x2, R2, ?_⟩
    rw [List.getElem?_map, List.getElem?_zipIdx, e1] at e
    simp only [Option.map_some, Option.some.injEq, Nat.zero_add] at e
    subst e
    exact rp_fresh_tup R.sub hT (.cons (.int _) (.cons rx1 .nil)) (by show 2 ≤ lim; decide)
theorem wk_zip {K : PySem.W.Frag} {k1 k2 : Sk} {vs ws : List V} {xs ys : List D} (sq1 : ∀ {H : Hp}, (∀ a o, F a = some o → H a = some o) → k1.at K H vs) (r1 : Rps W F m vs xs)
    (sq2 : ∀ {H : Hp}, (∀ a o, F a = some o → H a = some o) → k2.at K H ws) (r2 : Rps W F m ws ys) :
    Wk W F m (ItzD K k1 k2) ((xs.zip ys).map fun p => .tup [p.1, p.2]) := by
  have l1 := r1.len
  have l2 := r2.len
  refine ⟨fun i H hs hi => ?_, fun H hs => ⟨vs, ws, sq1 hs, sq2 hs, ?_⟩, fun i d v F1 m1 H H' M hF hm R e y => ?_⟩
  · rw [List.length_map, List.length_zip] at hi
    have h1 : i < vs.length := by omega
    have h2 : i < ws.length := by omega
    exact ⟨vs, ws, vs[i], ws[i], sq1 hs, sq2 hs, List.getElem?_eq_getElem h1, List.getElem?_eq_getElem h2⟩
  · rw [List.length_map, List.length_zip]; omega
  · obtain ⟨T, x, y, rfl, hT, rfl, y1, y2⟩ := y
    have hx := y1 vs (sq1 fun a o h => R.sub a o (hF a o h))
    have hy := y2 ws (sq2 fun a o h => R.sub a o (hF a o h))
    obtain ⟨xd, e1, rx⟩ := r1.getV hx
    obtain ⟨yd, e2, ry⟩ := r2.getV hy
    obtain ⟨R2, x2⟩ := R.fresh (o := .tup [x, y]) hT
    refine ⟨_, x2, R2, ?_⟩
    rw [List.getElem?_map] at e
    have ez : (xs.zip ys)[i]? = some (xd, yd) := by
      rw [List.getElem?_zip_eq_some]; exact ⟨e1, e2⟩
    rw [ez] at e
    simp only [Option.map_some, Option.some.injEq] at e
    subst e
    exact rp_fresh_tup R.sub hT (.cons (rx.mono hF hm) (.cons (ry.mono hF hm) .nil)) (by show 2 ≤ lim; decide)
/-- data that is walked, as a source -/
theorem src_rp {K : PySem.W.Frag} {v : V} {d : D} {xs : List D} (Rm : Mr W F m H M) (rv : Rp W F m v d) (e : itmF d = some xs) :
    ∃ vs, Rps W F m vs xs ∧ ∀ R0 : Sk → Prop, (∀ k : Sk, (∀ {H : Hp}, (∀ a o, F a = some o → H a = some o) → k.at K H vs) → R0 k) → SrcV K H v vs R0 := by
  cases rv with
  | lst h r hl => cases e; exact ⟨_, r, fun R0 k => .inl ⟨_, rfl, SqL.of (Rm.sub _ _ h), k (.ls _) (fun hs => SqL.of (hs _ _ h))⟩⟩
  | tup h r hl => cases e; exact ⟨_, r, fun R0 k => .inr (.inl ⟨_, rfl, SqT.of (Rm.sub _ _ h), k (.tp _) (fun hs => SqT.of (hs _ _ h))⟩)⟩
  | str h h2 => cases e; exact ⟨_, rps_chars h2, fun R0 k => .inr (.inr ⟨_, rfl, rfl, fun t => k (.tx _ t) (fun _ => rfl)⟩)⟩
  | _ => cases e
theorem itmF_len {v : V} {d : D} {xs : List D} (rv : Rp W F m v d) (e : itmF d = some xs) : xs.length ≤ lim := by
  cases rv with
  | lst h r hl => cases e; rw [← r.len]; exact hl
  | tup h r hl => cases e; rw [← r.len]; exact hl
  | str h h2 => cases e; rw [List.length_map]; exact h
  | _ => cases e
end
section
variable {W : Wd} {P : Pg} {T : Tb} {n : Nat} {N : List Str} {C : Cx} {sc : Scope} {Ex : WX}
variable {a b l : E} {x y z tg : Expr} {as : List Expr} {pos p : Pos}
/-- anything that is walked as it is -/
theorem pi_any {X : Fx} (c : Ct W P T n N C sc Ex) (he : PE C x (tE W X Ex a)) : PI C tg x (tI W X Ex a) := by
  refine ⟨fun pins s σ H R0 I ⟨F, m, M, r, R, q⟩ => ?_⟩
  refine thn (he.run pins s σ H (fun v H1 => ∃ F1 m1 M1 d, Mr W F1 m1 H1 M1 ∧ Rp W F1 m1 v d ∧ ∃ xs, itms d = some xs ∧ (xs.length ≤ lim → ∀ J, Wk W F1 m1 J xs → R0 J H1)) I
    ⟨F, m, M, r, R, q.mono fun M1 d F1 m1 H1 a1 R1 k v rv => ⟨F1, m1, M1, d, R1, rv, k⟩⟩) fun v s1 ⟨w, H1, I1, r1, q1⟩ => ?_
  obtain ⟨F1, m1, M1, d, R1, rv, xs, e, k⟩ := q1
  cases rv with
  | lst h rr hl =>
    cases e
    cases r1
    obtain ⟨its, _, pl, _⟩ := I1.list (SqL.of (R1.sub _ _ h))
    refine wpAny_pyIter_list pl.isList ?_
    exact pi_one (tk := s1.toks) I1 _ (turn_list _ _) ⟨_, Heap.get?_push_size _ rfl, rfl, rfl⟩ (k (by rw [← rr.len]; exact hl) _ (wk_list (fun hs => SqL.of (hs _ _ h)) rr))
  | scr h hl =>
    cases e
    cases r1
    obtain ⟨its, _, pl, _⟩ := I1.list (scr_sq c.g.sq R1.sub h)
    refine wpAny_pyIter_list pl.isList ?_
    exact pi_one (tk := s1.toks) I1 _ (turn_list _ _) ⟨_, Heap.get?_push_size _ rfl, rfl, rfl⟩ (k (by rw [List.length_map]; exact hl) _ (wk_list (fun hs => scr_sq c.g.sq hs h) (Rps.ints _)))
  | tup h rr hl =>
    cases e
    cases r1
    obtain ⟨its, _, pl, _⟩ := I1.tuple (SqT.of (R1.sub _ _ h))
    refine wpAny_pyIter_tuple (show s1.heap.IsTuple _ its.toArray from pl) ?_
    exact pi_one (tk := s1.toks) I1 _ (turn_tuple _ _) ⟨_, Heap.get?_push_size _ rfl, rfl, rfl⟩ (k (by rw [← rr.len]; exact hl) _ (wk_tup h rr (sqt_inj I1 R1.sub h)))
  | str h h2 =>
    cases e
    obtain ⟨t, rfl⟩ := r1
    have kk := k (by rw [List.length_map]; exact h) _ (wk_str h2)
    cases ha : (csS _).cps.all (· < 128)
    · exact wpAny_pyIter_wide ha (pi_one (tk := s1.toks) I1 _ (turn_str _ _ t "str_iterator" (.inr rfl)) ⟨_, Heap.get?_push_size _ rfl, rfl, rfl⟩ kk)
    · exact wpAny_pyIter_ascii ha (pi_one (tk := s1.toks) I1 _ (turn_str _ _ t "str_ascii_iterator" (.inl rfl)) ⟨_, Heap.get?_push_size _ rfl, rfl, rfl⟩ kk)
  | dk h hk hg rr hl =>
    rename_i l p kvs ks ds
    cases l with
    | false => cases e
    | true =>
      cases e
      cases r1
      rcases h with ⟨ob, h⟩ | ⟨z, _⟩
      · have hd := R1.sub _ _ h
        obtain ⟨hs, hgd, hx, es, ep, vs, hdt, hsz, kv, hm⟩ := I1.frzK hd
        refine iter_keys hs hgd hx hdt (pi_one (tk := s1.toks) I1 _ (turn_keys _ hdt) ⟨_, Heap.get?_push_size _ rfl, rfl, ?_⟩ (k ?_ _ (wk_keys h hk hg)))
        · rw [hsz] <;> rfl
        · have := congrArg List.length hk
          rw [List.length_map, List.length_map] at this
          rw [List.length_map, ← this]; exact hl
      · cases z
  | dt h hk hg rr hl =>
    rename_i l p kvs ks ds
    cases l with
    | false => cases e
    | true =>
      cases e
      cases r1
      rcases h with ⟨ob, h⟩ | ⟨z, _⟩
      · have hd := R1.sub _ _ h
        obtain ⟨hs, hgd, hx, es, ep, hdt, hsz, ent⟩ := I1.frzT hd
        refine iter_keys hs hgd hx hdt (pi_one (tk := s1.toks) I1 _ (turn_keysT _ hdt) ⟨_, Heap.get?_push_size _ rfl, rfl, ?_⟩ (k ?_ _ (wk_keysT h hk hg)))
        · rw [hsz] <;> rfl
        · have := congrArg List.length hk
          rw [List.length_map, List.length_map] at this
          rw [List.length_map, ← this]; exact hl
      · cases z
  | _ => cases e
theorem star1 {e : Expr} {env : Env} (h : notStar e = true) : starEach [e] env = [(false, eval e env)] := star_cons h
theorem ok_rg1 {X : Fx} (c : Ct W P T n N C sc Ex) (hb : ("range" : Str) ∈ T.blt) (hg : glB sc ("range" : Str) = true) (hs : notStar x = true) (he : PE C x (tE W X Ex a)) : PI C tg (.Call (.Name "range" p) [x] [] pos) (tI W X Ex (.rg1 a)) :=
  (pi_range1 (c.so.gl _ hg) (c.g.blt _ hb) (pa_cons he pa_nil (star_cons hs)) (star1 hs)).wk fun σ H Q ⟨F, m, M, r, R, q⟩ => tE_bind R q fun M1 d F1 m1 H1 v R1 a1 rv h1 => by
    cases d <;> first | exact h1.elim | skip
    rename_i k
    cases rv
    dsimp only at h1
    split at h1
    · rename_i hk
      obtain ⟨xs, e, kk⟩ := EQ.now h1 R1.mr
      cases e
      refine ⟨k, rfl, hk.2, by omega, kk ?_ _ ?_⟩
      · rw [List.length_map, List.length_range]; show k.toNat ≤ 16777216; omega
      · have := wk_rng (W := W) (F := F1) (m := m1) 0 k.toNat
        simpa using this
    · exact h1.elim
theorem ok_rg2 {X : Fx} (c : Ct W P T n N C sc Ex) (hb : ("range" : Str) ∈ T.blt) (hg : glB sc ("range" : Str) = true) (hs : notStar x = true) (hs2 : notStar y = true) (he : PE C x (tE W X Ex a)) (he2 : PE C y (tE W X Ex b)) :
    PI C tg (.Call (.Name "range" p) [x, y] [] pos) (tI W X Ex (.rg2 a b)) :=
  (pi_range2 (c.so.gl _ hg) (c.g.blt _ hb) (pa_cons he (pa_cons he2 pa_nil (star_cons hs2)) (star_cons hs)) ((star_cons hs).trans (congrArg _ (star1 hs2))) (star1 hs2)).wk fun σ H Q ⟨F, m, M, r, R, q⟩ =>
    tE_bind R q fun M1 d F1 m1 H1 v R1 a1 rv h1 => tE_bind R1 h1 fun M2 e F2 m2 H2 w R2 a2 rw2 h2 => by
      cases d <;> first | exact h2.elim | skip
      cases e <;> first | exact h2.elim | skip
      rename_i i j
      dsimp only at h2
      split at h2
      · rename_i hk
        obtain ⟨xs, e, kk⟩ := EQ.now h2 R2.mr
        cases e
        cases rv; cases rw2
        refine ⟨i, j, rfl, ⟨hk.2.1, hk.1, hk.2.2.2.1, hk.2.2.1⟩, kk ?_ _ (wk_rng _ _)⟩
        rw [List.length_map, List.length_range]; show (j - i).toNat ≤ 16777216; omega
      · exact h2.elim
theorem ok_enu {X : Fx} {elts : List Expr} {kk : Nat} {tpos : Pos} (c : Ct W P T n N C sc Ex) (hb : ("enumerate" : Str) ∈ T.blt) (hg : glB sc ("enumerate" : Str) = true) (hs : notStar x = true) (he : PE C x (tE W X Ex a)) :
    PI C (.Tuple elts kk tpos) (.Call (.Name "enumerate" p) [x] [] pos) (tI W X Ex (.enu a)) :=
  (pi_enumD (c.so.gl _ hg) (c.g.blt _ hb) he (star1 hs)).wk fun σ H Q ⟨F, m, M, r, R, q⟩ => tE_bind R q fun M1 d F1 m1 H1 v R1 a1 rv h1 => by
    cases hx : itmF d with
    | none => rw [hx] at h1; exact h1.elim
    | some xs =>
      rw [hx] at h1
      obtain ⟨zs, e, kk⟩ := EQ.now h1 R1.mr
      cases e
      obtain ⟨vs, rs, sv⟩ := src_rp (K := C.K) R1.mr rv hx
      have := sv (fun k => Q (IteD C.K k) H1) fun k sq => kk (by rw [List.length_map, List.length_zipIdx]; exact itmF_len rv hx) _ (wk_enum sq rs)
      exact ⟨vs, this⟩
theorem ok_zp {X : Fx} {elts : List Expr} {kk : Nat} {tpos : Pos} (c : Ct W P T n N C sc Ex) (hb : ("zip" : Str) ∈ T.blt) (hg : glB sc ("zip" : Str) = true) (hs : notStar x = true) (hs2 : notStar y = true) (he : PE C x (tE W X Ex a)) (he2 : PE C y (tE W X Ex b)) :
    PI C (.Tuple elts kk tpos) (.Call (.Name "zip" p) [x, y] [] pos) (tI W X Ex (.zp a b)) :=
  (pi_zipD (c.so.gl _ hg) (c.g.blt _ hb) he he2 (star_cons hs) (star1 hs2)).wk fun σ H Q ⟨F, m, M, r, R, q⟩ => tE_bind R q fun M1 d F1 m1 H1 v R1 a1 rv h1 => tE_bind R1 h1 fun M2 e F2 m2 H2 w R2 a2 rw2 h2 => by
    cases hx : itmF d with
    | none => rw [hx] at h2; exact h2.elim
    | some xs =>
      cases hy : itmF e with
      | none => rw [hx, hy] at h2; exact h2.elim
      | some ys =>
        rw [hx, hy] at h2
        obtain ⟨zs, e, kk⟩ := EQ.now h2 R2.mr
        cases e
        have rv2 := rv.xt a2
        obtain ⟨vs, r1, sv⟩ := src_rp (K := C.K) R2.mr rv2 hx
        obtain ⟨ws, r2, sw⟩ := src_rp (K := C.K) R2.mr rw2 hy
        have q2 := sv (fun k1 => SrcV C.K H2 w ws fun k2 => Q (ItzD C.K k1 k2) H2) fun k1 sq1 => sw (fun k2 => Q (ItzD C.K k1 k2) H2) fun k2 sq2 =>
          kk (by rw [List.length_map, List.length_zip]; exact Nat.le_trans (Nat.min_le_left _ _) (itmF_len rv hx)) _ (wk_zip sq1 r1 sq2 r2)
        exact ⟨vs, ws, q2⟩
/-- a clause's test -/
def cnd (X : Fx) (cd : E) (M : Mem) (r : En) : R Bool := match cd with
  | .nil => .ok M true
  | _ => ((ev X cd M r).bind fun M3 t => .opt M3 (tru M3 t)).noEr
/-- the one turn of a comprehension -/
def lcF (X : Fx) (own : List Nat) (elt : E) (pt : Pt) (cd : E) (r : En) : Mem → D → R (Option D) := fun M2 y => match setPt pt y (wipE r own) with
  | none => .st
  | some r2 => (cnd X cd M2 r2).bind fun M3 b => if b then (ev X elt M3 r2).noEr.bind fun M4 z => .ok M4 (some z) else .ok M3 none
theorem ev_lc (X : Fx) (own : List Nat) (elt : E) (pt : Pt) (it cd : E) (M : Mem) (r : En) : ev X (.lc own elt pt it cd) M r = (ev X it M r).bind fun M1 x => match itms x with
    | none => .st
    | some xs => (lcGo (lcF X own elt pt cd r) M1 xs).bind fun M2 zs => .ok M2 (.lst zs) := rfl
def tTs (W : Wd) (X : Fx) (cd : E) : TT := fun σ H Q => ∃ F m M r, Rl W F m H M σ r ∧ EQ W F m H (fun _ _ _ => False) (fun _ b _ _ H' => Q b H') (cnd X cd M r)
theorem noEr_ok {α : Type} {x : R α} {M : Mem} {a : α} (h : x.noEr = .ok M a) : x = .ok M a := by cases x <;> first | exact h | cases h
theorem lcF_ok {X : Fx} {own : List Nat} {elt : E} {pt : Pt} {cd : E} {r : En} {M M4 : Mem} {y : D} {o : Option D} (h : lcF X own elt pt cd r M y = .ok M4 o) :
    ∃ r2 M3 b, setPt pt y (wipE r own) = some r2 ∧ cnd X cd M r2 = .ok M3 b ∧ ((b = true ∧ ∃ z, ev X elt M3 r2 = .ok M4 z ∧ o = some z) ∨ (b = false ∧ M4 = M3 ∧ o = none)) := by
  unfold lcF at h
  split at h
  · cases h
  · rename_i r2 e
    obtain ⟨M3, b, e2, h⟩ := bind_okE h
    refine ⟨r2, M3, b, e, e2, ?_⟩
    cases b with
    | true =>
      obtain ⟨M5, z, e3, h⟩ := bind_okE (show (ev X elt M3 r2).noEr.bind _ = _ from h)
      cases h
      exact .inl ⟨rfl, z, noEr_ok e3, rfl⟩
    | false => cases h; exact .inr ⟨rfl, rfl, rfl⟩
theorem lcF_er {X : Fx} {own : List Nat} {elt : E} {pt : Pt} {cd : E} {r : En} {M M4 : Mem} {y : D} {k : Nat} {fs : List D} (h : lcF X own elt pt cd r M y = .er M4 k fs) : False := by
  have ne : ∀ {α : Type} (x : R α) M k fs, x.noEr ≠ .er M k fs := fun x M k fs e => by cases x <;> cases e
  unfold lcF at h
  split at h
  · cases h
  · rename_i r2 e
    cases hc : cnd X cd M r2 with
    | st => rw [hc] at h; cases h
    | er M k fs =>
      unfold cnd at hc
      split at hc
      · cases hc
      · exact ne _ _ _ _ hc
    | ok M3 b =>
      rw [hc] at h
      cases b with
      | true =>
        replace h : ((ev X elt M3 r2).noEr.bind fun M4 z => Oc.R.ok M4 (some z)) = .er M4 k fs := h
        cases he : (ev X elt M3 r2).noEr with
        | st => rw [he] at h; cases h
        | er M k fs => exact ne _ _ _ _ he
        | ok M5 z => rw [he] at h; cases h
      | false => cases h
theorem wipe_of {σ σ' : L2.St} : ∀ {vs : List Nat}, σ'.length = σ.length → (∀ j, j ∉ vs → σ'[j]? = σ[j]?) → wipe σ' vs = wipe σ vs := by
  intro vs hl h
  have key : ∀ (τ : L2.St) (vs : List Nat) (j : Nat), (wipe τ vs)[j]? = if j ∈ vs then (if j < τ.length then some none else none) else τ[j]? := by
    intro τ vs
    induction vs with
    | nil => intro j; simp [wipe]
    | cons v vs ih =>
      intro j
      unfold wipe
      by_cases e : j = v
      · subst e
        by_cases hj : j < τ.length
        · rw [List.getElem?_set_self (by rw [wipe_length]; exact hj)]; simp [hj]
        · rw [List.getElem?_eq_none (by rw [List.length_set, wipe_length]; omega)]; simp [hj]
      · rw [List.getElem?_set_ne (fun z => e z.symm), ih j]
        simp [e]
  refine List.ext_getElem? fun j => ?_
  rw [key, key]
  by_cases hj : j ∈ vs
  · simp [hj, hl]
  · simp [hj, h j hj]
theorem wipe_wipe (σ : L2.St) (vs : List Nat) : wipe (wipe σ vs) vs = wipe σ vs :=
  wipe_of (wipe_length _ _) fun j hj => wipe_out hj
end
section
variable {W : Wd} {F F1 : Hp} {m m1 : List Addr} {H H1 : Hp} {M : Mem} {σ : L2.St} {r : En}
/-- a thing apart is written -/
theorem Mr.updD {p : Addr} {o : HO} (R : Mr W F m H M) (hP : Pln H p) (h1 : F p = none) (h2 : p ∉ m) : Mr W F m (upd H p o) M := by
  refine ⟨fun a u h => by rw [upd_ne (ne_of_none h h1)]; exact R.sub a u h, R.len, R.nd, fun k c q hk hq => ?_, tabs_pln R.tb hP, R.nt⟩
  obtain ⟨n1, z⟩ := R.mo k c q hk hq
  have ne : q ≠ p := fun e => h2 (e ▸ List.mem_of_getElem? hq)
  refine ⟨n1, ?_⟩
  cases c with
  | ml xs => obtain ⟨vs, q1, q2⟩ := z; exact ⟨vs, by rw [upd_ne ne]; exact q1, q2⟩
  | mi c ns ds => obtain ⟨hc, dx, fs, q1, q2⟩ := z; exact ⟨hc, dx, fs, by rw [upd_ne ne]; exact q1, q2⟩
theorem SlR.updD {p : Addr} {o : HO} {v : V} {x : Sl} (h : SlR W F m H v x) (hp : isOwn x = true → v ≠ .ref p) : SlR W F m (upd H p o) v x := by
  cases x with
  | d x => exact h
  | ol xs => obtain ⟨q, vs, e, h1, h2, h3, h4⟩ := h; exact ⟨q, vs, e, h1, h2, by rw [upd_ne (fun z => hp rfl (by rw [e, z]))]; exact h3, h4⟩
  | ok ks ds => obtain ⟨q, vs, e, h1, h2, h3, h4⟩ := h; exact ⟨q, vs, e, h1, h2, by rw [upd_ne (fun z => hp rfl (by rw [e, z]))]; exact h3, h4⟩
  | ot ks ds => obtain ⟨q, vs, e, h1, h2, h3, h4⟩ := h; exact ⟨q, vs, e, h1, h2, by rw [upd_ne (fun z => hp rfl (by rw [e, z]))]; exact h3, h4⟩
theorem Rl.updD {p : Addr} {o : HO} (R : Rl W F m H M σ r) (hP : Pln H p) (h1 : F p = none) (h2 : p ∉ m) (h3 : ∀ i, ¬ OwnAt σ r i p) : Rl W F m (upd H p o) M σ r :=
  ⟨R.mr.updD hP h1 h2, R.sl, fun i x h => by
    obtain ⟨v, e, q⟩ := R.sr i x h
    exact ⟨v, e, q.updD fun ho ev => h3 i ⟨x, h, ho, by rw [e, ev]⟩⟩, R.di⟩
theorem Xt.updD {p : Addr} {o : HO} (a : Xt F m H F1 m1 H1) (h : H p = none) : Xt F m H F1 m1 (upd H1 p o) :=
  ⟨a.fx, fun b u q hm ht => by rw [upd_ne (ne_of_none q h)]; exact a.hx b u q hm ht, a.nx, a.mx, fun b q => by
    by_cases e : b = p
    · subst e; rw [upd_same]; exact fun z => by cases z
    · rw [upd_ne e]; exact a.dx b q⟩
theorem Mr.none_of {p : Addr} (R : Mr W F m H M) (h : H p = none) : F p = none ∧ p ∉ m := by
  refine ⟨?_, fun z => ?_⟩
  · cases e : F p with
    | none => rfl
    | some u => rw [R.sub _ _ e] at h; cases h
  · obtain ⟨k, hk⟩ := List.getElem?_of_mem z
    have hk' : k < m.length := (List.getElem?_eq_some_iff.mp hk).1
    rw [R.len] at hk'
    obtain ⟨_, r3⟩ := R.mo k _ p (List.getElem?_eq_getElem hk') hk
    cases hM : M[k] with
    | ml xs => rw [hM] at r3; obtain ⟨_, q1, _⟩ := r3; rw [h] at q1; cases q1
    | mi c ns ds => rw [hM] at r3; obtain ⟨_, _, _, q1, _⟩ := r3; rw [h] at q1; cases q1
end
section
variable {W : Wd} {P : Pg} {T : Tb} {n : Nat} {N : List Str} {C : Cx} {sc : Scope} {Ex : WX}
variable {a b l : E} {x y z tg : Expr} {as : List Expr} {pos p : Pos}
/-- what a comprehension's loop keeps: up to the i-th item, the new list at D0 -/
def LcI (W : Wd) (f : Mem → D → R (Option D)) (r : En) (σ : L2.St) (xs : List D) (F0 : Hp) (m0 : List Addr) (H0 : Hp) (D0 : Addr) (K : Mem → List D → Hp → List Addr → Hp → Prop) (ex : Value → Option Addr → Hp → Prop) (i : Nat) (H : Hp) : Prop :=
  ∃ F m M acc accD, Rl W F m H M σ r ∧ Xt F0 m0 H0 F m H ∧ H D0 = some (.lst acc) ∧ F D0 = none ∧ D0 ∉ m ∧ Rps W F m acc accD ∧ accD.length ≤ i ∧ i ≤ xs.length ∧
    EQ W F0 m0 H0 ex (fun M zs F' m' H' => K M (accD ++ zs) F' m' H') (lcGo f M (xs.drop i))
theorem nms_own {own : List Nat} {sc : Scope} : ∀ {is : List Nat} {es : List Expr}, chkNms N sc (some own) is es = true → ∀ j ∈ is, j ∈ own
  | [], [], _, _, h => by cases h
  | i :: is, e :: es, h, j, hj => by
    cases e <;> simp [chkNms] at h
    rcases List.mem_cons.mp hj with rfl | hj
    · exact h.1.2
    · exact nms_own h.2 j hj
  | [], _ :: _, h, _, _ => by simp [chkNms] at h
  | _ :: _, [], h, _, _ => by simp [chkNms] at h
theorem pt_own {own : List Nat} {sc : Scope} {pt : Pt} {tg : Expr} (h : chkPt N sc (some own) pt tg = true) : ∀ j ∈ ptSlots pt, j ∈ own := by
  cases pt with
  | nm i => cases tg <;> simp [chkPt] at h; intro j hj; simp [ptSlots] at hj; subst hj; exact h.2
  | tp is => cases tg <;> simp [chkPt] at h; exact nms_own h
theorem ownP_snd (N : List Str) : ∀ own : List Nat, (ownP N own).map (·.2) = own
  | [] => rfl
  | i :: is => congrArg (i :: ·) (ownP_snd N is)
theorem lcO_rd {X : Fx} {own : List Nat} {elt it cd : E} {pt : Pt} {scope : Scope} (hpt : chkPt N scope (some own) pt tg = true) {σ : L2.St} {H : Hp} {Q : VK} (h : tO W X Ex (.lc own elt pt it cd) σ H Q) :
    tLc (tI W X Ex it) (tP W pt) (tTs W X cd) (tE W X (fun _ _ _ _ => False) elt) own σ H Q := by
  obtain ⟨F, m, M, r, R, q⟩ := h
  rw [ev_lc] at q
  refine tI_bind R q fun M1 d F1 m1 H1 R1 a1 h1 => ?_
  cases hx : itms d with
  | none => rw [hx] at h1; exact h1.elim
  | some xs =>
    rw [hx] at h1
    refine ⟨xs, rfl, fun hl J wk D0 hD => ?_⟩
    have h2 := (EQ.bind h1).mono (K' := fun M zs F' m' H' => ∀ p, F' p = none → p ∉ m' → H p = none → FrR W F' m' H' p (.lst zs) → Q (.ref p) H') fun M zs F' m' H' a r k => EQ.now k r
    have own0 : ∀ i, ¬ OwnAt σ r i D0 := fun i z => by
      obtain ⟨_, _, u, hu, _⟩ := R1.ownF ⟨i, z⟩
      rw [hD] at hu; cases hu
    obtain ⟨nF, nm⟩ := R1.mr.none_of hD
    refine ⟨fun i k Hz => k = xs.length - i ∧ LcI W (lcF X own elt pt cd r) r σ xs F1 m1 H1 D0 (fun M zs F' m' H' => ∀ p, F' p = none → p ∉ m' → H p = none → FrR W F' m' H' p (.lst zs) → Q (.ref p) H') (fun cls dd H' => Ex cls dd σ H') i Hz, ⟨_, rfl, ?_⟩, ?_⟩
    · obtain ⟨R2, x2⟩ := R1.mr.own (o := .lst []) hD
      exact ⟨F1, m1, M1, [], [], R1.step x2 R2, x2, upd_same, nF, nm, .nil, Nat.le_refl _, Nat.zero_le _, h2⟩
    · rintro i k H3 ⟨rfl, F3, m3, M3, acc, accD, R3, a3, hD3, nF3, nm3, rs3, la3, li3, e3⟩
      have sub3 : ∀ a o, F1 a = some o → H3 a = some o := fun a o h => R3.mr.sub a o (a3.fx a o h)
      by_cases hlt : i < xs.length
      · refine .inr ⟨wk.go i H3 sub3 hlt, fun Hz => LcI W (lcF X own elt pt cd r) r σ xs F1 m1 H1 D0 (fun M zs F' m' H' => ∀ p, F' p = none → p ∉ m' → H p = none → FrR W F' m' H' p (.lst zs) → Q (.ref p) H') (fun cls dd H' => Ex cls dd σ H') (i + 1) Hz, fun H' z => ⟨xs.length - (i + 1), by omega, rfl, z⟩, fun v H4 yl => ?_⟩
        have ed : xs[i]? = some xs[i] := List.getElem?_eq_getElem hlt
        obtain ⟨F4, a4, r4, rv⟩ := wk.yld i _ v F3 m3 H3 H4 M3 a3.fx a3.ix R3.mr ed yl
        have R4 := R3.step a4 r4
        have dr : xs.drop i = xs[i] :: xs.drop (i + 1) := List.drop_eq_getElem_cons hlt
        rw [dr] at e3
        replace e3 : EQ W F1 m1 H1 (fun cls dd H' => Ex cls dd σ H') (fun M zs F' m' H' => ∀ p, F' p = none → p ∉ m' → H p = none → FrR W F' m' H' p (.lst (accD ++ zs)) → Q (.ref p) H') ((lcF X own elt pt cd r M3 xs[i]).bind fun M1 o => (lcGo (lcF X own elt pt cd r) M1 (xs.drop (i + 1))).bind fun M2 r => .ok M2 (match o with
          | some d => d :: r
          | none => r)) := e3
        cases hL : lcF X own elt pt cd r M3 xs[i] with
        | st => rw [hL] at e3; exact e3.elim
        | er M k fs => exact (lcF_er hL).elim
        | ok M5 o =>
          rw [hL] at e3
          obtain ⟨r2, M6, b, e1, e2, e4⟩ := lcF_ok hL
          refine ⟨F4, m3, M3, wipE r own, _, R4.wipe own, rv, r2, e1, fun σ' Rσ hj hlen => ?_⟩
          have hw : wipe σ' own = wipe σ own := (wipe_of hlen fun j hj' => hj j fun z => hj' (pt_own hpt j z)).trans (wipe_wipe σ own)
          refine ⟨hw, F4, m3, M3, r2, Rσ, ?_⟩
          rw [e2]
          intro F5 m5 H5 a5 r5
          have R5 : Rl W F5 m5 H5 M6 σ' r2 := Rσ.step a5 r5
          have keep : ∀ {F6 : Hp} {m6 : List Addr} {H6 : Hp}, Xt F4 m3 H4 F6 m6 H6 → H6 D0 = some (.lst acc) ∧ F6 D0 = none ∧ D0 ∉ m6 := fun {F6 m6 H6} a6 => by
            have a46 := a4.trans a6
            have h6 := a46.hx D0 _ hD3 nm3 (fun _ z => by cases z)
            refine ⟨h6, ?_, ?_⟩
            · cases e : F6 D0 with
              | none => rfl
              | some u =>
                rcases a46.nx D0 u e with q | q
                · rw [nF3] at q; cases q
                · exact (q.no hD3 trivial).elim
            · obtain ⟨l6, e6, n6⟩ := a46.mx
              rw [e6]
              intro z
              rcases List.mem_append.mp z with z | z
              · exact nm3 z
              · rw [n6 _ z] at hD3; cases hD3
          rcases e4 with ⟨rfl, zd, e5, rfl⟩ | ⟨rfl, rfl, rfl⟩
          · refine iteT ⟨F5, m5, M6, r2, R5, ?_⟩
            rw [e5]
            intro F6 m6 H6 a6 r6 w rw6
            obtain ⟨k1, k2, k3⟩ := keep (a5.trans a6)
            have lacc : acc.length < lim := by rw [rs3.len]; omega
            refine ⟨acc, k1, by rw [← lim_line]; exact lacc, F6, m6, M5, acc ++ [w], accD ++ [zd], (R3.step ((a4.trans a5).trans a6) r6).updD (pln_lst k1) k2 k3 own0, (((a3.trans a4).trans a5).trans a6).updD hD, upd_same, k2, k3, ((((rs3.xt a4).xt a5).xt a6)).app (.cons rw6 .nil), by rw [List.length_append]; simp; exact la3, hlt, ?_⟩
            have e6 : EQ W F1 m1 H1 (fun cls dd H' => Ex cls dd σ H') (fun M zs F' m' H' => ∀ p, F' p = none → p ∉ m' → H p = none → FrR W F' m' H' p (.lst (accD ++ zs)) → Q (.ref p) H') ((lcGo (lcF X own elt pt cd r) M5 (xs.drop (i + 1))).bind fun M2 r => .ok M2 (zd :: r)) := e3
            exact (EQ.bind e6).mono fun M zs F' m' H' a r k => by
              have := EQ.now k r
              rw [List.append_assoc]; exact this
          · obtain ⟨k1, k2, k3⟩ := keep a5
            refine iteF ⟨F5, m5, M5, acc, accD, R3.step (a4.trans a5) r5, (a3.trans a4).trans a5, k1, k2, k3, (rs3.xt a4).xt a5, Nat.le_succ_of_le la3, hlt, ?_⟩
            have e6 : EQ W F1 m1 H1 (fun cls dd H' => Ex cls dd σ H') (fun M zs F' m' H' => ∀ p, F' p = none → p ∉ m' → H p = none → FrR W F' m' H' p (.lst (accD ++ zs)) → Q (.ref p) H') ((lcGo (lcF X own elt pt cd r) M5 (xs.drop (i + 1))).bind fun M2 r => .ok M2 r) := e3
            exact (EQ.bind e6).mono fun M zs F' m' H' a r k => EQ.now k r
      · have ei : i = xs.length := by omega
        subst ei
        refine .inl ⟨wk.stop H3 sub3, ?_⟩
        rw [List.drop_length] at e3
        have k0 := e3 F3 m3 H3 a3 R3.mr
        dsimp only at k0
        rw [List.append_nil] at k0
        have hH : H D0 = none := by
          cases e : H D0 with
          | none => rfl
          | some u => exact absurd hD (a1.dx D0 (by rw [e]; exact fun z => by cases z))
        exact k0 D0 nF3 nm3 hH ⟨acc, hD3, rs3, by rw [rs3.len]; omega⟩
theorem ok_lcO {X : Fx} {own : List Nat} {elt it cd : E} {pt : Pt} {iter : Expr} {ifs : List Expr} {scope : Scope} (c : Ct W P T n N C sc Ex) (hs : notSet iter = true) (hb : blkC N sc scope (ownP N own) = true) (hpt : chkPt N scope (some own) pt tg = true)
    (hi : PI C tg iter (tI W X Ex it)) (he : ∀ (s : Shared) (H : Hp) (c0 : Addr) (cl : List (Str × Addr)) (fp : List Addr), PE (C.blk s H scope (compEnvC scope cl c0 C.env) fp) x (tE W X (fun _ _ _ _ => False) elt))
    (ht : ∀ (s : Shared) (H : Hp) (c0 : Addr) (cl : List (Str × Addr)) (fp : List Addr), PTs (C.blk s H scope (compEnvC scope cl c0 C.env) fp) ifs (tTs W X cd)) :
    PE C (.ListComp x [⟨tg, iter, ifs, 0⟩] scope pos) (tO W X Ex (.lc own elt pt it cd)) := by
  have hk : scope.kind = .function := (blkOk_by hb).kind
  have pe := pe_lc (X := C) (pos := pos) c.calm (by rw [c.hN]; exact c.nd) hi (by rw [c.hN]; exact blkC_ok c.so hb) (fun s H c0 cl fp => pg_pt (W := W) (c.blk hk s H c0 cl fp) hpt) ht he (fun v => plain_fold hs C.env v)
  rw [ownP_snd] at pe
  exact pe.wk fun σ H Q h => lcO_rd hpt h
theorem ok_setLc {X : Fx} {own : List Nat} {elt it cd : E} {pt : Pt} {iter : Expr} {ifs : List Expr} {scope : Scope} {i : Nat} {py spos : Pos} {y : Str} (c : Ct W P T n N C sc Ex) (hy : N[i]? = some y) (hyl : C.env.scope.names.lookup y = some .local) (hln : (py.line == pos.line) = true)
    (ha : (scope.names.any fun (n, k) => n == y && (k == .local || k == .cell)) = false) (hs : notSet iter = true) (hb : blkC N sc scope (ownP N own) = true) (hpt : chkPt N scope (some own) pt tg = true)
    (hi : PI C tg iter (tI W X Ex it)) (he : ∀ (s : Shared) (H : Hp) (c0 : Addr) (cl : List (Str × Addr)) (fp : List Addr), PE (C.blk s H scope (compEnvC scope cl c0 C.env) fp) x (tE W X (fun _ _ _ _ => False) elt))
    (ht : ∀ (s : Shared) (H : Hp) (c0 : Addr) (cl : List (Str × Addr)) (fp : List Addr), PTs (C.blk s H scope (compEnvC scope cl c0 C.env) fp) ifs (tTs W X cd)) :
    PS C (.Assign [.Name y py] (.ListComp x [⟨tg, iter, ifs, 0⟩] scope pos) spos) (tAsg (tO W X Ex (.lc own elt pt it cd)) (gName i)) := by
  have hk : scope.kind = .function := (blkOk_by hb).kind
  have pe := ps_setLc (X := C) (pos := pos) (spos := spos) c.calm (by rw [c.hN]; exact c.nd) (by rw [c.hN]; exact hy) hyl (sw_true c.so.ek hyl hln ha) hi (by rw [c.hN]; exact blkC_ok c.so hb) (fun s H c0 cl fp => pg_pt (W := W) (c.blk hk s H c0 cl fp) hpt) ht he (fun v => plain_fold hs C.env v)
  rw [ownP_snd] at pe
  exact ⟨fun pins s σ H D I h => pe.run pins s σ H D I (lcO_rd hpt h)⟩
end
section
variable {W : Wd} {F F1 : Hp} {m m1 : List Addr} {H H1 : Hp} {M M1 : Mem} {σ σ' : L2.St} {r r' : En} {X : Fx} {Ex : WX}
theorem own_lst {Q : VK} {vs : List V} {ds : List D} {ex : Value → Option Addr → Hp → Prop} (R1 : Rl W F1 m1 H1 M1 σ r) (a1 : Xt F m H F1 m1 H1) (rv : Rps W F1 m1 vs ds) (hl : vs.length ≤ lim)
    (h1 : EQ W F1 m1 H1 ex (fun _ d F' m' H' => ∀ p, F' p = none → p ∉ m' → H p = none → FrR W F' m' H' p d → Q (.ref p) H') (.ok M1 (.lst ds))) : ∀ p, H1 p = none → Q (.ref p) (upd H1 p (.lst vs)) := by
  intro p hp
  obtain ⟨R2, x2⟩ := R1.mr.own (o := .lst vs) hp
  obtain ⟨hF, hm⟩ := R1.mr.none_of hp
  have h0 : H p = none := by
    cases e : H p with
    | none => rfl
    | some u => exact absurd hp (a1.dx p (by rw [e]; exact fun z => by cases z))
  exact h1 F1 m1 _ x2 R2 p hF hm h0 ⟨vs, upd_same, rv, hl⟩
end
end Oc
namespace Oc
open L2 PySem PySem.Spec PyProof.Rows
section
variable {W : Wd} {P : Pg} {T : Tb} {n : Nat} {N : List Str} {C : Cx} {sc : Scope} {Ex : WX}
variable {a b l : E} {x y z tg : Expr} {as : List Expr} {pos p : Pos}
theorem wk_rev {F : Hp} {m : List Addr} {K : PySem.W.Frag} {p : Addr} {vs : List V} {ds : List D} (sq : ∀ {H : Hp}, (∀ a o, F a = some o → H a = some o) → SqL K H p vs) (r : Rps W F m vs ds) : Wk W F m (Itv K p vs.length) ds.reverse := by
  have hl := r.len
  refine ⟨fun i H hs hi => ?_, fun H hs => ?_, fun i d v F1 m1 H H' M hF hm R e y => ?_⟩
  · rw [List.length_reverse] at hi
    have hi2 : vs.length - 1 - i < vs.length := by omega
    exact ⟨by omega, vs, vs[vs.length - 1 - i], sq hs, List.getElem?_eq_getElem hi2⟩
  · show vs.length ≤ _
    rw [List.length_reverse]; omega
  · obtain ⟨rfl, y⟩ := y
    have hi : i < ds.length := by have := (List.getElem?_eq_some_iff.mp e).1; rwa [List.length_reverse] at this
    rw [List.getElem?_reverse hi] at e
    obtain ⟨w, e1, rw1⟩ := r.get e
    have := y vs (sq fun a o q => R.sub a o (hF a o q))
    rw [hl, e1] at this
    cases this
    exact ⟨F1, Xt.refl _ _ _, R, rw1.mono hF hm⟩
theorem ok_rvL {X : Fx} (c : Ct W P T n N C sc Ex) (hb : ("reversed" : Str) ∈ T.blt) (hg : glB sc ("reversed" : Str) = true) (hs : notStar x = true) (he : PE C x (tE W X Ex a)) :
    PI C tg (.Call (.Name "reversed" p) [x] [] pos) (tI W X Ex (.rvL a)) :=
  (RT.pi_revA (c.so.gl _ hg) (c.g.blt _ hb) he (star1 hs)).wk fun σ H Q ⟨F, m, M, r, R, q⟩ => tE_bind R q fun M1 d F1 m1 H1 v R1 a1 rv h1 => by
    cases d <;> first | exact h1.elim | skip
    rename_i xs
    obtain ⟨zs, e, kk⟩ := EQ.now h1 R1.mr
    cases e
    cases rv with
    | lst h rr hl => exact ⟨_, _, rfl, .inl ⟨SqL.of (R1.mr.sub _ _ h), kk (by rw [List.length_reverse, ← rr.len]; exact hl) _ (wk_rev (fun hs => SqL.of (hs _ _ h)) rr)⟩⟩
theorem wk_rngC {F : Hp} {m : List Addr} (lo : Int) (k : Nat) : Wk W F m (Itc lo (-1) k) ((List.range k).map fun (i : Nat) => .int (lo - i)) := by
  refine ⟨fun i H hs hi => by show i < k; simpa using hi, fun H hs => by show k ≤ _; simp, fun i d v F1 m1 H H' M hF hm R e y => ?_⟩
  obtain ⟨rfl, rfl⟩ := y
  rw [List.getElem?_map] at e
  cases h : (List.range k)[i]? with
  | none => rw [h] at e; cases e
  | some j =>
    rw [h] at e; cases e
    have : j = i := by
      have := List.getElem?_range (i := i) (n := k) (by
        have := (List.getElem?_eq_some_iff.mp h).1
        simpa using this)
      rw [h] at this; exact Option.some.inj this
    subst this
    refine ⟨F1, Xt.refl _ _ _, R, ?_⟩
    show Rp W F1 m1 (V.int (lo + (j : Int) * -1)) (D.int (lo - (j : Int)))
    rw [show lo - (j : Int) = lo + (j : Int) * -1 by omega]
    exact .int _
theorem ok_bln {X : Fx} {apos : Pos} (ho : okBase x = true) (hln : (apos.endLine == pos.line) = true) (he : PE C x (tE W X Ex a)) : PE C (.Call (.Attribute x "bit_length" apos) [] [] pos) (tE W X Ex (.bln a)) :=
  (pe_bits he (base_ok ho) hln).wk fun σ H Q ⟨F, m, M, r, R, q⟩ => tE_bind R q fun M1 d F1 m1 H1 v R1 a1 rv h1 => by
    cases d <;> first | exact h1.elim | skip
    cases rv
    exact ⟨_, rfl, EQ.now h1 R1.mr _ (.int _)⟩
theorem ok_fs {X : Fx} {s u : Cs} {j1 j2 : Nat} {p1 p2 p3 : Pos} (lim0 : s.length ≤ lim) (h1 : s.all (· < 0x110000) = true) (h2 : u.all (· < 0x110000) = true) (he : PE C x (tE W X Ex a)) :
    PE C (.JoinedStr [.Constant (.str (csS s)) j1 p1, .FormattedValue x (-1) none p2, .Constant (.str (csS u)) j2 p3] pos) (tE W X Ex (.fs s a u)) :=
  (pe_joined (.cons pe_str (.cons (pe_fmt he) (.cons pe_str .nil)))).wk fun σ H Q ⟨F, m, M, r, R, q⟩ => by
    have es : Str.empty ++ csS s = csS s := by show Str.append _ _ = _; simp [Str.append, csS, Str.empty]
    refine ⟨csS s, rfl, by rw [es, csS_len, ← lim_line]; exact lim0, ?_⟩
    rw [es]
    refine tE_bind R q fun M1 d F1 m1 H1 v R1 a1 rv h1' => ?_
    cases d <;> first | exact h1'.elim | skip
    rename_i i
    dsimp only at h1'
    split at h1'
    · rename_i hc
      cases rv
      obtain ⟨c1, c2, c3⟩ := hc
      have c2' : s.length + (strI i).length + u.length ≤ lim := c2
      refine .inr ⟨i, rfl, c1, toString i, rfl, ?_, csS u, rfl, ?_, ?_⟩
      · rw [← strI_ok, csS_app, csS_len, ← lim_line, List.length_append]; omega
      · rw [← strI_ok, csS_app, csS_app, csS_len, ← lim_line, List.length_append, List.length_append]; exact c2'
      · rw [← strI_ok, csS_app, csS_app]
        refine EQ.now h1' R1.mr _ (.str ?_ ?_)
        · rw [List.length_append, List.length_append]; exact c2'
        · rw [List.all_append, List.all_append, h1, c3, h2]; rfl
    · exact h1'.elim
theorem ok_catO {X : Fx} (ha : PE C x (tE W X Ex a)) (hb : PE C y (tE W X Ex b)) : PE C (.BinOp x .Add y pos) (tO W X Ex (.cat a b)) :=
  (pe_op op_cat ha hb).wk fun σ H Q ⟨F, m, M, r, R, q⟩ => tE_bind R q fun M1 d F1 m1 H1 v R1 a1 rv h1 => tE_bind R1 h1 fun M2 e F2 m2 H2 w R2 a2 rw2 h2 => by
    obtain ⟨z, e, k⟩ := EQ.opt h2
    unfold catD at e
    split at e <;> (try (cases e; done))
    split at e <;> cases e
    rename_i hc
    cases rw2 with
    | lst h' rr' hl' =>
      cases rv.xt a2 with
      | lst h rr hl =>
        have e1 := rr.len
        have e2 := rr'.len
        refine ⟨_, _, _, _, rfl, rfl, R2.mr.sub _ _ h, R2.mr.sub _ _ h', by rw [e1, e2, ← lim_line]; exact hc, fun p hp => ?_⟩
        exact own_lst (ex := fun _ _ _ => True) R2 (a1.trans a2) (rr.app rr') (by rw [List.length_append, e1, e2]; exact hc) (fun F' m' H' b r => k F' m' H' b r) p hp
end
section
variable {W : Wd} {F F1 : Hp} {m m1 : List Addr} {H H1 : Hp} {M M1 : Mem} {σ σ' : L2.St} {r r' : En} {X : Fx} {Ex : WX}
theorem setPt_own {pt : Pt} {d : D} (e : setPt pt d r = some r') (hj : ∀ j, j ∉ ptSlots pt → σ'[j]? = σ[j]?) {j : Nat} {p : Addr} (h : OwnAt σ' r' j p) : OwnAt σ r j p := by
  have key : ∀ (is : List Nat) (xs : List D) (r r' : En), setL is xs r = some r' → ∀ (j : Nat) (x : Sl), r'[j]? = some (some x) → isOwn x = true → j ∉ is ∧ r[j]? = some (some x) := by
    intro is
    induction is with
    | nil => intro xs r r' e j x h1 h2; cases xs with
      | nil => cases e; exact ⟨fun z => (by cases z), h1⟩
      | cons y ys => cases e
    | cons i is ih => intro xs r r' e j x h1 h2; cases xs with
      | nil => cases e
      | cons y ys =>
        obtain ⟨k1, k2⟩ := ih ys _ _ e j x h1 h2
        unfold setE at k2
        by_cases z : j = i
        · subst z
          by_cases hl : j < r.length
          · rw [List.getElem?_set_self hl] at k2; cases k2; cases h2
          · rw [List.getElem?_eq_none (by rw [List.length_set]; omega)] at k2; cases k2
        · rw [List.getElem?_set_ne (fun w => z w.symm)] at k2
          exact ⟨fun w => by rcases List.mem_cons.mp w with w | w; exact z w; exact k1 w, k2⟩
  obtain ⟨x, h1, h2, h3⟩ := h
  have e' : setL (ptSlots pt) (match pt, d with | .nm _, d => [d] | .tp _, .tup xs => xs | .tp _, .lst xs => xs | .tp _, d => []) r = some r' ∨ False := by
    cases pt with
    | nm i => exact .inl e
    | tp is => cases d <;> first | exact .inl e | cases e
  rcases e' with e' | e'
  · obtain ⟨k1, k2⟩ := key _ _ _ _ e' j x h1 h2
    exact ⟨x, k2, h2, by rw [← hj j k1]; exact h3⟩
  · exact e'.elim
theorem own_wipe {j : Nat} {p : Addr} : ∀ {vs : List Nat}, OwnAt (L2.wipe σ vs) (wipE r vs) j p → OwnAt σ r j p
  | [], h => h
  | v :: vs, ⟨x, h1, h2, h3⟩ => by
    have h1' : ((wipE r vs).set v none)[j]? = some (some x) := h1
    have h3' : ((L2.wipe σ vs).set v none)[j]? = some (some (.ref p)) := h3
    by_cases e : j = v
    · subst e
      by_cases hl : j < (wipE r vs).length
      · rw [List.getElem?_set_self hl] at h1'; cases h1'
      · rw [List.getElem?_eq_none (by rw [List.length_set]; omega)] at h1'; cases h1'
    · rw [List.getElem?_set_ne (fun w => e w.symm)] at h1' h3'
      exact own_wipe ⟨x, h1', h2, h3'⟩
def lcF2 (X : Fx) (own own2 : List Nat) (elt : E) (pt : Pt) (it2 : E) (pt2 : Pt) (cd : E) (r : En) : Mem → Nat → D → R (List D) := fun M2 k y => match setPt pt y (wipE r own) with
  | none => .st
  | some r1 => (ev X it2 M2 r1).noEr.bind fun M3 z => match itms z with
    | none => .st
    | some zs => if k + zs.length ≤ lim then lcGo (lcF X own2 elt pt2 cd r1) M3 zs else .st
theorem ev_lc2 (X : Fx) (own own2 : List Nat) (elt : E) (pt : Pt) (it : E) (pt2 : Pt) (it2 cd : E) (M : Mem) (r : En) : ev X (.lc2 own own2 elt pt it pt2 it2 cd) M r = (ev X it M r).bind fun M1 x => match itms x with
  | none => .st
  | some xs => (lcG2 (lcF2 X own own2 elt pt it2 pt2 cd r) M1 0 xs).bind fun M2 zs => .ok M2 (.lst zs) := rfl
theorem lcGo_er {f : Mem → D → R (Option D)} (hf : ∀ M y M' k fs, f M y ≠ .er M' k fs) : ∀ {xs : List D} {M M' : Mem} {k : Nat} {fs : List D}, lcGo f M xs ≠ .er M' k fs
  | [], M, M', k, fs => fun h => by cases h
  | x :: xs, M, M', k, fs => fun h => by
    replace h : (f M x).bind (fun M1 o => (lcGo f M1 xs).bind fun M2 r => .ok M2 (match o with
      | some d => d :: r
      | none => r)) = .er M' k fs := h
    cases e : f M x with
    | st => rw [e] at h; cases h
    | er M1 k1 fs1 => exact hf _ _ _ _ _ e
    | ok M1 o =>
      rw [e] at h
      replace h : (lcGo f M1 xs).bind (fun M2 r => .ok M2 (match o with
        | some d => d :: r
        | none => r)) = .er M' k fs := h
      cases e2 : lcGo f M1 xs with
      | st => rw [e2] at h; cases h
      | er M2 k2 fs2 => exact lcGo_er hf e2
      | ok M2 zs => rw [e2] at h; cases h
theorem lcF2_er {own own2 : List Nat} {elt it2 cd : E} {pt pt2 : Pt} {k : Nat} {y : D} {j : Nat} {fs : List D} : lcF2 X own own2 elt pt it2 pt2 cd r M k y ≠ .er M1 j fs := fun h => by
  unfold lcF2 at h
  split at h
  · cases h
  · rename_i r1 _
    cases e : ev X it2 M r1 with
    | st => rw [e] at h; cases h
    | er _ _ _ => rw [e] at h; cases h
    | ok M3 z =>
      rw [e] at h
      replace h : (match itms z with
        | none => R.st
        | some zs => if k + zs.length ≤ lim then lcGo (lcF X own2 elt pt2 cd r1) M3 zs else .st) = .er M1 j fs := h
      split at h
      · cases h
      · split at h
        · exact lcGo_er (fun M y M' k fs h => lcF_er h) h
        · cases h
theorem lcF2_ok {own own2 : List Nat} {elt it2 cd : E} {pt pt2 : Pt} {k : Nat} {y : D} {o : List D} (h : lcF2 X own own2 elt pt it2 pt2 cd r M k y = .ok M1 o) :
    ∃ r1 M3 z zs, setPt pt y (wipE r own) = some r1 ∧ ev X it2 M r1 = .ok M3 z ∧ itms z = some zs ∧ k + zs.length ≤ lim ∧ lcGo (lcF X own2 elt pt2 cd r1) M3 zs = .ok M1 o := by
  unfold lcF2 at h
  split at h
  · cases h
  · rename_i r1 e1
    obtain ⟨M3, z, e2, h⟩ := bind_okE h
    split at h
    · cases h
    · rename_i zs e3
      split at h
      · rename_i hl
        exact ⟨r1, M3, z, zs, e1, noEr_ok e2, e3, hl, h⟩
      · cases h
/-- what the outer loop keeps -/
def Lc2I (W : Wd) (f : Mem → Nat → D → R (List D)) (r : En) (σ : L2.St) (xs : List D) (F0 : Hp) (m0 : List Addr) (H0 : Hp) (D0 : Addr) (K : Mem → List D → Hp → List Addr → Hp → Prop) (ex : Value → Option Addr → Hp → Prop) (i : Nat) (H : Hp) : Prop :=
  ∃ F m M acc accD, Rl W F m H M σ r ∧ Xt F0 m0 H0 F m H ∧ H D0 = some (.lst acc) ∧ F D0 = none ∧ D0 ∉ m ∧ Rps W F m acc accD ∧ accD.length ≤ lim ∧ i ≤ xs.length ∧
    EQ W F0 m0 H0 ex (fun M zs F' m' H' => K M (accD ++ zs) F' m' H') (lcG2 f M accD.length (xs.drop i))
/-- what the inner loop keeps: o is what it makes in all -/
def LcJ (W : Wd) (f : Mem → D → R (Option D)) (r r1 : En) (σ σ2 : L2.St) (zs : List D) (F0 : Hp) (m0 : List Addr) (H0 : Hp) (Fc : Hp) (mc : List Addr) (D0 : Addr) (accD o : List D) (M5 : Mem) (j : Nat) (H : Hp) : Prop :=
  ∃ F m M acc accI os, Rl W F m H M σ r ∧ Rl W F m H M σ2 r1 ∧ Xt F0 m0 H0 F m H ∧ (∀ a o, Fc a = some o → F a = some o) ∧ (∀ (k : Nat) (p : Addr), mc[k]? = some p → m[k]? = some p) ∧ H D0 = some (.lst acc) ∧ F D0 = none ∧ D0 ∉ m ∧ Rps W F m acc (accD ++ accI) ∧ accI.length ≤ j ∧ j ≤ zs.length ∧ o = accI ++ os ∧ lcGo f M (zs.drop j) = .ok M5 os
theorem keep_own {D0 : Addr} {acc : List V} (h1 : H D0 = some (.lst acc)) (h2 : F D0 = none) (h3 : D0 ∉ m) (a : Xt F m H F1 m1 H1) : H1 D0 = some (.lst acc) ∧ F1 D0 = none ∧ D0 ∉ m1 := by
  refine ⟨a.hx D0 _ h1 h3 (fun _ z => by cases z), ?_, ?_⟩
  · cases e : F1 D0 with
    | none => rfl
    | some u =>
      rcases a.nx D0 u e with q | q
      · rw [h2] at q; cases q
      · exact (q.no h1 trivial).elim
  · obtain ⟨l6, e6, n6⟩ := a.mx
    rw [e6]
    intro z
    rcases List.mem_append.mp z with z | z
    · exact h3 z
    · rw [n6 _ z] at h1; cases h1
theorem lc2O_rd {N : List Str} {tg tg2 : Expr} {own own2 : List Nat} {elt it it2 cd : E} {pt pt2 : Pt} {scope : Scope} (hpt : chkPt N scope (some own) pt tg = true) (hpt2 : chkPt N scope (some own2) pt2 tg2 = true) {H : Hp} {Q : VK} (h : tO W X Ex (.lc2 own own2 elt pt it pt2 it2 cd) σ H Q) :
    tLc2 (tI W X Ex it) (tP W pt) (tTs W X .nil) (tI W X (fun _ _ _ _ => False) it2) (tP W pt2) (tTs W X cd) (tE W X (fun _ _ _ _ => False) elt) own own2 σ H Q := by
  obtain ⟨F, m, M, r, R, q⟩ := h
  rw [ev_lc2] at q
  refine tI_bind R q fun M1 d F1 m1 H1 R1 a1 h1 => ?_
  cases hx : itms d with
  | none => rw [hx] at h1; exact h1.elim
  | some xs =>
    rw [hx] at h1
    refine ⟨xs, rfl, fun hl J wk D0 hD => ?_⟩
    have h2 := (EQ.bind h1).mono (K' := fun M zs F' m' H' => ∀ p, F' p = none → p ∉ m' → H p = none → FrR W F' m' H' p (.lst zs) → Q (.ref p) H') fun M zs F' m' H' a r k => EQ.now k r
    have own0 : ∀ i, ¬ OwnAt σ r i D0 := fun i z => by
      obtain ⟨_, _, u, hu, _⟩ := R1.ownF ⟨i, z⟩
      rw [hD] at hu; cases hu
    obtain ⟨nF, nm⟩ := R1.mr.none_of hD
    refine ⟨fun i k Hz => k = xs.length - i ∧ Lc2I W (lcF2 X own own2 elt pt it2 pt2 cd r) r σ xs F1 m1 H1 D0 (fun M zs F' m' H' => ∀ p, F' p = none → p ∉ m' → H p = none → FrR W F' m' H' p (.lst zs) → Q (.ref p) H') (fun cls dd H' => Ex cls dd σ H') i Hz, ⟨_, rfl, ?_⟩, ?_⟩
    · obtain ⟨R2, x2⟩ := R1.mr.own (o := .lst []) hD
      exact ⟨F1, m1, M1, [], [], R1.step x2 R2, x2, upd_same, nF, nm, .nil, Nat.zero_le _, Nat.zero_le _, h2⟩
    · rintro i k H3 ⟨rfl, F3, m3, M3, acc, accD, R3, a3, hD3, nF3, nm3, rs3, la3, li3, e3⟩
      have sub3 : ∀ a o, F1 a = some o → H3 a = some o := fun a o h => R3.mr.sub a o (a3.fx a o h)
      by_cases hlt : i < xs.length
      · refine .inr ⟨wk.go i H3 sub3 hlt, fun Hz => Lc2I W (lcF2 X own own2 elt pt it2 pt2 cd r) r σ xs F1 m1 H1 D0 (fun M zs F' m' H' => ∀ p, F' p = none → p ∉ m' → H p = none → FrR W F' m' H' p (.lst zs) → Q (.ref p) H') (fun cls dd H' => Ex cls dd σ H') (i + 1) Hz, fun H' z => ⟨xs.length - (i + 1), by omega, rfl, z⟩, fun v H4 yl => ?_⟩
        have ed : xs[i]? = some xs[i] := List.getElem?_eq_getElem hlt
        obtain ⟨F4, a4, r4, rv⟩ := wk.yld i _ v F3 m3 H3 H4 M3 a3.fx a3.ix R3.mr ed yl
        have R4 := R3.step a4 r4
        have dr : xs.drop i = xs[i] :: xs.drop (i + 1) := List.drop_eq_getElem_cons hlt
        rw [dr] at e3
        replace e3 : EQ W F1 m1 H1 (fun cls dd H' => Ex cls dd σ H') (fun M zs F' m' H' => ∀ p, F' p = none → p ∉ m' → H p = none → FrR W F' m' H' p (.lst (accD ++ zs)) → Q (.ref p) H') ((lcF2 X own own2 elt pt it2 pt2 cd r M3 accD.length xs[i]).bind fun M1 o => (lcG2 (lcF2 X own own2 elt pt it2 pt2 cd r) M1 (accD.length + o.length) (xs.drop (i + 1))).bind fun M2 r => .ok M2 (o ++ r)) := e3
        cases hL : lcF2 X own own2 elt pt it2 pt2 cd r M3 accD.length xs[i] with
        | st => rw [hL] at e3; exact e3.elim
        | er M k fs => exact (lcF2_er hL).elim
        | ok M5 o =>
          rw [hL] at e3
          replace e3 : EQ W F1 m1 H1 (fun cls dd H' => Ex cls dd σ H') (fun M zs F' m' H' => ∀ p, F' p = none → p ∉ m' → H p = none → FrR W F' m' H' p (.lst (accD ++ zs)) → Q (.ref p) H') ((lcG2 (lcF2 X own own2 elt pt it2 pt2 cd r) M5 (accD.length + o.length) (xs.drop (i + 1))).bind fun M2 r => .ok M2 (o ++ r)) := e3
          obtain ⟨r1, M6, z, zs, e1, e2, ez, hk, eL⟩ := lcF2_ok hL
          refine ⟨F4, m3, M3, wipE r own, _, R4.wipe own, rv, r1, e1, fun σ2 Rσ hj hlen => ?_⟩
          have hw : wipe σ2 own = wipe σ own := (wipe_of hlen fun j hj' => hj j fun z => hj' (pt_own hpt j z)).trans (wipe_wipe σ own)
          have own2' : ∀ i, ¬ OwnAt σ2 r1 i D0 := fun i z => own0 i (own_wipe (setPt_own e1 hj z))
          refine ⟨hw, F4, m3, M3, r1, Rσ, ?_⟩
          intro F5 m5 H5 a5 r5
          refine iteT ⟨F5, m5, M3, r1, Rσ.step a5 r5, ?_⟩
          rw [e2]
          intro F6 m6 H6 a6 r6
          refine ⟨zs, ez, fun hl2 J1 wk1 => ?_⟩
          have a456 := (a4.trans a5).trans a6
          obtain ⟨k1, k2, k3⟩ := keep_own hD3 nF3 nm3 a456
          refine ⟨fun j kk Hz => kk = zs.length - j ∧ LcJ W (lcF X own2 elt pt2 cd r1) r r1 σ σ2 zs F1 m1 H1 F6 m6 D0 accD o M5 j Hz, ⟨_, rfl, F6, m6, M6, acc, [], o, R3.step a456 r6, (Rσ.step a5 r5).step a6 r6, a3.trans a456, fun _ _ h => h, fun _ _ h => h, k1, k2, k3, by rw [List.append_nil]; exact rs3.xt a456, Nat.le_refl _, Nat.zero_le _, rfl, eL⟩, ?_⟩
          rintro j kk H7 ⟨rfl, F7, m7, M7, acc7, accI, oss, R7, S7, a7, cF, cm, hD7, nF7, nm7, rs7, la7, lj7, eo, e7⟩
          by_cases hlt2 : j < zs.length
          · refine .inr ⟨wk1.go j H7 (fun a o h => R7.mr.sub a o (cF a o h)) hlt2, fun Hz => LcJ W (lcF X own2 elt pt2 cd r1) r r1 σ σ2 zs F1 m1 H1 F6 m6 D0 accD o M5 (j + 1) Hz, fun H' z => ⟨zs.length - (j + 1), by omega, rfl, z⟩, fun v2 H8 yl2 => ?_⟩
            have ed2 : zs[j]? = some zs[j] := List.getElem?_eq_getElem hlt2
            obtain ⟨F8, a8, r8, rv8⟩ := wk1.yld j _ v2 F7 m7 H7 H8 M7 cF cm R7.mr ed2 yl2
            have dr2 : zs.drop j = zs[j] :: zs.drop (j + 1) := List.drop_eq_getElem_cons hlt2
            rw [dr2] at e7
            replace e7 : (lcF X own2 elt pt2 cd r1 M7 zs[j]).bind (fun M1 o => (lcGo (lcF X own2 elt pt2 cd r1) M1 (zs.drop (j + 1))).bind fun M2 r => .ok M2 (match o with
              | some d => d :: r
              | none => r)) = .ok M5 oss := e7
            obtain ⟨M8, oz, eF, e7⟩ := bind_okE e7
            obtain ⟨M9, rest, eR, e7⟩ := bind_okE e7
            obtain ⟨r2, M10, b, f1, f2, f3⟩ := lcF_ok eF
            have S8 := S7.step a8 r8
            refine ⟨F8, m7, M7, wipE r1 own2, _, S8.wipe own2, rv8, r2, f1, fun σ3 Rσ3 hj3 hlen3 => ?_⟩
            have hw3 : wipe σ3 own2 = wipe σ2 own2 := (wipe_of hlen3 fun j hj' => hj3 j fun z => hj' (pt_own hpt2 j z)).trans (wipe_wipe σ2 own2)
            refine ⟨hw3, F8, m7, M7, r2, Rσ3, ?_⟩
            rw [f2]
            intro F9 m9 H9 a9 r9
            rcases f3 with ⟨rfl, zd, f4, rfl⟩ | ⟨rfl, rfl, rfl⟩
            · refine iteT ⟨F9, m9, M10, r2, Rσ3.step a9 r9, ?_⟩
              rw [f4]
              intro F10 m10 H10 a10 r10 w rw10
              have a8910 := (a8.trans a9).trans a10
              obtain ⟨g1, g2, g3⟩ := keep_own hD7 nF7 nm7 a8910
              have lacc : acc7.length < lim := by rw [rs7.len, List.length_append]; omega
              obtain rfl : zd :: rest = oss := by cases e7; rfl
              obtain rfl : M9 = M5 := by cases e7; rfl
              refine ⟨acc7, g1, by rw [← lim_line]; exact lacc, F10, m10, M8, acc7 ++ [w], accI ++ [zd], rest, (R7.step a8910 r10).updD (pln_lst g1) g2 g3 own0, (S7.step a8910 r10).updD (pln_lst g1) g2 g3 own2', (a7.trans a8910).updD hD, fun a o h => a8910.fx a o (cF a o h), fun k p h => a8910.ix k p (cm k p h), upd_same, g2, g3, ?_, by rw [List.length_append]; simp; exact la7, hlt2, by rw [eo, List.append_assoc]; rfl, eR⟩
              rw [← List.append_assoc]; exact (rs7.xt a8910).app (.cons rw10 .nil)
            · have a89 := a8.trans a9
              obtain ⟨g1, g2, g3⟩ := keep_own hD7 nF7 nm7 a89
              obtain rfl : rest = oss := by cases e7; rfl
              obtain rfl : M9 = M5 := by cases e7; rfl
              exact iteF ⟨F9, m9, M8, acc7, accI, rest, R7.step a89 r9, S7.step a89 r9, a7.trans a89, fun a o h => a89.fx a o (cF a o h), fun k p h => a89.ix k p (cm k p h), g1, g2, g3, rs7.xt a89, Nat.le_succ_of_le la7, hlt2, eo, eR⟩
          · have ej : j = zs.length := by omega
            subst ej
            refine .inl ⟨wk1.stop H7 (fun a o h => R7.mr.sub a o (cF a o h)), ?_⟩
            rw [List.drop_length] at e7
            cases e7
            rw [List.append_nil] at eo
            subst eo
            refine ⟨F7, m7, M5, acc7, accD ++ o, R7, a7, hD7, nF7, nm7, rs7, by rw [List.length_append]; omega, hlt, ?_⟩
            rw [List.length_append]
            exact (EQ.bind e3).mono fun M zs F' m' H' a r k => by
              have := EQ.now k r
              rw [List.append_assoc]; exact this
      · have ei : i = xs.length := by omega
        subst ei
        refine .inl ⟨wk.stop H3 sub3, ?_⟩
        rw [List.drop_length] at e3
        have k0 := e3 F3 m3 H3 a3 R3.mr
        dsimp only at k0
        rw [List.append_nil] at k0
        have hH : H D0 = none := by
          cases e : H D0 with
          | none => rfl
          | some u => exact absurd hD (a1.dx D0 (by rw [e]; exact fun z => by cases z))
        exact k0 D0 nF3 nm3 hH ⟨acc, hD3, rs3, by rw [rs3.len]; exact la3⟩
end
section
variable {W : Wd} {P : Pg} {T : Tb} {n : Nat} {N : List Str} {C : Cx} {sc : Scope} {Ex : WX}
variable {a b l : E} {x y z tg tg2 : Expr} {as : List Expr} {pos p : Pos}
theorem ok_lc2O {X : Fx} {own own2 : List Nat} {elt it it2 cd : E} {pt pt2 : Pt} {iter iter2 : Expr} {ifs2 : List Expr} {scope : Scope} (c : Ct W P T n N C sc Ex) (hs : notSet iter = true) (hs2 : notSet iter2 = true) (hb : blkC N sc scope (ownP N own) = true) (hpt : chkPt N scope (some own) pt tg = true) (hpt2 : chkPt N scope (some own2) pt2 tg2 = true) (ho2 : own2.all own.contains = true)
    (hi : PI C tg iter (tI W X Ex it)) (hi2 : ∀ (s : Shared) (H : Hp) (c0 : Addr) (cl : List (Str × Addr)) (fp : List Addr), PI (C.blk s H scope (compEnvC scope cl c0 C.env) fp) tg2 iter2 (tI W X (fun _ _ _ _ => False) it2))
    (he : ∀ (s : Shared) (H : Hp) (c0 : Addr) (cl : List (Str × Addr)) (fp : List Addr), PE (C.blk s H scope (compEnvC scope cl c0 C.env) fp) x (tE W X (fun _ _ _ _ => False) elt))
    (ht : ∀ (s : Shared) (H : Hp) (c0 : Addr) (cl : List (Str × Addr)) (fp : List Addr), PTs (C.blk s H scope (compEnvC scope cl c0 C.env) fp) ifs2 (tTs W X cd))
    (hn : ∀ (s : Shared) (H : Hp) (c0 : Addr) (cl : List (Str × Addr)) (fp : List Addr), PTs (C.blk s H scope (compEnvC scope cl c0 C.env) fp) [] (tTs W X .nil)) :
    PE C (.ListComp x [⟨tg, iter, [], 0⟩, ⟨tg2, iter2, ifs2, 0⟩] scope pos) (tO W X Ex (.lc2 own own2 elt pt it pt2 it2 cd)) := by
  have hk : scope.kind = .function := (blkOk_by hb).kind
  have pe := pe_lc2 (X := C) (pos := pos) (own := ownP N own) (vs1 := own2) c.calm (by rw [c.hN]; exact c.nd) hi (by rw [c.hN]; exact blkC_ok c.so hb) (fun i hi => by rw [ownP_snd]; exact List.contains_iff_mem.mp (List.all_eq_true.mp ho2 i hi))
    (fun s H c0 cl fp => pg_pt (W := W) (c.blk hk s H c0 cl fp) hpt) hn hi2 (fun s H c0 cl fp => pg_pt (W := W) (c.blk hk s H c0 cl fp) hpt2) ht he (fun v => plain_fold hs C.env v) (fun env v => plain_fold hs2 env v)
  rw [ownP_snd] at pe
  exact pe.wk fun σ H Q h => lc2O_rd hpt hpt2 h
theorem ok_setLc2 {X : Fx} {own own2 : List Nat} {elt it it2 cd : E} {pt pt2 : Pt} {iter iter2 : Expr} {ifs2 : List Expr} {scope : Scope} {i : Nat} {py spos : Pos} {y : Str} (c : Ct W P T n N C sc Ex) (hy : N[i]? = some y) (hyl : C.env.scope.names.lookup y = some .local) (hln : (py.line == pos.line) = true)
    (ha : (scope.names.any fun (n, k) => n == y && (k == .local || k == .cell)) = false) (hs : notSet iter = true) (hs2 : notSet iter2 = true) (hb : blkC N sc scope (ownP N own) = true) (hpt : chkPt N scope (some own) pt tg = true) (hpt2 : chkPt N scope (some own2) pt2 tg2 = true) (ho2 : own2.all own.contains = true)
    (hi : PI C tg iter (tI W X Ex it)) (hi2 : ∀ (s : Shared) (H : Hp) (c0 : Addr) (cl : List (Str × Addr)) (fp : List Addr), PI (C.blk s H scope (compEnvC scope cl c0 C.env) fp) tg2 iter2 (tI W X (fun _ _ _ _ => False) it2))
    (he : ∀ (s : Shared) (H : Hp) (c0 : Addr) (cl : List (Str × Addr)) (fp : List Addr), PE (C.blk s H scope (compEnvC scope cl c0 C.env) fp) x (tE W X (fun _ _ _ _ => False) elt))
    (ht : ∀ (s : Shared) (H : Hp) (c0 : Addr) (cl : List (Str × Addr)) (fp : List Addr), PTs (C.blk s H scope (compEnvC scope cl c0 C.env) fp) ifs2 (tTs W X cd))
    (hn : ∀ (s : Shared) (H : Hp) (c0 : Addr) (cl : List (Str × Addr)) (fp : List Addr), PTs (C.blk s H scope (compEnvC scope cl c0 C.env) fp) [] (tTs W X .nil)) :
    PS C (.Assign [.Name y py] (.ListComp x [⟨tg, iter, [], 0⟩, ⟨tg2, iter2, ifs2, 0⟩] scope pos) spos) (tAsg (tO W X Ex (.lc2 own own2 elt pt it pt2 it2 cd)) (gName i)) := by
  have hk : scope.kind = .function := (blkOk_by hb).kind
  have pe := ps_setLc2 (X := C) (pos := pos) (spos := spos) (own := ownP N own) (vs1 := own2) c.calm (by rw [c.hN]; exact c.nd) (by rw [c.hN]; exact hy) hyl (sw_true c.so.ek hyl hln ha) hi (by rw [c.hN]; exact blkC_ok c.so hb) (fun i hi => by rw [ownP_snd]; exact List.contains_iff_mem.mp (List.all_eq_true.mp ho2 i hi))
    (fun s H c0 cl fp => pg_pt (W := W) (c.blk hk s H c0 cl fp) hpt) hn hi2 (fun s H c0 cl fp => pg_pt (W := W) (c.blk hk s H c0 cl fp) hpt2) ht he (fun v => plain_fold hs C.env v) (fun env v => plain_fold hs2 env v)
  rw [ownP_snd] at pe
  exact ⟨fun pins s σ H D I h => pe.run pins s σ H D I (lc2O_rd hpt hpt2 h)⟩
end
end Oc
namespace Oc
open L2 PySem PySem.Spec PyProof.Rows
theorem sep_zip3 (n : Nat) (k1 k2 k3 : Sk) (f1 : ∀ a, k1.adr = some a → a < n) (f2 : ∀ a, k2.adr = some a → a < n) (f3 : ∀ a, k3.adr = some a → a < n) :
    ZipSep3 (n + 5) (n + 3) (n + 4) n (n + 1) (n + 2) (k1.fp n) (k2.fp (n + 1)) (k3.fp (n + 2)) := by
  have no : ∀ (k : Sk) (i j : Nat), (∀ a, k.adr = some a → a < n) → j ≠ i → (n + j : Nat) ∉ k.fp (n + i : Nat) := fun k i j f ne z => (Sk.mem_fp z).elim (fun z => ne (by have : (n + j : Nat) = n + i := z; omega)) (fun z => absurd (show (n + j : Nat) < n from f _ z) (by omega))
  exact { TIz := fun z => absurd (show (n + 3 : Nat) = n + 5 from z) (by omega), TOz := fun z => absurd (show (n + 4 : Nat) = n + 5 from z) (by omega),
          TITO := fun z => absurd (show (n + 3 : Nat) = n + 4 from z) (by omega),
          TIi1 := fun z => absurd (show (n + 3 : Nat) = n from z) (by omega), mem1 := Sk.fp_mem, zf1 := no k1 0 5 f1 (by decide), Tf1 := no k1 0 4 f1 (by decide),
          TIi2 := fun z => absurd (show (n + 3 : Nat) = n + 1 from z) (by omega), mem2 := Sk.fp_mem, zf2 := no k2 1 5 f2 (by decide), Tf2 := no k2 1 4 f2 (by decide),
          TIi3 := fun z => absurd (show (n + 3 : Nat) = n + 2 from z) (by omega), mem3 := Sk.fp_mem, zf3 := no k3 2 5 f3 (by decide), Tf3 := no k3 2 4 f3 (by decide),
          sep1_2 := no k2 1 0 f2 (by decide), sep1_3 := no k3 2 0 f3 (by decide), sep2_1 := no k1 0 1 f1 (by decide), sep2_3 := no k3 2 1 f3 (by decide),
          sep3_1 := no k1 0 2 f1 (by decide), sep3_2 := no k2 1 2 f2 (by decide) }
def Itz3 (K : PySem.W.Frag) (k1 k2 k3 : Sk) : It :=
  ⟨fun i H => ∃ (xs ys zs : List V) (x y z : V), k1.at K H xs ∧ k2.at K H ys ∧ k3.at K H zs ∧ xs[i]? = some x ∧ ys[i]? = some y ∧ zs[i]? = some z,
   fun i H v H' => ∃ T x y z, v = .ref T ∧ H T = none ∧ H' = upd H T (.tup [x, y, z]) ∧ (∀ xs, k1.at K H xs → xs[i]? = some x) ∧ (∀ ys, k2.at K H ys → ys[i]? = some y) ∧ ∀ zs, k3.at K H zs → zs[i]? = some z,
   fun i H => ∃ xs ys zs : List V, k1.at K H xs ∧ k2.at K H ys ∧ k3.at K H zs ∧ i ≤ xs.length ∧ i ≤ ys.length ∧ i ≤ zs.length ∧ (i = xs.length ∨ i = ys.length ∨ i = zs.length)⟩
theorem turn_zip3 {P : Program} {w : World} {K : PySem.W.Frag} {elts : List Expr} {kk : Nat} {tpos : Pos} (k1 k2 k3 : Sk) (n : Nat) (f1 : ∀ a, k1.adr = some a → a < n) (f2 : ∀ a, k2.adr = some a → a < n) (f3 : ∀ a, k3.adr = some a → a < n) :
    Turn P w K (.Tuple elts kk tpos) (Itz3 K k1 k2 k3) [n + 5, n + 3, n + 4, n, n + 1, n + 2] (n + 5) (fun i h => IsZip h (n + 5) (n + 3) (n + 4) .none ∧ IsTupOf3 h (n + 3) (.ref n) (.ref (n + 1)) (.ref (n + 2)) ∧ (∃ x y z, IsTupOf3 h (n + 4) x y z) ∧ k1.it n i h ∧ k2.it (n + 1) i h ∧ k3.it (n + 2) i h) where
  mem := by simp
  obj := fun i h st c hc => by
    obtain ⟨hz, hTI, ⟨x, y, z, hTO⟩, i1, i2, i3⟩ := st
    have e' : c = n + 5 ∨ c = n + 3 ∨ c = n + 4 ∨ c = n ∨ c = n + 1 ∨ c = n + 2 := by simpa using hc
    rcases e' with q | q | q | q | q | q <;> subst q
    · exact ⟨_, hz, fun v q => nomatch q⟩
    · exact ⟨_, hTI, fun v q => nomatch q⟩
    · exact ⟨_, hTO, fun v q => nomatch q⟩
    · exact k1.it_get i1
    · exact k2.it_get i2
    · exact k3.it_get i3
  keep := fun i h h' st k => by
    obtain ⟨hz, hTI, ⟨x, y, z, hTO⟩, h1, h2, h3⟩ := st
    exact ⟨k (n + 5) (by simp) _ hz, k (n + 3) (by simp) _ hTI, ⟨x, y, z, k (n + 4) (by simp) _ hTO⟩, k1.it_keep h1 fun o q => k n (by simp) o q, k2.it_keep h2 fun o q => k (n + 1) (by simp) o q, k3.it_keep h3 fun o q => k (n + 2) (by simp) o q⟩
  item := by
    intro X hP hw hK hc i pins s σ H E I hf st hg
    subst hP hw hK
    obtain ⟨hz, hTI, ⟨x0, y0, z0, hTO⟩, h1, h2, h3⟩ := st
    obtain ⟨xs, ys, zs, x, y, z, hqx, hqy, hqz, hx, hy, hzz⟩ := hg
    obtain ⟨its1, rv1, src1, lt1, D1⟩ := k1.draws I hqx hc
    obtain ⟨its2, rv2, src2, lt2, D2⟩ := k2.draws I hqy hc
    obtain ⟨its3, rv3, src3, lt3, D3⟩ := k3.draws I hqz hc
    have D1 := D1 n fun a q => Nat.ne_of_lt (f1 a q)
    have D2 := D2 (n + 1) fun a q => Nat.ne_of_lt (Nat.lt_succ_of_lt (f2 a q))
    have D3 := D3 (n + 2) fun a q => Nat.ne_of_lt (Nat.lt_succ_of_lt (Nat.lt_succ_of_lt (f3 a q)))
    have hzl : n + 5 < s.heap.objs.size := Heap.lt_size hz
    have S := sep_zip3 n k1 k2 k3 f1 f2 f3
    refine wpAny_pyNext_zipD3_item S D1 D2 D3 hz hTI hTO ⟨h1, src1⟩ ⟨h2, src2⟩ ⟨h3, src3⟩ (List.getElem?_eq_some_iff.mp hx).1 (List.getElem?_eq_some_iff.mp hy).1 (List.getElem?_eq_some_iff.mp hzz).1 fun u1 u2 u3 h' tk p1 p2 p3 z' TO' s1' s2' s3' hT hsz hk => ?_
    obtain ⟨x', hx', ru⟩ := p1
    obtain ⟨y', hy', ru2⟩ := p2
    obtain ⟨w', hw', ru3⟩ := p3
    rw [hx] at hx'; cases hx'
    rw [hy] at hy'; cases hy'
    rw [hzz] at hw'; cases hw'
    refine ⟨_, rfl, wpAny_letOwnedTupleGo_zip (s := { s with heap := h', toks := tk }) z' fun h'' z'' sb => ?_⟩
    have hT2 : h''.get? s.heap.objs.size = some { cls := .type "tuple", data := .seq #[u1, u2, u3] } := (sb.2 _ (Nat.ne_of_gt hzl)).trans hT
    have new : ObjOk X.prog X.w (upd H s.heap.objs.size (.tup [x, y, z])) h'' s.heap.objs.size (.tup [x, y, z]) :=
      ⟨by show 3 ≤ sizeLine; decide, [u1, u2, u3], .cons ru (.cons ru2 (.cons ru3 .nil)), ⟨_, hT2, rfl, _, rfl⟩⟩
    have I1 : L2.Inv X pins σ (upd H s.heap.objs.size (.tup [x, y, z])) { s with heap := h'', toks := tk } :=
      I.turnedNew (ch := [n + 5, n + 3, n + 4, n, n + 1, n + 2]) (fun c o hb q => (sb.2 c (fun q' => hb (by simp [q']))).trans (hk c o (fun q' => hb (by simp [q'])) (fun q' => hb (by simp [q'])) (fun q' => hb (by simp [q'])) (fun q' => hb (by simp [q'])) (fun q' => hb (by simp [q'])) q)) hf (Nat.le_refl _) new
    refine ⟨.ref s.heap.objs.size, _, I1, rfl, ⟨_, x, y, z, rfl, I.hok.fresh (Nat.le_refl _), rfl, fun us hu => by rw [k1.inj I hqx hu]; exact hx, fun us hu => by rw [k2.inj I hqy hu]; exact hy, fun us hu => by rw [k3.inj I hqz hu]; exact hzz⟩, ⟨z'', ?_, ⟨u1, u2, u3, ?_⟩, ?_, ?_, ?_⟩, fun c hcm => ?_⟩
    · exact (sb.2 _ S.TIz).trans (hk _ _ S.TIz S.TITO S.TIi1 S.TIi2 S.TIi3 hTI)
    · exact (sb.2 _ S.TOz).trans TO'
    · exact k1.it_keep s1'.1 fun o q => (sb.2 _ S.zi1.symm).trans q
    · exact k2.it_keep s2'.1 fun o q => (sb.2 _ S.zi2.symm).trans q
    · exact k3.it_keep s3'.1 fun o q => (sb.2 _ S.zi3.symm).trans q
    · have hlt : c < s.heap.objs.size := by
        have e' : c = n + 5 ∨ c = n + 3 ∨ c = n + 4 ∨ c = n ∨ c = n + 1 ∨ c = n + 2 := by simpa using hcm
        have hzl' : (n + 5 : Nat) < s.heap.objs.size := hzl
        rcases e' with q | q | q | q | q | q <;> rw [q] <;> (show (_ : Nat) < s.heap.objs.size; omega)
      rw [upd_ne (Nat.ne_of_lt hlt)]
      exact (hf c hcm).1
  done := by
    intro X hP hw hK hc i pins s σ H E I hf st hg
    subst hP hw hK
    obtain ⟨hz, hTI, ⟨x0, y0, z0, hTO⟩, h1, h2, h3⟩ := st
    obtain ⟨xs, ys, zs, hqx, hqy, hqz, l1, l2, l3, hend⟩ := hg
    obtain ⟨its1, rv1, src1, lt1, D1⟩ := k1.draws I hqx hc
    obtain ⟨its2, rv2, src2, lt2, D2⟩ := k2.draws I hqy hc
    obtain ⟨its3, rv3, src3, lt3, D3⟩ := k3.draws I hqz hc
    have D1 := D1 n fun a q => Nat.ne_of_lt (f1 a q)
    have D2 := D2 (n + 1) fun a q => Nat.ne_of_lt (Nat.lt_succ_of_lt (f2 a q))
    have D3 := D3 (n + 2) fun a q => Nat.ne_of_lt (Nat.lt_succ_of_lt (Nat.lt_succ_of_lt (f3 a q)))
    have S := sep_zip3 n k1 k2 k3 f1 f2 f3
    exact wpAny_pyNext_zipD3_end S D1 D2 D3 hz hTI hTO ⟨h1, src1⟩ ⟨h2, src2⟩ ⟨h3, src3⟩ l1 l2 l3 hend fun h' tk hk => ⟨rfl, I.turnedL (t' := tk) (ch := [n + 5, n + 3, n + 4, n, n + 1, n + 2]) (fun c o hb q =>
      hk c o (fun q' => hb (by simp [q'])) (fun q' => hb (by simp [q'])) (fun q' => hb (by simp [q'])) (fun q' => hb (by simp [q'])) (fun q' => hb (by simp [q'])) q) hf⟩
  self := fun A i s Q E st h => wpAny_pyIter_zip st.1 h
def qZip3 (K : PySem.W.Frag) (R : It → Hp → Prop) (v v2 v3 : V) (H1 : Hp) : Prop := ∃ xs ys zs, SrcV K H1 v xs fun k1 => SrcV K H1 v2 ys fun k2 => SrcV K H1 v3 zs fun k3 => R (Itz3 K k1 k2 k3) H1
def iZip3 (K : PySem.W.Frag) (te te2 te3 : TE) : TI := fun σ H R => te σ H fun v H1 => te2 σ H1 fun v2 H2 => te3 σ H2 fun v3 H3 => qZip3 K R v v2 v3 H3
theorem pi_zip3 {X : Cx} {e e2 e3 : Expr} {te te2 te3 : TE} {p pos tpos : Pos} {elts : List Expr} {kk : Nat} (hg : Gl X "zip") (hm : X.mg "zip" = none) (he : PE X e te) (he2 : PE X e2 te2) (he3 : PE X e3 te3)
    (hs : starEach [e, e2, e3] X.env = (false, eval e X.env) :: starEach [e2, e3] X.env) (hs2 : starEach [e2, e3] X.env = (false, eval e2 X.env) :: starEach [e3] X.env) (hs3 : starEach [e3] X.env = [(false, eval e3 X.env)]) :
    PI X (.Tuple elts kk tpos) (.Call (.Name "zip" p) [e, e2, e3] [] pos) (iZip3 X.K te te2 te3) := by
  refine ⟨fun pins s σ H R I h => ?_⟩
  have ha : PA X [e, e2, e3] (tCons te (tCons te2 (tCons te3 tNil))) := pa_cons he (pa_cons he2 (pa_cons he3 pa_nil hs3) hs2) hs
  refine Call_ (ld_blt I hg hm PyProof.Rows.boot_zip (PyProof.Rows.callWith_type1 (thn (ha.run pos pins s σ H (fun us H1 => match us with | [v, v2, v3] => qZip3 X.K R v v2 v3 H1 | _ => False) I h) fun us s1 ⟨ws, H1, I1, r1, q1⟩ => ?_) hs (by rw [hs2, hs3]; rfl)))
  cases r1 with
  | nil => exact q1.elim
  | cons r rr =>
    cases rr with
    | nil => exact q1.elim
    | cons r2 rr =>
      cases rr with
      | nil => exact q1.elim
      | cons r3 rr =>
        cases rr with
        | cons _ _ => exact q1.elim
        | nil =>
          obtain ⟨xs, ys, zs, q1⟩ := q1
          obtain ⟨k1, its1, rfl, at1, src1, lt1, q2⟩ := src_of I1 r q1
          obtain ⟨k2, its2, rfl, at2, src2, lt2, q3⟩ := src_of I1 r2 q2
          obtain ⟨k3, its3, rfl, at3, src3, lt3, q⟩ := src_of I1 r3 q3
          refine zip_begins3 (k1.begins its1) (k2.begins its2) (k3.begins its3) src1 src2 src3 fun h' hz hTI hTO h1 h2 h3 hsz hk => wpAny_pyIter_zip hz ?_
          have I2 : L2.Inv X pins σ H1 { s1 with heap := h' } := I1.kept (t' := s1.toks) hk
          refine ⟨s1.heap.objs.size + 5, [s1.heap.objs.size + 5, s1.heap.objs.size + 3, s1.heap.objs.size + 4, s1.heap.objs.size, s1.heap.objs.size + 1, s1.heap.objs.size + 2], _, _, H1, rfl, I2, turn_zip3 k1 k2 k3 s1.heap.objs.size lt1 lt2 lt3, ⟨hz, hTI, ⟨_, _, _, hTO⟩, k1.it_start h1, k2.it_start h2, k3.it_start h3⟩, fun c hcm => ?_, q⟩
          have e' : c = s1.heap.objs.size + 5 ∨ c = s1.heap.objs.size + 3 ∨ c = s1.heap.objs.size + 4 ∨ c = s1.heap.objs.size ∨ c = s1.heap.objs.size + 1 ∨ c = s1.heap.objs.size + 2 := by simpa using hcm
          have hle : s1.heap.objs.size ≤ c := by rcases e' with q | q | q | q | q | q <;> rw [q] <;> (show s1.heap.objs.size ≤ (_ : Nat); omega)
          exact I1.fpOk hle (I1.hok.fresh hle)
section
variable {W : Wd} {F : Hp} {m : List Addr} {H : Hp} {M : Mem}
theorem wk_zip3 {K : PySem.W.Frag} {k1 k2 k3 : Sk} {vs ws us : List V} {xs ys zs : List D} (sq1 : ∀ {H : Hp}, (∀ a o, F a = some o → H a = some o) → k1.at K H vs) (r1 : Rps W F m vs xs)
    (sq2 : ∀ {H : Hp}, (∀ a o, F a = some o → H a = some o) → k2.at K H ws) (r2 : Rps W F m ws ys) (sq3 : ∀ {H : Hp}, (∀ a o, F a = some o → H a = some o) → k3.at K H us) (r3 : Rps W F m us zs) :
    Wk W F m (Itz3 K k1 k2 k3) ((xs.zip (ys.zip zs)).map fun p => .tup [p.1, p.2.1, p.2.2]) := by
  have l1 := r1.len
  have l2 := r2.len
  have l3 := r3.len
  refine ⟨fun i H hs hi => ?_, fun H hs => ⟨vs, ws, us, sq1 hs, sq2 hs, sq3 hs, ?_⟩, fun i d v F1 m1 H H' M hF hm R e y => ?_⟩
  · rw [List.length_map, List.length_zip, List.length_zip] at hi
    have h1 : i < vs.length := by omega
    have h2 : i < ws.length := by omega
    have h3 : i < us.length := by omega
    exact ⟨vs, ws, us, vs[i], ws[i], us[i], sq1 hs, sq2 hs, sq3 hs, List.getElem?_eq_getElem h1, List.getElem?_eq_getElem h2, List.getElem?_eq_getElem h3⟩
  · rw [List.length_map, List.length_zip, List.length_zip]; omega
  · obtain ⟨T, x, y, z, rfl, hT, rfl, y1, y2, y3⟩ := y
    have hx := y1 vs (sq1 fun a o h => R.sub a o (hF a o h))
    have hy := y2 ws (sq2 fun a o h => R.sub a o (hF a o h))
    have hz := y3 us (sq3 fun a o h => R.sub a o (hF a o h))
    obtain ⟨xd, e1, rx⟩ := r1.getV hx
    obtain ⟨yd, e2, ry⟩ := r2.getV hy
    obtain ⟨zd, e3, rz⟩ := r3.getV hz
    obtain ⟨R2, x2⟩ := R.fresh (o := .tup [x, y, z]) hT
    refine ⟨_, x2, R2, ?_⟩
    rw [List.getElem?_map] at e
    have ez : (xs.zip (ys.zip zs))[i]? = some (xd, yd, zd) := by
      rw [List.getElem?_zip_eq_some]; exact ⟨e1, by rw [List.getElem?_zip_eq_some]; exact ⟨e2, e3⟩⟩
    rw [ez] at e
    simp only [Option.map_some, Option.some.injEq] at e
    subst e
    exact rp_fresh_tup R.sub hT (.cons (rx.mono hF hm) (.cons (ry.mono hF hm) (.cons (rz.mono hF hm) .nil))) (by show 3 ≤ lim; decide)
end
section
variable {W : Wd} {P : Pg} {T : Tb} {n : Nat} {N : List Str} {C : Cx} {sc : Scope} {Ex : WX}
variable {a b c0 l : E} {x y z tg : Expr} {as : List Expr} {pos p : Pos}
theorem ok_zp3 {X : Fx} {elts : List Expr} {kk : Nat} {tpos : Pos} (c : Ct W P T n N C sc Ex) (hb : ("zip" : Str) ∈ T.blt) (hg : glB sc ("zip" : Str) = true) (hs : notStar x = true) (hs2 : notStar y = true) (hs3 : notStar z = true) (he : PE C x (tE W X Ex a)) (he2 : PE C y (tE W X Ex b)) (he3 : PE C z (tE W X Ex c0)) :
    PI C (.Tuple elts kk tpos) (.Call (.Name "zip" p) [x, y, z] [] pos) (tI W X Ex (.zp3 a b c0)) :=
  (pi_zip3 (c.so.gl _ hg) (c.g.blt _ hb) he he2 he3 (star_cons hs) (star_cons hs2) (star1 hs3)).wk fun σ H Q ⟨F, m, M, r, R, q⟩ => tE_bind R q fun M1 d F1 m1 H1 v R1 a1 rv h1 => tE_bind R1 h1 fun M2 e F2 m2 H2 w R2 a2 rw2 h2 => tE_bind R2 h2 fun M3 g F3 m3 H3 u R3 a3 rw3 h3 => by
    cases hx : itmF d with
    | none => rw [hx] at h3; exact h3.elim
    | some xs =>
      cases hy : itmF e with
      | none => rw [hx, hy] at h3; exact h3.elim
      | some ys =>
        cases hz : itmF g with
        | none => rw [hx, hy, hz] at h3; exact h3.elim
        | some zs =>
          rw [hx, hy, hz] at h3
          obtain ⟨zz, e, kk⟩ := EQ.now h3 R3.mr
          cases e
          have rv3 := (rv.xt a2).xt a3
          obtain ⟨vs, r1, sv⟩ := src_rp (K := C.K) R3.mr rv3 hx
          obtain ⟨ws, r2, sw⟩ := src_rp (K := C.K) R3.mr (rw2.xt a3) hy
          obtain ⟨us, r3, su⟩ := src_rp (K := C.K) R3.mr rw3 hz
          have q2 := sv (fun k1 => SrcV C.K H3 w ws fun k2 => SrcV C.K H3 u us fun k3 => Q (Itz3 C.K k1 k2 k3) H3) fun k1 sq1 => sw (fun k2 => SrcV C.K H3 u us fun k3 => Q (Itz3 C.K k1 k2 k3) H3) fun k2 sq2 => su (fun k3 => Q (Itz3 C.K k1 k2 k3) H3) fun k3 sq3 =>
            kk (by rw [List.length_map, List.length_zip]; exact Nat.le_trans (Nat.min_le_left _ _) (itmF_len rv hx)) _ (wk_zip3 sq1 r1 sq2 r2 sq3 r3)
          exact ⟨vs, ws, us, q2⟩
theorem keys_take : ∀ {kvs : List (List Key × V)} {bs : List Addr} {ks : List (List Ky)} {F : Hp} {m : List Addr} {H : Hp} {M : Mem}, Mr W F m H M → IsKeys H kvs bs → kvs.map (·.1) = ks.map (·.map kyK) → (∀ k ∈ ks, k.length ≤ lim ∧ ∀ y ∈ k, kyG y) →
    ∃ F1, Mr W F1 m H M ∧ Xt F m H F1 m H ∧ Rps W F1 m (bs.map V.ref) (ks.map fun k => .tup (k.map keyD))
  | _, _, [], F, m, H, M, R, .nil, _, _ => ⟨F, R, Xt.refl _ _ _, .nil⟩
  | _, _, _ :: _, F, m, H, M, R, .nil, e, _ => by cases e
  | _, _, [], F, m, H, M, R, .cons h t, e, _ => by cases e
  | kv :: kvs, b :: bs, k :: ks, F, m, H, M, R, .cons h t, e, hg => by
    rw [List.map_cons, List.map_cons, List.cons.injEq] at e
    obtain ⟨e1, e2⟩ := e
    have h' : H b = some (.tup (kv.1.map kV)) := h
    rw [e1] at h'
    obtain ⟨R1, x1⟩ := R.take h'
    obtain ⟨F2, R2, x2, rs⟩ := keys_take R1 t e2 fun k hk => hg k (List.mem_cons_of_mem _ hk)
    obtain ⟨g1, g2⟩ := hg k List.mem_cons_self
    refine ⟨F2, R2, x1.trans x2, .cons ?_ rs⟩
    exact .tup (x2.fx _ _ upd_same) (keys_rp g2) (by rw [List.length_map, List.length_map]; exact g1)
theorem call_listK {C : Cx} (hc : C.calm = true) : CallR C (.type "list") (fun xs H Q => (∃ d kvs, xs = [V.ref d] ∧ Rd H d (.dT kvs) ∧ ∀ p bs, H p = none → IsKeys H kvs bs → Q (.ref p) (upd H p (.lst (bs.map V.ref)))) ∨
    (∃ (a : Addr) (kvs : List (Key × V)), xs = [.ref a] ∧ Rd H a (.dK kvs) ∧ ∀ p, H p = none → Q (.ref p) (upd H p (.lst (kvs.map fun kv => kV kv.1))))) := by
  intro pins s σ H xs us Q I r h
  rcases h with h | h
  · exact call_list_dT hc pins s σ H xs us Q I r h
  · exact call_listD hc pins s σ H xs us Q I r h
theorem ok_ldk (c : Ct W P T n N C sc Ex) (hb : ("list" : Str) ∈ T.blt) (hg : glB sc ("list" : Str) = true) (hs : notStar x = true) (ha : PE C x (tE W (P.fx n) Ex a)) :
    PE C (.Call (.Name "list" p) [x] [] pos) (tE W (P.fx n) Ex (.ldk a)) := by
  refine (pe_callTy (call_listK c.calm) (c.so.gl _ hg) (c.g.blt _ hb) PyProof.Rows.boot_list (pa_cons ha pa_nil (star_cons hs)) (by decide) (by decide) (star_cons hs) rfl).wk fun σ H Q ⟨F, m, M, r, R, q⟩ => ?_
  refine tE_bind R q fun M1 d F1 m1 H1 v R1 a1 rv h1 => ?_
  obtain ⟨dd, e1, k2⟩ := EQ.opt h1
  unfold ldkD at e1
  split at e1 <;> cases e1
  · cases rv with
    | dt h hk hgd rr hl =>
      refine .inl ⟨_, _, rfl, h.rd R1.mr.sub, fun p0 bs hp hi => ?_⟩
      obtain ⟨F2, R2, x2, rs⟩ := keys_take R1.mr hi hk hgd
      have fr := R2.fresh (o := .lst (bs.map V.ref)) hp
      refine k2 _ _ _ (x2.trans fr.2) fr.1 _ (rp_fresh_lst R2.sub hp rs ?_)
      have := rs.len
      have e := congrArg List.length hk
      rw [List.length_map, List.length_map] at e
      rw [List.length_map] at this
      rw [List.length_map]
      rw [List.length_map] at this
      omega
  · cases rv with
    | @dk l1 p1 kvs ks1 ds1 h hk hgd rr hl =>
      refine .inr ⟨_, _, rfl, h.rd R1.mr.sub, fun p0 hp => ?_⟩
      have rs0 := keys_rp (W := W) (F := F1) (m := m1) hgd
      rw [← hk, List.map_map] at rs0
      have rs : Rps W F1 m1 (kvs.map fun kv => kV kv.1) _ := rs0
      have fr := R1.mr.fresh (o := .lst (kvs.map fun kv => kV kv.1)) hp
      exact k2 _ _ _ fr.2 fr.1 _ (rp_fresh_lst R1.mr.sub hp rs (by rw [List.length_map]; exact hl))
theorem cr_mdn (hc : C.calm = true) (hu : C.A.units + 64 < cLine) : CallRK C (.builtin "min") [Str.ofString "default"] (fun xs zs H Q => ∃ (F : Hp) (m : List Addr) (M : Mem) (v : V) (d dd : D), xs = [v] ∧ zs = [.non] ∧ Mr W F m H M ∧ Rp W F m v d ∧ mdnD d = some dd ∧ ∀ w, Rp W F m w dd → Q w H) := by
  intro pins s σ H xs zs us ws Q I rx rz ⟨F, m, M, v, d, dd, e1, e2, R, rp, e, k⟩
  subst e1; subst e2
  obtain ⟨u, rfl, ru⟩ := vals1 rx
  obtain ⟨w1, rfl, ew⟩ := vals1 rz
  obtain rfl : w1 = Value.none := ew
  unfold mdnD at e
  split at e
  · cases e
    cases rp with
    | lst h r l =>
      obtain ⟨its, rv, hl, hz⟩ := I.list (SqL.of (R.sub _ _ h))
      obtain rfl : u = Value.ref _ := ru
      cases r
      cases rv
      have h0 : C.A.units + 1 + PyData.depthAll [] < cLine := by
        have : PyData.depthAll [] ≤ 1 := by decide
        omega
      refine PySem.W.min_list_default (I.ok.hd hc) (xs := []) (as := []) hl.isList (by simpa using ReadsAll.nil) ⟨(fun x hx => by cases hx), (fun x hx => by cases hx)⟩ h0 (fun _ h' tk hk => ?_) (fun y ys i v h' tk bs e => by cases e)
      exact ⟨.non, H, I.kept hk, rfl, k _ .non⟩
  · rename_i x ds
    split at e <;> cases e
    rename_i ok
    obtain ⟨hsh, hal, hal2⟩ := alk_all ok
    cases rp with
    | lst h r l =>
      obtain ⟨its, rv, hl, hz⟩ := I.list (SqL.of (R.sub _ _ h))
      obtain rfl : u = Value.ref _ := ru
      obtain ⟨as, hr⟩ := Dp.readsAll I (toPs (x :: ds)) _ its (Rps.dp (K := C.K) R.sub (n := 8) (by simpa using hsh) r) rv
      have hd := depth_all hsh r
      rw [toPs] at hr hal2 hd
      refine PySem.W.min_list_default (I.ok.hd hc) hl.isList (by simpa using hr) hal2 (by omega) (fun e => (by cases e)) fun y ys i u h' tk bs e0 hi hr2 hk => ?_
      cases e0
      rw [← minO_toP] at hr2
      obtain ⟨y, q1, q2⟩ := best_at (tk := tk) I R.sub hsh r rv (by simpa using hi) (minO_mem ds x) hk hr2
      exact ⟨y, H, I.kept hk, q1, k y q2⟩
  · cases e
theorem ok_mdn {kp : Pos} (c : Ct W P T n N C sc Ex) (hb : ("min" : Str) ∈ T.blt) (hg : glB sc ("min" : Str) = true) (hs : notStar x = true) (ha : PE C x (tE W (P.fx n) Ex a)) (hy : PE C y (tC .non)) :
    PE C (.Call (.Name "min" p) [x] [⟨some ("default" : Str), y, kp⟩] pos) (tE W (P.fx n) Ex (.mdn a)) := by
  refine (pe_callBK (cr_mdn (W := W) c.calm (by have := c.room.un; omega)) (c.so.gl _ hg) (c.g.blt _ hb) PyProof.Rows.boot_min (pa_cons ha pa_nil (star_cons hs)) (pk_cons hy pk_nil) (by decide) (by decide) (by rw [star_cons hs]; rfl) (by rw [star_cons hs]; rfl) rfl rfl rfl).wk fun σ H Q ⟨F, m, M, r, R, q⟩ => ?_
  refine tE_bind R q fun M1 d F1 m1 H1 v R1 a1 rv h1 => ?_
  obtain ⟨dd, e1, k2⟩ := EQ.opt h1
  exact ⟨F1, m1, M1, v, d, dd, rfl, rfl, R1.mr, rv, e1, fun w rw => k2 F1 m1 H1 (Xt.refl _ _ _) R1.mr w rw⟩
end
end Oc
namespace Oc
open L2 PySem PySem.Spec PyProof.Rows
section
variable {W : Wd} {P : Pg} {T : Tb} {n : Nat} {N : List Str} {C : Cx} {sc : Scope} {Ex : WX}
variable {a b l : E} {x y z tg : Expr} {as : List Expr} {pos p p' pos' : Pos}
theorem ok_rvR {X : Fx} (c : Ct W P T n N C sc Ex) (hb0 : ("reversed" : Str) ∈ T.blt) (hg0 : glB sc ("reversed" : Str) = true) (hb : ("range" : Str) ∈ T.blt) (hg : glB sc ("range" : Str) = true) (hs : notStar x = true) (he : PE C x (tE W X Ex a)) :
    PI C tg (.Call (.Name "reversed" p) [.Call (.Name "range" p') [x] [] pos'] [] pos) (tI W X Ex (.rvR a)) :=
  (pi_revR (c.so.gl _ hg0) (c.g.blt _ hb0) (prg_1 (c.so.gl _ hg) (c.g.blt _ hb) he (star_cons hs)) (by rfl)).wk fun σ H Q ⟨F, m, M, r, R, q⟩ => tE_bind R q fun M1 d F1 m1 H1 v R1 a1 rv h1 => by
    cases d <;> first | exact h1.elim | skip
    rename_i k
    cases rv
    dsimp only at h1
    split at h1
    · rename_i hk
      obtain ⟨xs, e, kk⟩ := EQ.now h1 R1.mr
      cases e
      refine ⟨k, rfl, by decide, by decide, by omega, by omega, ?_⟩
      have e1 : (k - 0).toNat = k.toNat := by rw [Int.sub_zero]
      have e2 : (0 : Int) + ((k.toNat : Nat) : Int) - 1 = (k.toNat : Int) - 1 := by omega
      rw [e1, e2]
      exact kk (by rw [List.length_map, List.length_range]; show k.toNat ≤ 16777216; omega) _ (wk_rngC _ _)
    · exact h1.elim
end
def lokD : D → D
  | .dk _ ks vs => .dk true ks vs
  | .dt _ ks vs => .dt true ks vs
  | d => d
def isDc : D → Bool
  | .dk _ _ _ | .dt _ _ _ => true
  | _ => false
theorem pe_lock {C : Cx} {x : Expr} {t t' : TE} (h : PE C x t) (k : ∀ σ H Q, t' σ H Q → t σ H fun v H1 => ∃ p u, v = .ref p ∧ H1 p = some u ∧ Mut (some u) ∧ ∀ od, Q v (upd H1 p (.frz od u))) : PE C x t' :=
  ⟨fun pins s σ H Q I q => thn (h.run pins s σ H _ I (k σ H Q q)) fun w s1 ⟨v, H1, I1, rv, p, u, e, hp, mu, k2⟩ => by
    obtain ⟨od, I2⟩ := I1.lock hp mu
    exact ⟨v, _, I2, rv, k2 od⟩⟩
theorem frz_lock {W : Wd} {F F' : Hp} {m m' : List Addr} {H H' : Hp} {M : Mem} {p : Addr} {d : D} (a : Xt F m H F' m' H') (R : Mr W F' m' H' M) (h1 : F' p = none) (h2 : p ∉ m') (h3 : H p = none) (q : FrR W F' m' H' p d) (hd : isDc d = true) :
    ∃ u, H' p = some u ∧ Mut (some u) ∧ ∀ od, ∃ F'', Xt F m H F'' m' (upd H' p (.frz od u)) ∧ Mr W F'' m' (upd H' p (.frz od u)) M ∧ Rp W F'' m' (.ref p) (lokD d) := by
  have main : ∀ u, H' p = some u → Mut (some u) → (∀ F'', (∀ b o, F' b = some o → F'' b = some o) → (∃ od, F'' p = some (.frz od u)) → Rp W F'' m' (.ref p) (lokD d)) → Pln H' p → ∀ od, ∃ F'', Xt F m H F'' m' (upd H' p (.frz od u)) ∧ Mr W F'' m' (upd H' p (.frz od u)) M ∧ Rp W F'' m' (.ref p) (lokD d) := fun u hu mu rp pl od => by
    have f1 : ∀ b o, F' b = some o → upd F' p (.frz od u) b = some o := fun b o h => by rw [upd_ne (ne_of_none h h1)]; exact h
    refine ⟨upd F' p (.frz od u), ⟨fun b o h => f1 b o (a.fx b o h), fun b o h hm ht => ?_, fun b o h => ?_, a.mx, fun b h => ?_⟩, ⟨fun b o h => ?_, R.len, R.nd, fun k c b hk hb => ?_, tabs_pln R.tb pl, nt_upd R.nt (fun _ z => by cases z)⟩, rp _ f1 ⟨od, upd_same⟩⟩
    · rw [upd_ne (ne_of_none h h3)]; exact a.hx b o h hm ht
    · by_cases e : b = p
      · subst e; exact .inr (.inl h3)
      · rw [upd_ne e] at h; exact a.nx b o h
    · by_cases e : b = p
      · subst e; rw [upd_same]; exact fun z => by cases z
      · rw [upd_ne e]; exact a.dx b h
    · by_cases e : b = p
      · subst e; rw [upd_same] at h ⊢; exact h
      · rw [upd_ne e] at h ⊢; exact R.sub b o h
    · obtain ⟨n1, r⟩ := R.mo k c b hk hb
      have ne : b ≠ p := fun e => h2 (e ▸ List.mem_of_getElem? hb)
      refine ⟨by rw [upd_ne ne]; exact n1, ?_⟩
      cases c with
      | ml xs => obtain ⟨vs, q1, q2, q3⟩ := r; exact ⟨vs, by rw [upd_ne ne]; exact q1, q2.mono f1 (fun _ _ z => z), q3⟩
      | mi c ns ds => obtain ⟨hc, dx, fs, q1, q2, q3⟩ := r; exact ⟨hc, dx, fs, by rw [upd_ne ne]; exact q1, q2, q3.mono f1 (fun _ _ z => z)⟩
  cases d <;> first | (cases hd; done) | skip
  · obtain ⟨rfl, vs, q1, q2, q5, q3, q4⟩ := q
    exact ⟨_, q1, trivial, main _ q1 trivial (fun F'' k1 ⟨od, k2⟩ => .dk (.inl ⟨od, k2⟩) q2 q5 (q3.mono k1 (fun _ _ z => z)) q4) (fun u e => by rw [q1] at e; cases e; exact ⟨fun _ z => (by cases z), fun _ z => (by cases z)⟩)⟩
  · obtain ⟨rfl, vs, q1, q2, q5, q3, q4⟩ := q
    exact ⟨_, q1, trivial, main _ q1 trivial (fun F'' k1 ⟨od, k2⟩ => .dt (.inl ⟨od, k2⟩) q2 q5 (q3.mono k1 (fun _ _ z => z)) q4) (fun u e => by rw [q1] at e; cases e; exact ⟨fun _ z => (by cases z), fun _ z => (by cases z)⟩)⟩
theorem tE_of_L {W : Wd} {X : Fx} {Ex : WX} {C : Cx} {e : Expr} {c c' : E} (h : PE C e (tO W X Ex c)) (hc : ∀ M r, ev X c' M r = (ev X c M r).bind fun M1 d => .ok M1 (lokD d)) (hd : ∀ M r M1 d, ev X c M r = .ok M1 d → isDc d = true) : PE C e (tE W X Ex c') :=
  pe_lock h fun σ H Q ⟨F, m, M, r, R, q⟩ => ⟨F, m, M, r, R, by
    rw [hc] at q
    cases hx : ev X c M r with
    | st => rw [hx] at q; exact q.elim
    | er M k fs => rw [hx] at q; exact q
    | ok M1 d =>
      rw [hx] at q
      intro F' m' H' a r1 p h1 h2 h3 hf
      obtain ⟨u, hu, mu, k⟩ := frz_lock a r1 h1 h2 h3 hf (hd _ _ _ _ hx)
      refine ⟨p, u, rfl, hu, mu, fun od => ?_⟩
      obtain ⟨F'', a2, r2, rp⟩ := k od
      exact q F'' m' _ a2 r2 _ rp⟩
def tD1T (tk tv : TE) : TE := fun σ H Q => ∀ p, H p = none → tk σ (upd H p (.dT [])) fun x H1 => tv σ H1 fun y H2 => H2 p = some (.dT []) ∧ ∃ b ks, x = .ref b ∧ H2 b = some (.tup (ks.map kV)) ∧ Q (.ref p) (upd H2 p (.dT [(ks, y)]))
theorem pe_d1T {C : Cx} {pos : Pos} {k v : Expr} {tk tv : TE} (hu : C.A.units + 1 < cLine) (hk : PE C k tk) (hv : PE C v tv) : PE C (.Dict [some k] [v] pos) (tD1T tk tv) := by
  refine ⟨fun pins s σ H Q I q => ?_⟩
  have hn := I.hok.fresh (Nat.le_refl s.heap.objs.size)
  have I1 := I.laid (a := s.heap.objs.size) (o := .dT []) (h' := s.heap.push { cls := .type "dict", data := .dict #[] }) (t' := s.toks) (fun _ _ q => Heap.get?_push_of_some _ q) (Nat.le_refl _) (dt_empty s.heap I.big)
  have hsh := zip_pairTrees [some k] [v] C.env pos rfl rfl
  rw [arm_eval_Dict, hsh, dictDisplay_pairs (pairTrees [some k] [v] C.env pos) (by unfold pairTrees; exact fun z => by cases z) (by show 1 < 17; decide)]
  refine wpAny_bind (wpAny_standAt (wpAny_bind (wpAny_subDictH (knd := tupleKind (mixKind C.prog C.w)) (Q := fun d s' => wpAny (model C.prog C.w) C.A (pure (Value.ref d)) _ C.xe s') (by show C.A.units < cLine; omega) (by show 1 ≤ 15; decide) ?_)))
  refine pairTrees_cons_walk (thn (hk.run pins _ σ _ _ I1 (q _ hn)) fun u s1 ⟨x, H1, I2, rx, q1⟩ => thn (hv.run pins s1 σ H1 _ I2 q1) fun w s2 ⟨y, H2, I3, ry, e0, b, ks, ex, eb, q2⟩ => pairTrees_nil_walk ?_)
  subst ex
  obtain rfl : u = Value.ref b := rx
  obtain ⟨z, hd, xs, rel, dd⟩ := dt_of I3.hok e0
  cases rel
  refine ⟨[(ks, b, w)], ⟨rfl, rfl, key_of I3.hok eb, trivial⟩, dd, fun h' tk' dd' hs => wpAny_pure ⟨.ref s.heap.objs.size, _, ?_, rfl, q2⟩⟩
  have est : storedAllH [] [(ks, b, w)] = [(ks, b, w)] := by
    refine storedAllH_nil_of_nodup _ ?_
    simp
  rw [est] at dd'
  obtain ⟨qo, es, ep, hq, h2, h3, h4, _, h5⟩ := dd'
  refine d_write I3 (by rw [e0]; exact True.intro) hs ⟨qo, hq⟩ ⟨by show 1 ≤ sizeLine; rw [sizeLine_eq]; decide, hd, _, .cons ⟨rfl, ?_, ry⟩ .nil, qo, es, ep, hq, h2, h3, h4, h5⟩
  show upd H2 s.heap.objs.size _ b = _
  rw [upd_ne (ne_of eb e0 (fun z => nomatch z))]
  exact eb
section
variable {W : Wd} {P : Pg} {T : Tb} {n : Nat} {N : List Str} {C : Cx} {sc : Scope} {Ex : WX}
variable {a b l : E} {x y z tg : Expr} {as : List Expr} {pos p p' pos' : Pos}
theorem kept_at {F F1 : Hp} {m m1 : List Addr} {H H1 : Hp} {p : Addr} {o : HO} (a : Xt F m H F1 m1 H1) (hF : F p = none) (hm : p ∉ m) (h : H p = some o) (mu : Mut (some o)) (nt : NoTbl o) : H1 p = some o ∧ F1 p = none ∧ p ∉ m1 := by
  refine ⟨a.hx p _ h hm nt, ?_, ?_⟩
  · cases e : F1 p with
    | none => rfl
    | some u =>
      rcases a.nx p u e with q | q
      · rw [hF] at q; cases q
      · exact (q.no h mu).elim
  · obtain ⟨l6, e6, n6⟩ := a.mx
    rw [e6]
    intro z
    rcases List.mem_append.mp z with z | z
    · exact hm z
    · rw [n6 _ z] at h; cases h
/-- .. the wish held at an earlier state -/
theorem tE_bindO {X : Fx} {σ : L2.St} {r : En} {c : E} {β : Type} {ex : Value → Option Addr → Hp → Prop} {K : Mem → β → Hp → List Addr → Hp → Prop} {f : Mem → D → R β} {F0 F : Hp} {m0 m : List Addr} {H0 H : Hp} {M : Mem} {Q : VK} (a0 : Xt F0 m0 H0 F m H) (R : Rl W F m H M σ r) (he : ∀ cls dd H', ex cls dd H' → Ex cls dd σ H') (h : EQ W F0 m0 H0 ex K ((ev X c M r).bind f))
    (k : ∀ M1 d F1 m1 H1 v, Rl W F1 m1 H1 M1 σ r → Xt F m H F1 m1 H1 → Rp W F1 m1 v d → EQ W F0 m0 H0 ex K (f M1 d) → Q v H1) : tE W X Ex c σ H Q :=
  ⟨F, m, M, r, R, by
    cases hx : ev X c M r with
    | st => rw [hx] at h; exact h.elim
    | er M k fs => rw [hx] at h; exact fun F' m' H' cls dd b r1 er => he _ _ _ (h F' m' H' cls dd (a0.trans b) r1 er)
    | ok M1 d => rw [hx] at h; exact fun F1 m1 H1 b r1 v rv => k M1 d F1 m1 H1 v (R.step b r1) b rv h⟩
theorem ok_d1T {X : Fx} (c : Ct W P T n N C sc Ex) (hk : PE C x (tE W X Ex a)) (hv : PE C y (tE W X Ex b)) : PE C (.Dict [some x] [y] pos) (tO W X Ex (.ds1 false true a b)) :=
  (pe_d1T (by have := c.room.un; omega) hk hv).wk fun σ H Q ⟨F, m, M, r, R, q⟩ p hp => by
    obtain ⟨n1, n2⟩ := R.mr.none_of hp
    obtain ⟨R1, x1⟩ := R.mr.own (o := .dT []) hp
    refine tE_bindO x1 (R.step x1 R1) (fun _ _ _ h => h) q fun M1 d F1 m1 H1 v R2 a1 rv h1 => tE_bindO (x1.trans a1) R2 (fun _ _ _ h => h) h1 fun M2 e F2 m2 H2 w R3 a2 rw2 h2 => ?_
    rw [if_pos rfl] at h2
    obtain ⟨dd, e1, k2⟩ := EQ.opt h2
    obtain ⟨ks, e2, rfl⟩ := Option.map_eq_some_iff.mp e1
    have a12 := a1.trans a2
    obtain ⟨g1, g2, g3⟩ := kept_at a12 n1 n2 upd_same trivial (fun _ z => by cases z)
    obtain ⟨bb, eb, hb, hb2, hl, hg⟩ := tk_of R3.mr.sub (rv.xt a2) e2
    refine ⟨g1, bb, ks.map kyK, eb, hb, ?_⟩
    have pl : Pln H2 p := fun u e => by rw [g1] at e; cases e; exact ⟨fun _ z => (by cases z), fun _ z => (by cases z)⟩
    refine k2 F2 m2 _ ((x1.trans a12).updD hp) (R3.mr.updD pl g2 g3) p g2 g3 hp ⟨rfl, [(ks.map kyK, w)], upd_same, rfl, fun k hk => ?_, .cons rw2 .nil, by show 1 ≤ 16777216; decide⟩
    rw [List.mem_singleton.mp hk]
    exact ⟨hl, hg⟩
theorem ok_d1K {X : Fx} (hk : PE C x (tE W X Ex a)) (hv : PE C y (tE W X Ex b)) : PE C (.Dict [some x] [y] pos) (tO W X Ex (.ds1 false false a b)) :=
  (pe_disp (pps_cons hk hv pps_nil) rfl rfl (by intro z; cases z) (by show 1 ≤ 15; decide)).wk fun σ H Q ⟨F, m, M, r, R, q⟩ p hp => by
    obtain ⟨n1, n2⟩ := R.mr.none_of hp
    obtain ⟨R1, x1⟩ := R.mr.own (o := .dK []) hp
    refine tE_bindO x1 (R.step x1 R1) (fun _ _ _ h => h) q fun M1 d F1 m1 H1 v R2 a1 rv h1 => tE_bindO (x1.trans a1) R2 (fun _ _ _ h => h) h1 fun M2 e F2 m2 H2 w R3 a2 rw2 h2 => ?_
    rw [if_neg (by decide)] at h2
    obtain ⟨dd, e1, k2⟩ := EQ.opt h2
    obtain ⟨ky, e2, rfl⟩ := Option.map_eq_some_iff.mp e1
    have a12 := a1.trans a2
    obtain ⟨g1, g2, g3⟩ := kept_at a12 n1 n2 upd_same trivial (fun _ z => by cases z)
    obtain ⟨ev1, hg⟩ := ky_of (rv.xt a2) e2
    refine ⟨g1, [(kyK ky, w)], by rw [ev1]; rfl, by show 1 ≤ 15; decide, ?_⟩
    have pl : Pln H2 p := fun u e => by rw [g1] at e; cases e; exact ⟨fun _ z => (by cases z), fun _ z => (by cases z)⟩
    refine k2 F2 m2 _ ((x1.trans a12).updD hp) (R3.mr.updD pl g2 g3) p g2 g3 hp ⟨rfl, [(kyK ky, w)], upd_same, rfl, fun k hk => ?_, .cons rw2 .nil, by show 1 ≤ 16777216; decide⟩
    rw [List.mem_singleton.mp hk]
    exact hg
theorem call_dict_copyT {prog : Program} {w : World} {A : Around} {E : Value → Shared → Prop} {s : Shared} {o : Addr} {more : List (List Key × Addr × Value)} {Q : Value → Shared → Prop} (hu : A.units + 2 < cLine) (hoS : (o == sysModules) = false)
    (ho : s.heap.DictOfH (tupleKind (mixKind prog w)) o more) (hty : ∀ x ∈ more, s.TypeIs (.ref x.2.1) "tuple") (hap : (more.map fun x => (tupleKind (mixKind prog w)).hash x.1).Nodup) (hsz : more.length ≤ sizeLine)
    (h : ∀ h', h'.DictOfH (tupleKind (mixKind prog w)) s.heap.objs.size more → (∀ b ob, s.heap.get? b = some ob → h'.get? b = some ob) → Q (.ref s.heap.objs.size) { s with heap := h' }) : wpAny (model prog w) A (call (.type "dict") [.ref o]) Q E s := by
  refine callType_codes (Q₁ := fun obj s₁ => obj = .ref s.heap.objs.size ∧ s₁ = { s with heap := s.heap.push { cls := .type "dict", data := .dict #[] } }) PySem.F.kt_called_dict (PySem.F.kt_typeCall_dict_1 _) PySem.F.entry_dict_init (kt_code_dict_new _ ⟨rfl, rfl⟩) ?_
  rintro obj s₁ ⟨rfl, rfl⟩
  have hnew : (s.heap.push { cls := .type "dict", data := .dict #[] }).DictOfH (tupleKind (mixKind prog w)) s.heap.objs.size [] := Heap.DictOfH.new s.heap
  have k0 : ∀ b o, s.heap.get? b = some o → (s.heap.push { cls := .type "dict", data := .dict #[] }).get? b = some o := fun b o e => Heap.get?_push_of_some _ e
  refine ⟨hnew.typeIs, PySem.F.args_dict_init_2 _ _, ?_⟩
  unfold Builtin.«dict.__init__»
  refine wpAny_bind ?_
  unfold Builtin.Dict.selfAndRest
  refine wpAny_bind (wpAny_notOrdered_dict hnew.typeIs ?_)
  show wpAny _ _ (pure (s.heap.objs.size, [Value.ref o])) _ _ _
  refine wpAny_pure ?_
  have lt : o < s.heap.objs.size := by
    obtain ⟨ob, _, _, e, _⟩ := ho
    exact Heap.lt_size e
  have ho2 : (s.heap.push { cls := .type "dict", data := .dict #[] }).DictOfH (tupleKind (mixKind prog w)) o more := by
    obtain ⟨ob, es, ep, e1, e2, e3, e4, e5, e6⟩ := ho
    exact ⟨ob, es, ep, k0 _ _ e1, e2, e3, e4, fun x hx => by
      obtain ⟨o2, it, n2, q1, q2⟩ := e5 x hx
      exact ⟨o2, it, n2, k0 _ _ q1, q2⟩, e6⟩
  have hmn := ho.nodup
  refine updateFrom_dictH (knd := tupleKind (mixKind prog w)) (kvs := []) (more := more) .none (by show A.units + 1 + 1 < cLine; omega) (Nat.ne_of_gt lt) hoS hnew ho2 (.inr ⟨fun x hx => ?_, hap⟩) (by simpa using hsz) fun h' hd' _ hs => ?_
  · obtain ⟨ob, e, t⟩ := hty x hx
    exact ⟨ob, k0 _ _ e, t⟩
  · rw [storedAllH_nil_of_nodup more hmn] at hd'
    exact ⟨rfl, h h' hd' fun b ob e => (hs.2 b (Nat.ne_of_lt (Heap.lt_size e))).trans (k0 _ _ e)⟩
theorem kt_keys {H : Hp} {kvs : List (List Key × V)} {xs : List (List Key × Addr × Value)} (r : KT H kvs xs) : xs.map (·.1) = kvs.map (·.1) := by
  unfold KT at r
  induction r with
  | nil => rfl
  | @cons p q ps qs h t ih => rw [List.map_cons, List.map_cons, ih, h.1]
theorem kt_tup {P : Program} {w : World} {H : Hp} {s : Shared} {kvs : List (List Key × V)} {xs : List (List Key × Addr × Value)} (ok : HOk P w H s.heap) (r : KT H kvs xs) : ∀ x ∈ xs, s.TypeIs (.ref x.2.1) "tuple" := by
  unfold KT at r
  induction r with
  | nil => intro x hx; cases hx
  | @cons p q ps qs h t ih =>
    intro x hx
    rcases List.mem_cons.mp hx with rfl | hx
    · obtain ⟨_, its, rv, ob, e, c, _⟩ := (show ObjOk P w H s.heap x.2.1 (.tup (p.1.map kV)) from ok _ _ h.2.1)
      exact ⟨ob, e, c⟩
    · exact ih x hx
theorem call_dictT (hu : C.A.units + 2 < cLine) : CallR C (.type "dict") (fun xs H Q => ∃ d kvs, xs = [V.ref d] ∧ Rd H d (.dT kvs) ∧ ((kvs.map (·.1)).map (tupleKeyHash (mixKind C.prog C.w))).Nodup ∧ ∀ p, H p = none → Q (.ref p) (upd H p (.dT kvs))) := by
  intro pins s σ H xs us Q I r h
  obtain ⟨d, kvs, rfl, hd, hap, q⟩ := h
  obtain ⟨u, rfl, rx⟩ := r.one
  obtain rfl : u = Value.ref d := rx
  obtain ⟨z, hs, xs, rel, dd⟩ := dt_rd I.hok hd
  have hl : kvs.length = xs.length := Paired.length rel
  refine call_dict_copyT hu hs dd (kt_tup I.hok rel) ?_ (by rw [← hl]; exact z) fun h' dd' hk => ?_
  · rw [← kt_keys rel, List.map_map] at hap
    exact hap
  · have hfr := I.hok.fresh (Nat.le_refl s.heap.objs.size)
    obtain ⟨qo, es, ep, hq, h2, h3, h4, _, h5⟩ := dd'
    refine ⟨.ref s.heap.objs.size, _, I.laid (t' := s.toks) (a := s.heap.objs.size) (o := .dT kvs) hk (Nat.le_refl _) ⟨z, ?_, xs, rel.keeps fun b ys e => ?_, qo, es, ep, hq, h2, h3, h4, h5⟩, rfl, q _ hfr⟩
    · exact beq_eq_false_iff_ne.mpr (Ne.symm (Nat.ne_of_lt I.big))
    · rw [upd_ne (ne_of_none e hfr)]; exact e
theorem hsh_of {P : Program} {w : World} {k : List Ky} (h : (k.all fun y => y.isLeft) = true) : tupleKeyHash (mixKind P w) (k.map kyK) = hshK k := by
  unfold tupleKeyHash hshK
  congr 2
  rw [List.map_map]
  refine List.map_congr_left fun y hy => ?_
  have := List.all_eq_true.mp h y hy
  cases y with
  | inl i => rfl
  | inr s => cases this
theorem hsh_nodup {P : Program} {w : World} {ks : List (List Ky)} (h : hshOk ks = true) : ((ks.map (·.map kyK)).map (tupleKeyHash (mixKind P w))).Nodup := by
  unfold hshOk at h
  rw [Bool.and_eq_true, decide_eq_true_eq] at h
  have e : (ks.map (·.map kyK)).map (tupleKeyHash (mixKind P w)) = ks.map hshK := by
    rw [List.map_map]
    refine List.map_congr_left fun k hk => ?_
    exact hsh_of (List.all_eq_true.mp h.1 k hk)
  rw [e]; exact h.2
theorem ok_dcp {X : Fx} (c : Ct W P T n N C sc Ex) (hb : ("dict" : Str) ∈ T.blt) (hg : glB sc ("dict" : Str) = true) (hs : notStar x = true) (ha : PE C x (tE W X Ex a)) :
    PE C (.Call (.Name "dict" p) [x] [] pos) (tO W X Ex (.dcp false a)) := by
  refine (pe_callTy (call_dictT (by have := c.room.un; omega)) (c.so.gl _ hg) (c.g.blt _ hb) (by decide +kernel) (pa_cons ha pa_nil (star_cons hs)) (by decide) (by decide) (star_cons hs) rfl).wk fun σ H Q ⟨F, m, M, r, R, q⟩ => ?_
  refine tE_bindO (Xt.refl _ _ _) R (fun _ _ _ h => h) q fun M1 d F1 m1 H1 v R1 a1 rv h1 => ?_
  cases d <;> first | exact h1.elim | skip
  rename_i l ks ds
  dsimp only at h1
  split at h1
  · rename_i hh
    cases rv with
    | dt h hk hgd rr hl =>
      refine ⟨_, _, rfl, h.rd R1.mr.sub, by rw [hk]; exact hsh_nodup hh, fun p0 hp => ?_⟩
      obtain ⟨nF, nm⟩ := R1.mr.none_of hp
      obtain ⟨R2, x2⟩ := R1.mr.own (o := .dT _) hp
      have h0 : H p0 = none := by
        cases e : H p0 with
        | none => rfl
        | some u => exact absurd hp (a1.dx p0 (by rw [e]; exact fun z => by cases z))
      exact h1 F1 m1 _ (a1.trans x2) R2 p0 nF nm h0 ⟨rfl, _, upd_same, hk, hgd, rr, hl⟩
  · exact h1.elim
end
end Oc
namespace Oc
open L2 PySem PySem.Spec PyProof.Rows
section
variable {prog : Program} {w : World} {A : Around} {s : Shared} {mg : Str → Option Value} {E : Value → Shared → Prop}
/-- what a block's names lean on -/
structure Grd (mg : Str → Option Value) (h : Heap) : Prop where
  g : h.Ns mainGlobals mg
  b : ∃ mb, h.Ns builtinsNs mb ∧ ∀ x : Str, x ≠ "__name__" → mb x = bootBuiltins x
theorem Grd.keeps {h h' : Heap} (G : Grd mg h) (k : ∀ b o, h.get? b = some o → h'.get? b = some o) : Grd mg h' :=
  ⟨G.g.keeps k, let ⟨mb, h1, h2⟩ := G.b; ⟨mb, h1.keeps k, h2⟩⟩
theorem boot_abs : bootBuiltins "abs" = some (.builtin "abs") := by decide +kernel
theorem boot_sum : bootBuiltins "sum" = some (.builtin "sum") := by decide +kernel
/-- abs(x), x a name of the block -/
theorem abs_name {cenv : Env} {m : Str → Option Value} {x : Str} {i : Int} {t : Tok} {p1 p2 p3 : Pos} (G : Grd mg s.heap) (ha : mg "abs" = none) (hk : cenv.scope.kind = .function) (hg : cenv.kindOf "abs" = some .globalImplicit) (hl : cenv.kindOf x = some .local) (eg : cenv.globals = mainGlobals) (eb : cenv.builtins = builtinsNs)
    (hn : s.heap.Ns cenv.locals m) (hm : m x = some (.int i t)) (hd : (x == ("__debug__" : Str)) = false) :
    wpAny (model prog w) A (eval (.Call (.Name "abs" p1) [.Name x p2] [] p3) cenv) (fun y s' => (∃ u, y = .int (absI i) u) ∧ Keeps s s') E s := by
  obtain ⟨mb, h1, h2⟩ := G.b
  refine wpAny_Call_NameR (Calls.Name_function_global hk hg (Calls.loadGlobal_builtin (by rw [eg]; exact G.g) ha (by rw [eb]; exact h1) ((h2 "abs" (by decide)).trans boot_abs) ?_))
  refine callWith_builtin1 (rest := []) ?_
  refine Calls.spliced_cons (wpAny_Name (wpAny_loadName_local hk hl hn hm (Calls.spliced_nil (call_abs_int fun u tk => ?_))) hd)
  exact ⟨⟨u, rfl⟩, _, _, rfl, fun b o e => e⟩
theorem preSum_of {val : Nat → Int} : ∀ {ns : List Int} {d : Nat}, (∀ i n, ns[i]? = some n → val (d + i) = n) → preSum val (d + ns.length) = preSum val d + ns.sum
  | [], d, _ => by simp
  | n :: ns, d, h => by
    have h0 : val d = n := by simpa using h 0 n rfl
    have ih := preSum_of (ns := ns) (d := d + 1) (val := val) fun i k e => by
      have := h (i + 1) k (by simpa using e)
      rw [← this]; congr 1; omega
    rw [List.length_cons, show d + (ns.length + 1) = d + 1 + ns.length by omega, ih, List.sum_cons]
    show preSum val d + val d + ns.sum = _
    rw [h0]; omega
/-- sum(ys), ys a list of ints -/
theorem sum_list {l : Addr} {ys : Array Value} {ns : List Int} {Q : Value → Shared → Prop} (hh : A.handled = none) (hl : s.heap.IsList l ys) (hi : IntsAre ys.toList ns)
    (h : ∀ h' tk t, (∀ b o, s.heap.get? b = some o → h'.get? b = some o) → Q (.int ns.sum t) { s with heap := h', toks := tk }) : wpAny (model prog w) A (call (.builtin "sum") [.ref l]) Q E s := by
  refine call_sum_walkG (wpAny_pyIter_list hl ?_)
  obtain ⟨o, ho, hr⟩ := id hl
  have hlt : l < s.heap.objs.size := Heap.lt_size ho
  refine ⟨s.heap.objs.size, _, _, _, _, _, fun i => (ns[i]?).getD 0, rfl, Walks.list (A := A.in1) (show A.in1.handled = none from hh) _ l (Nat.ne_of_lt hlt) ys, ⟨⟨_, Heap.get?_push_size _ rfl, rfl, rfl⟩, ⟨o, Heap.get?_push_of_some _ ho, hr⟩⟩, ?_, ?_, ?_⟩
  · intro b hb
    simp only [List.mem_cons, List.not_mem_nil, or_false] at hb
    show b < (s.heap.push _).objs.size
    rw [Heap.size_push]
    rcases hb with rfl | rfl
    · exact Nat.lt_succ_self _
    · exact Nat.lt_succ_of_lt hlt
  · intro i v hv
    have key : ∀ {us : List Value} {ms : List Int} {i : Nat} {v : Value}, IntsAre us ms → us[i]? = some v → ∃ t, v = .int ((ms[i]?).getD 0) t := by
      intro us ms i v r
      induction r generalizing i with
      | nil => intro z; simp at z
      | cons n t r ih =>
        cases i with
        | zero => intro z; simp at z; exact ⟨t, z.symm⟩
        | succ i => intro z; simpa using ih (by simpa using z)
    exact key hi (by rw [Array.getElem?_toList]; exact hv)
  · intro h' tk t' k
    have e : preSum (fun i => (ns[i]?).getD 0) ys.size = ns.sum := by
      have := preSum_of (val := fun i => (ns[i]?).getD 0) (ns := ns) (d := 0) fun i n e => by simp [e]
      rw [Nat.zero_add, show preSum (fun i => (ns[i]?).getD 0) 0 = 0 from rfl, Int.zero_add] at this
      rw [show ys.size = ns.length by rw [← hi.length, Array.length_toList]]
      exact this
    rw [e]
    refine h h' tk t' fun b o q => k b o (fun z => ?_) (Heap.get?_push_of_some _ q)
    simp only [List.mem_cons, List.not_mem_nil, or_false] at z
    rw [z] at q
    exact Nat.lt_irrefl _ (Heap.lt_size q)
/-- [abs(y) for y in x], x a tuple of ints -/
theorem abs_comp {env : Env} {m : Str → Option Value} {x y : Str} {p : Addr} {items : Array Value} {ws : List Int} {scope : Scope} {p1 p2 p3 p4 p5 p6 : Pos} {Q : Value → Shared → Prop} (hh : A.handled = none) (G : Grd mg s.heap) (ha : mg "abs" = none)
    (hk : env.scope.kind = .function) (hl : env.kindOf x = some .local) (eg : env.globals = mainGlobals) (eb : env.builtins = builtinsNs) (hn : s.heap.Ns env.locals m) (hm : m x = some (.ref p)) (hd : (x == ("__debug__" : Str)) = false)
    (ht : s.heap.IsTuple p items) (hi : IntsAre items.toList ws) (hz : items.size ≤ sizeLine)
    (hclos : closureFor scope env = pure []) (hcell : ∀ z ∈ scope.names, z.2 ≠ .cell) (hkind : scope.kind = .function) (hnames : ∀ z ∈ scope.names, z.2 = .local → scope.names.lookup z.1 = some .local) (hy : scope.names.lookup y = some .local) (hab : scope.names.lookup ("abs" : Str) = some .globalImplicit) (hdy : (y == ("__debug__" : Str)) = false)
    (h : ∀ D h' tk ys, (∀ b o, s.heap.get? b = some o → h'.get? b = some o) → h'.IsList D ys → IntsAre ys.toList (ws.map absI) → Q (.ref D) { s with heap := h', toks := tk }) :
    wpAny (model prog w) A (eval (.ListComp (.Call (.Name "abs" p1) [.Name y p2] [] p3) [⟨.Name y p4, .Name x p5, [], 0⟩] scope p6) env) Q E s := by
  refine wpAny_ListComp_free (fun _ => true) (fun v y => ∃ i t u, v = .int i t ∧ y = .int (absI i) u) hclos hcell hkind hnames hy ?_
  refine wpAny_Name (wpAny_loadName_local hk hl hn hm (wpAny_pyIter_tuple ht ?_)) hd
  obtain ⟨o, ho, hr⟩ := id ht
  have hlt : p < s.heap.objs.size := Heap.lt_size ho
  have hin : ∀ i v, items[i]? = some v → ∃ n t, ws[i]? = some n ∧ v = Value.int n t := fun i v hv => by
    have key : ∀ {us : List Value} {ms : List Int} {i : Nat} {v : Value}, IntsAre us ms → us[i]? = some v → ∃ n t, ms[i]? = some n ∧ v = Value.int n t := by
      intro us ms i v r
      induction r generalizing i with
      | nil => intro z; simp at z
      | cons n t r ih =>
        cases i with
        | zero => intro z; simp at z; exact ⟨n, t, rfl, z.symm⟩
        | succ i => intro z; simpa using ih (by simpa using z)
    exact key hi (by rw [Array.getElem?_toList]; exact hv)
  refine ⟨s.heap.objs.size, _, _, _, _, _, rfl, Walks.tuple hh _ p (Nat.ne_of_lt hlt) items, hz, ⟨⟨_, Heap.get?_push_size _ rfl, rfl, rfl⟩, ⟨o, Heap.get?_push_of_some _ ho, hr⟩⟩, ?_, ⟨?_, ?_⟩, ?_⟩
  · intro b hb
    simp only [List.mem_cons, List.not_mem_nil, or_false] at hb
    show b < (s.heap.push _).objs.size
    rw [Heap.size_push]
    rcases hb with rfl | rfl
    · exact Nat.lt_succ_self _
    · exact Nat.lt_succ_of_lt hlt
  · intro C i v s3 m3 E' _ _ _ _ _ _
    exact wpAny_pure ⟨rfl, _, _, rfl, fun b o e => e⟩
  · intro C i v s3 m3 E' hC hv _ hn3 hm3 hk3 _
    obtain ⟨n, t, _, rfl⟩ := hin i v hv
    have old : ∀ b o, s.heap.get? b = some o → s3.heap.get? b = some o := fun b o q => hk3 b o (fun z => by
      simp only [List.mem_cons, List.not_mem_nil, or_false] at z
      rw [z] at q
      exact Nat.lt_irrefl _ (Heap.lt_size q)) (Heap.get?_push_of_some _ q)
    have k1 : (compEnvC scope [] C env).scope.names.lookup ("abs" : Str) = some .globalImplicit := blk_lookup (cl := []) (c0 := C) (env := env) hab
    have k2 : (compEnvC scope [] C env).scope.names.lookup y = some .local := blk_lookup (cl := []) (c0 := C) (env := env) hy
    exact wpAny_mono (abs_name (cenv := compEnvC scope [] C env) (G.keeps old) ha hkind k1 k2 eg eb hn3 hm3 hdy) (fun y s4 ⟨⟨u, e⟩, k⟩ => ⟨⟨n, t, u, rfl, e⟩, k⟩) fun _ _ z => z
  · intro D h' tk ys vs _ hlD _ hlen hP hF hk
    refine h D h' tk ys (fun b o q => hk b o (fun z => by
      simp only [List.mem_cons, List.not_mem_nil, or_false] at z
      rw [z] at q
      exact Nat.lt_irrefl _ (Heap.lt_size q)) (Heap.get?_push_of_some _ q)) hlD ?_
    have ev : vs = items.toList := List.ext_getElem? fun j => by
      cases e : vs[j]? with
      | some v => rw [Array.getElem?_toList]; exact (hP j v e).symm
      | none =>
        have : items.toList.length ≤ j := by
          have := List.getElem?_eq_none_iff.mp e
          rw [Array.length_toList]; omega
        rw [List.getElem?_eq_none_iff.mpr this]
    rw [ev] at hF
    have hF2 : Paired (fun v y => ∃ i t u, v = Value.int i t ∧ y = .int (absI i) u) items.toList ys.toList := by
      have e : items.toList.filter (fun _ => true) = items.toList := by simp
      rw [e] at hF; exact hF
    have key : ∀ {us zs : List Value} {ms : List Int}, IntsAre us ms → Paired (fun v y => ∃ i t u, v = Value.int i t ∧ y = .int (absI i) u) us zs → IntsAre zs (ms.map absI) := by
      intro us zs ms r
      induction r generalizing zs with
      | nil => intro q; cases q; exact .nil
      | cons n t r ih =>
        intro q
        cases q with
        | cons a b =>
          obtain ⟨i, t2, u, e1, rfl⟩ := a
          cases e1
          exact .cons _ _ (ih b)
    exact key hi hF2
theorem reads_ints {h : Heap} : ∀ {us : List Value} {ws : List Int}, IntsAre us ws → ReadsAll h us (ws.map PyData.int) []
  | _, _, .nil => .nil
  | _, _, .cons n t r => by
    have q := ReadsAll.cons (Reads.int (h := h) n t) (reads_ints r)
    simpa using q
theorem reads_tupI {h : Heap} {p : Addr} {items : Array Value} {ws : List Int} (ht : h.IsTuple p items) (hi : IntsAre items.toList ws) : Reads h (.ref p) (.tuple (ws.map PyData.int)) [] := by
  obtain ⟨o, ho, hc, n, hd⟩ := ht
  exact .tuple ho hc hd (reads_ints hi)
abbrev lamB (x y : Str) (p0 p1 p2 p3 p4 p5 p6 p7 p8 p9 : Pos) (k : Nat) (sc : Scope) : Expr := .Tuple [.Call (.Name "sum" p0) [.ListComp (.Call (.Name "abs" p1) [.Name y p2] [] p3) [⟨.Name y p4, .Name x p5, [], 0⟩] sc p6] [] p7, .Name x p8] k p9
/-- a call of lambda x: (sum([abs(y) for y in x]), x), x a tuple of ints -/
theorem key_turn {f c' : Addr} {x y : Str} {qual : Str} {params : Arguments} {scope sc : Scope} {pm ctv : Value} {p0 p1 p2 p3 p4 p5 p6 p7 p8 p9 : Pos} {k : Nat} {p : Addr} {items : Array Value} {ws : List Int} (hroom : A.depth < recursionLimit) (hh : A.handled = none)
    (hf : s.heap.get? f = some (PySem.W.kla_obj "<lambda>" qual params (lamB x y p0 p1 p2 p3 p4 p5 p6 p7 p8 p9 k sc) scope [] pm c' ctv)) (hcd : s.heap.CodeRec (.ref c') qual) (G : Grd mg s.heap) (lim : s.heap.NoLimit) (hs : mg "sum" = none) (ha : mg "abs" = none)
    (hb : bindArgs (PySem.W.kla_fn "<lambda>" qual params (lamB x y p0 p1 p2 p3 p4 p5 p6 p7 p8 p9 k sc) scope [] pm (.ref c') ctv) ⟨[.ref p], []⟩ = pure [(x, .ref p)])
    (hco : scope.isCoroutine = false) (hgen : scope.isGenerator = false) (hk : scope.kind = .function) (hcl : ∀ z ∈ scope.names, z.2 ≠ .cell) (hx : scope.names.lookup x = some .local) (hsm : scope.names.lookup ("sum" : Str) = some .globalImplicit) (hd : (x == ("__debug__" : Str)) = false)
    (hclos : sc.names.all (fun z => z.2 != .free) = true) (hcell : ∀ z ∈ sc.names, z.2 ≠ .cell) (hkind : sc.kind = .function) (hnames : ∀ z ∈ sc.names, z.2 = .local → sc.names.lookup z.1 = some .local) (hy : sc.names.lookup y = some .local) (hab : sc.names.lookup ("abs" : Str) = some .globalImplicit) (hdy : (y == ("__debug__" : Str)) = false)
    (ht : s.heap.IsTuple p items) (hi : IntsAre items.toList ws) (hz : items.size ≤ sizeLine) :
    wpAny (model prog w) A (call (.ref f) [.ref p]) (PySem.W.KeyPure (.tuple [.int (ws.map absI).sum, .tuple (ws.map PyData.int)]) s) (fun _ _ => False) s := by
  refine wpAny_call (PySem.W.kla_callFunE hroom hf rfl hco hgen rfl hcd ?_)
  rw [hb]
  refine wpAny_pure (wpAny_newFunctionEnv hcl (fun z hz => ?_) (fun h₁ hns hsb => ⟨lim.fresh _ hsb, ?_⟩) hk)
  · simp only [List.mem_cons, List.not_mem_nil, or_false] at hz
    subst hz; exact hx
  · show codeAny _ _ (.expr _ (PySem.W.envX qual scope s.heap.objs.size f (.ref c') [])) _ _
    have kp : ∀ b o, s.heap.get? b = some o → h₁.get? b = some o := fun b o e => hsb.extBut b o (Nat.ne_of_lt (Heap.lt_size e)) (Heap.get?_push_of_some _ e)
    have G1 := G.keeps kp
    obtain ⟨mb, b1, b2⟩ := G1.b
    have ht1 : h₁.IsTuple p items := ht.at fun o e => kp _ o e
    have hcz : closureFor sc (PySem.W.envX qual scope s.heap.objs.size f (.ref c') []) = pure [] := by
      have key : ∀ (l : List (Str × NameKind)) (cs : List (Str × Addr)), l.all (fun z => z.2 != .free) = true → (forIn l cs fun (x : Str × NameKind) (r : List (Str × Addr)) => (do
          if x.2 == NameKind.free then do
            let a ← cellOf (PySem.W.envX qual scope s.heap.objs.size f (.ref c') []) x.1
            pure (ForInStep.yield ((x.1, a) :: r))
          else pure (ForInStep.yield r) : Sem (ForInStep (List (Str × Addr))))) = pure cs := by
        intro l
        induction l with
        | nil => intro cs _; rfl
        | cons z l ih =>
          intro cs h
          simp only [List.all_cons, Bool.and_eq_true, bne_iff_ne, ne_eq] at h
          rw [List.forIn_cons]
          have : (z.2 == NameKind.free) = false := by simpa using h.1
          simp only [this, Bool.false_eq_true, if_false, pure_bind]
          exact ih cs h.2
      have := key sc.names [] hclos
      unfold closureFor
      first
        | (simp only [bind_pure]; exact this)
        | (rw [this]; rfl)
        | (simp only [this, pure_bind])
    refine PySem.W.kla_codeExpr (wpAny_Tuple (Calls.spliced_cons ?_))
    refine wpAny_Call_NameR (Calls.Name_function_global hk hsm (Calls.loadGlobal_builtin (mg := mg) (mb := mb) G1.g hs b1 ((b2 "sum" (by decide)).trans boot_sum) ?_))
    refine callWith_builtin1 (rest := []) (Calls.spliced_cons ?_)
    refine abs_comp (m := fun z => [(x, Value.ref p)].reverse.lookup z) hh G1 ha hk hx rfl rfl hns (by simp) hd ht1 hi hz hcz hcell hkind hnames hy hab hdy fun D h2 tk2 ys k2 hD hY => ?_
    refine Calls.spliced_nil (sum_list hh hD hY fun h3 tk3 t3 k3 => ?_)
    have ns3 := (hns.keeps k2).keeps k3
    refine Calls.spliced_cons (wpAny_Name (wpAny_loadName_local (m := fun z => [(x, Value.ref p)].reverse.lookup z) (v := Value.ref p) hk hx ns3 (by simp) (Calls.spliced_nil ⟨by show 2 ≤ sizeLine; rw [sizeLine_eq]; decide, ?_⟩)) hd)
    refine ⟨_, _, rfl, fun b o e => Heap.get?_push_of_some _ (k3 b o (k2 b o (kp b o e))), ?_⟩
    have hp := reads_tupI (h := h3.push { cls := .type "tuple", data := .seq [Value.int (ws.map absI).sum t3, Value.ref p].toArray }) (ht1.at fun o e => Heap.get?_push_of_some _ (k3 _ o (k2 _ o e))) hi
    have q := ReadsAll.cons (Reads.int (h := h3.push { cls := .type "tuple", data := .seq [Value.int (ws.map absI).sum t3, Value.ref p].toArray }) (ws.map absI).sum t3) (ReadsAll.cons hp .nil)
    exact .tuple (Heap.get?_push_size _ rfl) rfl rfl (by simpa using q)
end
section
variable {W : Wd} {P : Pg} {T : Tb} {n : Nat} {N : List Str} {C : Cx} {sc : Scope} {Ex : WX} {X : Fx}
theorem lamSc_ok {sc : Scope} (h : lamSc sc = true) : sc.kind = .function ∧ sc.isCoroutine = false ∧ sc.isGenerator = false ∧ (∀ z ∈ sc.names, z.2 ≠ .free) ∧ (∀ z ∈ sc.names, z.2 ≠ .cell) := by
  unfold lamSc at h
  simp only [Bool.and_eq_true, Bool.not_eq_true'] at h
  obtain ⟨⟨⟨h1, h2⟩, h3⟩, h4⟩ := h
  refine ⟨?_, h2, h3, fun z hz e => ?_, fun z hz e => ?_⟩
  · split at h1
    · assumption
    · cases h1
  · have := List.all_eq_true.mp h4 z hz
    rw [e] at this; cases this
  · have := List.all_eq_true.mp h4 z hz
    rw [e] at this; cases this
theorem locOnce_ok {sc : Scope} (h : locOnce sc = true) : ∀ z ∈ sc.names, z.2 = .local → sc.names.lookup z.1 = some .local := fun z hz e => by
  have := List.all_eq_true.mp h z hz
  rw [e] at this
  simpa using this
theorem gl_look {sc : Scope} {x : Str} (h : glB sc x = true) : sc.names.lookup x = some .globalImplicit := by
  unfold glB at h; split at h
  · assumption
  · cases h
theorem lcl_look {sc : Scope} {x : Str} (h : lclB sc x = true) : sc.names.lookup x = some .local := by
  unfold lclB at h; split at h
  · assumption
  · cases h
theorem par1_ok {a : Arguments} (h : par1 ("weights" : Str) a = true) : ∃ p, a = { posonlyargs := [], args := [⟨"weights", none, p⟩], vararg := none, kwonlyargs := [], kw_defaults := [], kwarg := none, defaults := [] } := by
  obtain ⟨a1, a2, a3, a4, a5, a6, a7⟩ := a
  unfold par1 at h
  simp only [Bool.and_eq_true, List.isEmpty_iff, Option.isNone_iff_eq_none] at h
  obtain ⟨⟨⟨⟨⟨⟨h1, h2⟩, h3⟩, h4⟩, h5⟩, h6⟩, h7⟩ := h
  subst h1; subst h2; subst h3; subst h4; subst h5; subst h6
  split at h7
  · rename_i y
    simp only [Bool.and_eq_true, decide_eq_true_eq, Option.isNone_iff_eq_none] at h7
    obtain ⟨e1, e2⟩ := h7
    refine ⟨y.pos, ?_⟩
    cases y
    simp_all
  · cases h7
theorem intsOf_ex {ys : List D} {ws : List Int} (h : intsOf ys = some ws) : ys = ws.map D.int := by
  induction ys generalizing ws with
  | nil => cases h; rfl
  | cons y ys ih =>
    cases y <;> simp [intsOf] at h
    obtain ⟨us, e1, e2⟩ := h
    subst e2
    rw [ih e1]; rfl
theorem tupI_ex {d : D} (h : tupI d = true) : ∃ ws : List Int, d = .tup (ws.map D.int) ∧ kyL d = .tuple [.int (ws.map absI).sum, .tuple (ws.map PyData.int)] := by
  cases d <;> simp [tupI] at h
  rename_i ys
  obtain ⟨ws, e⟩ := Option.isSome_iff_exists.mp h
  refine ⟨ws, by rw [intsOf_ex e], ?_⟩
  show (match intsOf ys with | some ws => _ | none => _) = _
  rw [e]
theorem clo_none {cells : List (Str × Addr)} : ∀ {names : List (Str × NameKind)} {acc : List (Str × Addr)}, (∀ z ∈ names, z.2 ≠ .free) → cloFrom cells names acc = acc
  | [], _, _ => rfl
  | (n, k) :: r, acc, h => by
    have h0 : (k == NameKind.free) = false := by
      have := h (n, k) List.mem_cons_self
      simpa using this
    rw [cloFrom, h0]
    exact clo_none fun z hz => h z (List.mem_cons_of_mem _ hz)
/-- the lambda is made: its code object is new, or found in the table; nothing goes -/
theorem lam_mk {T : List (Addr × Str)} {pins : List (Addr × Obj)} {σ : L2.St} {H : Hp} {s : Shared} {cA Pt : Addr} {ar : Arguments} {bd : Expr} {sl : Scope} {lp : Pos} {E : Value → Shared → Prop} {Q : Value → Shared → Prop} (I : L2.Inv C pins σ H s) (TB : LamX.TabB C.base C.mg cA Pt) (hcd : C.env.code = .ref cA)
    (hm : (Pt, C.env.qual ++ "<lambda>") ∈ T) (hu : ∀ p ∈ T, p.1 = Pt → p.2 = C.env.qual ++ "<lambda>") (hT : LamX.Tabs T H) (hd : defaultsOf ar C.env = ([], [])) (hfr : ∀ z ∈ sl.names, z.2 ≠ .free)
    (k : ∀ (f c2 : Addr) (pm ctv : Value) (H2 : Hp) (s2 : Shared), L2.Inv C pins σ H2 s2 → LamX.ExtN H H2 → LamX.Tabs T H2 → (∀ a, H a ≠ none → H2 a ≠ none) →
      s2.heap.get? f = some (PySem.W.kla_obj "<lambda>" (C.env.qual ++ "<lambda>") ar bd sl [] pm c2 ctv) → H2 c2 = some (LamX.CodeO c2 (C.env.qual ++ "<lambda>")) → Q (.ref f) s2) :
    wpAny (model C.prog C.w) C.A (eval (.Lambda ar bd sl lp) C.env) Q E s := by
  obtain ⟨ts, hP, tok, tco⟩ := hT _ hm
  have hclo : closureFor sl C.env = pure [] := by
    have := closure_ok (env := C.env) (scope := sl) fun z hz e => absurd e (hfr z hz)
    rw [clo_none hfr] at this; exact this
  have bP := TB.bm.keeps I.bk
  have hPs := I.hok Pt _ hP
  have gk := I.mod.glob.keeps I.bk
  have ck := TB.code.keeps I.bk
  refine PySem.W.kla_eval hd ?_
  cases hca : codeAmong lp ts.toList with
  | some cv =>
    obtain ⟨c2, ec, hco⟩ := tco lp cv hca
    subst ec
    refine PySem.W.kla_makeFunctionHit hclo I.ok.glob gk hcd ck hPs tok hca bP fun ctv h2 tk hx hsz => ?_
    have kp : ∀ b o, s.heap.get? b = some o → (h2.push (PySem.W.kla_obj "<lambda>" (C.env.qual ++ "<lambda>") ar bd sl [] ((C.mg "__name__").getD .none) c2 ctv)).get? b = some o := fun b o e => Heap.get?_push_of_some _ (hx b o e)
    exact k h2.objs.size c2 _ ctv H _ (I.kept (t' := tk) kp) (LamX.ExtN.refl H) hT (fun _ z => z) (Heap.get?_push_size _ rfl) hco
  | none =>
    refine PySem.W.kla_makeFunction hclo I.ok.glob gk hcd ck hPs tok hca TB.gP bP fun c2 ctv h2 tk hx hge hlt hrec htb => ?_
    obtain ⟨c3, oc, us, t, ec, hoc, hod, hov⟩ := hrec
    cases ec
    have nC : H c2 = none := I.hok.fresh hge
    have nPC : Pt ≠ c2 := ne_of_none hP nC
    let u2 := PySem.W.kla_obj "<lambda>" (C.env.qual ++ "<lambda>") ar bd sl [] ((C.mg "__name__").getD .none) c2 ctv
    have I2 := LamX.inv_table (t' := tk) (q := C.env.qual ++ "<lambda>") (more := #[rawInt lp.line, rawInt lp.col, .ref c2]) (h' := h2.push u2) I hP (fun b o hb e => Heap.get?_push_of_some _ (hx b o hb e)) (Heap.get?_push_of_some _ htb) hge ⟨oc, us, t, Heap.get?_push_of_some _ hoc, hod, hov⟩
    let H2 : Hp := upd (upd H Pt (.tbl (ts ++ #[rawInt lp.line, rawInt lp.col, .ref c2]))) c2 (LamX.CodeO c2 (C.env.qual ++ "<lambda>"))
    have atC : H2 c2 = some (LamX.CodeO c2 (C.env.qual ++ "<lambda>")) := upd_same
    have atP : H2 Pt = some (.tbl (ts ++ #[rawInt lp.line, rawInt lp.col, .ref c2])) := by show upd _ _ _ _ = _; rw [upd_ne nPC, upd_same]
    have else_ : ∀ b, b ≠ Pt → b ≠ c2 → H2 b = H b := fun b n1 n2 => by show upd _ _ _ _ = _; rw [upd_ne n2, upd_ne n1]
    have hE : LamX.ExtN H H2 := fun b o e n => (else_ b (fun z => by rw [z, hP] at e; exact n ts (Option.some.inj e).symm) (ne_of_none e nC)).trans e
    have eA : (ts ++ #[rawInt lp.line, rawInt lp.col, .ref c2]).toList = ts.toList ++ [rawInt lp.line, rawInt lp.col, .ref c2] := by simp
    refine k h2.objs.size c2 _ ctv H2 _ I2 hE (fun p hp => ?_) (fun a ha => ?_) (Heap.get?_push_size _ rfl) atC
    · by_cases e : p.1 = Pt
      · have e2 := hu p hp e
        refine ⟨_, by rw [e]; exact atP, by rw [eA]; exact PySem.TriplesOk_snoc _ _ _ _ tok, fun q v hv => ?_⟩
        rw [eA] at hv
        rw [e2]
        rcases LamX.among_app _ tok hv with z | z
        · obtain ⟨d, d1, d2⟩ := tco q v z
          exact ⟨d, d1, hE _ _ d2 LamX.codeO_ne⟩
        · exact ⟨c2, z, atC⟩
      · obtain ⟨us, a1, a2, a3⟩ := hT p hp
        refine ⟨us, (else_ _ e (ne_of_none a1 nC)).trans a1, a2, fun q v hv => ?_⟩
        obtain ⟨d, d1, d2⟩ := a3 q v hv
        exact ⟨d, d1, hE _ _ d2 LamX.codeO_ne⟩
    · by_cases e : a = Pt
      · rw [e, atP]; exact fun z => by cases z
      · rw [else_ a e (fun z => ha (by rw [z]; exact nC))]; exact ha
theorem each_and {α β : Type} {R : α → β → Prop} {S : β → Prop} : ∀ {us : List α} {ds : List β}, PySem.W.EachIs R us ds → (∀ d ∈ ds, S d) → PySem.W.EachIs (fun u d => R u d ∧ S d) us ds
  | _, _, .nil, _ => .nil
  | _, _, .cons h r, s => .cons ⟨h, s _ List.mem_cons_self⟩ (each_and r fun d hd => s d (List.mem_cons_of_mem _ hd))
theorem isTuple_of {h : Heap} {a : Addr} {items : Array Value} (x : IsTup h a items) : h.IsTuple a items := by
  first
    | exact x.isTuple
    | (obtain ⟨o, ho, hc, n, hd⟩ := x; exact ⟨o, ho, hc, n, hd⟩)
    | (obtain ⟨o, ho, hc, hd, r⟩ := x; exact ⟨o, ho, hc, _, r⟩)
    | (obtain ⟨o, n, ho, hc, hd, r⟩ := x; exact ⟨o, ho, hc, n, r⟩)
theorem dep_ints : ∀ ws : List Int, PyData.depthAll (ws.map PyData.int) = 0
  | [] => by simp [PyData.depthAll]
  | w :: ws => by simp [PyData.depthAll, PyData.depth, dep_ints ws]
theorem dep_key (i : Int) (ws : List Int) : (PyData.tuple [.int i, .tuple (ws.map PyData.int)]).depth ≤ 2 := by
  simp [PyData.depth, PyData.depthAll, dep_ints]
theorem intsOf_mk : ∀ ws : List Int, intsOf (ws.map D.int) = some ws
  | [] => rfl
  | w :: ws => by rw [List.map_cons, intsOf, intsOf_mk ws]; rfl
theorem ints_of_vals : ∀ {ws : List Int} {us : List Value}, Vals (ws.map V.int) us → IntsAre us ws
  | [], _, .nil => .nil
  | w :: ws, _, .cons h r => by
    obtain ⟨t, rfl⟩ : ∃ t, _ = Value.int w t := h
    exact .cons _ _ (ints_of_vals r)
set_option maxHeartbeats 8000000 in
theorem ok_srk {a : E} {p pos kp : Pos} {y lm : Expr} (c : Ct W P T n N C sc Ex) (hN : T.lam N = true) (hb : ("sorted" : Str) ∈ T.blt) (hg : glB sc ("sorted" : Str) = true) (hs : ("sum" : Str) ∈ T.blt) (ha : ("abs" : Str) ∈ T.blt) (hl : lamSort lm = true) (hst : notStar y = true) (h : PE C y (tE W (P.fx n) Ex a)) :
    PE C (.Call (.Name "sorted" p) [y] [⟨some ("key" : Str), lm, kp⟩] pos) (tE W (P.fx n) Ex (.srk a)) := by
  obtain ⟨ps, sm, p0, ab, p1, y1, p2, p3, y2, p4, x1, p5, sc2, p6, p7, x2, p8, k, p9, scl, lpos, rfl, hl2⟩ := lamSort_ok hl
  clear hl
  unfold lsKey at hl2
  simp only [Bool.and_eq_true, decide_eq_true_eq] at hl2
  have hl := hl2
  clear hl2
  obtain ⟨⟨⟨⟨⟨⟨⟨⟨⟨⟨⟨⟨⟨e1, e2⟩, e3⟩, e4⟩, e5⟩, e6⟩, hps⟩, hsc⟩, hsc2⟩, hlo⟩, hx1⟩, hx2⟩, hy1⟩, hy2⟩ := hl
  subst e1; subst e2; subst e3; subst e4; subst e5; subst e6
  obtain ⟨pp, eps⟩ := par1_ok hps
  obtain ⟨k1, k2, k3, k4, k5⟩ := lamSc_ok hsc
  obtain ⟨z1, z2, z3, z4, z5⟩ := lamSc_ok hsc2
  obtain ⟨cA, Pt, hcode, hmem, huq⟩ := c.lam hN
  refine ⟨fun pins s σ H Q I ⟨F, m, M, r, R, q⟩ => ?_⟩
  refine wpAny_Call_Name_kw (ld_blt I (c.so.gl _ hg) (c.g.blt _ hb) boot_sorted ?_ (by decide) (by decide))
  have rd : tE W (P.fx n) Ex a σ H (fun v H1 => ∃ F1 m1 M1 ds, Rl W F1 m1 H1 M1 σ r ∧ Rp W F1 m1 v (.lst ds) ∧ ds.all tupI = true ∧ ∀ F' m' H', Xt F1 m1 H1 F' m' H' → Mr W F' m' H' M1 → ∀ v, Rp W F' m' v (.lst (ds.mergeSort leK)) → Q v H') := tE_bind R q fun M1 d F1 m1 H1 v R1 a1 rv h1 => by
    obtain ⟨dd, e1, k2⟩ := EQ.opt h1
    unfold srkD at e1
    split at e1 <;> (try (cases e1; done))
    split at e1 <;> cases e1
    rename_i hall
    exact ⟨F1, m1, M1, _, R1, rv, hall, fun F' m' H' a r v rv => k2 F' m' H' a r v rv⟩
  have hsp : backTo pos (starEach [y] C.env) = (false, eval y C.env) :: backTo pos (starEach [] C.env) := by rw [star_cons hst]; rfl
  refine PyProof.Rows.callWith_kw ?_ hsp (by rw [hsp]; rfl) rfl rfl
  rw [hsp]
  refine Calls.spliced_cons (thn (h.run pins s σ H _ I rd) fun u s1 ⟨v, H1, I1, rv1, F1, m1, M1, ds, R1, rp, hall, hk⟩ => Calls.spliced_nil (PyProof.Rows.kws_cons ?_))
  cases rp with
  | lst hF r1 l1 =>
    rename_i lp vs
    obtain rfl : u = Value.ref lp := rv1
    have TB := c.g.tbs _ hmem
    have hmT : (Pt, C.env.qual ++ "<lambda>") ∈ W.tbs := List.mem_map.mpr ⟨_, hmem, rfl⟩
    have huT : ∀ p ∈ W.tbs, p.1 = Pt → p.2 = C.env.qual ++ "<lambda>" := fun p hp e => by
      obtain ⟨x, hx, rfl⟩ := List.mem_map.mp hp
      exact huq x hx e
    refine lam_mk I1 TB hcode hmT huT R1.mr.tb (by rw [eps]; rfl) k4 fun f c' pm ctv H2 s2 I2 eN T2 ne2 hf hco => PyProof.Rows.evalAll_nil ?_
    have R2 : Mr W F1 m1 H2 M1 := ⟨fun a o h => eN a o (R1.mr.sub a o h) (R1.mr.nt a o h), R1.mr.len, R1.mr.nd, fun j mo q hj hq => by
      obtain ⟨n1, z⟩ := R1.mr.mo j mo q hj hq
      refine ⟨n1, ?_⟩
      cases mo with
      | ml xs => obtain ⟨us, q1, q2⟩ := z; exact ⟨us, eN _ _ q1 (fun _ z => (by cases z)), q2⟩
      | mi cc ns dds => obtain ⟨hc, dx, fs, q1, q2⟩ := z; exact ⟨hc, dx, fs, eN _ _ q1 (fun _ z => (by cases z)), q2⟩, T2, R1.mr.nt⟩
    have a2 : Xt F1 m1 H1 F1 m1 H2 := ⟨fun _ _ h => h, fun a o h _ ht => eN a o h ht, fun _ _ h => .inl h, ⟨[], by simp, by simp⟩, ne2⟩
    obtain ⟨its, rvv, hpl, hz⟩ := I2.list (SqL.of (R2.sub _ _ hF))
    obtain ⟨mb, hb1, hb2⟩ := I2.mod.blt
    have G2 : Grd C.mg s2.heap := ⟨I2.mod.glob.keeps I2.bk, mb, hb1.keeps I2.bk, hb2⟩
    obtain ⟨⟨oc, ovs, ot, hoc, hdc, hvc⟩, _, _⟩ := I2.hok c' _ hco
    have each : PySem.W.EachIs (fun u d => (∃ y, RelV y u ∧ Rp W F1 m1 y d) ∧ tupI d = true) its ds := by
      have e0 := each_rp r1 rvv
      exact each_and e0 fun d hd => List.all_eq_true.mp hall d hd
    refine PySem.W.sorted_key_data (b := false) kyL hpl.isList each ?al ?so (by rw [← r1.len, ← lim_line]; exact l1) ?un (ksk_s1 _ _) (fun _ => ksk_l1 _ _) (fun _ => ksk_t1 _ _) ?turn ?fin
    case al =>
      intro d hd d' hd'
      obtain ⟨x, hx, rfl⟩ := List.mem_map.mp hd
      obtain ⟨x', hx', rfl⟩ := List.mem_map.mp hd'
      obtain ⟨ws, _, e⟩ := tupI_ex (List.all_eq_true.mp hall x hx)
      obtain ⟨ws', _, e'⟩ := tupI_ex (List.all_eq_true.mp hall x' hx')
      rw [e, e']
      simp [PySem.W.alike, PySem.W.alikeAll, PySem.W.alike_ints]
    case so =>
      refine .inl fun d hd => ?_
      obtain ⟨x, hx, rfl⟩ := List.mem_map.mp hd
      obtain ⟨ws, _, e⟩ := tupI_ex (List.all_eq_true.mp hall x hx)
      rw [e]; exact ⟨_, _, rfl⟩
    case un =>
      intro x hx
      obtain ⟨ws, _, e⟩ := tupI_ex (List.all_eq_true.mp hall x hx)
      have hd : (kyL x).depth ≤ 2 := by rw [e]; exact dep_key _ _
      have := c.room.un
      omega
    case turn =>
      intro v x ⟨⟨yv, q1, q2⟩, q3⟩ hx h tk kp
      obtain ⟨ws, e, ek⟩ := tupI_ex q3
      subst e
      rw [ek]
      cases q2 with
      | tup hFt rt lt =>
        rename_i tp tvs
        obtain rfl : v = Value.ref tp := q1
        have et := rt.ints_of (intsOf_mk ws)
        subst et
        obtain ⟨tits, tv, htp, htz⟩ := I2.tuple (SqT.of (R2.sub _ _ hFt))
        subst eps
        refine key_turn (mg := C.mg) (s := { s2 with heap := h, toks := tk }) ?d1 c.room.hd (kp _ _ hf) ⟨c', oc, ovs, ot, rfl, kp _ _ hoc, hdc, hvc⟩ (G2.keeps kp) (I2.nolimit.keeps kp) (c.g.blt _ hs) (c.g.blt _ ha) rfl k2 k3 k1 k5 (lcl_look hx1) (gl_look hx2) (by decide) ?d2 z5 z1 (locOnce_ok hlo) (lcl_look hy1) (gl_look hy2) (by decide) (items := tits.toArray) ((isTuple_of htp).at fun o e => kp _ o e) (by simpa using ints_of_vals tv) (by rw [List.size_toArray, ← tv.length]; exact htz)
        case d1 =>
          have := c.room.dp
          show C.A.depth < _
          omega
        case d2 =>
          rw [List.all_eq_true]
          intro z hz
          have := z4 z hz
          simpa using this
    case fin =>
      intro out cc h2 tk kp hnn hD hlen eo
      have eo2 : PySem.W.EachIs (fun u d => ∃ y, RelV y u ∧ Rp W F1 m1 y d) out (ds.mergeSort leK) := eo.mono fun _ _ z => z.1
      obtain ⟨ys, w1, w2⟩ := rp_each eo2
      have hy : ys.length ≤ lim := by rw [w2.len, List.length_mergeSort, ← r1.len]; exact l1
      have hn : H2 (s2.heap.objs.size + 1) = none := I2.hok.fresh (Nat.le_succ _)
      have fr := R2.fresh (o := .lst ys) hn
      exact ⟨.ref _, upd H2 (s2.heap.objs.size + 1) (.lst ys), I2.laid (t' := tk) kp (Nat.le_succ _) ⟨by rw [← lim_line]; exact hy, out, cc, w1, hD⟩, rfl, hk _ _ _ (a2.trans fr.2) fr.1 _ (rp_fresh_lst R2.sub hn w2 hy)⟩
end
end Oc
namespace Oc
open L2 PySem PySem.Spec PyProof.Rows
theorem pt_ifX {C : Cx} {c a b : Expr} {pos : Pos} {t : TT} {ta tb : TT} (hc : PT C c t) (ha : PT C a ta) (hb : PT C b tb) : PT C (.IfExp c a b pos) (fun σ H Q => t σ H fun k H1 => (k = true → ta σ H1 Q) ∧ (k = false → tb σ H1 Q)) := by
  refine ⟨fun pins s σ H Q I h => ?_⟩
  show wpAny _ _ (do if ← isTrue c C.env (eval c C.env) then isTrue a C.env (eval a C.env) else isTrue b C.env (eval b C.env)) _ _ s
  refine wpAny_bind (thn (hc.run pins s σ H _ I h) fun d s1 ⟨H1, I1, q1⟩ => ?_)
  cases d with
  | true => exact ha.run pins s1 σ H1 Q I1 (q1.1 rfl)
  | false => exact hb.run pins s1 σ H1 Q I1 (q1.2 rfl)
theorem ok_ifT {W : Wd} {C : Cx} {X : Fx} {Ex : WX} {e3 a b : E} {x y z : Expr} {pos : Pos} (hc : PT C z (tT W X Ex e3)) (ha : PT C x (tT W X Ex a)) (hb : PT C y (tT W X Ex b)) : PT C (.IfExp z x y pos) (tT W X Ex (.ife e3 a b)) :=
  (pt_ifX hc ha hb).wk fun σ H Q ⟨F, m, M, r, R, q⟩ => by
    have q' : EQ W F m H (fun cls dd H' => Ex cls dd σ H') (fun _ b _ _ H' => Q b H') ((evB X e3 M r).bind fun M1 k => if k = true then evB X a M1 r else evB X b M1 r) := by
      have e : (evB X e3 M r).bind (fun M1 k => if k = true then evB X a M1 r else evB X b M1 r) = evB X (.ife e3 a b) M r := by
        show ((ev X e3 M r).bind fun M1 x => Oc.R.opt M1 (tru M1 x)).bind _ = ((ev X e3 M r).bind _).bind _
        cases ev X e3 M r with
        | st => rfl
        | er M k fs => rfl
        | ok M1 d =>
          show (Oc.R.opt M1 (tru M1 d)).bind _ = _
          cases h : tru M1 d with
          | none => simp [Oc.R.opt, Oc.R.bind, h]
          | some k => cases k <;> simp [Oc.R.opt, Oc.R.bind, h, evB]
      rw [e]; exact q
    exact tT_bind R q' fun M1 k F1 m1 H1 R1 a1 h1 => by
      cases k with
      | true => exact ⟨fun _ => ⟨F1, m1, M1, r, R1, h1⟩, fun z => by cases z⟩
      | false => exact ⟨fun z => by (cases z), fun _ => ⟨F1, m1, M1, r, R1, h1⟩⟩
theorem _root_.L2.PTs.wk {C : Cx} {e : List Expr} {t t' : TT} (h : PTs C e t) (k : ∀ σ H Q, t' σ H Q → t σ H Q) : PTs C e t' := ⟨fun pins s σ H Q I q => h.run pins s σ H Q I (k σ H Q q)⟩
theorem pts_nil' {W : Wd} {C : Cx} {X : Fx} : PTs C [] (tTs W X .nil) := pts_nil.wk fun σ H Q ⟨F, m, M, r, R, q⟩ => EQ.now q R.mr
theorem pts_one' {W : Wd} {C : Cx} {X : Fx} {cd : E} {x : Expr} (hn : isNilE cd = false) (h : PT C x (tT W X (fun _ _ _ _ => False) cd)) : PTs C [x] (tTs W X cd) := (pts_one h).wk fun σ H Q ⟨F, m, M, r, R, q⟩ => ⟨F, m, M, r, R, by
  have e : cnd X cd M r = (evB X cd M r).noEr := by cases cd <;> first | rfl | cases hn
  rw [e] at q
  exact q.noEr⟩
structure SD (W : Wd) (P : Pg) (T : Tb) (n : Nat) (N : List Str) (c : E) : Prop where
  pe : ∀ C sc Ex x, Ct W P T n N C sc Ex → chk P T N c sc (.e x) = true → PE C x (tE W (P.fx n) Ex c)
  pa : ∀ C sc Ex xs, Ct W P T n N C sc Ex → chk P T N c sc (.l xs) = true → PA C xs (tA W (P.fx n) Ex c)
  pt : ∀ C sc Ex x, Ct W P T n N C sc Ex → chk P T N c sc (.e x) = true → PT C x (tT W (P.fx n) Ex c)
  pw : ∀ C sc Ex op vs pos, Ct W P T n N C sc Ex → chk P T N c sc (.e (.BoolOp op vs pos)) = true → PW C (.BoolOp op vs pos) (tT W (P.fx n) Ex c)
  pi : ∀ C sc Ex tg x, Ct W P T n N C sc Ex → chk P T N c sc (.i (isTupE tg) x) = true → PI C tg x (tI W (P.fx n) Ex c)
def genX : Expr → Bool
  | .UnaryOp .Not _ _ => false
  | .BoolOp _ _ _ => false
  | .IfExp _ _ _ _ => false
  | .Compare _ _ _ _ => false
  | _ => true
theorem gen_true {x : Expr} (h : genX x = true) (env : Env) (whole : Sem Value) : isTrue x env whole = (do let v ← whole; standAt x.pos; holding [v] (truthy v)) := by
  cases x <;> first | rfl | (cases h; done) | skip
  case UnaryOp op y pos => cases op <;> first | rfl | cases h
section
variable {W : Wd} {P : Pg} {T : Tb} {n : Nat} {N : List Str}
theorem SD.gen {c : E} (hp : ∀ C sc Ex x, Ct W P T n N C sc Ex → chk P T N c sc (.e x) = true → PE C x (tE W (P.fx n) Ex c)) (hg : ∀ sc x, chk P T N c sc (.e x) = true → genX x = true)
    (hl : ∀ sc xs, chk P T N c sc (.l xs) = false) (hi : ∀ sc b x, chk P T N c sc (.i b x) = chk P T N c sc (.e x)) : SD W P T n N c where
  pe := hp
  pa := fun C sc Ex xs _ h => by rw [hl] at h; cases h
  pt := fun C sc Ex x k h => pt_gen (hp C sc Ex x k h) fun w => gen_true (hg sc x h) C.env w
  pw := fun C sc Ex op vs pos k h => by have := hg sc _ h; cases this
  pi := fun C sc Ex tg x k h => pi_any k (hp C sc Ex x k (by rw [← hi]; exact h))
/-- the forms that stand in iterable places alone -/
theorem SD.itr {c : E} (hi : ∀ C sc Ex tg x, Ct W P T n N C sc Ex → chk P T N c sc (.i (isTupE tg) x) = true → PI C tg x (tI W (P.fx n) Ex c)) (he : ∀ sc x, chk P T N c sc (.e x) = false) (hl : ∀ sc xs, chk P T N c sc (.l xs) = false) : SD W P T n N c where
  pe := fun C sc Ex x _ h => by rw [he] at h; cases h
  pa := fun C sc Ex xs _ h => by rw [hl] at h; cases h
  pt := fun C sc Ex x _ h => by rw [he] at h; cases h
  pw := fun C sc Ex op vs pos _ h => by rw [he] at h; cases h
  pi := hi
theorem SD.lcO {own : List Nat} {elt it cd : E} {pt : Pt} (ihe : SD W P T n N elt) (iht : SD W P T n N it) (ihc : SD W P T n N cd) : ∀ C sc Ex x, Ct W P T n N C sc Ex → chk P T N (.lc own elt pt it cd) sc (.e x) = true → PE C x (tO W (P.fx n) Ex (.lc own elt pt it cd)) := fun C sc Ex x k h => by
  simp only [chk, Tg.pl] at h; split at h
  · rename_i e; cases e
    simp only [Bool.and_eq_true] at h
    obtain ⟨⟨⟨⟨⟨h1, h2⟩, h3⟩, h4⟩, h5⟩, h6⟩ := h
    have hk := (blkOk_by h3).kind
    refine ok_lcO k h1 h3 h4 (iht.pi C sc Ex _ _ k h2) (fun s H c0 cl fp => ihe.pe _ _ _ _ (k.blk hk s H c0 cl fp) h5) (fun s H c0 cl fp => ?_)
    split at h6
    · cases cd <;> first | exact pts_nil' | cases h6
    · simp only [Bool.and_eq_true, Bool.not_eq_true'] at h6
      exact pts_one' h6.1 (ihc.pt _ _ _ _ (k.blk hk s H c0 cl fp) h6.2)
    · cases h6
  · cases h
theorem SD.lc2O {own own2 : List Nat} {elt it it2 cd : E} {pt pt2 : Pt} (ihe : SD W P T n N elt) (iht : SD W P T n N it) (iht2 : SD W P T n N it2) (ihc : SD W P T n N cd) : ∀ C sc Ex x, Ct W P T n N C sc Ex → chk P T N (.lc2 own own2 elt pt it pt2 it2 cd) sc (.e x) = true → PE C x (tO W (P.fx n) Ex (.lc2 own own2 elt pt it pt2 it2 cd)) := fun C sc Ex x k h => by
  simp only [chk, Tg.pl] at h; split at h
  · rename_i e; cases e
    simp only [Bool.and_eq_true] at h
    obtain ⟨⟨⟨⟨⟨⟨⟨⟨⟨⟨h1, h1'⟩, h2⟩, h3⟩, h4⟩, h5⟩, h6⟩, h7⟩, h8⟩, h9⟩, h10⟩ := h
    have hk := (blkOk_by h3).kind
    obtain rfl := List.isEmpty_iff.mp h5
    refine ok_lc2O k h1 h1' h3 h4 h8 h9 (iht.pi C sc Ex _ _ k h2) (fun s H c0 cl fp => iht2.pi _ _ _ _ _ (k.blk hk s H c0 cl fp) h7) (fun s H c0 cl fp => ihe.pe _ _ _ _ (k.blk hk s H c0 cl fp) h6) (fun s H c0 cl fp => ?_) (fun s H c0 cl fp => pts_nil')
    split at h10
    · cases cd <;> first | exact pts_nil' | cases h10
    · simp only [Bool.and_eq_true, Bool.not_eq_true'] at h10
      exact pts_one' h10.1 (ihc.pt _ _ _ _ (k.blk hk s H c0 cl fp) h10.2)
    · cases h10
  · cases h
theorem ok_dnkO {W : Wd} {X : Fx} {C : Cx} {Ex : WX} {pos : Pos} : PE C (.Dict [] [] pos) (tO W X Ex .dnk) := pe_dnewK.wk fun σ H Q ⟨F, m, M, r, R, q⟩ p hp => by
  obtain ⟨n1, n2⟩ := R.mr.none_of hp
  obtain ⟨R1, x1⟩ := R.mr.own (o := .dK []) hp
  exact q F m _ x1 R1 p n1 n2 hp ⟨rfl, [], upd_same, rfl, by simp, .nil, by simp⟩
theorem ok_dntO {W : Wd} {X : Fx} {C : Cx} {Ex : WX} {pos : Pos} : PE C (.Dict [] [] pos) (tO W X Ex .dnt) := pe_dnewT.wk fun σ H Q ⟨F, m, M, r, R, q⟩ p hp => by
  obtain ⟨n1, n2⟩ := R.mr.none_of hp
  obtain ⟨R1, x1⟩ := R.mr.own (o := .dT []) hp
  exact q F m _ x1 R1 p n1 n2 hp ⟨rfl, [], upd_same, rfl, by simp, .nil, by simp⟩
theorem SD.dnkO : ∀ C sc Ex x, Ct W P T n N C sc Ex → chk P T N .dnk sc (.e x) = true → PE C x (tO W (P.fx n) Ex .dnk) := fun C sc Ex x k h => by
  simp only [chk, Tg.pl] at h; split at h
  · rename_i e; cases e; exact ok_dnkO
  · cases h
theorem SD.dntO : ∀ C sc Ex x, Ct W P T n N C sc Ex → chk P T N .dnt sc (.e x) = true → PE C x (tO W (P.fx n) Ex .dnt) := fun C sc Ex x k h => by
  simp only [chk, Tg.pl] at h; split at h
  · rename_i e; cases e; exact ok_dntO
  · cases h
theorem SD.ds1O {tp : Bool} {k v : E} (ihk : SD W P T n N k) (ihv : SD W P T n N v) : ∀ C sc Ex x, Ct W P T n N C sc Ex → chk P T N (.ds1 false tp k v) sc (.e x) = true → PE C x (tO W (P.fx n) Ex (.ds1 false tp k v)) := fun C sc Ex x ct h => by
  simp only [chk, Tg.pl] at h; split at h
  · rename_i e; cases e
    simp only [Bool.and_eq_true] at h
    cases tp with
    | true => exact ok_d1T ct (ihk.pe C sc Ex _ ct h.1) (ihv.pe C sc Ex _ ct h.2)
    | false => exact ok_d1K (ihk.pe C sc Ex _ ct h.1) (ihv.pe C sc Ex _ ct h.2)
  · cases h
theorem SD.dcpO {a : E} (iha : SD W P T n N a) : ∀ C sc Ex x, Ct W P T n N C sc Ex → chk P T N (.dcp false a) sc (.e x) = true → PE C x (tO W (P.fx n) Ex (.dcp false a)) := fun C sc Ex x ct h => by
  simp only [chk, Tg.pl] at h; split at h
  · rename_i e; cases e
    simp only [Bool.and_eq_true, decide_eq_true_eq] at h
    obtain ⟨⟨⟨⟨h1, h2⟩, h3⟩, h4⟩, h5⟩ := h
    subst h1
    exact ok_dcp ct h2 h3 h4 (iha.pe C sc Ex _ ct h5)
  · cases h
theorem ev_ds1L (X : Fx) (tp : Bool) (k v : E) (M : Mem) (r : En) : ev X (.ds1 true tp k v) M r = (ev X (.ds1 false tp k v) M r).bind fun M1 d => .ok M1 (lokD d) := by
  rw [ev, ev]
  cases ev X k M r with
  | st => rfl
  | er M1 k fs => rfl
  | ok M1 x =>
    show (ev X v M1 r).bind _ = ((ev X v M1 r).bind _).bind _
    cases ev X v M1 r with
    | st => rfl
    | er M1 k fs => rfl
    | ok M2 y =>
      cases tp with
      | true => cases h : tkOf x <;> simp [Oc.R.bind, Oc.R.opt, h, lokD]
      | false => cases h : kyOf x <;> simp [Oc.R.bind, Oc.R.opt, h, lokD]
theorem ev_ds1D {X : Fx} {tp : Bool} {k v : E} {M M1 : Mem} {r : En} {d : D} (h : ev X (.ds1 false tp k v) M r = .ok M1 d) : isDc d = true := by
  rw [ev] at h
  obtain ⟨M2, x, _, h⟩ := bind_okE h
  obtain ⟨M3, y, _, h⟩ := bind_okE h
  cases tp with
  | true =>
    cases e : tkOf x with
    | none => rw [e] at h; cases h
    | some z => rw [e] at h; cases h; rfl
  | false =>
    cases e : kyOf x with
    | none => rw [e] at h; cases h
    | some z => rw [e] at h; cases h; rfl
theorem ev_dcpL (X : Fx) (a : E) (M : Mem) (r : En) : ev X (.dcp true a) M r = (ev X (.dcp false a) M r).bind fun M1 d => .ok M1 (lokD d) := by
  rw [ev, ev]
  cases ev X a M r with
  | st => rfl
  | er M1 k fs => rfl
  | ok M1 x =>
    cases x <;> first | rfl | skip
    rename_i l ks vs
    show (if hshOk ks = true then _ else _) = Oc.R.bind (if hshOk ks = true then _ else _) _
    split <;> rfl
theorem ev_dcpD {X : Fx} {a : E} {M M1 : Mem} {r : En} {d : D} (h : ev X (.dcp false a) M r = .ok M1 d) : isDc d = true := by
  rw [ev] at h
  obtain ⟨M2, x, hx, h⟩ := bind_okE h
  cases x <;> first | (cases h; done) | skip
  rename_i l ks vs
  replace h : (if hshOk ks = true then R.ok M2 (.dt false ks vs) else .st) = .ok M1 d := h
  split at h <;> cases h
  rfl
theorem master (c : E) : SD W P T n N c := by
  induction c with
  | nil =>
    refine ⟨fun C sc Ex x _ h => by simp [chk] at h, fun C sc Ex xs k h => ?_, fun C sc Ex x _ h => by simp [chk] at h, fun C sc Ex op vs pos _ h => by simp [chk] at h, fun C sc Ex tg x _ h => by simp [chk] at h⟩
    cases xs with
    | nil => exact ok_nil
    | cons x xs => simp [chk] at h
  | cons a l iha ihl =>
    refine ⟨fun C sc Ex x _ h => by simp [chk] at h, fun C sc Ex xs k h => ?_, fun C sc Ex x _ h => by simp [chk] at h, fun C sc Ex op vs pos _ h => by simp [chk] at h, fun C sc Ex tg x _ h => by simp [chk] at h⟩
    cases xs with
    | nil => simp [chk] at h
    | cons x xs =>
      simp only [chk, Bool.and_eq_true] at h
      exact ok_cons h.1.1 (iha.pe C sc Ex x k h.1.2) (ihl.pa C sc Ex xs k h.2)
  | vr i =>
    refine SD.gen (fun C sc Ex x k h => ?_) (fun sc x h => ?_) (fun _ _ => rfl) (fun _ _ _ => rfl)
    · simp only [chk, Tg.pl] at h; split at h
      · rename_i e; cases e
        simp only [Bool.and_eq_true, decide_eq_true_eq] at h
        exact ok_vr k h.1.1 h.1.2 h.2
      · cases h
    · simp only [chk, Tg.pl] at h; split at h
      · rename_i e; cases e; rfl
      · cases h
  | brw is e ih =>
    refine ⟨fun C sc Ex x k h => ok_brw (ih.pe C sc Ex x k h), fun C sc Ex xs k h => by simp [chk, Tg.pl] at h, fun C sc Ex x k h => ok_brwT (ih.pt C sc Ex x k h), fun C sc Ex op vs pos k h => ok_brwW (ih.pw C sc Ex op vs pos k h), fun C sc Ex tg x k h => pi_any k (ok_brw (ih.pe C sc Ex x k h))⟩
  | gi y i =>
    refine SD.gen (fun C sc Ex x k h => ?_) (fun sc x h => ?_) (fun _ _ => rfl) (fun _ _ _ => rfl)
    · simp only [chk, Tg.pl] at h; split at h
      · rename_i e; cases e
        simp only [Bool.and_eq_true, decide_eq_true_eq] at h
        obtain ⟨⟨⟨rfl, h1⟩, h2⟩, h3⟩ := h
        exact ok_gi k h1 h2 h3
      · cases h
    · simp only [chk, Tg.pl] at h; split at h
      · rename_i e; cases e; rfl
      · cases h
  | int i =>
    refine SD.gen (fun C sc Ex x k h => ?_) (fun sc x h => ?_) (fun _ _ => rfl) (fun _ _ _ => rfl)
    · simp only [chk, Tg.pl] at h; split at h
      · rename_i e; cases e
        simp only [decide_eq_true_eq] at h
        subst h
        exact ok_int
      · cases h
    · simp only [chk, Tg.pl] at h; split at h
      · rename_i e; cases e; rfl
      · cases h
  | str s =>
    refine SD.gen (fun C sc Ex x k h => ?_) (fun sc x h => ?_) (fun _ _ => rfl) (fun _ _ _ => rfl)
    · simp only [chk, Tg.pl] at h; split at h
      · rename_i e; cases e
        simp only [Bool.and_eq_true, decide_eq_true_eq] at h
        obtain ⟨⟨rfl, h1⟩, h2⟩ := h
        exact ok_str h1 h2
      · cases h
    · simp only [chk, Tg.pl] at h; split at h
      · rename_i e; cases e; rfl
      · cases h
  | bl b =>
    refine SD.gen (fun C sc Ex x k h => ?_) (fun sc x h => ?_) (fun _ _ => rfl) (fun _ _ _ => rfl)
    · simp only [chk, Tg.pl] at h; split at h
      · rename_i e; cases e
        simp only [beq_iff_eq] at h
        subst h
        exact ok_bl
      · cases h
    · simp only [chk, Tg.pl] at h; split at h
      · rename_i e; cases e; rfl
      · cases h
  | non =>
    refine SD.gen (fun C sc Ex x k h => ?_) (fun sc x h => ?_) (fun _ _ => rfl) (fun _ _ _ => rfl)
    · simp only [chk, Tg.pl] at h; split at h
      · rename_i e; cases e
        exact ok_non
      · cases h
    · simp only [chk, Tg.pl] at h; split at h
      · rename_i e; cases e; rfl
      · cases h
  | bin o a b iha ihb =>
    refine SD.gen (fun C sc Ex x k h => ?_) (fun sc x h => ?_) (fun _ _ => rfl) (fun _ _ _ => rfl)
    · simp only [chk, Tg.pl] at h; split at h
      · rename_i e; cases e
        simp only [Bool.and_eq_true] at h
        obtain ⟨⟨h1, h2⟩, h3⟩ := h
        rw [bop_of h1]
        exact ok_bin (iha.pe C sc Ex _ k h2) (ihb.pe C sc Ex _ k h3)
      · cases h
    · simp only [chk, Tg.pl] at h; split at h
      · rename_i e; cases e; rfl
      · cases h
  | neg a iha =>
    refine SD.gen (fun C sc Ex x k h => ?_) (fun sc x h => ?_) (fun _ _ => rfl) (fun _ _ _ => rfl)
    · simp only [chk, Tg.pl] at h; split at h
      · rename_i e; cases e
        exact ok_neg (iha.pe C sc Ex _ k h)
      · cases h
    · simp only [chk, Tg.pl] at h; split at h
      · rename_i e; cases e; rfl
      · cases h
  | not a iha =>
    have hp : ∀ C sc Ex x, Ct W P T n N C sc Ex → chk P T N (.not a) sc (.e x) = true → PE C x (tE W (P.fx n) Ex (.not a)) ∧ PT C x (tT W (P.fx n) Ex (.not a)) := fun C sc Ex x k h => by
      simp only [chk, Tg.pl] at h; split at h
      · rename_i e; cases e
        exact ⟨ok_not (iha.pe C sc Ex _ k h), ok_notT (iha.pt C sc Ex _ k h)⟩
      · cases h
    exact ⟨fun C sc Ex x k h => (hp C sc Ex x k h).1, fun C sc Ex xs k h => by simp [chk, Tg.pl] at h, fun C sc Ex x k h => (hp C sc Ex x k h).2, fun C sc Ex op vs pos k h => by simp [chk, Tg.pl] at h, fun C sc Ex tg x k h => pi_any k (hp C sc Ex x k h).1⟩
  | and a b iha ihb =>
    have hp : ∀ C sc Ex x, Ct W P T n N C sc Ex → chk P T N (.and a b) sc (.e x) = true → PE C x (tE W (P.fx n) Ex (.and a b)) ∧ PW C x (tT W (P.fx n) Ex (.and a b)) := fun C sc Ex x k h => by
      simp only [chk, Tg.pl] at h; split at h
      · rename_i y z r p e; cases e
        simp only [Bool.and_eq_true] at h
        obtain ⟨h1, h2⟩ := h
        split at h2
        · exact ⟨ok_and (iha.pe C sc Ex _ k h1) (pe_one (ihb.pe C sc Ex _ k h2)), ok_andT (iha.pt C sc Ex _ k h1) (pw_and1 (ihb.pt C sc Ex _ k h2))⟩
        · exact ⟨ok_and (iha.pe C sc Ex _ k h1) (ihb.pe C sc Ex _ k h2), ok_andT (iha.pt C sc Ex _ k h1) (ihb.pw C sc Ex _ _ _ k h2)⟩
      · cases h
    exact ⟨fun C sc Ex x k h => (hp C sc Ex x k h).1, fun C sc Ex xs k h => by simp [chk, Tg.pl] at h, fun C sc Ex x k h => (hp C sc Ex x k h).2.pt, fun C sc Ex op vs pos k h => (hp C sc Ex _ k h).2, fun C sc Ex tg x k h => pi_any k (hp C sc Ex x k h).1⟩
  | or a b iha ihb =>
    have hp : ∀ C sc Ex x, Ct W P T n N C sc Ex → chk P T N (.or a b) sc (.e x) = true → PE C x (tE W (P.fx n) Ex (.or a b)) ∧ PW C x (tT W (P.fx n) Ex (.or a b)) := fun C sc Ex x k h => by
      simp only [chk, Tg.pl] at h; split at h
      · rename_i y z r p e; cases e
        simp only [Bool.and_eq_true] at h
        obtain ⟨h1, h2⟩ := h
        split at h2
        · exact ⟨ok_or (iha.pe C sc Ex _ k h1) (pe_one (ihb.pe C sc Ex _ k h2)), ok_orT (iha.pt C sc Ex _ k h1) (pw_or1 (ihb.pt C sc Ex _ k h2))⟩
        · exact ⟨ok_or (iha.pe C sc Ex _ k h1) (ihb.pe C sc Ex _ k h2), ok_orT (iha.pt C sc Ex _ k h1) (ihb.pw C sc Ex _ _ _ k h2)⟩
      · cases h
    exact ⟨fun C sc Ex x k h => (hp C sc Ex x k h).1, fun C sc Ex xs k h => by simp [chk, Tg.pl] at h, fun C sc Ex x k h => (hp C sc Ex x k h).2.pt, fun C sc Ex op vs pos k h => (hp C sc Ex _ k h).2, fun C sc Ex tg x k h => pi_any k (hp C sc Ex x k h).1⟩
  | cmp o a b iha ihb =>
    have hp : ∀ C sc Ex x, Ct W P T n N C sc Ex → chk P T N (.cmp o a b) sc (.e x) = true → PE C x (tE W (P.fx n) Ex (.cmp o a b)) ∧ PT C x (tT W (P.fx n) Ex (.cmp o a b)) := fun C sc Ex x k h => by
      simp only [chk, Tg.pl] at h; split at h
      · rename_i e; cases e
        simp only [Bool.and_eq_true] at h
        obtain ⟨⟨⟨h1, h2⟩, h3⟩, h4⟩ := h
        rw [cop_of h1]
        exact ⟨ok_cmp k h2 (iha.pe C sc Ex _ k h3) (ihb.pe C sc Ex _ k h4), ok_cmpT k h2 (iha.pe C sc Ex _ k h3) (ihb.pe C sc Ex _ k h4)⟩
      · cases h
    exact ⟨fun C sc Ex x k h => (hp C sc Ex x k h).1, fun C sc Ex xs k h => by simp [chk, Tg.pl] at h, fun C sc Ex x k h => (hp C sc Ex x k h).2, fun C sc Ex op vs pos k h => by simp [chk, Tg.pl] at h, fun C sc Ex tg x k h => pi_any k (hp C sc Ex x k h).1⟩
  | chn o p a b c iha ihb ihc =>
    have hp : ∀ C sc Ex x, Ct W P T n N C sc Ex → chk P T N (.chn o p a b c) sc (.e x) = true → PE C x (tE W (P.fx n) Ex (.chn o p a b c)) ∧ PT C x (tT W (P.fx n) Ex (.chn o p a b c)) := fun C sc Ex x k h => by
      simp only [chk, Tg.pl] at h; split at h
      · rename_i e; cases e
        simp only [Bool.and_eq_true] at h
        obtain ⟨⟨⟨⟨⟨h1, h2⟩, h3⟩, h4⟩, h5⟩, h6⟩ := h
        rw [cop_of h1, cop_of h2]
        exact ⟨ok_chn k h3 (iha.pe C sc Ex _ k h4) (ihb.pe C sc Ex _ k h5) (ihc.pe C sc Ex _ k h6), ok_chnT k h3 (iha.pe C sc Ex _ k h4) (ihb.pe C sc Ex _ k h5) (ihc.pe C sc Ex _ k h6)⟩
      · cases h
    exact ⟨fun C sc Ex x k h => (hp C sc Ex x k h).1, fun C sc Ex xs k h => by simp [chk, Tg.pl] at h, fun C sc Ex x k h => (hp C sc Ex x k h).2, fun C sc Ex op vs pos k h => by simp [chk, Tg.pl] at h, fun C sc Ex tg x k h => pi_any k (hp C sc Ex x k h).1⟩
  | ife t a b iht iha ihb =>
    have hp : ∀ C sc Ex x, Ct W P T n N C sc Ex → chk P T N (.ife t a b) sc (.e x) = true → PE C x (tE W (P.fx n) Ex (.ife t a b)) ∧ PT C x (tT W (P.fx n) Ex (.ife t a b)) := fun C sc Ex x k h => by
      simp only [chk, Tg.pl] at h; split at h
      · rename_i e; cases e
        simp only [Bool.and_eq_true] at h
        obtain ⟨⟨h1, h2⟩, h3⟩ := h
        exact ⟨ok_ife (iht.pt C sc Ex _ k h1) (iha.pe C sc Ex _ k h2) (ihb.pe C sc Ex _ k h3), ok_ifT (iht.pt C sc Ex _ k h1) (iha.pt C sc Ex _ k h2) (ihb.pt C sc Ex _ k h3)⟩
      · cases h
    exact ⟨fun C sc Ex x k h => (hp C sc Ex x k h).1, fun C sc Ex xs k h => by simp [chk, Tg.pl] at h, fun C sc Ex x k h => (hp C sc Ex x k h).2, fun C sc Ex op vs pos k h => by simp [chk, Tg.pl] at h, fun C sc Ex tg x k h => pi_any k (hp C sc Ex x k h).1⟩
  | tup l ihl =>
    refine SD.gen (fun C sc Ex x k h => ?_) (fun sc x h => ?_) (fun _ _ => rfl) (fun _ _ _ => rfl)
    · simp only [chk, Tg.pl] at h; split at h
      · rename_i e; cases e
        simp only [Bool.and_eq_true, decide_eq_true_eq] at h
        exact ok_tup h.1 h.2 (ihl.pa C sc Ex _ k h.2)
      · cases h
    · simp only [chk, Tg.pl] at h; split at h
      · rename_i e; cases e; rfl
      · cases h
  | lst l ihl =>
    refine SD.gen (fun C sc Ex x k h => ?_) (fun sc x h => ?_) (fun _ _ => rfl) (fun _ _ _ => rfl)
    · simp only [chk, Tg.pl] at h; split at h
      · rename_i e; cases e
        simp only [Bool.and_eq_true, decide_eq_true_eq] at h
        exact tE_of_O (ok_lstO h.1 h.2 (ihl.pa C sc Ex _ k h.2))
      · cases h
    · simp only [chk, Tg.pl] at h; split at h
      · rename_i e; cases e; rfl
      · cases h
  | lc own elt pt it cd ihe iht ihc =>
    refine SD.gen (fun C sc Ex x ct h => tE_of_O (SD.lcO ihe iht ihc C sc Ex x ct h)) (fun sc x h => ?_) (fun _ _ => rfl) (fun _ _ _ => rfl)
    simp only [chk, Tg.pl] at h; split at h
    · rename_i e; cases e; rfl
    · cases h
  | cal f l ihl =>
    refine SD.gen (fun C sc Ex x k h => ?_) (fun sc x h => ?_) (fun _ _ => rfl) (fun _ _ _ => rfl)
    · simp only [chk, Tg.pl] at h; split at h
      · rename_i e; cases e
        simp only [Bool.and_eq_true] at h
        obtain ⟨⟨⟨⟨⟨⟨h1, h2⟩, h3⟩, h4⟩, h5⟩, h6⟩, h7⟩ := h
        split at h3
        · rename_i d hd
          simp only [decide_eq_true_eq] at h3
          subst h3
          exact ok_cal k h1 h2 hd h4 h5 h7 (ihl.pa C sc Ex _ k h7)
        · cases h3
      · cases h
    · simp only [chk, Tg.pl] at h; split at h
      · rename_i e; cases e; rfl
      · cases h
  | bi k l ihl =>
    refine SD.gen (fun C sc Ex x ct h => ?_) (fun sc x h => ?_) (fun _ _ => rfl) (fun _ _ _ => rfl)
    · simp only [chk, Tg.pl] at h; split at h
      · rename_i e; cases e
        simp only [Bool.and_eq_true, decide_eq_true_eq] at h
        obtain ⟨⟨⟨⟨h1, h2⟩, h3⟩, h4⟩, h5⟩ := h
        subst h1
        exact ok_bi ct h2 h3 h4 h5 (ihl.pa C sc Ex _ ct h5)
      · cases h
    · simp only [chk, Tg.pl] at h; split at h
      · rename_i e; cases e; rfl
      · cases h
  | me kd o l iho ihl =>
    refine SD.gen (fun C sc Ex x ct h => ?_) (fun sc x h => ?_) (fun _ _ => rfl) (fun _ _ _ => rfl)
    · simp only [chk, Tg.pl] at h; split at h
      · rename_i e; cases e
        simp only [Bool.and_eq_true] at h
        obtain ⟨⟨⟨⟨⟨h1, h2⟩, h3⟩, h4⟩, h5⟩, h6⟩ := h
        cases kd <;> simp only [decide_eq_true_eq] at h1 <;> first | (cases h1; done) | skip
        · subst h1
          exact ok_join ct h2 h3 h6 (iho.pe C sc Ex _ ct h5) (ihl.pa C sc Ex _ ct h6)
        · subst h1
          exact ok_split ct h2 h3 h6 (iho.pe C sc Ex _ ct h5) (ihl.pa C sc Ex _ ct h6)
        · subst h1
          exact ok_get ct (.inl rfl) (Nat.zero_le _) h2 h3 h6 (iho.pe C sc Ex _ ct h5) (ihl.pa C sc Ex _ ct h6) (few_one h4)
        · subst h1
          exact ok_index ct h2 h3 h6 (iho.pe C sc Ex _ ct h5) (ihl.pa C sc Ex _ ct h6)
        · subst h1
          exact ok_count ct h2 h3 h6 (iho.pe C sc Ex _ ct h5) (ihl.pa C sc Ex _ ct h6)
      · rename_i e; cases e
        simp only [Bool.and_eq_true] at h
        obtain ⟨⟨⟨⟨⟨⟨h1, h2⟩, h3⟩, h4⟩, h4'⟩, h5⟩, h6⟩ := h
        cases kd <;> simp only [decide_eq_true_eq] at h1 <;> first | (cases h1; done) | skip
        subst h1
        exact ok_get ct (.inr rfl) (Nat.le_refl _) h2 h3 h6 (iho.pe C sc Ex _ ct h5) (ihl.pa C sc Ex _ ct h6) (few_two h4 h4')
      · rename_i e; cases e
        simp only [Bool.and_eq_true] at h
        obtain ⟨⟨⟨⟨h1, h2⟩, h3⟩, h4⟩, h5⟩ := h
        cases kd <;> simp only [decide_eq_true_eq] at h1 <;> first | (cases h1; done) | skip
        subst h1
        cases l <;> first | (cases h5; done) | skip
        exact ok_rstrip ct h2 h3 (iho.pe C sc Ex _ ct h4)
      · cases h
    · simp only [chk, Tg.pl] at h; split at h
      · rename_i e; cases e; rfl
      · rename_i e; cases e; rfl
      · rename_i e; cases e; rfl
      · cases h
  | isi a cl iha =>
    refine SD.gen (fun C sc Ex x ct h => ?_) (fun sc x h => ?_) (fun _ _ => rfl) (fun _ _ _ => rfl)
    · simp only [chk, Tg.pl] at h; split at h
      · rename_i e; cases e
        simp only [Bool.and_eq_true, decide_eq_true_eq] at h
        obtain ⟨⟨⟨⟨⟨⟨⟨h1, h2⟩, h3⟩, h4⟩, h5⟩, h6⟩, h7⟩, h8⟩ := h
        subst h1
        refine ok_isi ct h2 h3 h4 h5 h6 ?_ (iha.pe C sc Ex _ ct h7)
        cases cl <;> simp only [Bool.and_eq_true, decide_eq_true_eq] at h8 <;> first | exact .inr h8 | exact .inl ⟨_, rfl, h8⟩
      · cases h
    · simp only [chk, Tg.pl] at h; split at h
      · rename_i e; cases e; rfl
      · cases h
  | srs a iha =>
    refine SD.gen (fun C sc Ex x ct h => ?_) (fun sc x h => ?_) (fun _ _ => rfl) (fun _ _ _ => rfl)
    · simp only [chk, Tg.pl] at h; split at h
      · rename_i e; cases e
        simp only [Bool.and_eq_true, decide_eq_true_eq] at h
        obtain ⟨⟨⟨⟨⟨⟨⟨h1, h2⟩, h3⟩, h4⟩, h5⟩, h6⟩, h7⟩, h8⟩ := h
        subst h1; subst h4
        exact ok_srs ct h2 h3 h5 h6 h7 (iha.pe C sc Ex _ ct h8)
      · cases h
    · simp only [chk, Tg.pl] at h; split at h
      · rename_i e; cases e; rfl
      · cases h
  | srk a iha =>
    refine SD.gen (fun C sc Ex x ct h => ?_) (fun sc x h => ?_) (fun _ _ => rfl) (fun _ _ _ => rfl)
    · simp only [chk, Tg.pl] at h; split at h
      · rename_i e; cases e
        simp only [Bool.and_eq_true, decide_eq_true_eq] at h
        obtain ⟨⟨⟨⟨⟨⟨⟨⟨⟨h1, h2⟩, h3⟩, h4⟩, h5⟩, h6⟩, h7⟩, h8⟩, h9⟩, h10⟩ := h
        subst h2; subst h5
        exact ok_srk ct h1 h3 h4 h6 h7 h8 h9 (iha.pe C sc Ex _ ct h10)
      · cases h
    · simp only [chk, Tg.pl] at h; split at h
      · rename_i e; cases e; rfl
      · cases h
  | dnk =>
    refine SD.gen (fun C sc Ex x ct h => tE_of_O (SD.dnkO C sc Ex x ct h)) (fun sc x h => ?_) (fun _ _ => rfl) (fun _ _ _ => rfl)
    simp only [chk, Tg.pl] at h; split at h
    · rename_i e; cases e; rfl
    · cases h
  | dnt =>
    refine SD.gen (fun C sc Ex x ct h => tE_of_O (SD.dntO C sc Ex x ct h)) (fun sc x h => ?_) (fun _ _ => rfl) (fun _ _ _ => rfl)
    simp only [chk, Tg.pl] at h; split at h
    · rename_i e; cases e; rfl
    · cases h
  | ds1 lk tp k v ihk ihv =>
    refine SD.gen (fun C sc Ex x ct h => ?_) (fun sc x h => ?_) (fun _ _ => rfl) (fun _ _ _ => rfl)
    · cases lk with
      | false => exact tE_of_O (SD.ds1O ihk ihv C sc Ex x ct h)
      | true => exact tE_of_L (SD.ds1O (tp := tp) ihk ihv C sc Ex x ct h) (ev_ds1L _ tp k v) fun M r M1 d e => ev_ds1D e
    · simp only [chk, Tg.pl] at h; split at h
      · rename_i e; cases e; rfl
      · cases h
  | dcp lk a iha =>
    refine SD.gen (fun C sc Ex x ct h => ?_) (fun sc x h => ?_) (fun _ _ => rfl) (fun _ _ _ => rfl)
    · cases lk with
      | false => exact tE_of_O (SD.dcpO iha C sc Ex x ct h)
      | true => exact tE_of_L (SD.dcpO iha C sc Ex x ct h) (ev_dcpL _ a) fun M r M1 d e => ev_dcpD e
    · simp only [chk, Tg.pl] at h; split at h
      · rename_i e; cases e; rfl
      · cases h
  | dsp lk l ihl =>
    refine SD.gen (fun C sc Ex x ct h => ?_) (fun sc x h => ?_) (fun _ _ => rfl) (fun _ _ _ => rfl)
    · simp only [chk] at h; cases h
    · simp only [chk] at h; cases h
  | dco lk own k v pt it cd ihk ihv iht ihc =>
    refine SD.gen (fun C sc Ex x ct h => ?_) (fun sc x h => ?_) (fun _ _ => rfl) (fun _ _ _ => rfl)
    · simp only [chk] at h; cases h
    · simp only [chk] at h; cases h
  | slo a lo iha ihl =>
    refine SD.gen (fun C sc Ex x ct h => ?_) (fun sc x h => ?_) (fun _ _ => rfl) (fun _ _ _ => rfl)
    · simp only [chk] at h; cases h
    · simp only [chk] at h; cases h
  | fnm f =>
    refine SD.gen (fun C sc Ex x ct h => ?_) (fun sc x h => ?_) (fun _ _ => rfl) (fun _ _ _ => rfl)
    · simp only [chk] at h; cases h
    · simp only [chk] at h; cases h
  | cla fs a l iha ihl =>
    refine SD.gen (fun C sc Ex x ct h => ?_) (fun sc x h => ?_) (fun _ _ => rfl) (fun _ _ _ => rfl)
    · simp only [chk] at h; cases h
    · simp only [chk] at h; cases h
  | ldk a iha =>
    refine SD.gen (fun C sc Ex x ct h => ?_) (fun sc x h => ?_) (fun _ _ => rfl) (fun _ _ _ => rfl)
    · simp only [chk, Tg.pl] at h; split at h
      · rename_i e; cases e
        simp only [Bool.and_eq_true, decide_eq_true_eq] at h
        obtain ⟨⟨⟨⟨h1, h2⟩, h3⟩, h4⟩, h5⟩ := h
        subst h1
        exact ok_ldk ct h2 h3 h4 (iha.pe C sc Ex _ ct h5)
      · cases h
    · simp only [chk, Tg.pl] at h; split at h
      · rename_i e; cases e; rfl
      · cases h
  | mdn a iha =>
    refine SD.gen (fun C sc Ex x ct h => ?_) (fun sc x h => ?_) (fun _ _ => rfl) (fun _ _ _ => rfl)
    · simp only [chk, Tg.pl] at h; split at h
      · rename_i e; cases e
        simp only [Bool.and_eq_true, decide_eq_true_eq] at h
        obtain ⟨⟨⟨⟨⟨h1, h2⟩, h3⟩, h4⟩, h5⟩, h6⟩ := h
        subst h1; subst h4
        exact ok_mdn ct h2 h3 h5 (iha.pe C sc Ex _ ct h6) pe_non
      · cases h
    · simp only [chk, Tg.pl] at h; split at h
      · rename_i e; cases e; rfl
      · cases h
  | mth a f c g l iha ihl =>
    refine SD.gen (fun C sc Ex x ct h => ?_) (fun sc x h => ?_) (fun _ _ => rfl) (fun _ _ _ => rfl)
    · simp only [chk] at h; cases h
    · simp only [chk] at h; cases h
  | lno a f c iha =>
    refine SD.gen (fun C sc Ex x ct h => ?_) (fun sc x h => ?_) (fun _ _ => rfl) (fun _ _ _ => rfl)
    · simp only [chk] at h; cases h
    · simp only [chk] at h; cases h
  | rpt a b iha ihb =>
    refine SD.gen (fun C sc Ex x ct h => ?_) (fun sc x h => ?_) (fun _ _ => rfl) (fun _ _ _ => rfl)
    · simp only [chk] at h; cases h
    · simp only [chk] at h; cases h
  | rps a b iha ihb =>
    refine SD.gen (fun C sc Ex x ct h => ?_) (fun sc x h => ?_) (fun _ _ => rfl) (fun _ _ _ => rfl)
    · simp only [chk] at h; cases h
    · simp only [chk] at h; cases h
  | mnk a iha =>
    refine SD.gen (fun C sc Ex x ct h => ?_) (fun sc x h => ?_) (fun _ _ => rfl) (fun _ _ _ => rfl)
    · simp only [chk] at h; cases h
    · simp only [chk] at h; cases h
  | mk c l ihl =>
    refine SD.gen (fun C sc Ex x ct h => ?_) (fun sc x h => ?_) (fun _ _ => rfl) (fun _ _ _ => rfl)
    · simp only [chk, Tg.pl] at h; split at h
      · rename_i e; cases e
        simp only [Bool.and_eq_true, decide_eq_true_eq] at h
        obtain ⟨⟨⟨⟨⟨h1, h2⟩, h3⟩, h4⟩, h5⟩, h6⟩ := h
        split at h2
        · rename_i f hf
          simp only [Bool.and_eq_true] at h2
          obtain ⟨d, hd⟩ := Option.isSome_iff_exists.mp h2.2
          exact ok_mk ct h1 hf h2.1 hd h3 h4 h6 (ihl.pa C sc Ex _ ct h6)
        · cases h2
      · cases h
    · simp only [chk, Tg.pl] at h; split at h
      · rename_i e; cases e; rfl
      · cases h
  | fld a f iha =>
    refine SD.gen (fun C sc Ex x ct h => ?_) (fun sc x h => ?_) (fun _ _ => rfl) (fun _ _ _ => rfl)
    · simp only [chk, Tg.pl] at h; split at h
      · rename_i e; cases e
        simp only [Bool.and_eq_true, decide_eq_true_eq] at h
        obtain ⟨⟨⟨h1, h2⟩, h3⟩, h4⟩ := h
        subst h1
        exact ok_fld ct h2 h3 (iha.pe C sc Ex _ ct h4)
      · cases h
    · simp only [chk, Tg.pl] at h; split at h
      · rename_i e; cases e; rfl
      · cases h
  | prp a f c iha =>
    refine SD.gen (fun C sc Ex x ct h => ?_) (fun sc x h => ?_) (fun _ _ => rfl) (fun _ _ _ => rfl)
    · simp only [chk, Tg.pl] at h; split at h
      · rename_i e; cases e
        simp only [Bool.and_eq_true, decide_eq_true_eq] at h
        obtain ⟨⟨⟨⟨⟨h1, h2⟩, h3⟩, h4⟩, h5⟩, h6⟩ := h
        obtain ⟨d, hd⟩ := Option.isSome_iff_exists.mp h2
        obtain ⟨y, hy⟩ := Option.isSome_iff_exists.mp h3
        exact ok_prp ct h1 hd h4 (ct.g.wok _ _ hy).1 h5 (iha.pe C sc Ex _ ct h6)
      · cases h
    · simp only [chk, Tg.pl] at h; split at h
      · rename_i e; cases e; rfl
      · cases h
  | sub a i iha ihi =>
    refine SD.gen (fun C sc Ex x ct h => ?_) (fun sc x h => ?_) (fun _ _ => rfl) (fun _ _ _ => rfl)
    · simp only [chk, Tg.pl] at h; split at h
      · rename_i e; cases e
        simp only [Bool.and_eq_true] at h
        exact ok_sub ct h.1.1 (iha.pe C sc Ex _ ct h.1.2) (ihi.pe C sc Ex _ ct h.2)
      · cases h
    · simp only [chk, Tg.pl] at h; split at h
      · rename_i e; cases e; rfl
      · cases h
  | slc a lo hi iha ihl ihh =>
    refine SD.gen (fun C sc Ex x ct h => ?_) (fun sc x h => ?_) (fun _ _ => rfl) (fun _ _ _ => rfl)
    · simp only [chk, Tg.pl] at h; split at h
      · rename_i e; cases e
        simp only [Bool.and_eq_true] at h
        obtain ⟨⟨h1, h2⟩, h3⟩ := h
        have part : ∀ (c : E) (ih : SD W P T n N c) (o : Option Expr), (match o with | none => isNilE c | some x => !isNilE c && chk P T N c sc (.e x)) = true → PO C o (tPO W (P.fx n) Ex c) := fun c ih o h => by
          cases o with
          | none => cases c <;> first | exact po_nil | cases h
          | some x =>
            simp only [Bool.and_eq_true, Bool.not_eq_true'] at h
            exact po_e h.1 (ih.pe C sc Ex x ct h.2)
        exact ok_slc (iha.pe C sc Ex _ ct h1) (part lo ihl _ h2) (part hi ihh _ h3)
      · cases h
    · simp only [chk, Tg.pl] at h; split at h
      · rename_i e; cases e; rfl
      · cases h
  | rg1 a iha =>
    refine SD.itr (fun C sc Ex tg x ct h => ?_) (fun _ _ => rfl) (fun _ _ => rfl)
    simp only [chk] at h; split at h
    · rename_i e; cases e
      simp only [Bool.and_eq_true, decide_eq_true_eq] at h
      obtain ⟨⟨⟨⟨h1, h2⟩, h3⟩, h4⟩, h5⟩ := h
      subst h1
      exact ok_rg1 ct h2 h3 h4 (iha.pe C sc Ex _ ct h5)
    · cases h
  | rg2 a b iha ihb =>
    refine SD.itr (fun C sc Ex tg x ct h => ?_) (fun _ _ => rfl) (fun _ _ => rfl)
    simp only [chk] at h; split at h
    · rename_i e; cases e
      simp only [Bool.and_eq_true, decide_eq_true_eq] at h
      obtain ⟨⟨⟨⟨⟨⟨h1, h2⟩, h3⟩, h4⟩, h5⟩, h6⟩, h7⟩ := h
      subst h1
      exact ok_rg2 ct h2 h3 h4 h5 (iha.pe C sc Ex _ ct h6) (ihb.pe C sc Ex _ ct h7)
    · cases h
  | lr1 a iha =>
    refine SD.gen (fun C sc Ex x ct h => ?_) (fun sc x h => ?_) (fun _ _ => rfl) (fun _ _ _ => rfl)
    · simp only [chk] at h; cases h
    · simp only [chk] at h; cases h
  | lr2 a b iha ihb =>
    refine SD.gen (fun C sc Ex x ct h => ?_) (fun sc x h => ?_) (fun _ _ => rfl) (fun _ _ _ => rfl)
    · simp only [chk] at h; cases h
    · simp only [chk] at h; cases h
  | enu a iha =>
    refine SD.itr (fun C sc Ex tg x ct h => ?_) (fun _ _ => rfl) (fun _ _ => rfl)
    simp only [chk] at h; split at h
    · rename_i e
      obtain ⟨et, e0⟩ := Tg.i.inj e
      clear e
      cases tg <;> first | (cases et; done) | skip
      subst e0
      simp only [Bool.and_eq_true, decide_eq_true_eq] at h
      obtain ⟨⟨⟨⟨h1, h2⟩, h3⟩, h4⟩, h5⟩ := h
      subst h1
      exact ok_enu ct h2 h3 h4 (iha.pe C sc Ex _ ct h5)
    · cases h
  | zp a b iha ihb =>
    refine SD.itr (fun C sc Ex tg x ct h => ?_) (fun _ _ => rfl) (fun _ _ => rfl)
    simp only [chk] at h; split at h
    · rename_i e
      obtain ⟨et, e0⟩ := Tg.i.inj e
      clear e
      cases tg <;> first | (cases et; done) | skip
      subst e0
      simp only [Bool.and_eq_true, decide_eq_true_eq] at h
      obtain ⟨⟨⟨⟨⟨⟨h1, h2⟩, h3⟩, h4⟩, h5⟩, h6⟩, h7⟩ := h
      subst h1
      exact ok_zp ct h2 h3 h4 h5 (iha.pe C sc Ex _ ct h6) (ihb.pe C sc Ex _ ct h7)
    · cases h
  | zp3 a b c iha ihb ihc =>
    refine SD.itr (fun C sc Ex tg x ct h => ?_) (fun _ _ => rfl) (fun _ _ => rfl)
    simp only [chk] at h; split at h
    · rename_i e
      obtain ⟨et, e0⟩ := Tg.i.inj e
      clear e
      cases tg <;> first | (cases et; done) | skip
      subst e0
      simp only [Bool.and_eq_true, decide_eq_true_eq] at h
      obtain ⟨⟨⟨⟨⟨⟨⟨⟨h1, h2⟩, h3⟩, h4⟩, h5⟩, h55⟩, h6⟩, h7⟩, h8⟩ := h
      subst h1
      exact ok_zp3 ct h2 h3 h4 h5 h55 (iha.pe C sc Ex _ ct h6) (ihb.pe C sc Ex _ ct h7) (ihc.pe C sc Ex _ ct h8)
    · cases h
  | rvL a iha =>
    refine SD.itr (fun C sc Ex tg x ct h => ?_) (fun _ _ => rfl) (fun _ _ => rfl)
    simp only [chk] at h; split at h
    · rename_i e; cases e
      simp only [Bool.and_eq_true, decide_eq_true_eq] at h
      obtain ⟨⟨⟨⟨h1, h2⟩, h3⟩, h4⟩, h5⟩ := h
      subst h1
      exact ok_rvL ct h2 h3 h4 (iha.pe C sc Ex _ ct h5)
    · cases h
  | rvR a iha =>
    refine SD.itr (fun C sc Ex tg x ct h => ?_) (fun _ _ => rfl) (fun _ _ => rfl)
    simp only [chk] at h; split at h
    · rename_i e; cases e
      simp only [Bool.and_eq_true, decide_eq_true_eq] at h
      obtain ⟨⟨⟨⟨⟨⟨⟨h1, h2⟩, h3⟩, h4⟩, h5⟩, h6⟩, h7⟩, h8⟩ := h
      subst h1; subst h4
      exact ok_rvR ct h2 h3 h5 h6 h7 (iha.pe C sc Ex _ ct h8)
    · cases h
  | rg3 a b c iha ihb =>
    refine SD.gen (fun C sc Ex x ct h => ?_) (fun sc x h => ?_) (fun _ _ => rfl) (fun _ _ _ => rfl)
    · simp only [chk] at h; cases h
    · simp only [chk] at h; cases h
  | lc2 own own2 elt pt it pt2 it2 cd ihe iht iht2 ihc =>
    refine SD.gen (fun C sc Ex x ct h => tE_of_O (SD.lc2O ihe iht iht2 ihc C sc Ex x ct h)) (fun sc x h => ?_) (fun _ _ => rfl) (fun _ _ _ => rfl)
    simp only [chk, Tg.pl] at h; split at h
    · rename_i e; cases e; rfl
    · cases h
  | bln a iha =>
    refine SD.gen (fun C sc Ex x k h => ?_) (fun sc x h => ?_) (fun _ _ => rfl) (fun _ _ _ => rfl)
    · simp only [chk, Tg.pl] at h; split at h
      · rename_i e; cases e
        simp only [Bool.and_eq_true, decide_eq_true_eq] at h
        obtain ⟨⟨⟨h1, h2⟩, h3⟩, h4⟩ := h
        subst h1
        exact ok_bln h2 h3 (iha.pe C sc Ex _ k h4)
      · cases h
    · simp only [chk, Tg.pl] at h; split at h
      · rename_i e; cases e; rfl
      · cases h
  | fs s a u iha =>
    refine SD.gen (fun C sc Ex x k h => ?_) (fun sc x h => ?_) (fun _ _ => rfl) (fun _ _ _ => rfl)
    · simp only [chk, Tg.pl] at h; split at h
      · rename_i e; cases e
        simp only [Bool.and_eq_true, decide_eq_true_eq] at h
        obtain ⟨⟨⟨⟨⟨rfl, rfl⟩, h0⟩, h1⟩, h2⟩, h3⟩ := h
        exact ok_fs h0 h1 h2 (iha.pe C sc Ex _ k h3)
      · cases h
    · simp only [chk, Tg.pl] at h; split at h
      · rename_i e; cases e; rfl
      · cases h
  | cat a b iha ihb =>
    refine SD.gen (fun C sc Ex x k h => ?_) (fun sc x h => ?_) (fun _ _ => rfl) (fun _ _ _ => rfl)
    · simp only [chk, Tg.pl] at h; split at h
      · rename_i e; cases e
        simp only [Bool.and_eq_true] at h
        exact tE_of_O (ok_catO (iha.pe C sc Ex _ k h.1) (ihb.pe C sc Ex _ k h.2))
      · cases h
    · simp only [chk, Tg.pl] at h; split at h
      · rename_i e; cases e; rfl
      · cases h
  | rep a b iha ihb =>
    refine SD.gen (fun C sc Ex x ct h => ?_) (fun sc x h => ?_) (fun _ _ => rfl) (fun _ _ _ => rfl)
    · simp only [chk] at h; cases h
    · simp only [chk] at h; cases h
end
end Oc
namespace Oc
open L2 PySem PySem.Spec PyProof.Rows
/-- a body's start: the state at the def's entry, and what stood still at some later point -/
structure Bs where
  F : Hp
  m : List Addr
  H : Hp
  Fc : Hp
  mc : List Addr
structure Sst (W : Wd) (B : Bs) (F : Hp) (m : List Addr) (H : Hp) (M : Mem) (σ : L2.St) (r : En) : Prop where
  rl : Rl W F m H M σ r
  xt : Xt B.F B.m B.H F m H
  nw : ∀ i p, OwnAt σ r i p → B.H p = none
  fx : ∀ a o, B.Fc a = some o → F a = some o
  ix : ∀ (k : Nat) (p : Addr), B.mc[k]? = some p → m[k]? = some p
def SQ (W : Wd) (B : Bs) (D : Ends) (Ex : WX) : Fl → Prop
  | .nx M r => ∀ F m H σ, Sst W B F m H M σ r → D.nx σ H
  | .rt M d => ∀ F m H v, Xt B.F B.m B.H F m H → Mr W F m H M → Rp W F m v d → D.rt v H
  | .bk M r => ∀ F m H σ, Sst W B F m H M σ r → D.bk σ H
  | .ct M r => ∀ F m H σ, Sst W B F m H M σ r → D.ct σ H
  | .er M r k fs => ∀ F m H σ cls dd, Sst W B F m H M σ r → ErR W F m H k fs cls dd → Ex cls dd σ H
  | .st => False
def tS (W : Wd) (X : Fx) (Ex : WX) (s : S) : TS := fun D σ H => ∃ B F m M r, Sst W B F m H M σ r ∧ SQ W B D Ex (ex X s M r)
theorem _root_.L2.PS.wk {C : Cx} {e : Stmt} {t t' : TS} (h : PS C e t) (k : ∀ D σ H, t' D σ H → t D σ H) : PS C e t' := ⟨fun pins s σ H Q I q => h.run pins s σ H Q I (k Q σ H q)⟩
theorem _root_.L2.PSs.wk {C : Cx} {e : List Stmt} {t t' : TS} (h : PSs C e t) (k : ∀ D σ H, t' D σ H → t D σ H) : PSs C e t' := ⟨fun pins s σ H Q I q => h.run pins s σ H Q I (k Q σ H q)⟩
section
variable {W : Wd} {B : Bs} {F F1 : Hp} {m m1 : List Addr} {H H1 : Hp} {M M1 : Mem} {σ σ' : L2.St} {r r' : En} {N : Ends} {Ex : WX} {X : Fx} {e : E} {k : Mem → D → Fl}
theorem Sst.step (s : Sst W B F m H M σ r) (a : Xt F m H F1 m1 H1) (q : Mr W F1 m1 H1 M1) : Sst W B F1 m1 H1 M1 σ r :=
  ⟨s.rl.step a q, s.xt.trans a, s.nw, fun b o h => a.fx b o (s.fx b o h), fun k p h => a.ix k p (s.ix k p h)⟩
theorem OwnAt.of_setE {i j : Nat} {v : V} {x : D} {p : Addr} (h : OwnAt (σ.set i (some v)) (setE r i x) j p) : OwnAt σ r j p := h.of_set.2
theorem Sst.set {v : V} {d : D} (s : Sst W B F m H M σ r) (i : Nat) (rv : Rp W F m v d) : Sst W B F m H M (σ.set i (some v)) (setE r i d) :=
  ⟨s.rl.set i rv, s.xt, fun j p h => s.nw j p h.of_setE, s.fx, s.ix⟩
theorem sE {Q : VK} {k : Mem → D → Fl} (s : Sst W B F m H M σ r) (q : SQ W B N Ex (fOf (ev X e M r) r k))
    (kk : ∀ M1 d F1 m1 H1 v, Sst W B F1 m1 H1 M1 σ r → Xt F m H F1 m1 H1 → Rp W F1 m1 v d → SQ W B N Ex (k M1 d) → Q v H1) : tE W X Ex e σ H Q := by
  refine ⟨F, m, M, r, s.rl, ?_⟩
  cases h : ev X e M r with
  | ok M1 d => rw [h] at q; exact fun F1 m1 H1 a r1 v rv => kk M1 d F1 m1 H1 v (s.step a r1) a rv q
  | er M1 c fs => rw [h] at q; exact fun F1 m1 H1 cls dd a r1 er => q F1 m1 H1 σ cls dd (s.step a r1) er
  | st => rw [h] at q; exact q
theorem sO {Q : VK} {k : Mem → D → Fl} (s : Sst W B F m H M σ r) (q : SQ W B N Ex (fOf (ev X e M r) r k))
    (kk : ∀ M1 d F1 m1 H1 p, Sst W B F1 m1 H1 M1 σ r → Xt F m H F1 m1 H1 → F1 p = none → p ∉ m1 → H p = none → FrR W F1 m1 H1 p d → SQ W B N Ex (k M1 d) → Q (.ref p) H1) : tO W X Ex e σ H Q := by
  refine ⟨F, m, M, r, s.rl, ?_⟩
  cases h : ev X e M r with
  | ok M1 d => rw [h] at q; exact fun F1 m1 H1 a r1 p h1 h2 h3 h4 => kk M1 d F1 m1 H1 p (s.step a r1) a h1 h2 h3 h4 q
  | er M1 c fs => rw [h] at q; exact fun F1 m1 H1 cls dd a r1 er => q F1 m1 H1 σ cls dd (s.step a r1) er
  | st => rw [h] at q; exact q
theorem sT {Q : Bool → Hp → Prop} {k : Mem → Bool → Fl} (s : Sst W B F m H M σ r) (q : SQ W B N Ex (bOf (evB X e M r) r k))
    (kk : ∀ M1 b F1 m1 H1, Sst W B F1 m1 H1 M1 σ r → Xt F m H F1 m1 H1 → SQ W B N Ex (k M1 b) → Q b H1) : tT W X Ex e σ H Q := by
  refine ⟨F, m, M, r, s.rl, ?_⟩
  cases h : evB X e M r with
  | ok M1 d => rw [h] at q; exact fun F1 m1 H1 a r1 => kk M1 d F1 m1 H1 (s.step a r1) a q
  | er M1 c fs => rw [h] at q; exact fun F1 m1 H1 cls dd a r1 er => q F1 m1 H1 σ cls dd (s.step a r1) er
  | st => rw [h] at q; exact q
theorem sI {Q : It → Hp → Prop} {k : Mem → D → Fl} (s : Sst W B F m H M σ r) (q : SQ W B N Ex (fOf (ev X e M r) r k))
    (kk : ∀ M1 d F1 m1 H1, Sst W B F1 m1 H1 M1 σ r → Xt F m H F1 m1 H1 → SQ W B N Ex (k M1 d) → ∃ xs, itms d = some xs ∧ (xs.length ≤ lim → ∀ J, Wk W F1 m1 J xs → Q J H1)) : tI W X Ex e σ H Q := by
  refine ⟨F, m, M, r, s.rl, ?_⟩
  cases h : ev X e M r with
  | ok M1 d => rw [h] at q; exact fun F1 m1 H1 a r1 => kk M1 d F1 m1 H1 (s.step a r1) a q
  | er M1 c fs => rw [h] at q; exact fun F1 m1 H1 cls dd a r1 er => q F1 m1 H1 σ cls dd (s.step a r1) er
  | st => rw [h] at q; exact q
/-- a slot gets a new thing of its own -/
def FrSl : D → Sl
  | .lst xs => .ol xs
  | .dk _ ks vs => .ok ks vs
  | .dt _ ks vs => .ot ks vs
  | d => .d d
theorem Rl.setOwn {p : Addr} {d : D} (R : Rl W F m H M σ r) (i : Nat) (h1 : F p = none) (h2 : p ∉ m) (h3 : ∀ j, ¬ OwnAt σ r j p) (h4 : FrR W F m H p d) :
    Rl W F m H M (σ.set i (some (.ref p))) (r.set i (some (FrSl d))) ∧ ∀ j q, OwnAt (σ.set i (some (.ref p))) (r.set i (some (FrSl d))) j q → q = p ∨ OwnAt σ r j q := by
  have sl : SlR W F m H (.ref p) (FrSl d) := by
    cases d <;> first | exact h4.elim | skip
    · obtain ⟨vs, a, b, c⟩ := h4; exact ⟨p, vs, rfl, h1, h2, a, b, c⟩
    · obtain ⟨rfl, vs, a, b, g, c, e⟩ := h4; exact ⟨p, vs, rfl, h1, h2, a, b, g, c, e⟩
    · obtain ⟨rfl, vs, a, b, g, c, e⟩ := h4; exact ⟨p, vs, rfl, h1, h2, a, b, g, c, e⟩
  have key : ∀ j q, OwnAt (σ.set i (some (.ref p))) (r.set i (some (FrSl d))) j q → (j = i ∧ q = p) ∨ (j ≠ i ∧ OwnAt σ r j q) := fun j q h => by
    obtain ⟨y, a, b, c⟩ := h
    by_cases e : j = i
    · subst e
      by_cases hl : j < r.length
      · rw [List.getElem?_set_self (by rw [R.sl]; exact hl)] at c
        cases c; exact .inl ⟨rfl, rfl⟩
      · rw [List.getElem?_eq_none (by rw [List.length_set]; omega)] at a; cases a
    · rw [List.getElem?_set_ne (fun z => e z.symm)] at a c
      exact .inr ⟨e, y, a, b, c⟩
  refine ⟨⟨R.mr, by rw [List.length_set, List.length_set]; exact R.sl, fun j y h => ?_, fun j k q a b => ?_⟩, fun j q h => ?_⟩
  · by_cases e : j = i
    · subst e
      by_cases hl : j < r.length
      · rw [List.getElem?_set_self hl] at h
        cases h
        exact ⟨_, List.getElem?_set_self (by rw [R.sl]; exact hl), sl⟩
      · rw [List.getElem?_eq_none (by rw [List.length_set]; omega)] at h; cases h
    · rw [List.getElem?_set_ne (fun z => e z.symm)] at h
      obtain ⟨w, q1, q2⟩ := R.sr j y h
      exact ⟨w, by rw [List.getElem?_set_ne (fun z => e z.symm)]; exact q1, q2⟩
  · rcases key j q a with ⟨e1, e2⟩ | ⟨e1, e2⟩ <;> rcases key k q b with ⟨e3, e4⟩ | ⟨e3, e4⟩
    · rw [e1, e3]
    · exact absurd (e2 ▸ e4) (h3 k)
    · exact absurd (e4 ▸ e2) (h3 j)
    · exact R.di j k q e2 e4
  · rcases key j q h with ⟨e1, e2⟩ | ⟨e1, e2⟩
    · exact .inl e2
    · exact .inr e2
theorem Sst.setOwn {p : Addr} {d : D} (s : Sst W B F m H M σ r) (i : Nat) (h1 : F p = none) (h2 : p ∉ m) (h0 : B.H p = none) (h3 : ∀ j, ¬ OwnAt σ r j p) (h4 : FrR W F m H p d) : Sst W B F m H M (σ.set i (some (.ref p))) (r.set i (some (FrSl d))) := by
  obtain ⟨R, k⟩ := s.rl.setOwn i h1 h2 h3 h4
  exact ⟨R, s.xt, fun j q h => by rcases k j q h with rfl | h; exact h0; exact s.nw j q h, s.fx, s.ix⟩
/-- an owned thing is written -/
theorem Sst.updOwn {p : Addr} {i : Nat} {o : HO} {x y : Sl} (s : Sst W B F m H M σ r) (ho : OwnAt σ r i p) (hx : r[i]? = some (some x)) (hy : isOwn y = true) (q : F p = none → p ∉ m → SlR W F m (upd H p o) (.ref p) y) : Sst W B F m (upd H p o) M σ (r.set i (some y)) := by
  obtain ⟨x', e1, e2, e3⟩ := ho
  rw [hx] at e1; cases e1
  obtain ⟨v, e4, e5⟩ := s.rl.sr i x hx
  rw [e3] at e4; cases e4
  obtain ⟨p', u, e6, f1, f2, f3⟩ := e5.own_at e2
  cases e6
  have hl : i < r.length := (List.getElem?_eq_some_iff.mp hx).1
  have back : ∀ j q, OwnAt σ (r.set i (some y)) j q → OwnAt σ r j q := fun j q h => by
    obtain ⟨z, a, b, c⟩ := h
    by_cases e : j = i
    · subst e; exact ⟨x, hx, e2, c⟩
    · rw [List.getElem?_set_ne (fun z => e z.symm)] at a; exact ⟨z, a, b, c⟩
  refine ⟨⟨s.rl.mr.updD (e5.own_pln e2) f1 f2, by rw [List.length_set]; exact s.rl.sl, fun j z h => ?_, fun j k q a b => s.rl.di j k q (back _ _ a) (back _ _ b)⟩, ?_, fun j q h => s.nw j q (back _ _ h), s.fx, s.ix⟩
  · by_cases e : j = i
    · subst e
      rw [List.getElem?_set_self hl] at h; cases h
      exact ⟨_, e3, q f1 f2⟩
    · rw [List.getElem?_set_ne (fun z => e z.symm)] at h
      obtain ⟨v, a, b⟩ := s.rl.sr j z h
      refine ⟨v, a, b.updD fun hz ev => ?_⟩
      subst ev
      exact e (s.rl.di j i p ⟨z, h, hz, a⟩ ⟨x, hx, e2, e3⟩)
  · exact s.xt.updD (s.nw i p ⟨x, hx, e2, e3⟩)
/-- an owned thing stands still from here on, as w -/
theorem Sst.stand {i : Nat} {p : Addr} {x : Sl} {u w : HO} {d : D} (s : Sst W B F m H M σ r) (hx : r[i]? = some (some x)) (e2 : isOwn x = true) (e3 : σ[i]? = some (some (.ref p))) (f1 : F p = none) (f2 : p ∉ m) (f3 : H p = some u) (hw : NoTbl w)
    (k : ∀ F1, (∀ a o, F a = some o → F1 a = some o) → F1 p = some w → Rp W F1 m (.ref p) d) : Sst W B (upd F p w) m (upd H p w) M σ (r.set i (some (.d d))) := by
  have hl : i < r.length := (List.getElem?_eq_some_iff.mp hx).1
  have own : OwnAt σ r i p := ⟨x, hx, e2, e3⟩
  have b0 := s.nw i p own
  have mono : ∀ a o, F a = some o → upd F p w a = some o := fun a o h => by rw [upd_ne (ne_of_none h f1)]; exact h
  have back : ∀ j q, OwnAt σ (r.set i (some (.d d))) j q → OwnAt σ r j q ∧ j ≠ i := fun j q h => by
    obtain ⟨z, a, b, c⟩ := h
    by_cases e : j = i
    · subst e; rw [List.getElem?_set_self hl] at a; cases a; cases b
    · rw [List.getElem?_set_ne (fun z => e z.symm)] at a; exact ⟨⟨z, a, b, c⟩, e⟩
  refine ⟨⟨⟨fun a o h => ?_, s.rl.mr.len, s.rl.mr.nd, fun j c q a b => ?_, tabs_pln s.rl.mr.tb (s.rl.own_pln own), nt_upd s.rl.mr.nt hw⟩, by rw [List.length_set]; exact s.rl.sl, fun j z h => ?_, fun j k q a b => s.rl.di j k q (back _ _ a).1 (back _ _ b).1⟩,
    ⟨fun a o h => mono a o (s.xt.fx a o h), fun a o h hm ht => by rw [upd_ne (ne_of_none h b0)]; exact s.xt.hx a o h hm ht, fun a o h => ?_, s.xt.mx, fun a h => ?_⟩, fun j q h => s.nw j q (back _ _ h).1, fun a o h => mono a o (s.fx a o h), s.ix⟩
  · by_cases e : a = p
    · subst e; rw [upd_same] at h ⊢; exact h
    · rw [upd_ne e] at h ⊢; exact s.rl.mr.sub a o h
  · obtain ⟨n1, z⟩ := s.rl.mr.mo j c q a b
    have ne : q ≠ p := fun e => f2 (e ▸ List.mem_of_getElem? b)
    refine ⟨by rw [upd_ne ne]; exact n1, ?_⟩
    cases c with
    | ml xs => obtain ⟨vs, q1, q2, q3⟩ := z; exact ⟨vs, by rw [upd_ne ne]; exact q1, q2.mono mono (fun _ _ z => z), q3⟩
    | mi c ns ds => obtain ⟨hc, dx, fs, q1, q2, q3⟩ := z; exact ⟨hc, dx, fs, by rw [upd_ne ne]; exact q1, q2, q3.mono mono (fun _ _ z => z)⟩
  · by_cases e : j = i
    · subst e
      rw [List.getElem?_set_self hl] at h; cases h
      exact ⟨_, e3, k _ mono upd_same⟩
    · rw [List.getElem?_set_ne (fun z => e z.symm)] at h
      obtain ⟨v, a, b⟩ := s.rl.sr j z h
      refine ⟨v, a, ?_⟩
      have np : isOwn z = true → v ≠ .ref p := fun hz ev => e (s.rl.di j i p ⟨z, h, hz, by rw [a, ev]⟩ own)
      cases z with
      | d x => exact Rp.mono mono (fun _ _ z => z) b
      | ol xs => obtain ⟨q, vs, e, h1, h2, h3, h4, h5⟩ := b; exact ⟨q, vs, e, by rw [upd_ne (fun z => np rfl (by rw [e, z]))]; exact h1, h2, by rw [upd_ne (fun z => np rfl (by rw [e, z]))]; exact h3, h4.mono mono (fun _ _ z => z), h5⟩
      | ok ks ds => obtain ⟨q, vs, e, h1, h2, h3, h4, h7, h5, h6⟩ := b; exact ⟨q, vs, e, by rw [upd_ne (fun z => np rfl (by rw [e, z]))]; exact h1, h2, by rw [upd_ne (fun z => np rfl (by rw [e, z]))]; exact h3, h4, h7, h5.mono mono (fun _ _ z => z), h6⟩
      | ot ks ds => obtain ⟨q, vs, e, h1, h2, h3, h4, h7, h5, h6⟩ := b; exact ⟨q, vs, e, by rw [upd_ne (fun z => np rfl (by rw [e, z]))]; exact h1, h2, by rw [upd_ne (fun z => np rfl (by rw [e, z]))]; exact h3, h4, h7, h5.mono mono (fun _ _ z => z), h6⟩
  · by_cases e : a = p
    · subst e; exact .inr (.inl b0)
    · rw [upd_ne e] at h; exact s.xt.nx a o h
  · by_cases e : a = p
    · subst e; rw [upd_same]; exact fun z => by cases z
    · rw [upd_ne e]; exact s.xt.dx a h
theorem upd_self {H : Hp} {p : Addr} {u : HO} (h : H p = some u) : upd H p u = H := by
  funext a
  by_cases e : a = p
  · subst e; rw [upd_same, h]
  · rw [upd_ne e]
/-- an owned thing is frozen; a dict is locked -/
theorem Sst.frz (s : Sst W B F m H M σ r) (i : Nat) : (∃ F1, Sst W B F1 m H M σ (match r[i]? with
    | some o => r.set i (lokS o)
    | none => r)) ∨ ∃ p u, H p = some u ∧ Mut (some u) ∧ ∀ od, ∃ F1, Sst W B F1 m (upd H p (.frz od u)) M σ (match r[i]? with
    | some o => r.set i (lokS o)
    | none => r) := by
  cases hx : r[i]? with
  | none => exact .inl ⟨F, s⟩
  | some o =>
    have hl : i < r.length := (List.getElem?_eq_some_iff.mp hx).1
    have same : lokS o = o → ∃ F1, Sst W B F1 m H M σ (r.set i (lokS o)) := fun e => by
      have : r.set i (lokS o) = r := by
        rw [e]
        refine List.ext_getElem? fun j => ?_
        by_cases h : j = i
        · subst h; rw [List.getElem?_set_self hl, hx]
        · rw [List.getElem?_set_ne fun z => h z.symm]
      rw [this]; exact ⟨F, s⟩
    show (∃ F1, Sst W B F1 m H M σ (r.set i (lokS o))) ∨ ∃ p u, H p = some u ∧ Mut (some u) ∧ ∀ od, ∃ F1, Sst W B F1 m (upd H p (.frz od u)) M σ (r.set i (lokS o))
    cases o with
    | none => exact .inl (same rfl)
    | some x =>
      obtain ⟨v, a, b⟩ := s.rl.sr i x hx
      cases x with
      | d x => exact .inl (same rfl)
      | ol xs =>
        obtain ⟨q, vs, rfl, h1, h2, h3, h4, h5⟩ := b
        have z := s.stand (d := .lst xs) hx rfl a h1 h2 h3 (fun _ z => by cases z) fun F1 k1 k2 => .lst k2 (h4.mono k1 fun _ _ z => z) h5
        rw [upd_self h3] at z
        exact .inl ⟨_, z⟩
      | ok ks ds =>
        obtain ⟨q, vs, rfl, h1, h2, h3, h4, h7, h5, h6⟩ := b
        exact .inr ⟨q, _, h3, trivial, fun od => ⟨_, s.stand (d := .dk true ks ds) hx rfl a h1 h2 h3 (fun _ z => by cases z) fun F1 k1 k2 => .dk (.inl ⟨_, k2⟩) h4 h7 (h5.mono k1 fun _ _ z => z) h6⟩⟩
      | ot ks ds =>
        obtain ⟨q, vs, rfl, h1, h2, h3, h4, h7, h5, h6⟩ := b
        exact .inr ⟨q, _, h3, trivial, fun od => ⟨_, s.stand (d := .dt true ks ds) hx rfl a h1 h2 h3 (fun _ z => by cases z) fun F1 k1 k2 => .dt (.inl ⟨_, k2⟩) h4 h7 (h5.mono k1 fun _ _ z => z) h6⟩⟩
end
end Oc
namespace Oc
open L2 PySem PySem.Spec PyProof.Rows
def isFrz : S → Bool
  | .frz _ => true
  | _ => false
def isOne : S → Bool
  | .frz _ | .nil | .seq _ _ | .never => false
  | _ => true
def notComp : Expr → Bool
  | .ListComp _ _ _ _ | .SetComp _ _ _ _ | .DictComp _ _ _ _ _ => false
  | _ => true
def isO : E → Bool
  | .lst _ => true
  | .lc _ _ _ _ _ => true
  | .bi .list _ => true
  | .lc2 _ _ _ _ _ _ _ _ => true
  | .cat _ _ => true
  | .dnk | .dnt => true
  | .ds1 false _ _ _ => true
  | .dcp false _ => true
  | _ => false
/-- name = [..] that stores at once -/
def swT (sc : Scope) (y : Str) (py : Pos) : Expr → Bool
  | .DictComp _ _ _ s pos => lclB sc y && (py.line == pos.line) && !(s.names.any fun (n, k) => n == y && (k == .local || k == .cell))
  | .ListComp _ _ s pos => lclB sc y && (py.line == pos.line) && !(s.names.any fun (n, k) => n == y && (k == .local || k == .cell))
  | _ => false
def celB (sc : Scope) (x : Str) : Bool := match sc.names.lookup x with
  | some .cell | some .free => true
  | _ => false
def swF (sc : Scope) (y : Str) (py : Pos) : Expr → Bool
  | .DictComp _ _ _ s pos => celB sc y || !((py.line == pos.line) && !(s.names.any fun (n, k) => n == y && (k == .local || k == .cell)))
  | .ListComp _ _ s pos => celB sc y || !((py.line == pos.line) && !(s.names.any fun (n, k) => n == y && (k == .local || k == .cell)))
  | e => notComp e
def okAug : O2 → Bool
  | .add | .sub | .mul => true
  | _ => false
/-- the plain forms of a suite's expression -/
def chkC (N : List Str) (sc : Scope) : E → Expr → Bool
  | .int i, y => (match y with | .Constant (.int j) _ _ => decide (i = j) | _ => false)
  | .str s, y => (match y with | .Constant (.str x) _ _ => decide (x = csS s) && decide (s.length ≤ lim) && s.all (· < 0x110000) | _ => false)
  | .bl b, y => (match y with | .Constant (.bool c) _ _ => b == c | _ => false)
  | .non, y => (match y with | .Constant .none _ _ => true | _ => false)
  | _, _ => false
def chkSu (N : List Str) (sc : Scope) : Su → Stmt → Bool
  | .ret e, .Return (some x) _ => chkC N sc e x
  | .set i e, .Assign [.Name x p] v _ => decide (N[i]? = some x) && locB sc x && swF sc x p v && notComp v && chkC N sc e v
  | _, _ => false
def isLX : XE → Bool
  | .nil | .cons _ _ => true
  | _ => false
/-- what a suite says of its exception, bound to nm -/
def isIfT : XE → Bool
  | .isx _ | .inn _ _ => true
  | _ => false
def chkX (T : Tb) (N : List Str) (sc : Scope) (nm : Str) : XE → List Expr → Bool
  | .int i, l => (match l with | [.Constant (.int j) _ _] => decide (i = j) | _ => false)
  | .str s, l => (match l with | [.Constant (.str x) _ _] => decide (x = csS s) && decide (s.length ≤ lim) && s.all (· < 0x110000) | _ => false)
  | .non, l => (match l with | [.Constant .none _ _] => true | _ => false)
  | .fld c j f, l => (match l with | [.Attribute (.Name x _) g _] => decide (x = nm) && decide (g = f) && (T.exc c).isSome && decide ((T.exn c)[j]? = some f) && decide ((T.exn c).Nodup) | _ => false)
  | .isx c, l => (match l with | [.Call (.Name z _) [.Name x _, .Name y _] [] _] => decide (z = ("isinstance" : Str)) && decide (z ∈ T.blt) && glB sc z && decide (x = nm) && T.exx && decide (T.exc c = some y) && glB sc y && okNm y | _ => false)
  | .nil, l => l.isEmpty
  | .cons a e, l => (match l with | x :: xs => notStar x && !isLX a && isLX e && chkX T N sc nm a [x] && chkX T N sc nm e xs | [] => false)
  | .ife t a b, l => isIfT t && (match l with | [.IfExp z x y _] => !isLX a && !isLX b && chkX T N sc nm t [z] && chkX T N sc nm a [x] && chkX T N sc nm b [y] | _ => false)
  | .inn u l0, l => (match l with | [.Compare x [.In] [y] _] => notSet y && !isLX u && !isLX l0 && chkX T N sc nm u [x] && chkX T N sc nm l0 [y] | _ => false)
  | .lst e, l => (match l with | [.List es _] => decide (es.length ≤ 100) && isLX e && chkX T N sc nm e es | _ => false)
  | _, _ => false
/-- no slot of a suite is i -/
def sxI (i : Nat) : SX → Bool
  | .ret _ => true
  | .set j _ => decide (j ≠ i)
  | .thn j _ s | .own j _ s | .app _ j _ s | .frz j s => decide (j ≠ i) && sxI i s
def chkSX (T : Tb) (N : List Str) (sc : Scope) (nm : Str) : SX → List Stmt → Bool
  | .ret e, [.Return (some x) _] => !isLX e && chkX T N sc nm e [x]
  | _, _ => false
def hdV : ExceptHandler → Option (Str × Option Str × List Stmt)
  | .ExceptHandler (some (.Name x _)) o l _ => some (x, o, l)
  | _ => none
theorem hdV_ok {h : ExceptHandler} {x : Str} {o : Option Str} {l : List Stmt} (e : hdV h = some (x, o, l)) : ∃ p q, h = .ExceptHandler (some (.Name x p)) o l q := by
  unfold hdV at e
  split at e <;> cases e
  exact ⟨_, _, rfl⟩
def chkM (T : Tb) (N : List Str) (sc : Scope) : List Hd → List ExceptHandler → Bool
  | [], l => l.isEmpty
  | .bare k s :: r, l => (match l with
    | h :: l => (match hdV h with
      | some (x, none, [st]) => decide (T.exc k = some x) && glB sc x && okNm x && chkSu N sc s st && chkM T N sc r l
      | _ => false)
    | [] => false)
  | .as k i su :: r, l => (match l with
    | h :: l => (match hdV h with
      | some (x, some nm, st :: sts) => decide (T.exc k = some x) && glB sc x && okNm x && decide (N[i]? = some nm) && lclB sc nm && okNm nm && sxI i su && chkSX T N sc nm su (st :: sts) && chkM T N sc r l
      | _ => false)
    | [] => false)
def chkD (P : Pg) (T : Tb) (N : List Str) (sc : Scope) : List (E × E) → List (Option Expr) → List Expr → Bool
  | [], [], [] => true
  | (k, v) :: l, some x :: ks, y :: vs => chk P T N k sc (.e x) && chk P T N v sc (.e y) && chkD P T N sc l ks vs
  | _, _, _ => false
def chkS (P : Pg) (T : Tb) (N : List Str) : S → Scope → List Stmt → Bool
  | .nil, _, l => l.isEmpty
  | .seq a b, sc, l => (isFrz a && chkS P T N b sc l) || (isOne a && match l with | st :: rest => chkS P T N a sc [st] && chkS P T N b sc rest | [] => false)
  | .set i e, sc, l => (match l with | [.Assign [.Name x p] v _] => decide (N[i]? = some x) && locB sc x && (swT sc x p v || swF sc x p v) && (notComp v || isO e) && chk P T N e sc (.e v) | _ => false)
  | .setO i e, sc, l => (match l with | [.Assign [.Name x p] v _] => isO e && decide (N[i]? = some x) && locB sc x && (swT sc x p v || swF sc x p v) && chk P T N e sc (.e v) | _ => false)
  | .setP p e, _, _ => false
  | .par i j a b, _, _ => false
  | .app i e, sc, l => (match l with
    | [.Expr (.Call (.Attribute (.Name x _) y apos) [a] [] pos) _] => decide (N[i]? = some x) && visB sc x && okNm x && decide (y = ("append" : Str)) && (apos.endLine == pos.line) && notStar a && chk P T N e sc (.e a)
    | _ => false)
  | .rvo i, _, _ => false
  | .frz _, _, l => l.isEmpty
  | .aug i o e, sc, l => (match l with | [.AugAssign (.Name x _) q v _] => decide (N[i]? = some x) && locB sc x && opB o q && okAug o && chk P T N e sc (.e v) | _ => false)
  | .hset a i e, sc, l => (match l with | [.Assign [.Subscript x y _] v _] => notSlice y && chk P T N a sc (.e x) && chk P T N i sc (.e y) && chk P T N e sc (.e v) | _ => false)
  | .fset a f e, sc, l => (match l with | [.Assign [.Attribute x g _] v _] => decide (f = g) && decide (f ∈ T.fls) && chk P T N a sc (.e x) && chk P T N e sc (.e v) | _ => false)
  | .ret e, sc, l => (match l with | [.Return (some x) _] => chk P T N e sc (.e x) | _ => false)
  | .retN, _, l => (match l with | [.Return none _] => true | _ => false)
  | .retR a b c, sc, l => (match l with | [.Return (some (.List [x, y, z] _)) _] => isO b && notStar x && notStar y && notStar z && chk P T N a sc (.e x) && chk P T N b sc (.e y) && chk P T N c sc (.e z) | _ => false)
  | .ife c a b, sc, l => (match l with | [.If t x y _] => chk P T N c sc (.e t) && chkS P T N a sc x && chkS P T N b sc y | _ => false)
  | .forr p it b, sc, l => (match l with | [.For tg x y [] _] => notSet x && chk P T N it sc (.i (isTupE tg) x) && chkPt N sc none p tg && chkS P T N b sc y | _ => false)
  | .whl _ c b, sc, l => (match l with | [.While t y [] _] => chk P T N c sc (.e t) && chkS P T N b sc y | _ => false)
  | .drop e, sc, l => (match l with | [.Expr x _] => notComp x && chk P T N e sc (.e x) | _ => false)
  | .pass, _, l => (match l with | [.Pass _] => true | _ => false)
  | .brk, _, l => (match l with | [.Break _] => true | _ => false)
  | .cnt, _, l => (match l with | [.Continue _] => true | _ => false)
  | .never, _, _ => true
  | .rse k e, sc, l => (match l with
    | [.Raise (some (.Call (.Name x _) [] [] _)) none _] => isNilE e && decide (T.exc k = some x) && T.exi k && glB sc x && okNm x
    | [.Raise (some (.Call (.Name x _) (a :: as) [] _)) none _] => decide (T.exc k = some x) && decide ((a :: as).length = (T.exn k).length) && decide ((a :: as).length ≤ 100) && glB sc x && okNm x && chk P T N e sc (.l (a :: as))
    | _ => false)
  | .tra b k i su, _, _ => false
  | .trm b hs, sc, l => (match l with | [.Try body (h :: hds) [] [] _] => chkS P T N b sc body && chkM T N sc hs (h :: hds) | _ => false)
  | .dspO i pl, sc, l => (match l with
    | [.Assign [.Name x p] (.Dict (k :: ks) values pos) _] => decide (N[i]? = some x) && locB sc x && swF sc x p (.Dict (k :: ks) values pos) && decide ((k :: ks).length ≤ 15) && chkD P T N sc pl (k :: ks) values
    | _ => false)
  | .trp i k1 k2 j a b c, _, _ => false
  | .tri b hs, _, _ => false
  | .lset i a e, _, _ => false
  | .laug i a o e, _, _ => false
  | .parO i j o1 o2 a b, _, _ => false
  | .dset i a e, sc, l => (match l with | [.Assign [.Subscript (.Name x _) y _] v _] => decide (N[i]? = some x) && visB sc x && okNm x && notSlice y && notComp v && chk P T N a sc (.e y) && chk P T N e sc (.e v) | _ => false)
  | .dupd i e, _, _ => false
  | .ins0 i e, _, _ => false
section
variable {W : Wd} {F F1 : Hp} {m m1 : List Addr} {H H1 : Hp} {M M1 : Mem} {σ σ' : L2.St} {r r' : En} {X : Fx} {Ex : WX}
theorem E_of_O {c : E} {Q : VK} (h : tE W X Ex c σ H Q) : tO W X Ex c σ H Q := by
  obtain ⟨F, m, M, r, R, q⟩ := h
  refine ⟨F, m, M, r, R, ?_⟩
  cases hx : ev X c M r with
  | st => rw [hx] at q; exact q.elim
  | er M k fs => rw [hx] at q; exact q
  | ok M1 d =>
    rw [hx] at q
    intro F' m' H' a r1 p h1 h2 h3 hf
    obtain ⟨F'', a2, r2, rp⟩ := frz_new a r1 h1 h2 h3 hf
    exact q F'' m' H' a2 r2 _ rp
end
section
variable {W : Wd} {P : Pg} {T : Tb} {n : Nat} {N : List Str} {C : Cx} {sc : Scope} {Ex : WX}
theorem bi_list {M : Mem} {ds : List D} {d : D} (e : biD M .list ds = some d) : (∃ xs, ds = [.lst xs] ∧ d = .lst xs) ∨ (∃ xs, ds = [.tup xs] ∧ d = .lst xs) ∨ (∃ ns : List Int, ds = [.scr ns] ∧ d = .lst (ns.map .int)) := by
  cases ds with
  | nil => simp [biD] at e
  | cons x r => cases r with
    | cons y r => cases x <;> simp [biD] at e
    | nil => cases x <;> simp [biD] at e <;> subst e <;> simp
theorem ok_listO {l : E} {x : Expr} {as : List Expr} {p pos : Pos} (c : Ct W P T n N C sc Ex) (hb : ("list" : Str) ∈ T.blt) (hg : glB sc ("list" : Str) = true) (hn : okNm ("list" : Str) = true) (hl : chk P T N l sc (.l (x :: as)) = true) (h : PA C (x :: as) (tA W (P.fx n) Ex l)) :
    PE C (.Call (.Name "list" p) (x :: as) [] pos) (tO W (P.fx n) Ex (.bi .list l)) := by
  have hs := chk_head (env := C.env) (pos := pos) hl
  have o := okNm_of hn
  refine (pe_callTy call_list_of (c.so.gl _ hg) (c.g.blt _ hb) (show bootBuiltins ("list" : Str) = some (.type "list") by decide +kernel) h o.2.2 o.1 (star_cons hs.1) hs.2).wk fun σ H Q ⟨F, m, M, r, R, q⟩ =>
    tA_bind R q fun M1 ds F1 m1 H1 vs _ R1 a1 rv h1 => ?_
  dsimp only at h1
  obtain ⟨d, e, _⟩ := EQ.opt h1
  rcases bi_list e with ⟨xs, rfl, rfl⟩ | ⟨xs, rfl, rfl⟩ | ⟨ns, rfl, rfl⟩
  · obtain ⟨v, rfl, ra⟩ := rv.one
    cases ra with
    | lst h2 r2 l2 => exact ⟨_, _, rfl, .inl (SqL.of (R1.mr.sub _ _ h2)), own_lst R1 a1 r2 l2 h1⟩
  · obtain ⟨v, rfl, ra⟩ := rv.one
    cases ra with
    | tup h2 r2 l2 => exact ⟨_, _, rfl, .inr (SqT.of (R1.mr.sub _ _ h2)), own_lst R1 a1 r2 l2 h1⟩
  · obtain ⟨v, rfl, ra⟩ := rv.one
    cases ra with
    | scr h2 l2 => exact ⟨_, _, rfl, .inl (scr_sq c.g.sq R1.mr.sub h2), own_lst R1 a1 (Rps.ints _) (by rw [List.length_map]; exact l2) h1⟩
/-- an expression that makes a new list -/
theorem masterO {e : E} {x : Expr} (c : Ct W P T n N C sc Ex) (ho : isO e = true) (h : chk P T N e sc (.e x) = true) : PE C x (tO W (P.fx n) Ex e) := by
  cases e <;> simp only [isO] at ho <;> first | (cases ho; done) | skip
  · rename_i l
    simp only [chk, Tg.pl] at h; split at h
    · rename_i e; cases e
      simp only [Bool.and_eq_true, decide_eq_true_eq] at h
      exact ok_lstO h.1 h.2 ((master l).pa C sc Ex _ c h.2)
    · cases h
  · rename_i own elt pt it cd
    exact SD.lcO (master elt) (master it) (master cd) C sc Ex x c h
  · rename_i k l
    cases k <;> simp only [isO] at ho <;> first | (cases ho; done) | skip
    simp only [chk, Tg.pl] at h; split at h
    · rename_i e; cases e
      simp only [Bool.and_eq_true, decide_eq_true_eq] at h
      obtain ⟨⟨⟨⟨h1, h2⟩, h3⟩, h4⟩, h5⟩ := h
      subst h1
      exact ok_listO c h2 h3 h4 h5 ((master l).pa C sc Ex _ c h5)
    · cases h
  · rename_i own own2 elt pt it pt2 it2 cd
    exact SD.lc2O (master elt) (master it) (master it2) (master cd) C sc Ex x c h
  · rename_i a b
    simp only [chk, Tg.pl] at h; split at h
    · rename_i e; cases e
      simp only [Bool.and_eq_true] at h
      exact ok_catO ((master a).pe C sc Ex _ c h.1) ((master b).pe C sc Ex _ c h.2)
    · cases h
  · exact SD.dnkO C sc Ex x c h
  · exact SD.dntO C sc Ex x c h
  · rename_i lk tp k v
    cases lk <;> simp only [isO] at ho <;> first | (cases ho; done) | skip
    exact SD.ds1O (master k) (master v) C sc Ex x c h
  · rename_i lk a
    cases lk <;> simp only [isO] at ho <;> first | (cases ho; done) | skip
    exact SD.dcpO (master a) C sc Ex x c h
theorem swF_ok {x : Str} {p : Pos} {v : Expr} {l : Nat} (so : ScOk C sc) (hl : locB sc x = true) (h : swF sc x p v = true) : swapsWith v (some (.Name x p)) l C.env = pure false := by
  have main : ∀ (s : Scope) (pos : Pos), (celB sc x || !((p.line == pos.line) && !(s.names.any fun (n, k) => n == x && (k == .local || k == .cell)))) = true →
      ((C.env.blockKind == .function && C.env.kindOf x == some .local && p.line == pos.line) && !(s.names.any fun (n, k) => n == x && (k == .local || k == .cell))) = false := fun s pos h => by
    simp only [Bool.or_eq_true, Bool.not_eq_true'] at h
    rcases h with h | h
    · have k : C.env.kindOf x ≠ some .local := by
        unfold celB at h
        intro z
        have : C.env.scope.names.lookup x = some .local := z
        split at h
        · rename_i e; rcases so.cf x (.inl e) with q | q <;> rw [this] at q <;> cases q
        · rename_i e; rcases so.cf x (.inr e) with q | q <;> rw [this] at q <;> cases q
        · cases h
      have kb : (C.env.kindOf x == some .local) = false := by
        cases e : C.env.kindOf x with
        | none => rfl
        | some z => cases z <;> first | rfl | exact absurd e k
      simp only [kb, Bool.and_false, Bool.false_and]
    · revert h
      cases (p.line == pos.line) <;> cases (s.names.any fun (n, k) => n == x && (k == .local || k == .cell)) <;> simp
  cases v <;> first | rfl | (cases h; done) | skip
  · rename_i elt gs s pos
    unfold swapsWith
    show (pure _ : Sem Bool) = pure false
    exact congrArg pure (main s pos h)
  · rename_i kx vx gs s pos
    unfold swapsWith
    show (pure _ : Sem Bool) = pure false
    exact congrArg pure (main s pos h)
theorem swN_ok {v t : Expr} {l : Nat} {env : Env} (h : notComp v = true) : swapsWith v (some t) l env = pure false := by
  cases v <;> first | rfl | cases h
/-- name = a value, as a new thing -/
theorem asgO {e : E} {x : Str} {p pos : Pos} {v : Expr} {i : Nat} (c : Ct W P T n N C sc Ex) (hi : N[i]? = some x) (hl : locB sc x = true) (hs : (swT sc x p v || swF sc x p v) = true) (ho : isO e = true) (h : chk P T N e sc (.e v) = true) :
    PS C (.Assign [.Name x p] v pos) (tAsg (tO W (P.fx n) Ex e) (gName i)) := by
  cases hf : swF sc x p v with
  | true =>
    have l := c.so.loc x hl
    exact ps_set (by rw [c.hN]; exact c.nd) (by rw [c.hN]; exact hi) l.1 (masterO c ho h) (swF_ok c.so hl hf) l.2
  | false =>
    rw [hf, Bool.or_false] at hs
    cases v <;> first | (cases hs; done) | skip
    · rename_i elt gs s q
      cases e <;> first | (simp only [chk, Tg.pl] at h; cases h; done) | (cases ho; done) | skip
      all_goals try (simp only [chk, Tg.pl] at h; done)
      all_goals try (rename_i ek el; simp [chk, Tg.pl] at h; done)
      · rename_i own el pt it cd
        simp only [chk, Tg.pl] at h; split at h
        · rename_i e; cases e
          simp only [Bool.and_eq_true] at h
          obtain ⟨⟨⟨⟨⟨h1, h2⟩, h3⟩, h4⟩, h5⟩, h6⟩ := h
          simp only [swT, Bool.and_eq_true, Bool.not_eq_true'] at hs
          have hk := (blkOk_by h3).kind
          refine ok_setLc c hi (c.so.lcl x hs.1.1) hs.1.2 hs.2 h1 h3 h4 ((master it).pi C sc Ex _ _ c h2) (fun s H c0 cl fp => (master el).pe _ _ _ _ (c.blk hk s H c0 cl fp) h5) (fun s H c0 cl fp => ?_)
          split at h6
          · cases cd <;> first | exact pts_nil' | cases h6
          · simp only [Bool.and_eq_true, Bool.not_eq_true'] at h6
            exact pts_one' h6.1 ((master cd).pt _ _ _ _ (c.blk hk s H c0 cl fp) h6.2)
          · cases h6
        · cases h
      · rename_i own own2 el pt it pt2 it2 cd
        simp only [chk, Tg.pl] at h; split at h
        · rename_i e; cases e
          simp only [Bool.and_eq_true] at h
          obtain ⟨⟨⟨⟨⟨⟨⟨⟨⟨⟨h1, h1'⟩, h2⟩, h3⟩, h4⟩, h5⟩, h6⟩, h7⟩, h8⟩, h9⟩, h10⟩ := h
          obtain rfl := List.isEmpty_iff.mp h5
          simp only [swT, Bool.and_eq_true, Bool.not_eq_true'] at hs
          have hk := (blkOk_by h3).kind
          refine ok_setLc2 c hi (c.so.lcl x hs.1.1) hs.1.2 hs.2 h1 h1' h3 h4 h8 h9 ((master it).pi C sc Ex _ _ c h2) (fun s H c0 cl fp => (master it2).pi _ _ _ _ _ (c.blk hk s H c0 cl fp) h7) (fun s H c0 cl fp => (master el).pe _ _ _ _ (c.blk hk s H c0 cl fp) h6) (fun s H c0 cl fp => ?_) (fun s H c0 cl fp => pts_nil')
          split at h10
          · cases cd <;> first | exact pts_nil' | cases h10
          · simp only [Bool.and_eq_true, Bool.not_eq_true'] at h10
            exact pts_one' h10.1 ((master cd).pt _ _ _ _ (c.blk hk s H c0 cl fp) h10.2)
          · cases h10
        · cases h
    · rename_i kx vx gs s q
      cases e <;> first | (simp only [chk, Tg.pl] at h; cases h; done) | (cases ho; done) | skip
      all_goals try (simp only [chk, Tg.pl] at h; done)
      all_goals try (rename_i ek el; simp [chk, Tg.pl] at h; done)
theorem asgE {e : E} {x : Str} {p pos : Pos} {v : Expr} {i : Nat} (c : Ct W P T n N C sc Ex) (hi : N[i]? = some x) (hl : locB sc x = true) (hs : (swT sc x p v || swF sc x p v) = true) (ho : (notComp v || isO e) = true) (h : chk P T N e sc (.e v) = true) :
    PS C (.Assign [.Name x p] v pos) (tAsg (tE W (P.fx n) Ex e) (gName i)) := by
  cases hc : isO e with
  | true => exact (asgO c hi hl hs hc h).wk fun D σ H q => E_of_O q
  | false =>
    rw [hc, Bool.or_false] at ho
    have l := c.so.loc x hl
    exact ps_set (by rw [c.hN]; exact c.nd) (by rw [c.hN]; exact hi) l.1 ((master e).pe C sc Ex v c h) (swN_ok ho) l.2
end
end Oc
namespace Oc
open L2 PySem PySem.Spec PyProof.Rows
theorem xd_free {W : Wd} {F : Hp} {m : List Addr} {H : Hp} {M : Mem} {d : Addr} {l : List (Str × V)} (R : Mr W F m H M) (h : H d = some (.xd l)) : d ∉ m := fun z => by
  obtain ⟨k, hk⟩ := List.getElem?_of_mem z
  have hk' : k < m.length := (List.getElem?_eq_some_iff.mp hk).1
  rw [R.len] at hk'
  obtain ⟨_, r3⟩ := R.mo k _ d (List.getElem?_eq_getElem hk') hk
  cases hM : M[k] with
  | ml xs =>
    rw [hM] at r3
    obtain ⟨vs, e, _⟩ := r3
    rw [h] at e; cases e
  | mi c ns ds =>
    rw [hM] at r3
    obtain ⟨_, dx, fs, e, _⟩ := r3
    rw [h] at e; cases e
theorem ErR.xt {W : Wd} {F F1 : Hp} {m m1 : List Addr} {H H1 : Hp} {M : Mem} {k : Nat} {fs : List D} {cls : Value} {dd : Option Addr} (h : ErR W F m H k fs cls dd) (R : Mr W F m H M) (a : Xt F m H F1 m1 H1) : ErR W F1 m1 H1 k fs cls dd := by
  obtain ⟨h1, h2⟩ := h
  refine ⟨h1, ?_⟩
  cases fs with
  | nil => exact h2
  | cons x xs =>
    obtain ⟨d, fvs, e1, e2, e3⟩ := h2
    exact ⟨d, fvs, e1, a.hx d _ e2 (xd_free R e2) (fun _ z => by cases z), Rps.xt e3 a⟩
/-- what a suite knows: the exception at a, bound to slot i -/
structure EX (W : Wd) (F : Hp) (m : List Addr) (H : Hp) (M : Mem) (σ : L2.St) (r : En) (i : Nat) (a : Addr) (cls : Value) (d : Option Addr) (k : Nat) (fs : List D) : Prop where
  rl : Rl W F m H M σ r
  er : ErR W F m H k fs cls d
  sa : σ[i]? = some (some (.ref a))
theorem EX.step {W : Wd} {F F1 : Hp} {m m1 : List Addr} {H H1 : Hp} {M : Mem} {σ : L2.St} {r : En} {i : Nat} {a : Addr} {cls : Value} {d : Option Addr} {k : Nat} {fs : List D} (e : EX W F m H M σ r i a cls d k fs) (x : Xt F m H F1 m1 H1) (R1 : Mr W F1 m1 H1 M) : EX W F1 m1 H1 M σ r i a cls d k fs :=
  ⟨e.rl.step x R1, e.er.xt e.rl.mr x, e.sa⟩
def tXE (W : Wd) (X : Fx) (i : Nat) (a : Addr) (cls : Value) (d : Option Addr) (e : XE) : TE := fun σ H Q => ∃ F m M r k fs, EX W F m H M σ r i a cls d k fs ∧ ∃ dd, xv X k fs r e = some dd ∧
  ∀ F' m' H' v, Xt F m H F' m' H' → Mr W F' m' H' M → Rp W F' m' v dd → Q v H'
def tXA (W : Wd) (X : Fx) (i : Nat) (a : Addr) (cls : Value) (d : Option Addr) (e : XE) : TA := fun σ H Q => ∃ F m M r k fs, EX W F m H M σ r i a cls d k fs ∧ ∃ ds, xv X k fs r e = some (.tup ds) ∧
  ∀ F' m' H' vs, Xt F m H F' m' H' → Mr W F' m' H' M → Rps W F' m' vs ds → Q vs H'
/-- isinstance(e, c), e the exception that the suite holds, with fields or without -/
theorem call_isX {X : Cx} {a C : Addr} {oe : Obj} {cls : Value} {d : Option Addr} {pn : List (Addr × Obj)} (hz : Zc cls d oe) (hf : ∃ vs, oe.data = .fields vs) :
    CallR (X.suite a ((a, oe) :: pn)) (.builtin "isinstance") (fun xs H Q => ∃ b D, xs = [.ref a, .ref C] ∧ cls = .ref D ∧ ExcC X.K D ∧ PySem.W.kitOne X.K (.ref D) (.ref C) = some b ∧ (d = none ∨ ∃ d0 l, d = some d0 ∧ H d0 = some (.xd l)) ∧ Q (.bl b) H) := by
  intro pins s σ H xs us Q I r h
  obtain ⟨b, D, rfl, ec, T, e, hd, q⟩ := h
  subst ec
  cases r with
  | cons rx rr =>
    cases rr with
    | cons rt rr =>
      cases rr
      cases rx
      cases rt
      obtain ⟨hget, _⟩ := I.pin (a, oe) (List.mem_append.mpr (.inl List.mem_cons_self))
      obtain ⟨vs, hv⟩ := hf
      have hcl : (PySem.W.clsIn X.K D).isSome = true := by
        have := T.hd
        unfold PySem.W.hasDictIn at this
        cases hc : PySem.W.clsIn X.K D with
        | none => rw [hc] at this; cases this
        | some _ => rfl
      rcases hd with rfl | ⟨d0, l, rfl, hl⟩
      · have J : PySem.W.InstAt s.heap a oe D none := by
          obtain ⟨oc, od, oda, osl⟩ := oe
          obtain ⟨h1, h2⟩ := hz
          dsimp only at h1 h2 hv
          subst h1 h2 hv
          exact ⟨hget, rfl, rfl, trivial⟩
        exact PySem.W.kia_one (PySem.W.kitx_exc hcl T.hg T.hk T.hs T.ha T.hn T.ht T.hm) I.kIn J e (fun z => nomatch z) fun tk => ⟨.bl b, H, I.kept (t' := tk) fun _ _ z => z, rfl, q⟩
      · have hx : ObjOk X.prog X.w H s.heap d0 (.xd l) := I.hok d0 _ hl
        obtain ⟨mA, hns, hr⟩ := hx
        obtain ⟨od, ho, _⟩ := lookIn_ns hns
        have J : PySem.W.InstAt s.heap a oe D (some od) := ⟨hget, hz.1, by unfold PySem.W.notCls; rw [hv] <;> rfl, by rw [hz.2]; exact ho⟩
        exact PySem.W.kia_one (PySem.W.kitx_exc hcl T.hg T.hk T.hs T.ha T.hn T.ht T.hm) I.kIn J e (fun z => nomatch z) fun tk => ⟨.bl b, H, I.kept (t' := tk) fun _ _ z => z, rfl, q⟩
theorem lookup_zipX {f : Str} {v : V} : ∀ {ns : List Str} {vs : List V} {j : Nat}, ns.Nodup → ns[j]? = some f → vs[j]? = some v → (ns.zip vs).lookup f = some v
  | [], _, _, _, h, _ => by cases h
  | _ :: _, [], _, _, _, h => by cases h
  | n :: ns, w :: vs, 0, _, h, h2 => by
    cases h; cases h2
    simp [List.lookup]
  | n :: ns, w :: vs, j + 1, nd, h, h2 => by
    rw [List.nodup_cons] at nd
    have hne : f ≠ n := fun e => nd.1 (e ▸ List.mem_of_getElem? h)
    have hb : (f == n) = false := beq_eq_false_iff_ne.mpr hne
    simp only [List.zip_cons_cons, List.lookup, hb]
    exact lookup_zipX nd.2 h h2
section
variable {W : Wd} {P : Pg} {T : Tb} {n : Nat} {N : List Str} {C : Cx} {sc : Scope} {nm : Str} {i : Nat} {a : Addr} {oe : Obj} {cls : Value} {d : Option Addr} {pn : List (Addr × Obj)}
theorem xv_len {X : Fx} {k : Nat} {fs : List D} {r : En} : ∀ (e : XE) (l : List Expr) {ds : List D}, isLX e = true → chkX T N sc nm e l = true → xv X k fs r e = some (.tup ds) → ds.length = l.length
  | .nil, l, ds, _, h, h2 => by
    have : l = [] := List.isEmpty_iff.mp h
    subst this
    cases h2; rfl
  | .cons a e, l, ds, _, h, h2 => by
    cases l with
    | nil => cases h
    | cons x xs =>
      simp only [chkX, Bool.and_eq_true] at h
      unfold xv at h2
      split at h2
      · rename_i y ys h3 h4
        cases h2
        have := xv_len e xs h.1.1.2 h.2 h4
        rw [List.length_cons, List.length_cons, this]
      · cases h2
theorem xv_lst {X : Fx} {k : Nat} {fs : List D} {r : En} {e : XE} {d : D} (h : xv X k fs r (.lst e) = some d) : ∃ ds, xv X k fs r e = some (.tup ds) ∧ d = .lst ds := by
  unfold xv at h
  split at h
  · rename_i xs e1; cases h; exact ⟨xs, e1, rfl⟩
  · cases h
theorem xv_ife {X : Fx} {k : Nat} {fs : List D} {r : En} {t x y : XE} {d : D} (h : xv X k fs r (.ife t x y) = some d) : ∃ b, xv X k fs r t = some (.bl b) ∧ xv X k fs r (if b then x else y) = some d := by
  unfold xv at h
  split at h
  · rename_i e; exact ⟨true, e, h⟩
  · rename_i e; exact ⟨false, e, h⟩
  · cases h
theorem op_cmpX {C : Cx} (un : C.A.units + 200 < cLine) : OpR C (compareOp (cop .inn)) (rB W fun _ a b => (cmpD .inn a b).map .bl) := op_in2 (by omega)
theorem rd_inn {X : Fx} {t u : XE} {σ : L2.St} {H : Hp} {Q : VK} (h : tXE W X i a cls d (.inn t u) σ H Q) : tOp (rB W fun _ a b => (cmpD .inn a b).map .bl) (tXE W X i a cls d t) (tXE W X i a cls d u) σ H Q := by
  obtain ⟨F, m, M, r, k, fs, E, dd, e1, q⟩ := h
  unfold xv at e1
  split at e1
  · rename_i x xs e2 e3
    exact ⟨F, m, M, r, k, fs, E, _, e2, fun F' m' H' v x1 r1 rv => ⟨F', m', M, r, k, fs, E.step x1 r1, _, e3, fun F2 m2 H2 w x2 r2 rw2 => ⟨F2, m2, M, _, _, dd, r2, rv.xt x2, rw2, e1, fun z F3 H3 x3 r3 rz => q F3 m2 H3 z ((x1.trans x2).trans x3) r3 rz⟩⟩⟩
  · cases e1
theorem ife_okX {X : Cx} {Y : Fx} {t x y : XE} {z0 x0 y0 : Expr} {p0 : Pos} (pt : PT X z0 (tB (tXE W Y i a cls d t))) (p1 : PE X x0 (tXE W Y i a cls d x)) (p2 : PE X y0 (tXE W Y i a cls d y)) : PE X (.IfExp z0 x0 y0 p0) (tXE W Y i a cls d (.ife t x y)) := by
  refine (pe_ifExp pt p1 p2).wk fun σ H Q ⟨F, m, M, r, k, fs, E, dd, e1, q⟩ => ?_
  obtain ⟨b, e2, e3⟩ := xv_ife e1
  refine ⟨F, m, M, r, k, fs, E, .bl b, e2, fun F' m' H' v x1 r1 rv => ?_⟩
  cases rv
  refine ⟨b, rfl, ?_⟩
  cases b with
  | true => exact ⟨F', m', M, r, k, fs, E.step x1 r1, dd, e3, fun F2 m2 H2 v2 x2 r2 rv2 => q F2 m2 H2 v2 (x1.trans x2) r2 rv2⟩
  | false => exact ⟨F', m', M, r, k, fs, E.step x1 r1, dd, e3, fun F2 m2 H2 v2 x2 r2 rv2 => q F2 m2 H2 v2 (x1.trans x2) r2 rv2⟩
theorem isx_pt {X : Cx} {c : Nat} {z : Expr} {te : TE} (h : chkX T N sc nm (.isx c) [z] = true) (p : PE X z te) : PT X z (tB te) := by
  simp only [chkX, isIfT, Bool.true_and] at h
  split at h <;> first | (cases h; done) | skip
  rename_i heq2
  cases heq2
  exact pt_val p
structure XM (W : Wd) (P : Pg) (T : Tb) (n : Nat) (N : List Str) (C : Cx) (sc : Scope) (nm : Str) (i : Nat) (a : Addr) (oe : Obj) (cls : Value) (d : Option Addr) (pn : List (Addr × Obj)) (e : XE) : Prop where
  pe : isLX e = false → ∀ x, chkX T N sc nm e [x] = true → PE (C.suite a ((a, oe) :: pn)) x (tXE W (P.fx n) i a cls d e)
  pa : isLX e = true → ∀ l, chkX T N sc nm e l = true → PA (C.suite a ((a, oe) :: pn)) l (tXA W (P.fx n) i a cls d e)
theorem xm_ok (g : Gt W P T n C.prog C.w C.K C.mg C.base) (un : C.A.units + 200 < cLine) (hN : C.N = N) (so : ScOk C sc) (hi : N[i]? = some nm) (hv : visB sc nm = true) (ok : okNm nm = true) (hz : Zc cls d oe) (hf : ∃ vs, oe.data = .fields vs) : ∀ e : XE, XM W P T n N C sc nm i a oe cls d pn e
  | .vr j => ⟨fun _ x h => by simp [chkX] at h, fun _ l h => by simp [chkX] at h⟩
  | .int j => by
      refine ⟨fun _ x h => ?_, fun h => (by cases h)⟩
      simp only [chkX, isIfT, Bool.true_and] at h
      split at h <;> first | (cases h; done) | skip
      rename_i heq2
      cases heq2
      have := of_decide_eq_true h; subst this
      exact (ok_int (W := W) (X := P.fx n) (Ex := fun _ _ _ _ => False)).wk fun σ H Q ⟨F, m, M, r, k, fs, E, dd, e1, q⟩ => by
        cases e1; exact ⟨F, m, M, r, E.rl, fun F' m' H' x1 r1 v rv => q F' m' H' v x1 r1 rv⟩
  | .str s => by
      refine ⟨fun _ x h => ?_, fun h => (by cases h)⟩
      simp only [chkX, isIfT, Bool.true_and] at h
      split at h <;> first | (cases h; done) | skip
      rename_i heq2
      cases heq2
      simp only [Bool.and_eq_true, decide_eq_true_eq] at h
      obtain ⟨⟨h1, h2⟩, h3⟩ := h
      subst h1
      exact (ok_str (W := W) (X := P.fx n) (Ex := fun _ _ _ _ => False) h2 h3).wk fun σ H Q ⟨F, m, M, r, k, fs, E, dd, e1, q⟩ => by
        cases e1; exact ⟨F, m, M, r, E.rl, fun F' m' H' x1 r1 v rv => q F' m' H' v x1 r1 rv⟩
  | .bl s => ⟨fun _ x h => by simp [chkX] at h, fun _ l h => by simp [chkX] at h⟩
  | .non => by
      refine ⟨fun _ x h => ?_, fun h => (by cases h)⟩
      simp only [chkX, isIfT, Bool.true_and] at h
      split at h <;> first | (cases h; done) | skip
      rename_i heq2
      cases heq2
      exact (ok_non (W := W) (X := P.fx n) (Ex := fun _ _ _ _ => False)).wk fun σ H Q ⟨F, m, M, r, k, fs, E, dd, e1, q⟩ => by
        cases e1; exact ⟨F, m, M, r, E.rl, fun F' m' H' x1 r1 v rv => q F' m' H' v x1 r1 rv⟩
  | .fld c j f => by
      refine ⟨fun _ x h => ?_, fun h => (by cases h)⟩
      simp only [chkX, isIfT, Bool.true_and] at h
      split at h <;> first | (cases h; done) | skip
      rename_i heq2
      cases heq2
      simp only [Bool.and_eq_true, decide_eq_true_eq] at h
      obtain ⟨⟨⟨⟨h1, h2⟩, h3⟩, h4⟩, h5⟩ := h
      subst h1 h2
      obtain ⟨cx, hcx⟩ := Option.isSome_iff_exists.mp h3
      have hne : T.exn c ≠ [] := fun z => by rw [z] at h4; cases h4
      obtain ⟨x1, x2⟩ := g.xfc c cx hcx hne
      have o := okNm_of ok
      have pv := fun pos : Pos => pe_var (X := C.suite a ((a, oe) :: pn)) (i := i) (pos := pos) (by rw [← hN] at hi; exact hi) (so.vis _ hv) o.1 o.2.1
      refine (pe_xf (X := C) x1 (x2 _ (List.mem_of_getElem? h4)) hz hf (pv _)).wk fun σ H Q ⟨F, m, M, r, k, fs, E, dd, e1, q⟩ => ?_
      unfold xv at e1
      split at e1
      · rename_i hck
        subst hck
        obtain ⟨er1, er2⟩ := E.er
        cases fs with
        | nil => cases e1
        | cons y ys =>
          obtain ⟨d0, fvs, e2, e3, e4⟩ := er2
          obtain ⟨v, e5, rv⟩ := e4.get e1
          refine ⟨.ref a, E.sa, rfl, er1, d0, _, v, e2, e3, ?_, q F m H v (Xt.refl _ _ _) E.rl.mr rv⟩
          rw [g.ern]
          exact lookup_zipX h5 h4 e5
      · cases e1
  | .isx c => by
      refine ⟨fun _ x h => ?_, fun h => (by cases h)⟩
      simp only [chkX, isIfT, Bool.true_and] at h
      split at h <;> first | (cases h; done) | skip
      rename_i heq2
      cases heq2
      simp only [Bool.and_eq_true, decide_eq_true_eq] at h
      obtain ⟨⟨⟨⟨⟨⟨⟨h1, h2⟩, h3⟩, h4⟩, h5⟩, h6⟩, h7⟩, h8⟩ := h
      subst h1 h4
      have o := okNm_of ok
      have o2 := okNm_of h8
      have fc := g.exc _ _ h6
      have pv := fun pos : Pos => pe_var (X := C.suite a ((a, oe) :: pn)) (i := i) (pos := pos) (by rw [← hN] at hi; exact hi) (so.vis _ hv) o.1 o.2.1
      have pc := fun pos : Pos => pe_glob (X := C.suite a ((a, oe) :: pn)) (v := .ref (W.ca c)) (pos := pos) (so.gl _ h7) fc.g rfl o2.1
      refine (pe_callB (X := C.suite a ((a, oe) :: pn)) (call_isX (X := C) (C := W.ca c) hz hf) (so.gl _ h3) (g.blt _ h2) (by decide +kernel) (pa_cons (pv _) (pa_cons (pc _) pa_nil rfl) rfl) (by decide) (by decide) rfl rfl).wk fun σ H Q ⟨F, m, M, r, k, fs, E, dd, e1, q⟩ => ?_
      unfold xv at e1
      cases hb : (P.fx n).exs k c with
      | none => rw [hb] at e1; cases e1
      | some b =>
        rw [hb] at e1
        cases e1
        obtain ⟨t1, t2⟩ := g.isx h5 k c b hb
        obtain ⟨er1, er2⟩ := E.er
        refine ⟨.ref a, E.sa, b, W.ca k, rfl, er1, t1, t2, ?_, q F m H (.bl b) (Xt.refl _ _ _) E.rl.mr (.bl b)⟩
        cases fs with
        | nil => exact .inl er2
        | cons y ys =>
          obtain ⟨d0, fvs, e2, e3, e4⟩ := er2
          exact .inr ⟨d0, _, e2, e3⟩
  | .nil => by
      refine ⟨fun h => (by cases h), fun _ l h => ?_⟩
      have : l = [] := List.isEmpty_iff.mp h
      subst this
      exact pa_nil.wk fun σ H Q ⟨F, m, M, r, k, fs, E, ds, e1, q⟩ => by
        cases e1; exact q F m H [] (Xt.refl _ _ _) E.rl.mr .nil
  | .cons x e => by
      refine ⟨fun h => (by cases h), fun _ l h => ?_⟩
      cases l with
      | nil => cases h
      | cons y ys =>
        simp only [chkX, Bool.and_eq_true, Bool.not_eq_true'] at h
        obtain ⟨⟨⟨⟨h1, h2⟩, h3⟩, h4⟩, h5⟩ := h
        have p1 := (xm_ok g un hN so hi hv ok hz hf x).pe h2 y h4
        have p2 := (xm_ok g un hN so hi hv ok hz hf e).pa h3 ys h5
        refine (pa_cons p1 p2 (star_cons h1)).wk fun σ H Q ⟨F, m, M, r, k, fs, E, ds, e1, q⟩ => ?_
        unfold xv at e1
        split at e1
        · rename_i y0 ys0 e2 e3
          cases e1
          exact ⟨F, m, M, r, k, fs, E, y0, e2, fun F' m' H' v x1 r1 rv => ⟨F', m', M, r, k, fs, E.step x1 r1, ys0, e3, fun F2 m2 H2 vs x2 r2 rvs => q F2 m2 H2 (v :: vs) (x1.trans x2) r2 (.cons (Rp.xt rv x2) rvs)⟩⟩
        · cases e1
  | .tup e => ⟨fun _ x h => by simp [chkX] at h, fun _ l h => by simp [chkX] at h⟩
  | .lst e => by
      refine ⟨fun _ x h => ?_, fun h => (by cases h)⟩
      simp only [chkX, isIfT, Bool.true_and] at h
      split at h <;> first | (cases h; done) | skip
      rename_i heq2
      cases heq2
      simp only [Bool.and_eq_true, decide_eq_true_eq] at h
      obtain ⟨⟨h1, h2⟩, h3⟩ := h
      refine (pe_lst ((xm_ok g un hN so hi hv ok hz hf e).pa h2 _ h3)).wk fun σ H Q ⟨F, m, M, r, k, fs, E, dd, e1, q⟩ => ?_
      obtain ⟨ds, e2, rfl⟩ := xv_lst e1
      have hlen := xv_len e _ h2 h3 e2
      refine ⟨F, m, M, r, k, fs, E, ds, e2, fun F' m' H' vs x1 r1 rvs => ?_⟩
      have hl : vs.length ≤ 1000 := by rw [rvs.len, hlen]; omega
      exact ⟨Nat.le_trans hl (by rw [← lim_line]; decide), done_lst r1 rvs (Nat.le_trans hl (by decide)) fun v F2 H2 x2 r2 rp => q F2 m' H2 v (x1.trans x2) r2 rp⟩
  | .add t u => ⟨fun _ x h => by simp [chkX] at h, fun _ l h => by simp [chkX] at h⟩
  | .inn t u => by
      refine ⟨fun _ x h => ?_, fun h => (by cases h)⟩
      simp only [chkX, isIfT, Bool.true_and] at h
      split at h <;> first | (cases h; done) | skip
      rename_i heq2
      cases heq2
      simp only [Bool.and_eq_true, Bool.not_eq_true'] at h
      obtain ⟨⟨⟨⟨h1, h2⟩, h3⟩, h4⟩, h5⟩ := h
      have p1 := (xm_ok g un hN so hi hv ok hz hf t).pe h2 _ h4
      have p2 := (xm_ok g un hN so hi hv ok hz hf u).pe h3 _ h5
      exact (pe_cmpR (op_cmpX (C := C.suite a ((a, oe) :: pn)) (W := W) un) p1 p2 (mark_set h1)).wk fun σ H Q h => rd_inn h
  | .ife t x y => by
      refine ⟨fun _ z h => ?_, fun h => (by cases h)⟩
      cases t with
      | isx c =>
        simp only [chkX, isIfT, Bool.true_and] at h
        split at h <;> first | (cases h; done) | skip
        rename_i heq2
        cases heq2
        simp only [Bool.and_eq_true, Bool.not_eq_true'] at h
        obtain ⟨⟨⟨⟨h1, h2⟩, h3⟩, h4⟩, h5⟩ := h
        have pt := (xm_ok g un hN so hi hv ok hz hf (.isx c)).pe rfl _ h3
        exact ife_okX (isx_pt (N := N) h3 pt) ((xm_ok g un hN so hi hv ok hz hf x).pe h1 _ h4) ((xm_ok g un hN so hi hv ok hz hf y).pe h2 _ h5)
      | inn t u =>
        simp only [chkX, isIfT, Bool.true_and] at h
        split at h <;> first | (cases h; done) | skip
        rename_i heq2
        cases heq2
        simp only [Bool.and_eq_true, Bool.not_eq_true'] at h
        obtain ⟨⟨⟨⟨h1, h2⟩, h3⟩, h4⟩, h5⟩ := h
        have pt : ∀ z : Expr, chkX T N sc nm (.inn t u) [z] = true → PT (C.suite a ((a, oe) :: pn)) z (tB (tXE W (P.fx n) i a cls d (.inn t u))) := fun z h => by
          simp only [chkX, isIfT, Bool.true_and] at h
          split at h <;> first | (cases h; done) | skip
          rename_i heq2
          cases heq2
          simp only [Bool.and_eq_true, Bool.not_eq_true'] at h
          obtain ⟨⟨⟨⟨g1, g2⟩, g3⟩, g4⟩, g5⟩ := h
          exact (pt_cmpR (op_cmpX (C := C.suite a ((a, oe) :: pn)) (W := W) un) ((xm_ok g un hN so hi hv ok hz hf t).pe g2 _ g4) ((xm_ok g un hN so hi hv ok hz hf u).pe g3 _ g5) (mark_set g1)).wk fun σ H Q h => rd_inn h
        exact ife_okX (pt _ h3) ((xm_ok g un hN so hi hv ok hz hf x).pe h1 _ h4) ((xm_ok g un hN so hi hv ok hz hf y).pe h2 _ h5)
      | _ => exact absurd h (by simp [chkX, isIfT])
end
end Oc
namespace Oc
open L2 PySem PySem.Spec PyProof.Rows
theorem bind_as {α β γ : Type} (x : R α) (f : Mem → α → R β) (g : Mem → β → R γ) : (x.bind f).bind g = x.bind fun M a => (f M a).bind g := by cases x <;> rfl
/-- pairs by pairs -/
def Prs (W : Wd) (F : Hp) (m : List Addr) : List (V × V) → List (D × D) → Prop
  | [], [] => True
  | p :: ps, q :: xs => Rp W F m p.1 q.1 ∧ Rp W F m p.2 q.2 ∧ Prs W F m ps xs
  | _, _ => False
theorem Prs.at {W : Wd} {F : Hp} {m : List Addr} : ∀ {xs : List (D × D)} {ps : List (V × V)} {ks : List Ky} {ds : List D}, Prs W F m ps xs → altK xs = some (ks, ds) →
    ∃ kvs : List (Key × V), ps = kvs.map (fun kv => (kV kv.1, kv.2)) ∧ kvs.map (·.1) = ks.map kyK ∧ (∀ k ∈ ks, kyG k) ∧ Rps W F m (kvs.map (·.2)) ds
  | [], ps, ks, ds, h, e => by
    cases ps with
    | nil => cases e; exact ⟨[], rfl, rfl, fun _ z => (by cases z), .nil⟩
    | cons _ _ => exact h.elim
  | (k, v) :: xs, ps, ks, ds, h, e => by
    cases ps with
    | nil => exact h.elim
    | cons p ps =>
      obtain ⟨h1, h2, h3⟩ := h
      unfold altK at e
      split at e
      · rename_i y ks' vs' e1 e2
        cases e
        obtain ⟨kvs, g1, g2, g3, g4⟩ := Prs.at h3 e2
        obtain ⟨g5, g6⟩ := ky_of h1 e1
        refine ⟨(kyK y, p.2) :: kvs, ?_, by rw [List.map_cons, List.map_cons, g2], fun k hk => ?_, .cons h2 g4⟩
        · rw [List.map_cons, ← g1]
          obtain ⟨p1, p2⟩ := p
          rw [show p1 = kV (kyK y) from g5]
        · rcases List.mem_cons.mp hk with e | hk
          · subst e; exact g6
          · exact g3 k hk
      · cases e
theorem put_new {κ : Type} [DecidableEq κ] {kvs : List (κ × V)} {k : κ} {v : V} (h : k ∉ kvs.map (·.1)) : L2.putK kvs k v = kvs ++ [(k, v)] := by
  unfold L2.putK
  rw [if_neg]
  intro z
  obtain ⟨p, hp, e⟩ := List.any_eq_true.mp z
  exact h (List.mem_map.mpr ⟨p, hp, of_decide_eq_true e⟩)
theorem merge_new : ∀ (kvs acc : List (Key × V)), ((acc ++ kvs).map (·.1)).Nodup → mergeK acc kvs = acc ++ kvs
  | [], acc, _ => by rw [List.append_nil]; rfl
  | p :: kvs, acc, h => by
    have h1 : p.1 ∉ acc.map (·.1) := fun z => by
      rw [List.map_append, List.nodup_append] at h
      exact h.2.2 _ z _ (by rw [List.map_cons]; exact List.mem_cons_self) rfl
    have e := merge_new kvs (acc ++ [p]) (by rw [List.append_assoc]; exact h)
    show mergeK (L2.putK acc p.1 p.2) kvs = _
    rw [put_new h1, show acc ++ [(p.1, p.2)] = acc ++ [p] from rfl, e, List.append_assoc]; rfl
theorem nodup_kyK {ks : List Ky} (h : ks.Nodup) : (ks.map kyK).Nodup := by
  induction ks with
  | nil => exact List.nodup_nil
  | cons k ks ih =>
    rw [List.nodup_cons] at h
    rw [List.map_cons, List.nodup_cons]
    refine ⟨fun z => ?_, ih h.2⟩
    obtain ⟨y, hy, e⟩ := List.mem_map.mp z
    exact h.1 (kyK_inj e ▸ hy)
def trsOf (W : Wd) (X : Fx) (Ex : WX) (l : List (E × E)) : List (TE × TE) := l.map fun p => (tE W X Ex p.1, tE W X Ex p.2)
section
variable {W : Wd} {P : Pg} {T : Tb} {n : Nat} {N : List Str} {C : Cx} {sc : Scope} {Ex : WX}
theorem pps_ok (c : Ct W P T n N C sc Ex) {pos : Pos} : ∀ (l : List (E × E)) (keys : List (Option Expr)) (values : List Expr), chkD P T N sc l keys values = true → PPs C pos keys values (trsOf W (P.fx n) Ex l)
  | [], keys, values, h => by
    unfold chkD at h
    split at h
    · exact pps_nil
    · rename_i e; cases e
    · cases h
  | (k, v) :: l, keys, values, h => by
    unfold chkD at h
    split at h
    · rename_i e; cases e
    · rename_i e; cases e
      simp only [Bool.and_eq_true] at h
      exact pps_cons ((master k).pe C sc Ex _ c h.1.1) ((master v).pe C sc Ex _ c h.1.2) (pps_ok c l _ _ h.2)
    · cases h
theorem chkD_all : ∀ {l : List (E × E)} {keys : List (Option Expr)} {values : List Expr}, chkD P T N sc l keys values = true → keys.all (·.isSome) = true ∧ keys.length = values.length
  | [], keys, values, h => by
    unfold chkD at h
    split at h
    · exact ⟨rfl, rfl⟩
    · rename_i e; cases e
    · cases h
  | (k, v) :: l, keys, values, h => by
    unfold chkD at h
    split at h
    · rename_i e; cases e
    · rename_i e; cases e
      simp only [Bool.and_eq_true] at h
      have q := chkD_all h.2
      exact ⟨by rw [List.all_cons, q.1]; rfl, congrArg (· + 1) q.2⟩
    · cases h
theorem pairs_rd {X : Fx} {σ : L2.St} {r : En} {β : Type} {ex : Value → Option Addr → Hp → Prop} {K : Mem → β → Hp → List Addr → Hp → Prop} (he : ∀ cls dd H', ex cls dd H' → Ex cls dd σ H') : ∀ (l : List (E × E)) {f : Mem → List (D × D) → R β} {F0 F : Hp} {m0 m : List Addr} {H0 H : Hp} {M : Mem} {Q : List (V × V) → Hp → Prop},
    Xt F0 m0 H0 F m H → Rl W F m H M σ r → EQ W F0 m0 H0 ex K ((evP X l M r).bind f) →
    (∀ M1 xs F1 m1 H1 ps, Rl W F1 m1 H1 M1 σ r → Xt F m H F1 m1 H1 → Prs W F1 m1 ps xs → EQ W F0 m0 H0 ex K (f M1 xs) → Q ps H1) → tPairs (trsOf W X Ex l) σ H Q
  | [], f, F0, F, m0, m, H0, H, M, Q, a0, R, h, k => k M [] F m H [] R (Xt.refl _ _ _) trivial h
  | (c, v) :: l, f, F0, F, m0, m, H0, H, M, Q, a0, R, h, k => by
    have e : evP X ((c, v) :: l) M r = (ev X c M r).bind fun M1 x => (ev X v M1 r).bind fun M2 y => (evP X l M2 r).bind fun M3 z => .ok M3 ((x, y) :: z) := rfl
    rw [e, bind_as] at h
    refine tE_bindO a0 R he h fun M1 d F1 m1 H1 x R1 a1 rx h1 => ?_
    rw [bind_as] at h1
    refine tE_bindO (a0.trans a1) R1 he h1 fun M2 e F2 m2 H2 y R2 a2 ry h2 => ?_
    rw [bind_as] at h2
    refine pairs_rd he l ((a0.trans a1).trans a2) R2 h2 fun M3 xs F3 m3 H3 ps R3 a3 rp h3 => ?_
    exact k M3 ((d, e) :: xs) F3 m3 H3 ((x, y) :: ps) R3 ((a1.trans a2).trans a3) ⟨rx.xt (a2.trans a3), ry.xt a3, rp⟩ h3
end
end Oc
namespace Oc
open L2 PySem PySem.Spec PyProof.Rows
/-- a clause: its class, the slot of its name, its suite's reading -/
abbrev Cla := Value × Option Nat × (Addr → Value → Option Addr → TS)
/-- the ends as a clause sees them: the name goes behind the suite -/
def offE (i : Nat) (D : Ends) : Ends where
  nx := fun σ H => D.nx (σ.set i none) H
  rt := D.rt
  bk := fun σ H => D.bk (σ.set i none) H
  ct := fun σ H => D.ct (σ.set i none) H
def sufM (D : Ends) (σ : L2.St) (H : Hp) (a : Addr) (cls : Value) (d : Option Addr) : Option Nat → (Addr → Value → Option Addr → TS) → Prop
  | none, ts => ts a cls d D σ H
  | some i, ts => ts a cls d (offE i D) (σ.set i (some (.ref a))) H
/-- what all the clauses wish -/
def wMix (K : PySem.W.Frag) (Wout : WX) (D : Ends) : List Cla → WX
  | [] => Wout
  | (c, o, ts) :: l => fun cls d σ H => ∃ b : Bool, PySem.W.exmOne K cls c = some b ∧ if b then ∀ a, H a = none → sufM D σ H a cls d o ts else wMix K Wout D l cls d σ H
/-- a clause's suite is walked, whatever the exception -/
def SuOk (X : Cx) (ts : Addr → Value → Option Addr → TS) (st : List Stmt) : Prop :=
  ∀ (a : Addr) (oe : Obj) (cls : Value) (d : Option Addr) (pn : List (Addr × Obj)), Zc cls d oe → (∃ vs, oe.data = .fields vs) → PSs (X.suite a ((a, oe) :: pn)) st (ts a cls d)
inductive HdsM (X : Cx) : List ExceptHandler → List Cla → Prop
  | nil : HdsM X [] []
  | bare {x : Str} {c : Value} {ts : Addr → Value → Option Addr → TS} {b : Stmt} {st : List Stmt} {p q : Pos} {hds : List ExceptHandler} {l : List Cla} (hc : Names X x c) (hs : SuOk X ts (b :: st)) (r : HdsM X hds l) : HdsM X (.ExceptHandler (some (.Name x p)) none (b :: st) q :: hds) ((c, none, ts) :: l)
  | as {x n : Str} {i : Nat} {c : Value} {ts : Addr → Value → Option Addr → TS} {b : Stmt} {st : List Stmt} {p q : Pos} {hds : List ExceptHandler} {l : List Cla} (hc : Names X x c) (hi : X.N[i]? = some n) (hl : X.env.kindOf n = some .local) (hs : SuOk X ts (b :: st)) (r : HdsM X hds l) :
      HdsM X (.ExceptHandler (some (.Name x p)) (some n) (b :: st) q :: hds) ((c, some i, ts) :: l)
/-- the exception at a, caught: the state behind it is sI -/
structure Cau (X : Cx) (pins : List (Addr × Obj)) (σ : L2.St) (H : Hp) (cls : Value) (d : Option Addr) (a : Addr) (B : Heap) (sI s : Shared) : Prop where
  J : Inv X pins σ H sI
  nb : ∀ b o, sI.heap.get? b = some o → b ∉ frs X.stack → B.get? b = some o
  up : sI.heap.UpToSlots s.heap
  fl : HandSPX.FlyingZ B (X.env :: X.outer) a (Zc cls d) s.heap
  na : H a = none
  os : s.os = sI.os
  ag : AllBare s.gens
section
variable {X : Cx} {pins : List (Addr × Obj)} {σ : L2.St} {H : Hp} {cls : Value} {d : Option Addr} {a : Addr} {B : Heap} {sI s : Shared}
theorem Cau.inv (c : Cau X pins σ H cls d a B sI s) : Inv X pins σ H s := c.J.landed c.nb c.fl.1 c.up c.os c.ag
/-- it is a thing of its own, no frame's -/
theorem Cau.suite (hf : X.env.frame = some X.env.locals) (c : Cau X pins σ H cls d a B sI s) : ∃ oe, s.heap.get? a = some oe ∧ Zc cls d oe ∧ (∃ vs, oe.data = .fields vs) ∧ Inv (X.suite a ((a, oe) :: (X.pn ++ pins))) [] σ H s := by
  obtain ⟨oe, vs, he, hz, hd⟩ := c.fl.there
  have out : a ∉ frs (X.env :: X.outer) := fun hm => by
    obtain ⟨_, o', e', no⟩ := c.fl.2.2.1.mem hm
    have : oe = o' := Option.some.inj (he.symm.trans e')
    exact no vs (this ▸ hd)
  refine ⟨oe, he, hz, ⟨vs, hd⟩, c.inv.suite he hd c.na (fun z => out ?_) fun hm => out ?_⟩
  · exact List.mem_filterMap.mpr ⟨X.env, List.mem_cons_self, by rw [hf, z]⟩
  · obtain ⟨e, h1, h2⟩ := List.mem_filterMap.mp hm
    exact List.mem_filterMap.mpr ⟨e, List.mem_cons_of_mem _ h1, h2⟩
/-- its flight is noted anew -/
theorem Cau.again (c : Cau X pins σ H cls d a B sI s) {h : Heap} (fl : HandSPX.FlyingZ B (X.env :: X.outer) a (Zc cls d) h) (u : s.heap.UpToSlots h) : Cau X pins σ H cls d a B sI { s with heap := h } :=
  ⟨c.J, c.nb, c.up.trans u, fl, c.na, c.os, c.ag⟩
/-- a clause's class is seen while the exception is held -/
theorem see_class {x : Str} {c : Value} {p : Pos} {oe : Obj} {Q : Value → Shared → Prop} {E : Value → Shared → Prop} (hc : Names X x c) (S : Inv (X.suite a ((a, oe) :: (X.pn ++ pins))) [] σ H s) (q : Q c s) :
    wpAny (model X.prog X.w) (X.A.mark (some (.ref a))) (eval (.Name x p) X.env) Q E s := by
  obtain ⟨g, nd, m | ⟨m, v, nn⟩⟩ := hc
  · exact ld_glob S g m q nd
  · exact ld_blt S g m v q nn nd
variable {Wout : WX} {D : Ends}
theorem hands_ok (hst : X.stack = X.env :: X.outer) (hf : X.env.frame = some X.env.locals) (hN : X.N.Nodup) (tk : Takes X Wout) {hds : List ExceptHandler} {l : List Cla} (hh : HdsM X hds l) :
    ∀ {s : Shared}, Cau X pins σ H cls d a B sI s → wMix X.K Wout D l cls d σ H → wpAny (model X.prog X.w) X.A (handleBy (.ref a) X.env hds) (SP X pins D) X.xe s := by
  induction hh with
  | nil =>
    intro s c w
    refine wpAny_handleBy_nil ?_
    obtain ⟨_, _, _, oe, vs, T, _, _, he, _, hd, h1, _⟩ := id c.fl
    unfold PySem.passOn
    refine wpAny_bind (wpAny_field he hd h1 ?_)
    have no : ¬ (Value.ref T == Value.none) = true := by simp
    rw [if_neg no]
    have up : wpAny (model X.prog X.w) X.A (setFlight (.ref a) X.env.frame) (fun _ s2 => wpAny (model X.prog X.w) X.A (throw (.ref a) : Sem Flow) (SP X pins D) X.xe s2) X.xe s := by
      rw [hf]
      exact HandSPX.setFlight_upZ c.fl fun h2 k2 u2 => wpAny_throw (tk _ _ ⟨a, B, sI, pins, σ, H, cls, d, rfl, c.J, c.nb, c.up.trans u2, .inr (.inr (by rw [hst]; exact k2)), c.na, c.os, c.ag, w⟩)
    first
      | exact wpAny_bind (wpAny_pure (wpAny_bind up))
      | exact wpAny_bind up
  | @bare x cc ts b0 st p q hds l hc hs r ih =>
    intro s c w
    obtain ⟨b, e, w⟩ := w
    obtain ⟨oe, he, hz, hd, S⟩ := c.suite hf
    refine wpAny_handleBy_cons (codeAny_handlers_test ?_) (by intro z; cases z)
    have lt : PySem.W.Looks (model X.prog X.w) s.heap (typeOf (.ref a)) cls := fun A Q E s2 k z => wpAny_typeOf_ref (k _ _ he) (by rw [hz.1]; exact z)
    refine see_class hc S ((PySem.W.exm_one (M := model X.prog X.w) c.inv.kIn lt e).here ?_)
    cases b with
    | false => exact ih c w
    | true =>
      refine codeAny_handlers_suite (HandSPX.lands_againZ c.fl fun h2 fl2 u2 => ?_)
      have c2 := c.again fl2 u2
      obtain ⟨oe2, _, hz2, hd2, S2⟩ := c2.suite hf
      refine wpAny_mono ((hs a oe2 cls d (X.pn ++ pins) hz2 hd2).run [] _ σ H _ S2 (w a c.na)) (fun f s3 z => ?_) fun _ _ z => z.elim
      have ok := c.J.ok
      cases f with
      | ret u => obtain ⟨v, σ3, H3, S3, r3, k3⟩ := z; exact ⟨v, σ3, H3, S3.unsuite ok, r3, k3⟩
      | _ => obtain ⟨σ3, H3, S3, k3⟩ := z; exact ⟨σ3, H3, S3.unsuite ok, k3⟩
  | @as x n i cc ts b0 st p q hds l hc hi hl hs r ih =>
    intro s c w
    obtain ⟨b, e, w⟩ := w
    obtain ⟨oe, he, hz, hd, S⟩ := c.suite hf
    refine wpAny_handleBy_cons (codeAny_handlers_test ?_) (by intro z; cases z)
    have lt : PySem.W.Looks (model X.prog X.w) s.heap (typeOf (.ref a)) cls := fun A Q E s2 k z => wpAny_typeOf_ref (k _ _ he) (by rw [hz.1]; exact z)
    refine see_class hc S ((PySem.W.exm_one (M := model X.prog X.w) c.inv.kIn lt e).here ?_)
    cases b with
    | false => exact ih c w
    | true =>
      refine codeAny_handlers_suite_as (HandSPX.lands_againZ c.fl fun h2 fl2 u2 => ?_)
      have c2 := c.again fl2 u2
      obtain ⟨oe2, _, hz2, hd2, S2⟩ := c2.suite hf
      refine store_ok (X := X.suite a ((a, oe2) :: (X.pn ++ pins))) (v := .ref a) S2 hN hi (.inl hl) rfl (fun s3 S3 => ?_) (.inr hl)
      refine wpAny_mono ((hs a oe2 cls d (X.pn ++ pins) hz2 hd2).run [] s3 _ H _ S3 (w a c.na)) (fun f s4 z => ?_) fun _ _ z => z.elim
      have ok := c.J.ok
      cases f with
      | ret u => obtain ⟨v, σ3, H3, S4, r3, k3⟩ := z; exact gone_ok (S4.unsuite ok) hN hi hl fun s5 J5 => ⟨v, _, H3, J5, r3, k3⟩
      | _ => obtain ⟨σ3, H3, S4, k3⟩ := z; exact gone_ok (S4.unsuite ok) hN hi hl fun s5 J5 => ⟨_, H3, J5, k3⟩
/-- a try with such clauses -/
theorem ps_try_mix {body : List Stmt} {h0 : ExceptHandler} {hds : List ExceptHandler} {l : List Cla} {pos : Pos} {tb : WX → TS} (hst : X.stack = X.env :: X.outer) (hf : X.env.frame = some X.env.locals) (hN : X.N.Nodup) (tk : Takes X Wout)
    (hb : ∀ (W : WX) (pn : List (Addr × Obj)) (xe : Value → Shared → Prop), Takes (X.tr pn xe) W → PassesOwn (model X.prog X.w) X.A X.env xe → PSs (X.tr pn xe) body (tb W)) (hh : HdsM X (h0 :: hds) l) :
    PS X (.Try body (h0 :: hds) [] [] pos) (fun D σ H => tb (wMix X.K Wout D l) D σ H) := by
  refine ⟨fun pins s σ H D I q => wpAny_Try_except ?_⟩
  have ok := I.ok
  have fr : X.A.frames = some (X.env :: X.outer) := by rw [ok.frames, hst]
  refine wpAny_mono ((hb (wMix X.K Wout D l) (X.pn ++ pins) _ (fun u s2 z => ?_) PassesOwn.looking).run [] s σ H D (I.toTry _) q) (fun f s2 z => ?_) fun _ _ z => z
  · obtain ⟨a, B, sI, pins2, σ2, H2, cls, d, rfl, J, nb, up, sky, na, os, ag, w⟩ := z
    have sky2 : Sky B (X.env :: X.outer) a (Zc cls d) X.env.locals s2.heap := by rw [← hst]; exact sky
    exact Sky.land Zc.steady fr hf sky2 fun h3 fl u3 => hands_ok (pins := pins) hst hf hN tk hh ⟨J.ofTry ok, nb, up.trans u3, fl, na, os, ag⟩ w
  · cases f with
    | next => obtain ⟨σ2, H2, J, k⟩ := z; exact wpAny_execs_nil ⟨σ2, H2, J.ofTry ok, k⟩
    | ret u => obtain ⟨v, σ2, H2, J, r, k⟩ := z; exact ⟨v, σ2, H2, J.ofTry ok, r, k⟩
    | _ => obtain ⟨σ2, H2, J, k⟩ := z; exact ⟨σ2, H2, J.ofTry ok, k⟩
end
end Oc
namespace Oc
open L2 PySem PySem.Spec PyProof.Rows
section
variable {W : Wd} {B B1 : Bs} {F F1 : Hp} {m m1 : List Addr} {H H1 : Hp} {M M1 : Mem} {σ σ' : L2.St} {r r' : En} {U : Ends} {Ex : WX} {X : Fx}
/-- from what stood still later -/
theorem Sst.rebase (s : Sst W B F m H M σ r) : Sst W ⟨B.F, B.m, B.H, F, m⟩ F m H M σ r := ⟨s.rl, s.xt, s.nw, fun _ _ h => h, fun _ _ h => h⟩
theorem Sst.unbase {Fc : Hp} {mc : List Addr} (hF : ∀ a o, B.Fc a = some o → Fc a = some o) (hm : ∀ (k : Nat) (p : Addr), B.mc[k]? = some p → mc[k]? = some p) (s : Sst W ⟨B.F, B.m, B.H, Fc, mc⟩ F m H M σ r) : Sst W B F m H M σ r :=
  ⟨s.rl, s.xt, s.nw, fun a o h => s.fx a o (hF a o h), fun k p h => s.ix k p (hm k p h)⟩
theorem rd_seq {a b : S} {U : Ends} (h : tS W X Ex (.seq a b) U σ H) : tSeq (tS W X Ex a) (tS W X Ex b) U σ H := by
  obtain ⟨B, F, m, M, r, s, q⟩ := h
  refine ⟨B, F, m, M, r, s, ?_⟩
  simp only [ex] at q
  cases h : ex X a M r with
  | nx M1 r1 => rw [h] at q; exact fun F' m' H' σ' s' => ⟨B, F', m', M1, r1, s', q⟩
  | rt M d => rw [h] at q; exact q
  | bk M r => rw [h] at q; exact q
  | ct M r => rw [h] at q; exact q
  | er M r k fs => rw [h] at q; exact q
  | st => rw [h] at q; exact q
theorem frz_run {C : Cx} {l : List Stmt} {i : Nat} {b : S} (hb : PSs C l (tS W X Ex b)) : PSs C l (tS W X Ex (.seq (.frz i) b)) := by
  refine ⟨fun pins s σ H Q I ⟨B, F, m, M, r, st, q⟩ => ?_⟩
  rcases st.frz i with ⟨F1, s1⟩ | ⟨p, u, hp, mu, k⟩
  · exact hb.run pins s σ H Q I ⟨B, F1, m, M, _, s1, q⟩
  · obtain ⟨od, I1⟩ := I.lock hp mu
    obtain ⟨F1, s1⟩ := k od
    exact hb.run pins s σ _ Q I1 ⟨B, F1, m, M, _, s1, q⟩
theorem frz_end {C : Cx} {i : Nat} : PSs C [] (tS W X Ex (.frz i)) := by
  refine ⟨fun pins s σ H Q I ⟨B, F, m, M, r, st, q⟩ => ?_⟩
  rcases st.frz i with ⟨F1, s1⟩ | ⟨p, u, hp, mu, k⟩
  · exact pss_nil.run pins s σ H Q I (q F1 m H σ s1)
  · obtain ⟨od, I1⟩ := I.lock hp mu
    obtain ⟨F1, s1⟩ := k od
    exact pss_nil.run pins s σ _ Q I1 (q F1 m _ σ s1)
/-- a loop over what is walked -/
theorem rd_for {p : Pt} {it : E} {b : S} {U : Ends} (h : tS W X Ex (.forr p it b) U σ H) : tFor (tI W X Ex it) (tP W p) (tS W X Ex b) U σ H := by
  obtain ⟨B, F, m, M, r, s, q⟩ := h
  refine sI s q fun M1 d F1 m1 H1 s1 a1 q1 => ?_
  cases hx : itms d with
  | none => rw [hx] at q1; exact q1.elim
  | some xs =>
    rw [hx] at q1
    refine ⟨xs, rfl, fun hl J wk => ?_⟩
    have hF : ∀ a o, B.Fc a = some o → F1 a = some o := s1.fx
    have hm := s1.ix
    refine ⟨fun i k σ H => k = xs.length - i ∧ i ≤ xs.length ∧ ∃ F m M r, Sst W ⟨B.F, B.m, B.H, F1, m1⟩ F m H M σ r ∧ SQ W B U Ex (forGo p (fun M2 r2 => ex X b M2 r2) M (xs.drop i) r), ⟨_, rfl, Nat.zero_le _, F1, m1, M1, r, s1.rebase, q1⟩, ?_⟩
    rintro i k σ H ⟨rfl, li, F, m, M, r, s, q⟩
    have sub : ∀ a o, F1 a = some o → H a = some o := fun a o h => s.rl.mr.sub a o (s.fx a o h)
    by_cases hlt : i < xs.length
    · refine .inr ⟨wk.go i H sub hlt, fun σ H => ∃ F m M r, Sst W ⟨B.F, B.m, B.H, F1, m1⟩ F m H M σ r ∧ SQ W B U Ex (forGo p (fun M2 r2 => ex X b M2 r2) M (xs.drop (i + 1)) r), fun σ' H' h => ⟨xs.length - (i + 1), by omega, rfl, hlt, h⟩, fun v H' yl => ?_⟩
      have ed : xs[i]? = some xs[i] := List.getElem?_eq_getElem hlt
      obtain ⟨F2, a2, r2, rv⟩ := wk.yld i _ v F m H H' M s.fx s.ix s.rl.mr ed yl
      have s2 := s.step a2 r2
      have dr : xs.drop i = xs[i] :: xs.drop (i + 1) := List.drop_eq_getElem_cons hlt
      rw [dr] at q
      unfold forGo at q
      cases hp : setPt p xs[i] r with
      | none => rw [hp] at q; exact q.elim
      | some r3 =>
        rw [hp] at q
        refine ⟨F2, m, M, r, _, s2.rl, rv, r3, hp, fun σ' Rσ hj hlen => ?_⟩
        refine ⟨⟨B.F, B.m, B.H, F1, m1⟩, F2, m, M, r3, ⟨Rσ, s2.xt, fun j a o => s2.nw j a (setPt_own hp hj o), s2.fx, s2.ix⟩, ?_⟩
        replace q : SQ W B U Ex (match ex X b M r3 with
          | .nx M2 r2 => forGo p (fun M2 r2 => ex X b M2 r2) M2 (xs.drop (i + 1)) r2
          | .ct M2 r2 => forGo p (fun M2 r2 => ex X b M2 r2) M2 (xs.drop (i + 1)) r2
          | .bk M2 r2 => .nx M2 r2
          | z => z) := q
        cases hb : ex X b M r3 with
        | nx M3 r4 => rw [hb] at q; exact fun F' m' H' σ' s' => ⟨F', m', M3, r4, s', q⟩
        | ct M3 r4 => rw [hb] at q; exact fun F' m' H' σ' s' => ⟨F', m', M3, r4, s', q⟩
        | bk M3 r4 => rw [hb] at q; exact fun F' m' H' σ' s' => q F' m' H' σ' (s'.unbase hF hm)
        | rt M3 d3 => rw [hb] at q; exact q
        | er M3 r4 k fs => rw [hb] at q; exact fun F' m' H' σ' cls dd s' => q F' m' H' σ' cls dd (s'.unbase hF hm)
        | st => rw [hb] at q; exact q
    · have ei : i = xs.length := by omega
      subst ei
      rw [List.drop_length] at q
      exact .inl ⟨wk.stop H sub, q F m H σ (s.unbase hF hm)⟩
theorem rd_whl {n : Nat} {c : E} {b : S} {U : Ends} (h : tS W X Ex (.whl n c b) U σ H) : tWhile (tT W X Ex c) (tS W X Ex b) U σ H := by
  obtain ⟨B, F, m, M, r, s, q⟩ := h
  refine ⟨fun k σ H => ∃ F m M r, Sst W B F m H M σ r ∧ SQ W B U Ex (whGo (fun M1 r1 => evB X c M1 r1) (fun M1 r1 => ex X b M1 r1) k M r), ⟨n, F, m, M, r, s, q⟩, ?_⟩
  rintro k σ H ⟨F, m, M, r, s, q⟩
  cases k with
  | zero => exact q.elim
  | succ k =>
    have q' : SQ W B U Ex (bOf (evB X c M r) r fun M1 t => if t = true then (match ex X b M1 r with
      | .nx M2 r2 => whGo (fun M1 r1 => evB X c M1 r1) (fun M1 r1 => ex X b M1 r1) k M2 r2
      | .ct M2 r2 => whGo (fun M1 r1 => evB X c M1 r1) (fun M1 r1 => ex X b M1 r1) k M2 r2
      | .bk M2 r2 => .nx M2 r2
      | z => z) else .nx M1 r) := by
      unfold whGo at q
      cases h : evB X c M r with
      | st => rw [h] at q; exact q
      | er => rw [h] at q; exact q
      | ok M1 t => rw [h] at q; cases t <;> exact q
    refine sT s q' fun M1 t F1 m1 H1 s1 a1 q1 => ?_
    cases t with
    | false => exact iteF (q1 F1 m1 H1 σ s1)
    | true =>
      refine iteT ⟨fun σ H => ∃ F m M r, Sst W B F m H M σ r ∧ SQ W B U Ex (whGo (fun M1 r1 => evB X c M1 r1) (fun M1 r1 => ex X b M1 r1) k M r), fun σ' H' h => ⟨k, Nat.lt_succ_self _, h⟩, B, F1, m1, M1, r, s1, ?_⟩
      rw [if_pos rfl] at q1
      cases hb : ex X b M1 r with
      | nx M3 r4 => rw [hb] at q1; exact fun F' m' H' σ' s' => ⟨F', m', M3, r4, s', q1⟩
      | ct M3 r4 => rw [hb] at q1; exact fun F' m' H' σ' s' => ⟨F', m', M3, r4, s', q1⟩
      | bk M3 r4 => rw [hb] at q1; exact q1
      | rt M3 d3 => rw [hb] at q1; exact q1
      | er M3 r4 k fs => rw [hb] at q1; exact q1
      | st => rw [hb] at q1; exact q1
end
/-- a statement's context: its own note of an exception is no new one -/
structure CtS (W : Wd) (P : Pg) (T : Tb) (n : Nat) (N : List Str) (C : Cx) (sc : Scope) (Ex : WX) : Prop where
  ct : Ct W P T n N C sc Ex
  ow : PassesOwn (model C.prog C.w) C.A C.env C.xe
  st : C.stack = C.env :: C.outer
  fr : C.env.frame = some C.env.locals
section
variable {W : Wd} {P : Pg} {T : Tb} {n : Nat} {N : List Str}
theorem ownAt_not {F : Hp} {m : List Addr} {H : Hp} {M : Mem} {σ : L2.St} {r : En} (R : Rl W F m H M σ r) {p : Addr} (h : H p = none) (j : Nat) : ¬ OwnAt σ r j p := fun o => by
  obtain ⟨_, _, u, hu, _⟩ := R.ownF ⟨j, o⟩
  rw [hu] at h; cases h
theorem nodup_ix {m : List Addr} (h : m.Nodup) {j k : Nat} {p : Addr} (a : m[j]? = some p) (b : m[k]? = some p) : j = k := by
  obtain ⟨hj, e1⟩ := List.getElem?_eq_some_iff.mp a
  obtain ⟨hk, e2⟩ := List.getElem?_eq_some_iff.mp b
  have t := List.pairwise_iff_getElem.mp h
  rcases Nat.lt_trichotomy j k with l | l | l
  · exact absurd (e1.trans e2.symm) (t j k hj hk l)
  · exact l
  · exact absurd (e2.trans e1.symm) (t k j hk hj l)
theorem pln_mo {F : Hp} {m : List Addr} {H : Hp} {p : Addr} {c : MO} (h : MoR W F m H p c) : Pln H p := fun u e => by
  cases c with
  | ml xs => obtain ⟨vs, q, _⟩ := h; rw [q] at e; cases e; exact ⟨fun _ z => (by cases z), fun _ z => (by cases z)⟩
  | mi k ns ds => obtain ⟨_, dx, fs, q, _⟩ := h; rw [q] at e; cases e; exact ⟨fun _ z => (by cases z), fun _ z => (by cases z)⟩
/-- a thing of the memory is written -/
theorem Sst.updM {B : Bs} {F : Hp} {m : List Addr} {H : Hp} {M : Mem} {σ : L2.St} {r : En} {k : Nat} {p : Addr} {o : HO} {c0 c1 : MO} (s : Sst W B F m H M σ r) (hp : m[k]? = some p) (hM : M[k]? = some c0) (h1 : MoR W F m (upd H p o) p c1) : Sst W B F m (upd H p o) (M.set k c1) σ r := by
  obtain ⟨nF, h0⟩ := s.rl.mr.mo k c0 p hM hp
  have pm : p ∈ m := List.mem_of_getElem? hp
  refine ⟨⟨⟨fun a u h => by rw [upd_ne (ne_of_none h nF)]; exact s.rl.mr.sub a u h, by rw [List.length_set]; exact s.rl.mr.len, s.rl.mr.nd, fun j c q hj hq => ?_, tabs_pln s.rl.mr.tb (pln_mo h0), s.rl.mr.nt⟩, s.rl.sl, fun i x h => ?_, s.rl.di⟩, ⟨s.xt.fx, fun a u h hm ht => ?_, s.xt.nx, s.xt.mx, fun a h => ?_⟩, s.nw, s.fx, s.ix⟩
  · by_cases e : j = k
    · subst e
      rw [hp] at hq; cases hq
      rw [List.getElem?_set_self (List.getElem?_eq_some_iff.mp hM).1] at hj; cases hj
      exact ⟨nF, h1⟩
    · rw [List.getElem?_set_ne fun z => e z.symm] at hj
      obtain ⟨n1, z⟩ := s.rl.mr.mo j c q hj hq
      have ne : q ≠ p := fun w => by
        subst w
        exact e (nodup_ix s.rl.mr.nd hq hp)
      refine ⟨n1, ?_⟩
      cases c with
      | ml xs => obtain ⟨vs, q1, q2⟩ := z; exact ⟨vs, by rw [upd_ne ne]; exact q1, q2⟩
      | mi c ns ds => obtain ⟨hc, dx, fs, q1, q2⟩ := z; exact ⟨hc, dx, fs, by rw [upd_ne ne]; exact q1, q2⟩
  · obtain ⟨v, a, b⟩ := s.rl.sr i x h
    refine ⟨v, a, b.updD fun hz ev => ?_⟩
    subst ev
    obtain ⟨p', u, e6, f1, f2, f3⟩ := b.own_at hz
    cases e6; exact f2 pm
  · obtain ⟨l, e, nl⟩ := s.xt.mx
    have ne : a ≠ p := fun z => by
      subst z
      rw [e] at pm
      rcases List.mem_append.mp pm with w | w
      · exact hm w
      · rw [nl _ w] at h; cases h
    rw [upd_ne ne]; exact s.xt.hx a u h hm ht
  · by_cases e : a = p
    · subst e; rw [upd_same]; exact fun z => by cases z
    · rw [upd_ne e]; exact s.xt.dx a h
/-- a list joins the memory -/
theorem Sst.pushM {B : Bs} {F : Hp} {m : List Addr} {H : Hp} {M : Mem} {σ : L2.St} {r : En} {p : Addr} {vs : List V} {ds : List D} (s : Sst W B F m H M σ r) (h1 : F p = none) (h2 : p ∉ m) (h0 : B.H p = none) (h3 : ∀ j, ¬ OwnAt σ r j p)
    (h4 : H p = some (.lst vs)) (h5 : Rps W F m vs ds) (h6 : vs.length ≤ lim) : Sst W B F (m ++ [p]) H (M ++ [.ml ds]) σ r := by
  have pre : ∀ (k : Nat) (q : Addr), m[k]? = some q → (m ++ [p])[k]? = some q := fun k q h => by
    rw [List.getElem?_append_left (List.getElem?_eq_some_iff.mp h).1]; exact h
  refine ⟨⟨⟨s.rl.mr.sub, by rw [List.length_append, List.length_append, s.rl.mr.len]; rfl, ?_, fun j c q hj hq => ?_, s.rl.mr.tb, s.rl.mr.nt⟩, s.rl.sl, fun i x h => ?_, s.rl.di⟩, ⟨s.xt.fx, s.xt.hx, s.xt.nx, ?_, s.xt.dx⟩, s.nw, s.fx, fun k q h => pre k q (s.ix k q h)⟩
  · rw [List.nodup_append]
    exact ⟨s.rl.mr.nd, by simp, fun a ha b hb => by simp at hb; subst hb; exact fun z => h2 (z ▸ ha)⟩
  · by_cases hk : j < M.length
    · rw [List.getElem?_append_left hk] at hj
      rw [List.getElem?_append_left (by rw [s.rl.mr.len]; exact hk)] at hq
      obtain ⟨n1, z⟩ := s.rl.mr.mo j c q hj hq
      refine ⟨n1, ?_⟩
      cases c with
      | ml xs => obtain ⟨vs, q1, q2, q3⟩ := z; exact ⟨vs, q1, q2.mono (fun _ _ z => z) pre, q3⟩
      | mi c ns ds => obtain ⟨hc, dx, fs, q1, q2, q3⟩ := z; exact ⟨hc, dx, fs, q1, q2, q3.mono (fun _ _ z => z) pre⟩
    · have hj' := (List.getElem?_eq_some_iff.mp hj).1
      rw [List.length_append] at hj'
      have e : j = M.length := by simp at hj'; omega
      subst e
      rw [List.getElem?_append_right (Nat.le_refl _), Nat.sub_self] at hj
      rw [← s.rl.mr.len, List.getElem?_append_right (Nat.le_refl _), Nat.sub_self] at hq
      cases hj; cases hq
      exact ⟨h1, vs, h4, h5.mono (fun _ _ z => z) pre, h6⟩
  · obtain ⟨v, a, b⟩ := s.rl.sr i x h
    refine ⟨v, a, ?_⟩
    have no : isOwn x = true → v ≠ .ref p := fun hz ev => h3 i ⟨x, h, hz, by rw [a, ev]⟩
    have nm : ∀ q, v = .ref q → isOwn x = true → q ∉ m → q ∉ m ++ [p] := fun q e hz hq z => by
      rcases List.mem_append.mp z with w | w
      · exact hq w
      · simp at w; subst w; exact no hz e
    cases x with
    | d x => exact Rp.mono (fun _ _ z => z) pre b
    | ol xs => obtain ⟨q, vs, e, g1, g2, g3, g4, g5⟩ := b; exact ⟨q, vs, e, g1, nm q e rfl g2, g3, g4.mono (fun _ _ z => z) pre, g5⟩
    | ok ks ds => obtain ⟨q, vs, e, g1, g2, g3, g4, g7, g5, g6⟩ := b; exact ⟨q, vs, e, g1, nm q e rfl g2, g3, g4, g7, g5.mono (fun _ _ z => z) pre, g6⟩
    | ot ks ds => obtain ⟨q, vs, e, g1, g2, g3, g4, g7, g5, g6⟩ := b; exact ⟨q, vs, e, g1, nm q e rfl g2, g3, g4, g7, g5.mono (fun _ _ z => z) pre, g6⟩
  · obtain ⟨l, e, nl⟩ := s.xt.mx
    exact ⟨l ++ [p], by rw [e, List.append_assoc], fun a ha => by
      rcases List.mem_append.mp ha with w | w
      · exact nl a w
      · simp at w; subst w; exact h0⟩
theorem putF_ok {F : Hp} {m : List Addr} {v : V} {d : D} (f : Str) (rv : Rp W F m v d) : ∀ (fs : List (Str × V)) (ns : List Str) (ds : List D), fs.map (·.1) = ns → Rps W F m (fs.map (·.2)) ds →
    (L2.putF f v fs).map (·.1) = (Oc.putF f d ns ds).1 ∧ Rps W F m ((L2.putF f v fs).map (·.2)) (Oc.putF f d ns ds).2
  | [], _, ds, rfl, rs => by cases rs; exact ⟨rfl, .cons rv .nil⟩
  | (g, x) :: fs, _, _, rfl, .cons h rs => by
    rename_i d2 ds
    by_cases e : g = f
    · subst e
      simp only [L2.putF, if_true, Oc.putF, List.map_cons]
      exact ⟨trivial, .cons rv rs⟩
    · obtain ⟨i1, i2⟩ := putF_ok f rv fs _ ds rfl rs
      simp only [L2.putF, if_neg e, Oc.putF, List.map_cons]
      exact ⟨by rw [i1], .cons h i2⟩
/-- an int by an operation in place -/
theorem ip_of {C : Cx} {o : O2} (h : okAug o = true) : PIp C (bop o) (fun x y H Q => ∃ i j z, x = .int i ∧ y = .int j ∧ binD [] o (.int i) (.int j) = some (.int z) ∧ Q (.int z) H) := by
  cases o <;> first | (cases h; done) | skip
  · exact fun pins s σ H x y v u Q I rx ry ⟨i, j, z, e1, e2, e3, q⟩ => iop_add pins s σ H x y v u Q I rx ry ⟨i, j, e1, e2, by cases e3; exact q⟩
  · exact fun pins s σ H x y v u Q I rx ry ⟨i, j, z, e1, e2, e3, q⟩ => iop_sub pins s σ H x y v u Q I rx ry ⟨i, j, e1, e2, by cases e3; exact q⟩
  · refine fun pins s σ H x y v u Q I rx ry ⟨i, j, z, e1, e2, e3, q⟩ => ?_
    have e4 : (mulI i j).map D.int = some (.int z) := e3
    cases hm : mulI i j with
    | none => rw [hm] at e4; cases e4
    | some w =>
      rw [hm] at e4; cases e4
      obtain ⟨c1, c2⟩ := mulI_ok _ _ _ hm
      exact iop_mul pins s σ H x y v u Q I rx ry ⟨i, j, e1, e2, c1, by show Q (V.int (i * j)) H; rw [c2]; exact q⟩
theorem ints_of {M : Mem} {o : O2} {k : Int} {y z : D} (h : okAug o = true) (e : binD M o (.int k) y = some z) : ∃ j g, y = .int j ∧ z = .int g := by
  cases o <;> first | (cases h; done) | skip
  · cases y <;> simp [binD, addD, lsOf] at e
    exact ⟨_, _, rfl, e.symm⟩
  · cases y <;> simp [binD, arD] at e
    exact ⟨_, _, rfl, e.symm⟩
  · cases y <;> simp [binD, mulD, arD] at e
    obtain ⟨w, _, e⟩ := e
    exact ⟨_, _, rfl, e.symm⟩
theorem ints_M {M : Mem} {o : O2} {k j : Int} (h : okAug o = true) : binD [] o (.int k) (.int j) = binD M o (.int k) (.int j) := by
  cases o <;> first | rfl | cases h
/-- what the slot gets -/
def XR (o : Bool) (W : Wd) (F : Hp) (m : List Addr) (H0 H : Hp) (v : V) (d : D) : Prop := match o with
  | false => Rp W F m v d
  | true => ∃ p, v = .ref p ∧ F p = none ∧ p ∉ m ∧ H0 p = none ∧ FrR W F m H p d
theorem FrR_ne {F : Hp} {m : List Addr} {H : Hp} {p : Addr} {d : D} (h : FrR W F m H p d) : ∃ u, H p = some u := by
  cases d <;> first | exact h.elim | (obtain ⟨_, e, _⟩ := h; exact ⟨_, e⟩) | (obtain ⟨_, _, e, _⟩ := h; exact ⟨_, e⟩)
theorem XR.xt {o : Bool} {F F1 : Hp} {m m1 : List Addr} {H0 H H1 : Hp} {v : V} {d : D} (h : XR o W F m H0 H v d) (a : Xt F m H F1 m1 H1) : XR o W F1 m1 H0 H1 v d := by
  cases o with
  | false => exact Rp.xt h a
  | true =>
    obtain ⟨p, rfl, k1, k2, k3, k4⟩ := h
    obtain ⟨u, hu⟩ := FrR_ne k4
    refine ⟨p, rfl, ?_, ?_, k3, ?_⟩
    · cases e : F1 p with
      | none => rfl
      | some w =>
        rcases a.nx p w e with z | z
        · rw [k1] at z; cases z
        · cases d <;> first | exact k4.elim | skip
          · obtain ⟨vs, e1, e2, e3⟩ := k4; exact (z.no e1 trivial).elim
          · obtain ⟨_, vs, e1, _⟩ := k4; exact (z.no e1 trivial).elim
          · obtain ⟨_, vs, e1, _⟩ := k4; exact (z.no e1 trivial).elim
    · obtain ⟨l, e, nl⟩ := a.mx
      rw [e]
      intro z
      rcases List.mem_append.mp z with z | z
      · exact k2 z
      · rw [nl _ z] at hu; cases hu
    · cases d <;> first | exact k4.elim | skip
      · obtain ⟨vs, e1, e2, e3⟩ := k4; exact ⟨vs, a.hx p _ e1 k2 (fun _ z => (by cases z)), e2.xt a, e3⟩
      · obtain ⟨e0, vs, e1, e2, e5, e3, e4⟩ := k4; exact ⟨e0, vs, a.hx p _ e1 k2 (fun _ z => (by cases z)), e2, e5, e3.xt a, e4⟩
      · obtain ⟨e0, vs, e1, e2, e5, e3, e4⟩ := k4; exact ⟨e0, vs, a.hx p _ e1 k2 (fun _ z => (by cases z)), e2, e5, e3.xt a, e4⟩
def tSu (W : Wd) (X : Fx) (s : Su) : TS := fun D σ H => ∃ B F m M r, Sst W B F m H M σ r ∧ SQ W B D (fun _ _ _ _ => False) (suF X s M r)
theorem suC_ok {C : Cx} {sc : Scope} {X : Fx} {Ex : WX} {e : E} {x : Expr} (hN : C.N = N) (so : ScOk C sc) (h : chkC N sc e x = true) : PE C x (tE W X Ex e) := by
  unfold chkC at h
  split at h
  · split at h <;> try (cases h; done)
    have := of_decide_eq_true h; subst this; exact ok_int
  · split at h <;> try (cases h; done)
    simp only [Bool.and_eq_true, decide_eq_true_eq] at h
    obtain ⟨⟨h1, h2⟩, h3⟩ := h
    subst h1; exact ok_str h2 h3
  · split at h <;> try (cases h; done)
    have := eq_of_beq h; subst this; exact ok_bl
  · split at h <;> try (cases h; done)
    exact ok_non
  · cases h
theorem su_ok {C : Cx} {sc : Scope} {X : Fx} {s : Su} {st : Stmt} (hN : C.N = N) (nd : N.Nodup) (so : ScOk C sc) (h : chkSu N sc s st = true) : PS C st (tSu W X s) := by
  cases s with
  | ret e =>
    cases st <;> simp [chkSu] at h
    rename_i o pos
    cases o <;> simp at h
    refine (ps_ret (suC_ok (W := W) (X := X) (Ex := fun _ _ _ _ => False) hN so h)).wk fun D σ H ⟨B, F, m, M, r, s, q⟩ => ⟨F, m, M, r, s.rl, ?_⟩
    change SQ _ _ _ _ (fOf (ev X e M r).noEr r fun M1 x => .rt M1 x) at q
    cases hx : ev X e M r with
    | ok M1 d =>
      rw [hx] at q
      exact fun F1 m1 H1 a r1 v rv => q F1 m1 H1 v (s.step a r1).xt r1 rv
    | er M1 c fs => rw [hx] at q; exact q.elim
    | st => rw [hx] at q; exact q.elim
  | set i e =>
    unfold chkSu at h
    split at h
    · rename_i heq; cases heq
    · rename_i heq; cases heq
      simp only [Bool.and_eq_true, decide_eq_true_eq] at h
      obtain ⟨⟨⟨⟨h1, h2⟩, h3⟩, h4⟩, h5⟩ := h
      have l := so.loc _ h2
      refine (ps_set (by rw [hN]; exact nd) (by rw [hN]; exact h1) l.1 (suC_ok (W := W) (X := X) (Ex := fun _ _ _ _ => False) hN so h5) (swF_ok so h2 h3) l.2).wk fun D σ H ⟨B, F, m, M, r, s, q⟩ => ⟨F, m, M, r, s.rl, ?_⟩
      change SQ _ _ _ _ (fOf (ev X e M r).noEr r fun M1 x => .nx M1 (setE r i x)) at q
      cases hx : ev X e M r with
      | ok M1 d =>
        rw [hx] at q
        exact fun F1 m1 H1 a r1 v rv => q F1 m1 H1 _ ((s.step a r1).set i rv)
      | er M1 c fs => rw [hx] at q; exact q.elim
      | st => rw [hx] at q; exact q.elim
    · cases h
theorem ScOk.same {C C' : Cx} {sc : Scope} (so : ScOk C sc) (he : C'.env = C.env) (hf : C'.fn = C.fn) : ScOk C' sc :=
  ⟨so.kd, by rw [he]; exact so.ek, fun x h => by rw [he]; exact so.vis x h, fun x h => by have := so.gl x h; unfold Gl at this ⊢; rw [he]; exact this, fun x h => by rw [he, hf]; exact so.loc x h, fun x h => by rw [he]; exact so.lcl x h, fun x h => by rw [he]; exact so.cf x h⟩
theorem su_ex {X : Fx} {Ex : WX} {B : Bs} {D : Ends} {s : Su} {M : Mem} {r : En} (q : SQ W B D Ex (suF X s M r)) : SQ W B D (fun _ _ _ _ => False) (suF X s M r) := by
  cases s with
  | ret e =>
    change SQ _ _ _ _ (fOf (ev X e M r).noEr r fun M1 x => .rt M1 x) at q ⊢
    cases he : ev X e M r with
    | ok M1 d => rw [he] at q; exact q
    | er M1 c fs => rw [he] at q; exact q
    | st => rw [he] at q; exact q
  | set i e =>
    change SQ _ _ _ _ (fOf (ev X e M r).noEr r fun M1 x => .nx M1 (setE r i x)) at q ⊢
    cases he : ev X e M r with
    | ok M1 d => rw [he] at q; exact q
    | er M1 c fs => rw [he] at q; exact q
    | st => rw [he] at q; exact q
theorem pass_no {C : Cx} {sc : Scope} {Ex : WX} (c : Ct W P T n N C sc Ex) : Passes (L2.CX C.prog C.w) C (fun _ _ _ => False) := fun pins σ H s e s' I x => passAt (X := C) (W := fun _ _ _ _ => False) takes0' σ pins H s e s' I x
theorem sx_ret {X : Fx} {k : Nat} {fs : List D} {e : XE} {M : Mem} {r : En} : sxF X k fs (.ret e) M r = (match xv X k fs r e with
    | some d => .rt M d
    | none => .st) := rfl
theorem sx_set {X : Fx} {k j : Nat} {fs : List D} {e : XE} {M : Mem} {r : En} : sxF X k fs (.set j e) M r = (match xv X k fs r e with
    | some d => .nx M (setE r j d)
    | none => .st) := rfl
theorem sx_thn {X : Fx} {k j : Nat} {fs : List D} {e : XE} {s : SX} {M : Mem} {r : En} : sxF X k fs (.thn j e s) M r = (match xv X k fs r e with
    | some d => sxF X k fs s M (setE r j d)
    | none => .st) := rfl
theorem sx_own {X : Fx} {k j : Nat} {fs : List D} {e : XE} {s : SX} {M : Mem} {r : En} : sxF X k fs (.own j e s) M r = (match xv X k fs r e with
    | some (.lst xs) => sxF X k fs s M (r.set j (some (.ol xs)))
    | _ => .st) := rfl
theorem sx_app {X : Fx} {k c j : Nat} {fs : List D} {e : XE} {s : SX} {M : Mem} {r : En} : sxF X k fs (.app c j e s) M r = (match X.exs k c with
    | some false => sxF X k fs s M r
    | some true => match r[j]?, xv X k fs r e with
      | some (some (.ol xs)), some d => if xs.length < lim then sxF X k fs s M (r.set j (some (.ol (xs ++ [d])))) else .st
      | _, _ => .st
    | none => .st) := rfl
theorem sx_frz {X : Fx} {k j : Nat} {fs : List D} {s : SX} {M : Mem} {r : En} : sxF X k fs (.frz j s) M r = (match r[j]? with
    | some (some (.ol xs)) => sxF X k fs s M (r.set j (some (.d (.lst xs))))
    | _ => .st) := rfl
/-- what a named clause's suite wishes -/
def tSX (W : Wd) (X : Fx) (i : Nat) (a : Addr) (cls : Value) (d : Option Addr) (su : SX) : TS := fun D σ H => ∃ B F m M r k fs, Sst W B F m H M σ r ∧ EX W F m H M σ r i a cls d k fs ∧ r[i]? = some none ∧ SQ W B D (fun _ _ _ _ => False) (sxF X k fs su M r)
theorem idle_set {r : En} {i j : Nat} {y : Option Sl} (h : r[i]? = some none) (hne : j ≠ i) : (r.set j y)[i]? = some none := by
  rw [List.getElem?_set_ne hne]; exact h
theorem sx_ok {C : Cx} {sc : Scope} {Ex : WX} {nm : Str} {i : Nat} {a : Addr} {oe : Obj} {cls : Value} {d : Option Addr} {pn : List (Addr × Obj)} (c : Ct W P T n N C sc Ex) (hi : N[i]? = some nm) (hl : lclB sc nm = true) (ok : okNm nm = true) (hz : Zc cls d oe) (hf : ∃ vs, oe.data = .fields vs) : ∀ (su : SX) (l : List Stmt),
    sxI i su = true → chkSX T N sc nm su l = true → PSs (C.suite a ((a, oe) :: pn)) l (tSX W (P.fx n) i a cls d su) := by
  have hv : visB sc nm = true := by
    unfold lclB at hl
    unfold visB
    split at hl
    · rename_i e; rw [e]
    · cases hl
  have un : C.A.units + 200 < cLine := by have := c.room.un; omega
  have so2 : ScOk (C.suite a ((a, oe) :: pn)) sc := c.so.same rfl rfl
  have hN2 : (C.suite a ((a, oe) :: pn)).N = N := c.hN
  intro su
  induction su with
  | ret e =>
    intro l _ h
    unfold chkSX at h
    split at h <;> first | (cases h; done) | (rename_i heq1 heq2; cases heq1; done) | (rename_i heq1; cases heq1; done) | skip
    rename_i heq1 heq2
    cases heq1; cases heq2
    simp only [Bool.and_eq_true, Bool.not_eq_true'] at h
    refine pss_one ((ps_ret ((xm_ok c.g un c.hN c.so hi hv ok hz hf e).pe h.1 _ h.2)).wk fun D σ H ⟨B, F, m, M, r, k, fs, s, E, hn, q⟩ => ?_)
    rw [sx_ret] at q
    cases hx : xv (P.fx n) k fs r e with
    | none => rw [hx] at q; exact q.elim
    | some dd =>
      rw [hx] at q
      exact ⟨F, m, M, r, k, fs, E, dd, hx, fun F1 m1 H1 v a1 r1 rv => q F1 m1 H1 v (s.step a1 r1).xt r1 rv⟩
  | set j e => intro l _ h; simp [chkSX] at h
  | thn j e su ih => intro l _ h; simp [chkSX] at h
  | own j e su ih => intro l _ h; simp [chkSX] at h
  | app c2 j e su ih => intro l _ h; simp [chkSX] at h
  | frz j su ih => intro l _ h; simp [chkSX] at h
/-- a slot that nobody reads -/
theorem Sst.idle {B : Bs} {F : Hp} {m : List Addr} {H : Hp} {M : Mem} {σ : L2.St} {r : En} (s : Sst W B F m H M σ r) {i : Nat} (hi : r[i]? = some none) (x : Option V) : Sst W B F m H M (σ.set i x) r := by
  have own : ∀ j p, OwnAt (σ.set i x) r j p → OwnAt σ r j p := fun j p ⟨y, h1, h2, h3⟩ => by
    have hne : i ≠ j := fun e => by subst e; rw [hi] at h1; cases h1
    rw [List.getElem?_set_ne hne] at h3
    exact ⟨y, h1, h2, h3⟩
  refine ⟨⟨s.rl.mr, by rw [List.length_set]; exact s.rl.sl, fun j y h => ?_, fun a b p h1 h2 => s.rl.di a b p (own a p h1) (own b p h2)⟩, s.xt, fun j p h => s.nw j p (own j p h), s.fx, s.ix⟩
  have hne : i ≠ j := fun e => by subst e; rw [hi] at h; cases h
  rw [List.getElem?_set_ne hne]
  exact s.rl.sr j y h
def KpX (i : Nat) : Fl → Prop
  | .nx _ r2 => r2[i]? = some none
  | .rt _ _ => True
  | .st => True
  | _ => False
theorem sx_keep {X : Fx} {k : Nat} {fs : List D} {i : Nat} : ∀ {su : SX} {M : Mem} {r : En}, sxI i su = true → r[i]? = some none → KpX i (sxF X k fs su M r)
  | .ret e, M, r, _, _ => by
    rw [sx_ret]; cases xv X k fs r e <;> trivial
  | .set j e, M, r, h, hi => by
    unfold sxI at h
    rw [decide_eq_true_eq] at h
    rw [sx_set]
    cases xv X k fs r e with
    | none => trivial
    | some d => exact idle_set hi h
  | .thn j e s, M, r, h, hi => by
    unfold sxI at h
    rw [Bool.and_eq_true, decide_eq_true_eq] at h
    rw [sx_thn]
    cases xv X k fs r e with
    | none => trivial
    | some d => exact sx_keep h.2 (idle_set hi h.1)
  | .own j e s, M, r, h, hi => by
    unfold sxI at h
    rw [Bool.and_eq_true, decide_eq_true_eq] at h
    rw [sx_own]
    split
    · exact sx_keep h.2 (idle_set hi h.1)
    · trivial
  | .app c j e s, M, r, h, hi => by
    unfold sxI at h
    rw [Bool.and_eq_true, decide_eq_true_eq] at h
    rw [sx_app]
    cases X.exs k c with
    | none => trivial
    | some b =>
      cases b with
      | false => exact sx_keep h.2 hi
      | true =>
        dsimp only
        split
        · split
          · exact sx_keep h.2 (idle_set hi h.1)
          · trivial
        · trivial
  | .frz j s, M, r, h, hi => by
    unfold sxI at h
    rw [Bool.and_eq_true, decide_eq_true_eq] at h
    rw [sx_frz]
    split
    · exact sx_keep h.2 (idle_set hi h.1)
    · trivial
/-- clauses with names and without -/
def mixT (W : Wd) (X : Fx) : List Hd → List Cla
  | [] => []
  | .bare k s :: l => (.ref (W.ca k), none, fun _ _ _ => tSu W X s) :: mixT W X l
  | .as k i su :: l => (.ref (W.ca k), some i, fun a cls d => tSX W X i a cls d su) :: mixT W X l
theorem hdm_ok {C : Cx} {sc : Scope} {Ex : WX} (c : Ct W P T n N C sc Ex) : ∀ {hs : List Hd} {l : List ExceptHandler}, chkM T N sc hs l = true → HdsM C l (mixT W (P.fx n) hs)
  | [], l, h => by
    have : l = [] := List.isEmpty_iff.mp h
    subst this
    exact .nil
  | .bare k s :: r, l, h => by
    cases l with
    | nil => cases h
    | cons hd l =>
    simp only [chkM] at h
    split at h <;> first | (cases h; done) | skip
    rename_i e
    obtain ⟨_, _, rfl⟩ := hdV_ok e
    simp only [Bool.and_eq_true, decide_eq_true_eq] at h
    obtain ⟨⟨⟨⟨h1, h2⟩, h3⟩, h4⟩, h5⟩ := h
    exact HdsM.bare ⟨c.so.gl _ h2, (okNm_of h3).1, .inl (c.g.exc _ _ h1).g⟩ (fun a oe cls d pn _ _ => pss_one (su_ok c.hN c.nd (c.so.same rfl rfl) h4)) (hdm_ok c h5)
  | .as k i su :: r, l, h => by
    cases l with
    | nil => cases h
    | cons hd l =>
    simp only [chkM] at h
    split at h <;> first | (cases h; done) | skip
    rename_i e
    obtain ⟨_, _, rfl⟩ := hdV_ok e
    simp only [Bool.and_eq_true, decide_eq_true_eq] at h
    obtain ⟨⟨⟨⟨⟨⟨⟨⟨h1, h2⟩, h3⟩, h4⟩, h5⟩, h6⟩, h7⟩, h8⟩, h9⟩ := h
    exact HdsM.as ⟨c.so.gl _ h2, (okNm_of h3).1, .inl (c.g.exc _ _ h1).g⟩ (by rw [c.hN]; exact h4) (c.so.lcl _ h5) (fun a oe cls d pn hz hf => sx_ok c h4 h5 h6 hz hf su _ h7 h8) (hdm_ok c h9)
def sxA : List Hd → Bool
  | [] => true
  | .bare _ _ :: l => sxA l
  | .as _ i su :: l => sxI i su && sxA l
theorem chkM_sx {sc : Scope} : ∀ {hs : List Hd} {l : List ExceptHandler}, chkM T N sc hs l = true → sxA hs = true
  | [], _, _ => rfl
  | .bare k s :: r, l, h => by
    cases l with
    | nil => cases h
    | cons hd l =>
    simp only [chkM] at h
    split at h <;> first | (cases h; done) | skip
    rename_i e
    obtain ⟨_, _, rfl⟩ := hdV_ok e
    simp only [Bool.and_eq_true] at h
    show sxA r = true
    exact chkM_sx h.2
  | .as k i su :: r, l, h => by
    cases l with
    | nil => cases h
    | cons hd l =>
    simp only [chkM] at h
    split at h <;> first | (cases h; done) | skip
    rename_i e
    obtain ⟨_, _, rfl⟩ := hdV_ok e
    simp only [Bool.and_eq_true] at h
    unfold sxA
    rw [h.1.1.2, chkM_sx h.2]; rfl
theorem mx_ok {K : PySem.W.Frag} {X : Fx} {Ex : WX} {B : Bs} {U : Ends} {k : Nat} (hx : ∀ c k b, X.exs c k = some b → PySem.W.exmOne K (.ref (W.ca c)) (.ref (W.ca k)) = some b) : ∀ {hs : List Hd} {M : Mem} {r : En} {fs : List D}, sxA hs = true → SQ W B U Ex (mixF X k hs M r fs) →
    ∀ F m H σ cls dd, Sst W B F m H M σ r → ErR W F m H k fs cls dd → wMix K Ex U (mixT W X hs) cls dd σ H
  | [], M, r, fs, _, q => q
  | .bare c s :: l, M, r, fs, ha, q => fun F m H σ cls dd s0 er => by
    unfold mixF at q
    obtain rfl := er.1
    cases hb : X.exs k c with
    | none => rw [hb] at q; exact q.elim
    | some b =>
      rw [hb] at q
      refine ⟨b, hx _ _ _ hb, ?_⟩
      cases b with
      | true => exact fun a _ => ⟨B, F, m, M, r, s0, su_ex q⟩
      | false => exact mx_ok hx (hs := l) ha q F m H σ _ dd s0 er
  | .as c i su :: l, M, r, fs, ha, q => fun F m H σ cls dd s0 er => by
    unfold sxA at ha
    rw [Bool.and_eq_true] at ha
    have e1 := er.1
    unfold mixF at q
    cases hb : X.exs k c with
    | none => rw [hb] at q; exact q.elim
    | some b =>
      rw [hb] at q
      have hxx := hx _ _ _ hb
      rw [← e1] at hxx
      refine ⟨b, hxx, ?_⟩
      cases b with
      | false => exact mx_ok hx (hs := l) ha.2 q F m H σ _ dd s0 er
      | true =>
        dsimp only at q
        split at q
        · rename_i hi
          intro a _
          have s1 := s0.idle hi (some (.ref a))
          have hlt : i < σ.length := by rw [s0.rl.sl]; exact (List.getElem?_eq_some_iff.mp hi).1
          refine ⟨B, F, m, M, r, k, fs, s1, ⟨s1.rl, er, by rw [List.getElem?_set_self hlt]⟩, hi, ?_⟩
          have kp := sx_keep (X := X) (k := k) (fs := fs) (M := M) ha.1 hi
          cases hr : sxF X k fs su M r with
          | nx M2 r2 =>
            rw [hr] at q kp
            exact fun F2 m2 H2 σ2 s2 => q F2 m2 H2 _ (s2.idle kp none)
          | rt M2 d2 => rw [hr] at q; exact q
          | bk M2 r2 => rw [hr] at kp; exact kp.elim
          | ct M2 r2 => rw [hr] at kp; exact kp.elim
          | er M2 r2 k2 fs2 => rw [hr] at kp; exact kp.elim
          | st => rw [hr] at q; exact q.elim
        · exact q.elim
theorem rd_trm {K : PySem.W.Frag} {X : Fx} {Ex : WX} {b : S} {hs : List Hd} {U : Ends} {σ : L2.St} {H : Hp} (hx : ∀ c k b, X.exs c k = some b → PySem.W.exmOne K (.ref (W.ca c)) (.ref (W.ca k)) = some b) (ha : sxA hs = true) (h : tS W X Ex (.trm b hs) U σ H) : tS W X (wMix K Ex U (mixT W X hs)) b U σ H := by
  obtain ⟨B, F, m, M, r, s, q⟩ := h
  refine ⟨B, F, m, M, r, s, ?_⟩
  rw [ex] at q
  cases e : ex X b M r with
  | nx M1 r1 => rw [e] at q; exact q
  | rt M1 d => rw [e] at q; exact q
  | bk M1 r1 => rw [e] at q; exact q
  | ct M1 r1 => rw [e] at q; exact q
  | er M1 r1 k fs => rw [e] at q; exact mx_ok hx ha q
  | st => rw [e] at q; exact q
theorem sAe {B : Bs} {F : Hp} {m : List Addr} {H : Hp} {M : Mem} {σ : L2.St} {r : En} {U : Ends} {Ex : WX} {X : Fx} {e : E} {Q : List V → Hp → Prop} {k : Mem → D → Fl} (s : Sst W B F m H M σ r) (q : SQ W B U Ex (fOf (ev X e M r) r k))
    (kk : ∀ M1 ds F1 m1 H1 vs, ev X e M r = .ok M1 (.tup ds) → Sst W B F1 m1 H1 M1 σ r → Xt F m H F1 m1 H1 → Rps W F1 m1 vs ds → SQ W B U Ex (k M1 (.tup ds)) → Q vs H1) : tA W X Ex e σ H Q := by
  refine ⟨F, m, M, r, s.rl, ?_⟩
  cases h : ev X e M r with
  | ok M1 d => rw [h] at q; exact fun F1 m1 H1 a r1 ds hd vs rv => by subst hd; exact kk M1 ds F1 m1 H1 vs h (s.step a r1) a rv q
  | er M1 c fs => rw [h] at q; exact fun F1 m1 H1 cls dd a r1 er => q F1 m1 H1 σ cls dd (s.step a r1) er
  | st => rw [h] at q; exact q
theorem raise_args {sc : Scope} {Ex : WX} {k : Nat} {e : E} {es : List Expr} {B : Bs} {F : Hp} {m : List Addr} {H : Hp} {M : Mem} {σ : L2.St} {r : En} {U : Ends} (hne : T.exn k ≠ []) (ern : W.er k = T.exn k) (s : Sst W B F m H M σ r) (q : SQ W B U Ex (ex (P.fx n) (.rse k e) M r))
    (hc : chk P T N e sc (.l es) = true) (h100 : es.length ≤ 100) (hl : es.length = (T.exn k).length) : tMkO (W.ca k) (spX (W.ca k) (T.exn k)) [] (tA W (P.fx n) Ex e) σ H (fun cls d H' => Ex cls d σ H') := by
  rw [ex] at q
  refine sAe s q fun M1 ds F1 m1 H1 vs e1 s1 a1 rvs q1 => ?_
  have hlen : ds.length = es.length := ev_len hc e1
  refine ⟨by rw [rvs.len, hlen]; omega, fun a ha => ⟨a, vs, by rw [List.append_nil], by rw [rvs.len, hlen, hl], upd_same, fun d H' hd hda h1 h2 h3 => ⟨rfl, d, _, h1, h2, ?_, ?_⟩⟩⟩
  · rw [upd_ne hda] at hd; exact hd
  · rw [upd_ne hda] at hd
    have e2 : upd (L2.del H' a) d (.xd ((T.exn k).zip vs.reverse)) = upd H1 d (.xd ((T.exn k).zip vs.reverse)) := by
      funext b
      by_cases hb : b = d
      · rw [hb, upd_same, upd_same]
      · rw [upd_ne hb, upd_ne hb]
        by_cases hba : b = a
        · rw [hba, L2.del_same, ha]
        · rw [L2.del_ne hba, h3 b hba hb, upd_ne hba]
    rw [e2]
    obtain ⟨R2, x2⟩ := s1.rl.mr.own (o := .xd ((T.exn k).zip vs.reverse)) hd
    refine q1 F1 m1 _ σ _ _ (s1.step x2 R2) ⟨rfl, ?_⟩
    have hn2 : ds.reverse ≠ [] := fun z => by
      have := congrArg List.length z
      rw [List.length_reverse, hlen, hl] at this
      exact hne (List.length_eq_zero_iff.mp this)
    cases hr : ds.reverse with
    | nil => exact absurd hr hn2
    | cons y ys =>
      exact ⟨d, vs.reverse, rfl, by rw [ern]; exact upd_same, hr ▸ Rps.rev rvs⟩
structure SM (W : Wd) (P : Pg) (T : Tb) (n : Nat) (N : List Str) (s : S) : Prop where
  pss : ∀ C sc Ex l, CtS W P T n N C sc Ex → chkS P T N s sc l = true → PSs C l (tS W (P.fx n) Ex s)
  one : isOne s = true → ∀ C sc Ex l, CtS W P T n N C sc Ex → chkS P T N s sc l = true → ∃ st, l = [st] ∧ PS C st (tS W (P.fx n) Ex s)
theorem SM.of {s : S} (h : ∀ C sc Ex l, CtS W P T n N C sc Ex → chkS P T N s sc l = true → ∃ st, l = [st] ∧ PS C st (tS W (P.fx n) Ex s)) : SM W P T n N s :=
  ⟨fun C sc Ex l c k => by obtain ⟨st, rfl, p⟩ := h C sc Ex l c k; exact pss_one p, fun _ => h⟩
theorem masterS (s : S) : SM W P T n N s := by
  induction s with
  | nil =>
    refine ⟨fun C sc Ex l c h => ?_, fun z => by cases z⟩
    cases l with
    | nil => exact pss_nil.wk fun D σ H ⟨B, F, m, M, r, s, q⟩ => q F m H σ s
    | cons => simp [chkS] at h
  | seq a b iha ihb =>
    refine ⟨fun C sc Ex l c h => ?_, fun z => by cases z⟩
    simp only [chkS, Bool.or_eq_true, Bool.and_eq_true] at h
    rcases h with ⟨h1, h2⟩ | ⟨h1, h2⟩
    · cases a <;> first | (cases h1; done) | skip
      exact frz_run (ihb.pss C sc Ex l c h2)
    · split at h2
      · simp only [Bool.and_eq_true] at h2
        obtain ⟨st, e, p1⟩ := iha.one h1 C sc Ex _ c h2.1
        cases e
        exact (pss_cons p1 (ihb.pss C sc Ex _ c h2.2)).wk fun D σ H q => rd_seq q
      · cases h2
  | set i e =>
    refine SM.of fun C sc Ex l c h => ?_
    simp only [chkS] at h; split at h
    · simp only [Bool.and_eq_true, decide_eq_true_eq] at h
      obtain ⟨⟨⟨⟨h1, h2⟩, h3⟩, h4⟩, h5⟩ := h
      exact ⟨_, rfl, (asgE c.ct h1 h2 h3 h4 h5).wk fun D σ H ⟨B, F, m, M, r, s, q⟩ => sE s q fun M1 d F1 m1 H1 v s1 a1 rv q1 => q1 F1 m1 H1 _ (s1.set i rv)⟩
    · cases h
  | setO i e =>
    refine SM.of fun C sc Ex l c h => ?_
    simp only [chkS] at h; split at h
    · simp only [Bool.and_eq_true, decide_eq_true_eq] at h
      obtain ⟨⟨⟨⟨h0, h1⟩, h2⟩, h3⟩, h5⟩ := h
      refine ⟨_, rfl, (asgO c.ct h1 h2 h3 h0 h5).wk fun D σ H ⟨B, F, m, M, r, s, q⟩ => sO s q fun M1 d F1 m1 H1 p s1 a1 k1 k2 k3 k4 q1 => ?_⟩
      have hB : B.H p = none := by
        cases e : B.H p with
        | none => rfl
        | some u => exact absurd k3 (s.xt.dx p (by rw [e]; exact fun z => by cases z))
      have no : ∀ j, ¬ OwnAt σ r j p := fun j => ownAt_not s.rl k3 j
      have s2 := s1.setOwn i k1 k2 hB no k4
      cases d <;> first | exact k4.elim | exact q1 F1 m1 H1 _ s2 | (obtain ⟨rfl, _⟩ := k4; exact q1 F1 m1 H1 _ s2)
    · cases h
  | setP p e => exact SM.of fun C sc Ex l c h => by simp only [chkS] at h; cases h
  | par i j a b => exact SM.of fun C sc Ex l c h => by simp only [chkS] at h; cases h
  | rvo i => exact SM.of fun C sc Ex l c h => by simp only [chkS] at h; cases h
  | app i e =>
    refine SM.of fun C sc Ex l c h => ?_
    simp only [chkS] at h; split at h
    · rename_i x px y apos a pos pos2
      simp only [Bool.and_eq_true, decide_eq_true_eq] at h
      obtain ⟨⟨⟨⟨⟨⟨h1, h2⟩, h3⟩, h4⟩, h5⟩, h6⟩, h7⟩ := h
      subst h4
      have o := okNm_of h3
      have pv := pe_var (X := C) (pos := px) (i := i) (by rw [c.ct.hN]; exact h1) (c.ct.so.vis x h2) o.1 o.2.1
      have pa := pa_cons ((master e).pe C sc Ex a c.ct h7) pa_nil (star_cons h6)
      refine ⟨_, rfl, (ps_expr (pe_bm (apos := apos) (cpos := pos) PySem.F.plainAttrs_list PySem.F.slot_list_append PySem.F.type_list_append mt_append pv pa (base_ok rfl) (few_one h6) h5 (star_cons h6) rfl) rfl).wk fun D σ H ⟨B, F, m, M, r, s, q⟩ => ?_⟩
      cases hr : r[i]? with
      | none => simp only [ex, hr] at q; exact q.elim
      | some w =>
        cases w with
        | none => simp only [ex, hr] at q; exact q.elim
        | some w =>
          cases w <;> first | (simp only [ex, hr] at q; exact q.elim) | skip
          rename_i xs
          simp only [ex, hr] at q
          obtain ⟨vv, e1, p, vs, e2, f1, f2, f3, f4, f5⟩ := s.rl.sr i _ hr
          subst e2
          have ow : OwnAt σ r i p := ⟨_, hr, rfl, e1⟩
          refine ⟨_, e1, .inl ⟨rfl, vs, SqL.of f3⟩, sE s q fun M1 d F1 m1 H1 v s1 a1 rv q1 => ?_⟩
          split at q1
          · rename_i hl
            refine ⟨p, vs, v, rfl, rfl, a1.hx p _ f3 f2 (fun _ z => (by cases z)), by rw [← lim_line, f4.len]; exact hl, ?_⟩
            refine q1 F1 m1 _ σ (s1.updOwn ow hr rfl fun g1 g2 => ⟨p, vs ++ [v], rfl, g1, g2, upd_same, (f4.xt a1).app (.cons rv .nil), ?_⟩)
            rw [List.length_append, f4.len]; exact hl
          · exact q1.elim
    · cases h
  | frz i =>
    refine ⟨fun C sc Ex l c h => ?_, fun z => by cases z⟩
    cases l with
    | nil => exact frz_end
    | cons => simp [chkS] at h
  | aug i o e =>
    refine SM.of fun C sc Ex l c h => ?_
    simp only [chkS] at h; split at h
    · simp only [Bool.and_eq_true, decide_eq_true_eq] at h
      obtain ⟨⟨⟨⟨h1, h2⟩, h3⟩, h4⟩, h5⟩ := h
      have lc := c.ct.so.loc _ h2
      have pe := (master e).pe C sc Ex _ c.ct h5
      rw [bop_of h3]
      refine ⟨_, rfl, (ps_aug (by rw [c.ct.hN]; exact c.ct.nd) (by rw [c.ct.hN]; exact h1) lc.1 pe (ip_of h4) lc.2).wk fun D σ H ⟨B, F, m, M, r, s, q⟩ => ?_⟩
      simp only [ex] at q
      cases hv : vsl r i with
      | none => rw [hv] at q; exact q.elim
      | some x =>
        rw [hv] at q
        obtain ⟨v, e1, rv⟩ := s.rl.var hv
        refine ⟨v, e1, sE s q fun M1 y F1 m1 H1 w s1 a1 rw1 q1 => ?_⟩
        cases x <;> first | exact q1.elim | skip
        rename_i k
        cases hb : binD M1 o (.int k) y with
        | none => rw [hb] at q1; exact q1.elim
        | some z =>
          rw [hb] at q1
          obtain ⟨j, g, rfl, rfl⟩ := ints_of h4 hb
          cases rv; cases rw1
          exact ⟨k, j, g, rfl, rfl, by rw [ints_M h4] ; exact hb, q1 F1 m1 H1 _ (s1.set i (.int _))⟩
    · cases h
  | hset a i e =>
    refine SM.of fun C sc Ex l c h => ?_
    simp only [chkS] at h; split at h
    · rename_i x y ps v pos
      simp only [Bool.and_eq_true] at h
      obtain ⟨⟨⟨h1, h2⟩, h3⟩, h4⟩ := h
      refine ⟨_, rfl, (ps_asg ((master e).pe C sc Ex v c.ct h4) (pg_sub ((master a).pe C sc Ex x c.ct h2) ((master i).pe C sc Ex y c.ct h3) set_list (by cases y <;> first | (intro _; rfl) | cases h1)) (by unfold swapsWithSole; cases v <;> rfl) (by cases v <;> rfl) rfl).wk
        fun D σ H ⟨B, F, m, M, r, s, q⟩ => sE s q fun M1 d1 F1 m1 H1 v1 s1 a1 rv1 q1 => sE s1 q1 fun M2 d2 F2 m2 H2 v2 s2 a2 rv2 q2 => sE s2 q2 fun M3 d3 F3 m3 H3 v3 s3 a3 rv3 q3 => ?_⟩
      cases d2 <;> first | exact q3.elim | skip
      cases d3 <;> first | exact q3.elim | skip
      rename_i k j
      dsimp only at q3
      cases hm : M3[k]? with
      | none => rw [hm] at q3; exact q3.elim
      | some mo =>
        rw [hm] at q3
        cases mo with
        | mi c ns vs => exact q3.elim
        | ml xs =>
          dsimp only at q3
          cases hj : ixO xs.length j with
          | none => rw [hj] at q3; exact q3.elim
          | some n =>
            rw [hj] at q3
            cases rv3
            cases rv2 with
            | hnd hp =>
              have hp3 := a3.ix _ _ hp
              obtain ⟨_, vs, g1, g2, g3⟩ := s3.rl.mr.mo _ _ _ hm hp3
              refine ⟨_, vs, j, n, rfl, rfl, g1, by rw [g2.len]; exact hj, q3 F3 m3 _ σ (s3.updM hp3 hm ⟨_, upd_same, (g2.set n ((rv1.xt a2).xt a3)), by rw [List.length_set]; exact g3⟩)⟩
    · cases h
  | fset a f e =>
    refine SM.of fun C sc Ex l c h => ?_
    simp only [chkS] at h; split at h
    · rename_i x g ps v pos
      simp only [Bool.and_eq_true, decide_eq_true_eq] at h
      obtain ⟨⟨⟨h1, h2⟩, h3⟩, h4⟩ := h
      subst h1
      refine ⟨_, rfl, (ps_fld ((master a).pe C sc Ex x c.ct h3) ((master e).pe C sc Ex v c.ct h4) (by cases v <;> rfl)).wk
        fun D σ H ⟨B, F, m, M, r, s, q⟩ => sE s q fun M1 d1 F1 m1 H1 v1 s1 a1 rv1 q1 => sE s1 q1 fun M2 d2 F2 m2 H2 v2 s2 a2 rv2 q2 => ?_⟩
      cases d2 <;> first | exact q2.elim | skip
      rename_i k
      dsimp only at q2
      cases hm : M2[k]? with
      | none => rw [hm] at q2; exact q2.elim
      | some mo =>
        rw [hm] at q2
        cases mo with
        | ml xs => exact q2.elim
        | mi cc ns vs =>
          dsimp only at q2
          split at q2
          · rename_i hl
            cases rv2 with
            | hnd hp =>
              obtain ⟨_, hc, dx, fs, g1, g2, g3⟩ := s2.rl.mr.mo _ _ _ hm hp
              have hlf : fs.length = ns.length := by rw [← g2, List.length_map]
              obtain ⟨p1, p2⟩ := putF_ok f (rv1.xt a2) fs ns vs g2 g3
              exact ⟨_, _, dx, fs, rfl, g1, (c.ct.g.cls _ hc).c, c.ct.g.fls _ _ hc h2, by omega, q2 F2 m2 _ σ (s2.updM hp hm ⟨hc, dx, _, upd_same, p1, p2⟩)⟩
          · exact q2.elim
    · cases h
  | ret e =>
    refine SM.of fun C sc Ex l c h => ?_
    simp only [chkS] at h; split at h
    · exact ⟨_, rfl, (ps_ret ((master e).pe C sc Ex _ c.ct h)).wk fun D σ H ⟨B, F, m, M, r, s, q⟩ => sE s q fun M1 d F1 m1 H1 v s1 a1 rv q1 => q1 F1 m1 H1 v s1.xt s1.rl.mr rv⟩
    · cases h
  | retN =>
    refine SM.of fun C sc Ex l c h => ?_
    simp only [chkS] at h; split at h
    · exact ⟨_, rfl, ps_retN.wk fun D σ H ⟨B, F, m, M, r, s, q⟩ => q F m H .non s.xt s.rl.mr .non⟩
    · cases h
  | retR a b c =>
    refine SM.of fun C sc Ex l ct h => ?_
    simp only [chkS] at h; split at h
    · rename_i x y z pl pos
      simp only [Bool.and_eq_true] at h
      obtain ⟨⟨⟨⟨⟨⟨h0, h1⟩, h2⟩, h3⟩, h4⟩, h5⟩, h6⟩ := h
      refine ⟨_, rfl, (ps_ret (pe_lst (pa_cons ((master a).pe C sc Ex x ct.ct h4) (pa_cons (masterO ct.ct h0 h5) (pa_cons ((master c).pe C sc Ex z ct.ct h6) pa_nil (star_cons h3)) (star_cons h2)) (star_cons h1)))).wk
        fun D σ H ⟨B, F, m, M, r, s, q⟩ => sE s q fun M1 d1 F1 m1 H1 v1 s1 a1 rv1 q1 => sO s1 q1 fun M2 d2 F2 m2 H2 p s2 a2 k1 k2 k3 k4 q2 => ?_⟩
      cases d2 <;> first | exact q2.elim | exact k4.elim | skip
      rename_i ys
      obtain ⟨vs, f1, f2, f3⟩ := k4
      have b0 : B.H p = none := by
        cases e : B.H p with
        | none => rfl
        | some u => exact absurd k3 (s1.xt.dx p (by rw [e]; exact fun z => by cases z))
      have s3 := s2.pushM k1 k2 b0 (fun j => fun o => by obtain ⟨_, _, u, hu, _⟩ := s1.rl.ownF ⟨j, o⟩; rw [hu] at k3; cases k3) f1 f2 f3
      have pre : ∀ (k : Nat) (q : Addr), m2[k]? = some q → (m2 ++ [p])[k]? = some q := fun k q h => by
        rw [List.getElem?_append_left (List.getElem?_eq_some_iff.mp h).1]; exact h
      refine sE s3 q2 fun M3 d3 F3 m3 H3 v3 s4 a4 rv3 q3 => ⟨by show 3 ≤ sizeLine; rw [← lim_line]; decide, fun p2 hp2 => ?_⟩
      obtain ⟨g1, g2⟩ := s4.rl.mr.none_of hp2
      have b2 : B.H p2 = none := by
        cases e : B.H p2 with
        | none => rfl
        | some u => exact absurd hp2 (s4.xt.dx p2 (by rw [e]; exact fun z => by cases z))
      have rs : Rps W F3 m3 [v1, .ref p, v3] [d1, .hnd M2.length, d3] := by
        refine .cons (((rv1.xt a2).mono (fun _ _ h => h) pre).xt a4) (.cons (.hnd (a4.ix _ _ ?_)) (.cons rv3 .nil))
        rw [← s2.rl.mr.len, List.getElem?_append_right (Nat.le_refl _), Nat.sub_self]; rfl
      obtain ⟨R5, x5⟩ := s4.rl.mr.own (o := .lst [v1, .ref p, v3]) hp2
      have s5 : Sst W B F3 m3 (upd H3 p2 (.lst [v1, .ref p, v3])) M3 σ r := s4.step x5 R5
      have s6 := s5.pushM g1 g2 b2 (fun j o => by obtain ⟨_, _, u, hu, _⟩ := s4.rl.ownF ⟨j, o⟩; rw [hu] at hp2; cases hp2) upd_same rs (by show 3 ≤ lim; decide)
      refine q3 F3 _ _ _ s6.xt s6.rl.mr (.hnd ?_)
      rw [← s4.rl.mr.len, List.getElem?_append_right (Nat.le_refl _), Nat.sub_self]; rfl
    · cases h
  | ife t a b iha ihb =>
    refine SM.of fun C sc Ex l c h => ?_
    simp only [chkS] at h; split at h
    · simp only [Bool.and_eq_true] at h
      refine ⟨_, rfl, (ps_if ((master t).pt C sc Ex _ c.ct h.1.1) (iha.pss C sc Ex _ c h.1.2) (ihb.pss C sc Ex _ c h.2)).wk fun D σ H ⟨B, F, m, M, r, s, q⟩ => sT s q fun M1 t F1 m1 H1 s1 a1 q1 => ?_⟩
      cases t with
      | true => exact iteT ⟨B, F1, m1, M1, r, s1, q1⟩
      | false => exact iteF ⟨B, F1, m1, M1, r, s1, q1⟩
    · cases h
  | forr p it b ihb =>
    refine SM.of fun C sc Ex l c h => ?_
    simp only [chkS] at h; split at h
    · simp only [Bool.and_eq_true] at h
      exact ⟨_, rfl, (ps_for c.ow c.ct.calm ((master it).pi C sc Ex _ _ c.ct h.1.1.2) (pg_pt (W := W) c.ct h.1.2) (ihb.pss C sc Ex _ c h.2) (fun v => plain_fold h.1.1.1 C.env v)).wk fun D σ H q => rd_for q⟩
    · cases h
  | whl k t b ihb =>
    refine SM.of fun C sc Ex l c h => ?_
    simp only [chkS] at h; split at h
    · simp only [Bool.and_eq_true] at h
      exact ⟨_, rfl, (ps_while c.ow ((master t).pt C sc Ex _ c.ct h.1) (ihb.pss C sc Ex _ c h.2)).wk fun D σ H q => rd_whl q⟩
    · cases h
  | drop e =>
    refine SM.of fun C sc Ex l c h => ?_
    simp only [chkS] at h; split at h
    · simp only [Bool.and_eq_true] at h
      rename_i x pos
      refine ⟨_, rfl, (ps_expr ((master e).pe C sc Ex x c.ct h.2) ?_).wk fun D σ H ⟨B, F, m, M, r, s, q⟩ => sE s q fun M1 d F1 m1 H1 v s1 a1 rv q1 => q1 F1 m1 H1 σ s1⟩
      have := h.1; cases x <;> first | rfl | cases this
    · cases h
  | pass =>
    refine SM.of fun C sc Ex l c h => ?_
    simp only [chkS] at h; split at h
    · exact ⟨_, rfl, ps_pass.wk fun D σ H ⟨B, F, m, M, r, s, q⟩ => q F m H σ s⟩
    · cases h
  | brk =>
    refine SM.of fun C sc Ex l c h => ?_
    simp only [chkS] at h; split at h
    · exact ⟨_, rfl, ps_break.wk fun D σ H ⟨B, F, m, M, r, s, q⟩ => q F m H σ s⟩
    · cases h
  | cnt =>
    refine SM.of fun C sc Ex l c h => ?_
    simp only [chkS] at h; split at h
    · exact ⟨_, rfl, ps_continue.wk fun D σ H ⟨B, F, m, M, r, s, q⟩ => q F m H σ s⟩
    · cases h
  | never => exact ⟨fun C sc Ex l c h => pss_never.wk fun D σ H ⟨B, F, m, M, r, s, q⟩ => q, fun z => by cases z⟩
  | rse k e =>
    refine SM.of fun C sc Ex l c h => ?_
    simp only [chkS] at h; split at h
    · simp only [Bool.and_eq_true, decide_eq_true_eq] at h
      obtain ⟨⟨⟨⟨h0, h1⟩, h2⟩, h3⟩, h4⟩ := h
      cases e <;> first | (cases h0; done) | skip
      have f := c.ct.g.exc _ _ h1
      refine ⟨_, rfl, (ps_raise c.ct.calm c.ct.tk (pmk_zero PySem.F.excBase_ValueError (c.ct.g.exo _ _ h1 h2) f.g f.k (raises_own f.b f.t) (c.ct.so.gl _ h3) (okNm_of h4).1)).wk fun D σ H ⟨B, F, m, M, r, s, q⟩ => ?_⟩
      exact q F m H σ _ _ s ⟨rfl, rfl⟩
    · simp only [Bool.and_eq_true, decide_eq_true_eq] at h
      obtain ⟨⟨⟨⟨⟨h1, h2⟩, h3⟩, h4⟩, h5⟩, h6⟩ := h
      have hne : T.exn k ≠ [] := fun z => by rw [z] at h2; cases h2
      have f := c.ct.g.exc _ _ h1
      obtain ⟨ox, fI, fd, ps, hl, iC, tI, F1, hb⟩ := c.ct.g.xin _ _ h1 hne
      have hs := chk_head (env := C.env) (pos := ⟨0, 0, 0, 0⟩) h6
      refine ⟨_, rfl, (ps_raise c.ct.calm c.ct.tk (pmk_oex ox iC tI F1 (c.ct.room.mono (by omega)) hb .nil (pass_no c.ct) (c.ct.so.gl _ h4) f.g ((master e).pa C sc Ex _ c.ct h6) (okNm_of h5).1 (star_cons hs.1) (chk_head (env := C.env) h6).2)).wk fun D σ H ⟨B, F, m, M, r, s, q⟩ => ?_⟩
      exact raise_args hne (c.ct.g.ern k) s q h6 h3 h2
    · cases h
  | tra b k i su ihb => exact SM.of fun C sc Ex l c h => by simp only [chkS] at h; cases h
  | trm b hs ihb =>
    refine SM.of fun C sc Ex l c h => ?_
    simp only [chkS] at h; split at h
    · simp only [Bool.and_eq_true] at h
      have hk : ∀ c0 k b, (P.fx n).exs c0 k = some b → PySem.W.exmOne C.K (.ref (W.ca c0)) (.ref (W.ca k)) = some b := c.ct.g.exm
      refine ⟨_, rfl, (ps_try_mix (tb := fun W' => tS W (P.fx n) W' b) c.st c.fr (by rw [c.ct.hN]; exact c.ct.nd) c.ct.tk (fun W' pn xe tk ow => ihb.pss (C.tr pn xe) sc W' _ ⟨⟨c.ct.g, c.ct.hN, c.ct.nd, c.ct.calm, c.ct.room, tk, c.ct.so.same rfl rfl, c.ct.lam⟩, ow, c.st, c.fr⟩ h.1) (hdm_ok c.ct h.2)).wk fun D σ H q => rd_trm hk (chkM_sx h.2) q⟩
    · cases h
  | tri b hs ihb => exact SM.of fun C sc Ex l c h => by simp only [chkS] at h; cases h
  | dspO i pl =>
    refine SM.of fun C sc Ex l c h => ?_
    simp only [chkS] at h; split at h
    · rename_i x p k ks values pos pos2
      simp only [Bool.and_eq_true, decide_eq_true_eq] at h
      obtain ⟨⟨⟨⟨h1, h2⟩, h3⟩, h4⟩, h5⟩ := h
      have lc := c.ct.so.loc x h2
      obtain ⟨g1, g2⟩ := chkD_all h5
      refine ⟨_, rfl, (ps_set (by rw [c.ct.hN]; exact c.ct.nd) (by rw [c.ct.hN]; exact h1) lc.1 (pe_disp (pps_ok c.ct pl _ _ h5) g1 g2 (by intro z; cases z) h4) (swF_ok c.ct.so h2 h3) lc.2).wk fun U σ H ⟨B, F, m, M, r, s, q⟩ p hp => ?_⟩
      obtain ⟨n1, n2⟩ := s.rl.mr.none_of hp
      obtain ⟨R1, x1⟩ := s.rl.mr.own (o := .dK []) hp
      simp only [ex] at q
      have h0 : EQ W F m H (fun cls dd H' => Ex cls dd σ H') (fun M1 (ps : List (D × D)) F' m' H' => Sst W B F' m' H' M1 σ r → SQ W B U Ex (match altK ps with
          | some p => if p.1.Nodup ∧ p.1.length ≤ 15 then .nx M1 (r.set i (some (.ok p.1 p.2))) else .st
          | none => .st)) ((evP (P.fx n) pl M r).bind fun M z => .ok M z) := by
        rw [R.bind_ok]
        cases hv : evP (P.fx n) pl M r with
        | ok M1 ps => rw [hv] at q; exact fun F' m' H' a r1 _ => q
        | er M1 k fs => rw [hv] at q; exact fun F' m' H' cls dd a r1 er => q F' m' H' σ cls dd (s.step a r1) er
        | st => rw [hv] at q; exact q.elim
      refine pairs_rd (fun _ _ _ h => h) pl x1 (s.rl.step x1 R1) h0 fun M1 xs F1 m1 H1 ps R2 a1 rp h1 => ?_
      have s1 := s.step (x1.trans a1) R2.mr
      have q1 := h1 F1 m1 H1 (x1.trans a1) R2.mr s1
      cases ha : altK xs with
      | none => rw [ha] at q1; exact q1.elim
      | some z =>
        rw [ha] at q1
        dsimp only at q1
        split at q1
        · rename_i hz
          obtain ⟨kvs, e1, e2, e3, e4⟩ := rp.at ha
          obtain ⟨k1, k2, k3⟩ := kept_at a1 n1 n2 upd_same trivial (fun _ z => by cases z)
          have hlen : kvs.length = z.1.length := by
            have := congrArg List.length e2
            rwa [List.length_map, List.length_map] at this
          refine ⟨k1, kvs, e1, by rw [hlen]; exact hz.2, ?_⟩
          have hm : mergeK [] kvs = kvs := merge_new kvs [] (by rw [List.nil_append, e2]; exact nodup_kyK hz.1)
          rw [hm]
          have pl2 : Pln H1 p := fun u e => by rw [k1] at e; cases e; exact ⟨fun _ z => (by cases z), fun _ z => (by cases z)⟩
          have r3 := R2.mr.updD (o := .dK kvs) pl2 k2 k3
          have x3 : Xt F m H F1 m1 (upd H1 p (.dK kvs)) := (x1.trans a1).updD hp
          have s3 := s.step x3 r3
          have hB : B.H p = none := by
            cases e : B.H p with
            | none => rfl
            | some u => exact absurd hp (s.xt.dx p (by rw [e]; exact fun z => by cases z))
          exact q1 F1 m1 _ _ (s3.setOwn (d := .dk false z.1 z.2) i k2 k3 hB (fun j => ownAt_not s.rl hp j) ⟨rfl, kvs, upd_same, e2, e3, e4, by rw [hlen]; exact Nat.le_trans hz.2 (by decide)⟩)
        · exact q1.elim
    · cases h
  | trp i k1 k2 j a b c3 => exact SM.of fun C sc Ex l c h => by simp only [chkS] at h; cases h
  | lset i k e => exact SM.of fun C sc Ex l c h => by simp only [chkS] at h; cases h
  | laug i k o e => exact SM.of fun C sc Ex l c h => by simp only [chkS] at h; cases h
  | dupd i e => exact SM.of fun C sc Ex l c h => by simp only [chkS] at h; cases h
  | ins0 i e => exact SM.of fun C sc Ex l c h => by simp only [chkS] at h; cases h
  | dset i k e =>
    refine SM.of fun C sc Ex l c h => ?_
    simp only [chkS] at h; split at h
    · rename_i x px y ps v pos
      simp only [Bool.and_eq_true, decide_eq_true_eq] at h
      obtain ⟨⟨⟨⟨⟨⟨h1, h2⟩, h3⟩, h4⟩, h0⟩, h5⟩, h6⟩ := h
      have o := okNm_of h3
      have pv := pe_var (X := C) (pos := px) (i := i) (by rw [c.ct.hN]; exact h1) (c.ct.so.vis x h2) o.1 o.2.1
      refine ⟨_, rfl, (ps_dput (by have := c.ct.room.un; omega) pv ((master k).pe C sc Ex y c.ct h5) ((master e).pe C sc Ex v c.ct h6) (swN_ok h0)).wk fun D σ H ⟨B, F, m, M, r, s, q⟩ => ?_⟩
      simp only [ex] at q
      split at q
      · rename_i ks vs hr
        refine sE s q fun M1 d1 F1 m1 H1 v1 s1 a1 rv1 q1 => ?_
        obtain ⟨vv, e1, p, kvs, e2, f1, f2, f3, f4, f5, f6, f7⟩ := s.rl.sr i _ hr
        subst e2
        have ow : OwnAt σ r i p := ⟨_, hr, rfl, e1⟩
        refine ⟨_, e1, sE s1 q1 fun M2 d2 F2 m2 H2 v2 s2 a2 rv2 q2 => ?_⟩
        cases hk : kyOf d2 with
        | none => rw [hk] at q2; exact q2.elim
        | some z =>
          rw [hk] at q2
          dsimp only at q2
          split at q2
          · rename_i hl
            obtain ⟨rfl, hz⟩ := ky_of rv2 hk
            have a12 := a1.trans a2
            have hp := a12.hx p _ f3 f2 (fun _ z => (by cases z))
            have hlen : kvs.length = ks.length := by have := congrArg List.length f4; simpa using this
            have hlt : kvs.length < lim := by rw [hlen]; exact hl
            obtain ⟨p1, p2⟩ := put_val (fun _ _ => kyK_inj) z (rv1.xt a2) f4 (f6.xt a12)
            refine ⟨p, _, rfl, DPut.k hp (by rw [← lim_line]; exact hlt), q2 F2 m2 _ σ (s2.updOwn ow hr rfl fun g1 g2 => ⟨p, _, rfl, g1, g2, upd_same, p1, fun y hy => ?_, p2, ?_⟩)⟩
            · rcases putK_mem hy with rfl | hy
              · exact hz
              · exact f5 y hy
            · have := L2.length_putK kvs (kyK z) v1
              omega
          · exact q2.elim
      · rename_i ks vs hr
        refine sE s q fun M1 d1 F1 m1 H1 v1 s1 a1 rv1 q1 => ?_
        obtain ⟨vv, e1, p, kvs, e2, f1, f2, f3, f4, f5, f6, f7⟩ := s.rl.sr i _ hr
        subst e2
        have ow : OwnAt σ r i p := ⟨_, hr, rfl, e1⟩
        refine ⟨_, e1, sE s1 q1 fun M2 d2 F2 m2 H2 v2 s2 a2 rv2 q2 => ?_⟩
        cases hk : tkOf d2 with
        | none => rw [hk] at q2; exact q2.elim
        | some z =>
          rw [hk] at q2
          dsimp only at q2
          split at q2
          · rename_i hl
            obtain ⟨b, rfl, hb, _, hz1, hz2⟩ := tk_of s2.rl.mr.sub rv2 hk
            have a12 := a1.trans a2
            have hp := a12.hx p _ f3 f2 (fun _ z => (by cases z))
            have hlen : kvs.length = ks.length := by have := congrArg List.length f4; simpa using this
            have hlt : kvs.length < lim := by rw [hlen]; exact hl
            obtain ⟨p1, p2⟩ := put_val (f := fun k => k.map kyK) (fun _ _ => kyKs_inj) z (rv1.xt a2) f4 (f6.xt a12)
            refine ⟨p, _, rfl, DPut.t hp hb (by rw [← lim_line]; exact hlt), q2 F2 m2 _ σ (s2.updOwn ow hr rfl fun g1 g2 => ⟨p, _, rfl, g1, g2, upd_same, p1, fun y hy => ?_, p2, ?_⟩)⟩
            · rcases putK_mem hy with rfl | hy
              · exact ⟨hz1, hz2⟩
              · exact f5 y hy
            · have := L2.length_putK kvs (z.map kyK) v1
              omega
          · exact q2.elim
      · exact q.elim
    · cases h
  | parO i j o1 o2 a b => exact SM.of fun C sc Ex l c h => by simp only [chkS] at h; cases h
end
end Oc
namespace Oc
open L2 PySem PySem.Spec PyProof.Rows
def parB (sc : Scope) (x : Str) : Bool := match sc.names.lookup x with
  | some .local | some .cell => true
  | _ => false
def freeB : Str × NameKind → Bool
  | (_, .free) => true
  | _ => false
def kindB (sc : Scope) : Bool := match sc.kind with
  | .function => true
  | _ => false
def nodupB : List Str → Bool
  | [] => true
  | x :: xs => !xs.contains x && nodupB xs
def defOk (P : Pg) (T : Tb) (d : Df) (st : Stmt) : Bool :=
  kindB (defScope st) && !(defScope st).isCoroutine && !(defScope st).isGenerator && nodupB d.ns && decide (d.np ≤ d.ns.length) && (d.ns.take d.np).all (parB (defScope st)) && (defScope st).names.all (fun y => !freeB y) &&
    chkS P T d.ns d.bd (defScope st) (defBody st)
theorem nodupB_ok : ∀ {l : List Str}, nodupB l = true → l.Nodup
  | [], _ => List.nodup_nil
  | x :: xs, h => by
    simp only [nodupB, Bool.and_eq_true, Bool.not_eq_true'] at h
    refine List.nodup_cons.mpr ⟨fun z => ?_, nodupB_ok h.2⟩
    have := List.contains_iff_mem.mpr z
    rw [h.1] at this; cases this
theorem kindB_ok {sc : Scope} (h : kindB sc = true) : sc.kind = .function := by
  unfold kindB at h; split at h
  · assumption
  · cases h
theorem scope_ok {P : Pg} {T : Tb} {d : Df} {st : Stmt} (h : defOk P T d st = true) : FnScope d.ns (d.ns.take d.np) (defScope st) ∧ d.np ≤ d.ns.length ∧ chkS P T d.ns d.bd (defScope st) (defBody st) = true := by
  unfold defOk at h
  simp only [Bool.and_eq_true, Bool.not_eq_true', decide_eq_true_eq] at h
  obtain ⟨⟨⟨⟨⟨⟨⟨h1, h2⟩, h3⟩, h4⟩, h5⟩, h6⟩, h7⟩, h8⟩ := h
  refine ⟨⟨kindB_ok h1, h2, h3, nodupB_ok h4, ?_, fun x hx => ?_, fun y hy => ?_⟩, h5, h8⟩
  · rw [List.length_take, Nat.min_eq_left h5]
  · have := List.all_eq_true.mp h6 x hx
    unfold parB at this
    split at this
    · left; assumption
    · right; assumption
    · cases this
  · have := List.all_eq_true.mp h7 y hy
    obtain ⟨a, k⟩ := y
    intro e
    replace e : k = .free := e
    subst e
    simp [freeB] at this
/-- a def's lambda, if it has one: its code object and table are known -/
def LamD (W : Wd) (T : Tb) (d : Df) (qual : Str) (fd : FuncData) : Prop := T.lam d.ns = true → ∃ c Pt, fd.code = .ref c ∧ (c, Pt, (qual ++ ".<locals>.") ++ "<lambda>") ∈ W.cs ∧ ∀ p ∈ W.cs, p.2.1 = Pt → p.2.2 = (qual ++ ".<locals>.") ++ "<lambda>"
theorem LamD.none {W : Wd} {T : Tb} {d : Df} {qual : Str} {fd : FuncData} (h : T.lam d.ns = false) : LamD W T d qual fd := fun e => by rw [h] at e; cases e
theorem okX' {Pr : Program} {w : World} {K : PySem.W.Frag} {mg : Str → Option Value} {base : Heap} {x qual : Str} {st : Stmt} {f : Addr} {fd : FuncData} {N ps : List Str} {k : Nat} {sp : Sp} (F : Fun K x qual st f fd) (S : FnScope N ps (defScope st)) (len : ∀ vs H Q E, sp vs H Q E → vs.length = ps.length)
    (go : ∀ (cdv : Value), fd.code = cdv → ∀ (A : Around) (outer : List Env) (s : Shared) (H : Hp) (vs : List V) (Q : VK) (E : XK), Room k (A.deeper (envOfC qual (defScope st) s.heap.objs.size f cdv)) → sp vs H Q E →
      ∃ t, PSs (cxOf (L2.CX Pr w) Pr w K mg base N qual (defScope st) f cdv A outer s H E) (defBody st) t ∧ t { nx := fun _ H' => Q .non H', rt := Q } (L2.start N vs) H) : FnOk Pr w K mg base (L2.CX Pr w) (k + 1) f fd ps sp := by
  obtain ⟨_, _, _, _, _, _, cdv, _, _, e, lk, cc⟩ := F.ex
  subst e
  exact fn_of lk cc S len fun A outer s H vs Q E r1 r2 => go cdv rfl A outer s H vs Q E r1 r2
/-- the body of an exception's own __init__ that keeps its parameters as fields -/
def initB (sc : Scope) : List Str → List Stmt → Bool
  | [], [] => true
  | f :: L, .Assign [.Attribute (.Name s _) g _] (.Name h _) _ :: r => decide (s = ("self" : Str)) && decide (g = f) && decide (h = f) && visB sc f && okNm f && initB sc L r
  | _, _ => false
def initOk (st : Stmt) (L : List Str) : Bool :=
  kindB (defScope st) && !(defScope st).isCoroutine && !(defScope st).isGenerator && nodupB (("self" : Str) :: L) && (("self" : Str) :: L).all (parB (defScope st)) && (defScope st).names.all (fun y => !freeB y) && visB (defScope st) ("self" : Str) && decide (L.length ≤ 100) && !L.isEmpty && initB (defScope st) L (defBody st)
/-- what the written part says of an exception class with an own __init__; fs: its fields, the last one ahead -/
structure XinT (K : PySem.W.Frag) (C : Addr) (fs : List Str) : Prop where
  ox : OexC K C
  fn : ∃ fI nm qual st fd, Fun K nm qual st fI fd ∧ Binds K fd (("self" : Str) :: fs.reverse) [] ∧ PySem.W.findIn K (.ref C) "__init__" = some (some (.ref fI)) ∧ PySem.W.typeIn K (.ref fI) = some (.type "function") ∧ initOk st fs.reverse = true
  no : ∀ f ∈ fs, PySem.W.findIn K (.ref C) f = some none
section
variable {K : PySem.W.Frag}
/-- from step i on: the fields still to come; fs0: those that stand -/
def tIni (K : PySem.W.Frag) (C : Addr) (L : List Str) (i : Nat) : TS := fun D σ H => ∃ (a dx : Addr) (fs0 : List (Str × V)) (ys : List V), σ[0]? = some (some (.ref a)) ∧ ys.length = L.length ∧ (∀ j y, ys[j]? = some y → σ[i + j]? = some (some y)) ∧
  dx ≠ a ∧ H a = some (exo a C (some dx)) ∧ H dx = some (exd dx fs0) ∧ fs0.length + L.length ≤ 900 ∧
  ∀ H', H' a = some (exo a C (some dx)) → H' dx = some (exd dx ((L.zip ys).reverse ++ fs0)) → (∀ b, b ≠ a → b ≠ dx → H' b = H b) → D.nx σ H'
theorem ini_rest {X : Cx} {C : Addr} {sc : Scope} (ox : OexC X.K C) (vis : ∀ x, visB sc x = true → Vis X.env.scope x) (h0 : X.N[0]? = some ("self" : Str)) (v0 : visB sc ("self" : Str) = true) : ∀ (L : List Str) (i : Nat) (l : List Stmt), (∀ f ∈ L, PySem.W.findIn X.K (.ref C) f = some none) → (∀ j f, L[j]? = some f → X.N[i + j]? = some f) → initB sc L l = true →
    PSs X l (tIni X.K C L i)
  | [], i, l, hn, hN, h => by
    cases l with
    | nil =>
      refine pss_nil.wk fun D σ H ⟨a, dx, fs0, ys, e0, hl, hs, ne, ea, ed, hz, q⟩ => ?_
      have : ys = [] := List.length_eq_zero_iff.mp hl
      subst this
      exact q H ea ed fun _ _ _ => rfl
    | cons _ _ => simp [initB] at h
  | f :: L, i, l, hn, hN, h => by
    unfold initB at h
    split at h <;> first | (cases h; done) | (rename_i heq1 heq2; cases heq1; done) | (rename_i heq1; cases heq1; done) | skip
    rename_i f' L' s p1 g p2 hh p3 p4 r heq1
    cases heq1
    simp only [Bool.and_eq_true, decide_eq_true_eq] at h
    obtain ⟨⟨⟨⟨⟨h1, h2⟩, h3⟩, h4⟩, h5⟩, h6⟩ := h
    subst h1 h2 h3
    have o := okNm_of h5
    have ps := pss_cons (ps_ost (X := X) (f := hh) (p' := p2) (pos := p4) (pe_var (pos := p1) h0 (vis _ v0)) (pe_var (pos := p3) (by have := hN 0 _ rfl; rw [Nat.add_zero] at this; exact this) (vis _ h4) o.1 o.2.1))
      (ini_rest (C := C) ox vis h0 v0 L (i + 1) r (fun f hf => hn f (List.mem_cons_of_mem _ hf)) (fun j f hf => by have := hN (j + 1) f (by simpa using hf); rw [← this]; congr 1; omega) h6)
    refine ps.wk fun D σ H ⟨a, dx, fs0, ys, e0, hl, hs, ne, ea, ed, hz, q⟩ => ?_
    cases ys with
    | nil => cases hl
    | cons y ys =>
      refine ⟨y, by have := hs 0 y rfl; rw [Nat.add_zero] at this; exact this, .ref a, e0, a, C, rfl, ox, hn _ List.mem_cons_self, .inr ⟨dx, fs0, ea, ed, by rw [List.length_cons] at hz; omega, ?_⟩⟩
      refine ⟨a, dx, (_, y) :: fs0, ys, e0, Nat.succ.inj hl, fun j z hz => ?_, ne, by rw [upd_ne (Ne.symm ne)]; exact ea, upd_same, by rw [List.length_cons] at hz ⊢; omega, fun H' k1 k2 k3 => q H' k1 ?_ fun b hb hd => by rw [k3 b hb hd, upd_ne hd]⟩
      · have := hs (j + 1) z (by simpa using hz)
        rw [← this]; congr 1; omega
      · rw [k2]; simp
theorem ini_first {X : Cx} {C : Addr} {sc : Scope} (ox : OexC X.K C) (vis : ∀ x, visB sc x = true → Vis X.env.scope x) (h0 : X.N[0]? = some ("self" : Str)) (v0 : visB sc ("self" : Str) = true) {L : List Str} {l : List Stmt} (hne : L ≠ []) (h100 : L.length ≤ 100) (hn : ∀ f ∈ L, PySem.W.findIn X.K (.ref C) f = some none) (hN : ∀ j f, L[j]? = some f → X.N[1 + j]? = some f) (h : initB sc L l = true) :
    PSs X l (fun D σ H => ∃ (a : Addr) (ys : List V), σ[0]? = some (some (.ref a)) ∧ ys.length = L.length ∧ (∀ j y, ys[j]? = some y → σ[1 + j]? = some (some y)) ∧ H a = some (exo a C none) ∧
      ∀ dx H', H dx = none → dx ≠ a → H' a = some (exo a C (some dx)) → H' dx = some (exd dx (L.zip ys).reverse) → (∀ b, b ≠ a → b ≠ dx → H' b = H b) → D.nx σ H') := by
  cases L with
  | nil => exact absurd rfl hne
  | cons f L =>
    unfold initB at h
    split at h <;> first | (cases h; done) | (rename_i heq1 heq2; cases heq1; done) | (rename_i heq1; cases heq1; done) | skip
    rename_i f' L' s p1 g p2 hh p3 p4 r heq1
    cases heq1
    simp only [Bool.and_eq_true, decide_eq_true_eq] at h
    obtain ⟨⟨⟨⟨⟨h1, h2⟩, h3⟩, h4⟩, h5⟩, h6⟩ := h
    subst h1 h2 h3
    have o := okNm_of h5
    have ps := pss_cons (ps_ost (X := X) (f := hh) (p' := p2) (pos := p4) (pe_var (pos := p1) h0 (vis _ v0)) (pe_var (pos := p3) (hN 0 _ rfl) (vis _ h4) o.1 o.2.1))
      (ini_rest (C := C) ox vis h0 v0 L 2 r (fun f hf => hn f (List.mem_cons_of_mem _ hf)) (fun j f hf => by have := hN (j + 1) f (by simpa using hf); rw [← this]; congr 1; omega) h6)
    refine ps.wk fun D σ H ⟨a, ys, e0, hl, hs, ea, q⟩ => ?_
    cases ys with
    | nil => cases hl
    | cons y ys =>
      refine ⟨y, hs 0 y rfl, .ref a, e0, a, C, rfl, ox, hn _ List.mem_cons_self, .inl ⟨ea, fun dx hd ne => ?_⟩⟩
      refine ⟨a, dx, [(_, y)], ys, e0, Nat.succ.inj hl, fun j z hz => ?_, ne, upd_same, by rw [upd_ne ne, upd_same], by rw [List.length_cons] at h100; simp only [List.length_cons, List.length_nil]; omega, fun H' k1 k2 k3 => q dx H' hd ne k1 ?_ fun b hb hd => by rw [k3 b hb hd, upd_ne hb, upd_ne hd]⟩
      · have := hs (j + 1) z (by simpa using hz)
        rw [← this]; congr 1; omega
      · rw [k2]; simp
theorem zip_rev {α β : Type} : ∀ {L : List α} {ys : List β}, ys.length = L.length → (L.zip ys).reverse = L.reverse.zip ys.reverse
  | [], [], _ => rfl
  | f :: L, y :: ys, h => by
    have hl : ys.length = L.length := Nat.succ.inj h
    rw [List.zip_cons_cons, List.reverse_cons, List.reverse_cons, List.reverse_cons, zip_rev hl, List.zip_append (by rw [List.length_reverse, List.length_reverse, hl])]
    rfl
  | [], _ :: _, h => by cases h
  | _ :: _, [], h => by cases h
end
/-- a def of the text -/
def FnF (K : PySem.W.Frag) (W : Wd) (P : Pg) (T : Tb) (f : Nat) (d : Df) : Prop :=
  ∃ qual st fd, Fun K d.nm qual st (W.fa f) fd ∧ Binds K fd (d.ns.take d.np) [] ∧ defOk P T d st = true ∧ LamD W T d qual fd
/-- what stands behind the top, whatever the depth -/
structure Gs (W : Wd) (P : Pg) (T : Tb) (prog : Program) (w : World) (K : PySem.W.Frag) (mg : Str → Option Value) : Prop where
  fn : ∀ f d, T.av f = true → P.df f = some d → FnF K W P T f d
  top : ∀ f d, T.av f = true → T.top f = true → P.df f = some d → mg d.nm = some (.ref (W.fa f))
  cns : ∀ x i, (x, i) ∈ T.cns → ∃ t, mg x = some (.int i t)
  blt : ∀ x, x ∈ T.blt → mg x = none
  wok : ∀ c x, T.cl c = some x → W.ok c = true ∧ mg x = some (.ref (W.ca c))
  cls : ∀ c, W.ok c = true → ClsF K mg (W.ca c)
  fls : ∀ c x, W.ok c = true → x ∈ T.fls → NoAttr K (W.ca c) x
  ini : ∀ c f x, T.cl c = some x → P.ini c = some f → Mk K (W.ca c) (W.fa f)
  prp : ∀ f c x, T.prp f c = some x → ∃ p, PropOf K (W.ca c) x p (W.fa f)
  mth : ∀ f c x, T.mth f c = some x → Meth K (W.ca c) x (W.fa f)
  eqf : ∀ c f, W.ok c = true → P.eqf c = some f → T.av f = true ∧ EqF K (W.ca c) (W.fa f)
  exc : ∀ c x, T.exc c = some x → ExcF K mg x (W.ca c)
  exo : ∀ c x, T.exc c = some x → T.exi c = true → PySem.W.excIn K (W.ca c) [.type "ValueError", .type "Exception", .type "BaseException", .type "object"] "ValueError.__new__" = true
  exm : ∀ c k b, P.exs c k = some b → PySem.W.exmOne K (.ref (W.ca c)) (.ref (W.ca k)) = some b
  sq : ∀ a ns, W.sq a ns → SqK K a (ns.map V.int)
  xin : ∀ c x, T.exc c = some x → T.exn c ≠ [] → XinT K (W.ca c) (T.exn c) ∧ XfC K (W.ca c)
  isx : T.exx = true → ∀ c k b, P.exs c k = some b → ExcC K (W.ca c) ∧ PySem.W.kitOne K (.ref (W.ca c)) (.ref (W.ca k)) = some b
  ern : ∀ c, W.er c = T.exn c
section
variable {W : Wd} {P : Pg} {T : Tb} {prog : Program} {w : World} {K : PySem.W.Frag} {mg : Str → Option Value}
theorem sc_def {CX : CXT} {base : Heap} {N : List Str} {qual : Str} {scope : Scope} {f : Addr} {cd : Value} {A : Around} {outer : List Env} {s : Shared} {H : Hp} {E : XK} (hk : scope.kind = .function) :
    ScOk (cxOf CX prog w K mg base N qual scope f cd A outer s H E) scope where
  kd := hk
  ek := hk
  vis := fun x h => by
    unfold visB at h; split at h
    · rename_i e; exact .inl e
    · rename_i e; exact .inr (.inl e)
    · rename_i e; exact .inr (.inr e)
    · cases h
  gl := fun x h => by
    unfold glB at h; split at h
    · rename_i e; exact e
    · cases h
  loc := fun x h => by
    unfold locB at h; split at h
    · rename_i e; exact ⟨.inl e, .inl rfl⟩
    · rename_i e; exact ⟨.inr e, .inl rfl⟩
    · cases h
  lcl := fun x h => by
    unfold lclB at h; split at h
    · rename_i e; exact e
    · cases h
  cf := fun x h => h
theorem XinT.ok {C : Addr} {fs : List Str} {base : Heap} (x : XinT K C fs) : XinF prog w K mg base C fs := by
  obtain ⟨fI, nm, qual, st, fd, F, bd, iC, tI, ok⟩ := x.fn
  refine ⟨x.ox, fI, fd, ("self" : Str) :: fs.reverse, by rw [List.length_cons, List.length_reverse], iC, tI, ?_, bd⟩
  unfold initOk at ok
  simp only [Bool.and_eq_true, Bool.not_eq_true', decide_eq_true_eq] at ok
  obtain ⟨⟨⟨⟨⟨⟨⟨⟨⟨h1, h2⟩, h3⟩, h4⟩, h5⟩, h6⟩, h7⟩, h8⟩, h9⟩, h10⟩ := ok
  have hne : fs.reverse ≠ [] := fun z => by rw [z] at h9; cases h9
  have S : FnScope (("self" : Str) :: fs.reverse) (("self" : Str) :: fs.reverse) (defScope st) := by
    refine ⟨kindB_ok h1, h2, h3, nodupB_ok h4, List.take_length, fun x hx => ?_, fun y hy => ?_⟩
    · have := List.all_eq_true.mp h5 x hx
      unfold parB at this
      split at this
      · left; assumption
      · right; assumption
      · cases this
    · have := List.all_eq_true.mp h6 y hy
      obtain ⟨a, k⟩ := y
      intro e
      replace e : k = .free := e
      subst e
      simp [freeB] at this
  refine okX' F (k := 0) S (fun vs H Q E h => ?_) (fun cdv hcv A outer s H vs Q E hr h => ?_)
  · obtain ⟨a, ys, rfl, hl, _⟩ := h
    rw [List.length_cons, List.length_cons, List.length_reverse, hl]
  · have so : ScOk (cxOf (L2.CX prog w) prog w K mg base (("self" : Str) :: fs.reverse) qual (defScope st) fI cdv A outer s H E) (defScope st) := sc_def S.kind
    refine ⟨_, ini_first (C := C) x.ox so.vis rfl h7 hne h8 (fun f hf => x.no f (List.mem_reverse.mp hf)) (fun j f hf => by show (("self" : Str) :: fs.reverse)[1 + j]? = some f; rw [Nat.add_comm]; exact hf) h10, ?_⟩
    obtain ⟨a, ys, rfl, hl, ea, q⟩ := h
    have hl2 : ys.length = fs.reverse.length := by rw [List.length_reverse, hl]
    refine ⟨a, ys, rfl, hl2, fun j y hy => ?_, ea, fun dx H' hd ne k1 k2 k3 => q dx H' hd ne k1 ?_ k3⟩
    · unfold L2.start
      rw [List.getElem?_append_left (by rw [List.length_map, List.length_cons]; have := (List.getElem?_eq_some_iff.mp hy).1; omega), List.getElem?_map, Nat.add_comm]
      show (ys[j]?).map some = _
      rw [hy]; rfl
    · rw [k2, zip_rev hl2, List.reverse_reverse]
theorem rl_start {F : Hp} {m : List Addr} {H : Hp} {M : Mem} {vs : List V} {ds : List D} {N : List Str} (R : Mr W F m H M) (rs : Rps W F m vs ds) : Rl W F m H M (L2.start N vs) (ds.map (fun x => some (Sl.d x)) ++ List.replicate (N.length - ds.length) none) := by
  have hl := rs.len
  have no : ∀ i x, (ds.map (fun x => some (Sl.d x)) ++ List.replicate (N.length - ds.length) none)[i]? = some (some x) → ∃ d, x = Sl.d d ∧ ds[i]? = some d := fun i x h => by
    by_cases hi : i < ds.length
    · rw [List.getElem?_append_left (by rw [List.length_map]; exact hi), List.getElem?_map] at h
      rw [List.getElem?_eq_getElem hi] at h
      simp at h
      exact ⟨_, h.symm, List.getElem?_eq_getElem hi⟩
    · rw [List.getElem?_append_right (by rw [List.length_map]; omega), List.getElem?_replicate] at h
      split at h
      · cases h
      · cases h
  refine ⟨R, by unfold L2.start; rw [List.length_append, List.length_append, List.length_map, List.length_map, List.length_replicate, List.length_replicate, hl], fun i x h => ?_, fun i j p a b => ?_⟩
  · obtain ⟨d, rfl, e⟩ := no i x h
    obtain ⟨v, e1, r⟩ := rs.get e
    refine ⟨v, ?_, r⟩
    unfold L2.start
    rw [List.getElem?_append_left (by rw [List.length_map]; exact (List.getElem?_eq_some_iff.mp e1).1), List.getElem?_map, e1]; rfl
  · obtain ⟨x, h1, h2, _⟩ := a
    obtain ⟨d, rfl, _⟩ := no i x h1
    cases h2
theorem own_start {vs : List V} {ds : List D} {N : List Str} (i : Nat) (p : Addr) : ¬ OwnAt (L2.start N vs) (ds.map (fun x => some (Sl.d x)) ++ List.replicate (N.length - ds.length) none) i p := fun ⟨x, h, h2, _⟩ => by
  by_cases hi : i < ds.length
  · rw [List.getElem?_append_left (by rw [List.length_map]; exact hi), List.getElem?_map, List.getElem?_eq_getElem hi] at h
    simp at h; subst h; cases h2
  · rw [List.getElem?_append_right (by rw [List.length_map]; omega), List.getElem?_replicate] at h
    split at h <;> cases h
/-- a def's promise from its callees' -/
theorem fn_step0 {base : Heap} {n : Nat} (G : Gt W P T n prog w K mg base) {f : Nat} {d : Df} (hd : P.df f = some d) {qual : Str} {st : Stmt} {fd : FuncData} (F : Fun K d.nm qual st (W.fa f) fd) (ok : defOk P T d st = true) (lm : LamD W T d qual fd) :
    FnOk prog w K mg base (L2.CX prog w) (2 * (n + 1) + 2) (W.fa f) fd (d.ns.take d.np) (spF W P (n + 1) f) := by
  obtain ⟨S, hnp, hc⟩ := scope_ok ok
  refine okX' F (k := 2 * n + 3) S (fun vs H Q E h => ?_) (fun cdv hcv A outer s H vs Q E hr h => ?_)
  · obtain ⟨F0, m, M, ds, R, rs, q⟩ := h
    unfold Pg.call at q
    rw [hd] at q
    dsimp only at q
    split at q
    · rename_i hl
      rw [rs.len, hl.1, List.length_take, Nat.min_eq_left hnp]
    · exact q.elim
  · have lm' : T.lam d.ns = true → LamAt W (cxOf (L2.CX prog w) prog w K mg base d.ns qual (defScope st) (W.fa f) cdv A outer s H E) := fun e => by
      obtain ⟨c, Pt, e1, e2, e3⟩ := lm e
      exact ⟨c, Pt, hcv.symm.trans e1, e2, e3⟩
    refine ⟨tS W (P.fx n) (fun cls dd _ H => E cls dd H) d.bd, ?_, ?_⟩
    · exact (masterS d.bd).pss _ (defScope st) _ _ ⟨⟨G, rfl, S.nd, rfl, hr, takes_of rfl rfl rfl rfl, sc_def S.kind, lm'⟩, passes_of rfl, rfl, rfl⟩ hc
    · obtain ⟨F0, m, M, ds, R, rs, q⟩ := h
      unfold Pg.call at q
      rw [hd] at q
      dsimp only at q
      split at q
      · rename_i hl
        refine ⟨⟨F0, m, H, F0, m⟩, F0, m, M, _, ⟨rl_start R rs, Xt.refl _ _ _, fun i p o => absurd o (own_start i p), fun _ _ h => h, fun _ _ h => h⟩, ?_⟩
        show SQ _ _ _ _ (ex (P.fx n) d.bd M _)
        replace q : EQ W F0 m H E (fun _ d F' m' H' => ∀ v, Rp W F' m' v d → Q v H') (retOf (ex (P.fx n) d.bd M (ds.map (fun x => some (.d x)) ++ List.replicate (d.ns.length - ds.length) none))) := q
        cases hx : ex (P.fx n) d.bd M (ds.map (fun x => some (.d x)) ++ List.replicate (d.ns.length - ds.length) none) with
        | nx M1 r1 => rw [hx] at q; exact fun F' m' H' σ' s' => q F' m' H' s'.xt s'.rl.mr .non .non
        | rt M1 d1 => rw [hx] at q; exact fun F' m' H' v x' R' rv => q F' m' H' x' R' v rv
        | bk M1 r1 => rw [hx] at q; exact q.elim
        | ct M1 r1 => rw [hx] at q; exact q.elim
        | er M1 r1 k fs => rw [hx] at q; exact fun F' m' H' σ' cls dd s' er => q F' m' H' cls dd s'.xt s'.rl.mr er
        | st => rw [hx] at q; exact q.elim
      · exact q.elim
theorem fn_step (g : Gs W P T prog w K mg) {base : Heap} {n : Nat} (G : Gt W P T n prog w K mg base) (f : Nat) (d : Df) (hav : T.av f = true) (hd : P.df f = some d) :
    ∃ fd, FnOk prog w K mg base (L2.CX prog w) (2 * (n + 1) + 2) (W.fa f) fd (d.ns.take d.np) (spF W P (n + 1) f) ∧ Binds K fd (d.ns.take d.np) [] := by
  obtain ⟨qual, st, fd, F, bd, ok, lm⟩ := g.fn f d hav hd
  exact ⟨fd, fn_step0 G hd F ok lm, bd⟩
theorem Gs.gt (g : Gs W P T prog w K mg) {n : Nat} {base : Heap} (hT : ∀ p ∈ W.cs, LamX.TabB base mg p.1 p.2.1) (h : ∀ f d, T.av f = true → P.df f = some d → ∃ fd, FnOk prog w K mg base (L2.CX prog w) (2 * n + 2) (W.fa f) fd (d.ns.take d.np) (spF W P n f) ∧ Binds K fd (d.ns.take d.np) []) : Gt W P T n prog w K mg base where
  fns := h
  top := fun f d a b c => ⟨g.top f d a b c, by obtain ⟨q, st, fd, F, _⟩ := g.fn f d a c; exact F.kp⟩
  cns := g.cns
  blt := g.blt
  wok := g.wok
  cls := g.cls
  fls := g.fls
  ini := g.ini
  prp := g.prp
  mth := g.mth
  eqf := g.eqf
  dfs := fun f d a b => by obtain ⟨q, st, fd, _, _, ok, _⟩ := g.fn f d a b; exact (scope_ok ok).2.1
  exc := g.exc
  exo := g.exo
  exm := g.exm
  sq := g.sq
  xin := fun c x h1 h2 => (g.xin c x h1 h2).1.ok
  xfc := fun c x h1 h2 => ⟨(g.xin c x h1 h2).2, (g.xin c x h1 h2).1.no⟩
  isx := g.isx
  ern := g.ern
  tbs := hT
theorem gt_all (g : Gs W P T prog w K mg) (base : Heap) (hT : ∀ p ∈ W.cs, LamX.TabB base mg p.1 p.2.1) : ∀ n, Gt W P T n prog w K mg base
  | 0 => g.gt hT fun f d hav hd => by
    obtain ⟨qual, st, fd, F, bd, ok, _⟩ := g.fn f d hav hd
    exact ⟨fd, ⟨fun vs H Q E h => by obtain ⟨_, _, _, _, _, _, q⟩ := h; exact q.elim, fun A outer s H args us vs Q E _ _ _ _ h => by obtain ⟨_, _, _, _, _, _, q⟩ := h; exact q.elim⟩, bd⟩
  | n + 1 => g.gt hT fun f d hav hd => fn_step g (gt_all g base hT n) f d hav hd
theorem kit_of {K : PySem.W.Frag} {C : Addr} {T : String} (ic : PySem.W.isClsIn K C = true) (tc : PySem.W.typeIn K (.ref C) = some (.type "type")) (s : PySem.W.subIn K (.type T) (.ref C) = some false) : PySem.W.kitOne K (.type T) (.ref C) = some false := by
  have e2 : ((PySem.W.clsIn K C).isSome && PySem.W.typeIn K (.ref C) == some (.type "type")) = true := by
    have h2 : (PySem.W.clsIn K C).isSome = true := ic
    rw [h2, tc] <;> rfl
  show (if (Value.type T == Value.ref C) = true then some true else if ((PySem.W.clsIn K C).isSome && PySem.W.typeIn K (.ref C) == some (.type "type")) = true then PySem.W.subIn K (.type T) (.ref C) else none) = some false
  rw [if_neg (by intro z; cases z), if_pos e2]
  exact s
theorem kit_self {K : PySem.W.Frag} {C : Addr} : PySem.W.kitOne K (.ref C) (.ref C) = some true := by
  show (if (Value.ref C == Value.ref C) = true then some true else _) = some true
  rw [if_pos (beq_self_eq_true _)]
theorem cls_of {K : PySem.W.Frag} {mg : Str → Option Value} {C : Addr} (c : Cls K C) (kc : PySem.W.keepIn K (.ref C) = true) (ic : PySem.W.isClsIn K C = true) (tc : PySem.W.typeIn K (.ref C) = some (.type "type"))
    (s1 : PySem.W.subIn K (.type "NoneType") (.ref C) = some false) (s2 : PySem.W.subIn K (.type "bool") (.ref C) = some false) (s3 : PySem.W.subIn K (.type "int") (.ref C) = some false)
    (s4 : PySem.W.subIn K (.type "str") (.ref C) = some false) (s5 : PySem.W.subIn K (.type "tuple") (.ref C) = some false) (s6 : PySem.W.subIn K (.type "list") (.ref C) = some false)
    (ha : PySem.W.findIn K (.ref C) "__class__" = some (some (.builtin "object.__class__"))) (hn : PySem.W.specialIn K (.builtin "object.__class__") "__get__" = some (some (.builtin "getset_descriptor.__get__")))
    (ht : PySem.W.takesIn K (.builtin "object.__class__") = some true) (hm : PySem.W.mroIn K C (.type "object") = some true) : ClsF K mg C := by
  refine ⟨c, kc, fun T hT => ?_, kit_self, ha, hn, ht, hm⟩
  simp only [List.mem_cons, List.not_mem_nil, or_false] at hT
  rcases hT with rfl | rfl | rfl | rfl | rfl | rfl
  · exact kit_of ic tc s1
  · exact kit_of ic tc s2
  · exact kit_of ic tc s3
  · exact kit_of ic tc s4
  · exact kit_of ic tc s5
  · exact kit_of ic tc s6
theorem exm_of {K : PySem.W.Frag} {C : Addr} {cls : Value} {b : Bool} (h1 : PySem.W.subIn K (.ref C) (.type "BaseException") = some true) (h2 : PySem.W.isClsIn K C = true) (h3 : PySem.W.typeIn K (.ref C) = some (.type "type")) (h4 : PySem.W.subIn K cls (.ref C) = some b) : PySem.W.exmOne K cls (.ref C) = some b := by
  have e : ((PySem.W.clsIn K C).isSome && PySem.W.typeIn K (.ref C) == some (.type "type")) = true := by
    have h : (PySem.W.clsIn K C).isSome = true := h2
    rw [h, h3] <;> rfl
  unfold PySem.W.exmOne PySem.W.kitCls
  rw [h1]
  show (if ((PySem.W.clsIn K C).isSome && PySem.W.typeIn K (.ref C) == some (.type "type")) = true then PySem.W.subIn K cls (.ref C) else none) = _
  rw [if_pos e]
  exact h4
theorem av_no {n k : Nat} (h : decide (n + k < k) = true) : False := by
  have := of_decide_eq_true h
  omega
/-- the law's promise, without an address; ts: the tables that lambdas grow -/
def spL (K : PySem.W.Frag) (ts : List (Addr × Str)) (most : Nat) : Sp := fun vs H Q _ => ∃ (a : Addr) (ns : List Int), vs = [.ref a] ∧ ns.length ≤ most ∧ (∀ p ∈ ts, H p.1 = some (.tbl #[])) ∧ SqL K H a (ns.map V.int) ∧ ∀ H', Q (.bl true) H'
/-- without the tables -/
def noT (H : Hp) : Hp := fun a => match H a with
  | some (.tbl _) => none
  | z => z
theorem noT_sub {H : Hp} {a : Addr} {o : HO} (h : noT H a = some o) : H a = some o ∧ NoTbl o := by
  unfold noT at h
  split at h
  · cases h
  · rename_i hn
    exact ⟨h, fun ps z => hn ps (by rw [h, z])⟩
theorem noT_of {H : Hp} {a : Addr} {o : HO} (h : H a = some o) (hn : NoTbl o) : noT H a = some o := by
  unfold noT
  rw [h]
  split
  · rename_i ps e; cases e; exact absurd rfl (hn ps)
  · rfl
theorem law_of (g : Gs W P T prog w K mg) (hsq : ∀ a ns, SqK K a (ns.map V.int) → W.sq a ns) {f n most : Nat} {d : Df} (hd : P.df f = some d) {fd : FuncData} {qual : Str} {st : Stmt} (F : Fun K d.nm qual st (W.fa f) fd) (ok : defOk P T d st = true) (lm : LamD W T d qual fd) (hm : most ≤ lim)
    (law : ∀ ns : List Int, ns.length ≤ most → ∃ M, P.call (n + 1) f [] [.scr ns] = .ok M (.bl true)) (base : Heap) (hT : ∀ p ∈ W.cs, LamX.TabB base mg p.1 p.2.1) : FnOk prog w K mg base (L2.CX prog w) (2 * (n + 1) + 2) (W.fa f) fd (d.ns.take d.np) (spL K W.tbs most) := by
  refine (fn_step0 (gt_all g base hT n) hd F ok lm).imp fun vs H Q E h => ?_
  obtain ⟨a, ns, rfl, hl, hO, hS, k⟩ := h
  obtain ⟨M, e⟩ := law ns hl
  have sc : (∃ o : Obj, noT H a = some (.frz o (.lst (ns.map V.int)))) ∨ noT H a = some (.lst (ns.map V.int)) ∨ W.sq a ns := by
    rcases hS with (h | ⟨o, h⟩) | h
    · exact .inr (.inl (noT_of h fun _ z => by cases z))
    · exact .inl ⟨o, noT_of h fun _ z => by cases z⟩
    · exact .inr (.inr (hsq _ _ h))
  refine ⟨noT H, [], [], [.scr ns], ⟨fun _ _ h => (noT_sub h).1, rfl, List.nodup_nil, fun k c p h => by simp at h, fun p hp => LamX.TabS.nil (hO p hp), fun _ _ h => (noT_sub h).2⟩, .cons (.scr sc (Nat.le_trans hl hm)) .nil, ?_⟩
  rw [e]
  intro F' m' H' _ _ v rv
  cases rv
  exact k H'
end
end Oc
namespace Oc
open PySem (Str)
@[simp] theorem bind_ok' {α β : Type} (M : Mem) (a : α) (f : Mem → α → R β) : (R.ok M a).bind f = f M a := rfl
@[simp] theorem bind_st' {α β : Type} (f : Mem → α → R β) : (R.st : R α).bind f = .st := rfl
@[simp] theorem noEr_ok' {α : Type} (M : Mem) (a : α) : (R.ok M a).noEr = .ok M a := rfl
@[simp] theorem opt_some {α : Type} (M : Mem) (a : α) : R.opt M (some a) = .ok M a := rfl
@[simp] theorem opt_none {α : Type} (M : Mem) : R.opt M (none : Option α) = .st := rfl
@[simp] theorem fOf_ok (M : Mem) (d : D) (r : En) (f : Mem → D → Fl) : fOf (.ok M d) r f = f M d := rfl
@[simp] theorem bOf_ok (M : Mem) (d : Bool) (r : En) (f : Mem → Bool → Fl) : bOf (.ok M d) r f = f M d := rfl
@[simp] theorem retOf_rt (M : Mem) (d : D) : retOf (.rt M d) = .ok M d := rfl
@[simp] theorem retOf_nx (M : Mem) (r : En) : retOf (.nx M r) = .ok M .non := rfl
@[simp] theorem fx_cal (P : Pg) (n : Nat) : (P.fx n).cal = P.call n := rfl
@[simp] theorem fx_eqf (P : Pg) (n : Nat) : (P.fx n).eqf = P.eqf := rfl
@[simp] theorem fx_ini (P : Pg) (n : Nat) : (P.fx n).ini = P.ini := rfl
@[simp] theorem fx_frz (P : Pg) (n : Nat) : (P.fx n).frz = P.frz := rfl
@[simp] theorem vsl_0 (x : D) (r : En) : vsl (some (.d x) :: r) 0 = some x := rfl
@[simp] theorem vsl_s (a : Option Sl) (r : En) (i : Nat) : vsl (a :: r) (i + 1) = vsl r i := rfl
@[simp] theorem setE_0 (a : Option Sl) (r : En) (x : D) : setE (a :: r) 0 x = some (.d x) :: r := rfl
@[simp] theorem setE_s (a : Option Sl) (r : En) (i : Nat) (x : D) : setE (a :: r) (i + 1) x = a :: setE r i x := rfl
@[simp] theorem wipE_nil (r : En) : wipE r [] = r := rfl
@[simp] theorem wipE_cons (r : En) (v : Nat) (vs : List Nat) : wipE r (v :: vs) = (wipE r vs).set v none := rfl
@[simp] theorem setPt_nm (i : Nat) (x : D) (r : En) : setPt (.nm i) x r = some (setE r i x) := rfl
@[simp] theorem setPt_tp (is : List Nat) (xs : List D) (r : En) : setPt (.tp is) (.tup xs) r = setL is xs r := rfl
@[simp] theorem setPt_tl (is : List Nat) (xs : List D) (r : En) : setPt (.tp is) (.lst xs) r = setL is xs r := rfl
@[simp] theorem setL_nil (r : En) : setL [] [] r = some r := rfl
@[simp] theorem setL_cons (i : Nat) (is : List Nat) (x : D) (xs : List D) (r : En) : setL (i :: is) (x :: xs) r = setL is xs (setE r i x) := rfl
@[simp] theorem ctup_tup (M : Mem) (x : D) (xs : List D) : ctup M x (.tup xs) = .ok M (.tup (x :: xs)) := rfl
@[simp] theorem tru_bl (M : Mem) (b : Bool) : tru M (.bl b) = some b := rfl
@[simp] theorem tru_int (M : Mem) (i : Int) : tru M (.int i) = some (i != 0) := rfl
@[simp] theorem itms_lst (xs : List D) : itms (.lst xs) = some xs := rfl
@[simp] theorem itms_tup (xs : List D) : itms (.tup xs) = some xs := rfl
@[simp] theorem itms_scr (ns : List Int) : itms (.scr ns) = some (ns.map .int) := rfl
@[simp] theorem b_add (M : Mem) (i j : Int) : binD M .add (.int i) (.int j) = some (.int (i + j)) := rfl
@[simp] theorem b_sub (M : Mem) (i j : Int) : binD M .sub (.int i) (.int j) = some (.int (i - j)) := rfl
@[simp] theorem b_mul (M : Mem) (i j : Int) : binD M .mul (.int i) (.int j) = (mulI i j).map .int := rfl
@[simp] theorem b_fdiv (M : Mem) (i j : Int) : binD M .fdiv (.int i) (.int j) = (fdivI i j).map .int := rfl
@[simp] theorem b_mod (M : Mem) (i j : Int) : binD M .mod (.int i) (.int j) = (modI i j).map .int := rfl
@[simp] theorem b_pow (M : Mem) (i j : Int) : binD M .pow (.int i) (.int j) = (powI i j).map .int := rfl
theorem mulI_r {i j : Int} (h : -18446744073709551616 < j ∧ j < 18446744073709551616) : mulI i j = some (i * j) := if_pos (.inr h)
theorem mulI_l {i j : Int} (h : -18446744073709551616 < i ∧ i < 18446744073709551616) : mulI i j = some (i * j) := if_pos (.inl h)
theorem fdivI_ok {i j : Int} (h : 0 < j ∧ j < 18446744073709551616) : fdivI i j = some (i / j) := if_pos h
theorem modI_ok {i j : Int} (h : 0 < j) : modI i j = some (i % j) := if_pos h
@[simp] theorem b_addS (M : Mem) (x y : Cs) : binD M .add (.str x) (.str y) = if x.length + y.length ≤ lim then some (.str (x ++ y)) else none := rfl
@[simp] theorem b_addT (M : Mem) (x y : List D) : binD M .add (.tup x) (.tup y) = if x.length + y.length ≤ lim then some (.tup (x ++ y)) else none := rfl
@[simp] theorem b_addL (M : Mem) (x y : List D) : binD M .add (.lst x) (.lst y) = if x.length + y.length ≤ lim then some (.lst (x ++ y)) else none := rfl
@[simp] theorem c_eqI (i j : Int) : cmpD .eq (.int i) (.int j) = some (i == j) := rfl
@[simp] theorem c_neI (i j : Int) : cmpD .ne (.int i) (.int j) = some (!(i == j)) := rfl
@[simp] theorem c_ltI (i j : Int) : cmpD .lt (.int i) (.int j) = some (decide (i < j)) := rfl
@[simp] theorem c_gtI (i j : Int) : cmpD .gt (.int i) (.int j) = some (decide (j < i)) := rfl
@[simp] theorem c_leI (i j : Int) : cmpD .le (.int i) (.int j) = some (decide (i ≤ j)) := rfl
@[simp] theorem c_geI (i j : Int) : cmpD .ge (.int i) (.int j) = some (decide (j ≤ i)) := rfl
@[simp] theorem c_eqS (i j : Cs) : cmpD .eq (.str i) (.str j) = some (i == j) := rfl
@[simp] theorem c_neS (i j : Cs) : cmpD .ne (.str i) (.str j) = some (!(i == j)) := rfl
theorem call_eq {P : Pg} {n f : Nat} {d : Df} {M : Mem} {xs : List D} (h : P.df f = some d) (hl : xs.length = d.np ∧ d.np ≤ d.ns.length) :
    P.call (n + 1) f M xs = retOf (ex (P.fx n) d.bd M (xs.map (fun x => some (Sl.d x)) ++ List.replicate (d.ns.length - xs.length) none)) := by
  show (match P.df f with
    | some d => if xs.length = d.np ∧ d.np ≤ d.ns.length then retOf (ex ⟨P.call n, P.eqf, P.ini, P.frz, P.exs⟩ d.bd M (xs.map (fun x => some (Sl.d x)) ++ List.replicate (d.ns.length - xs.length) none)) else .st
    | none => .st) = _
  rw [h]
  exact if_pos hl
theorem intsOf_map : ∀ zs : List Int, intsOf (zs.map .int) = some zs
  | [] => rfl
  | z :: zs => by show (intsOf (zs.map .int)).map (z :: ·) = _; rw [intsOf_map zs]; rfl
theorem strsOf_map : ∀ zs : List Cs, strsOf (zs.map .str) = some zs
  | [] => rfl
  | z :: zs => by show (strsOf (zs.map .str)).map (z :: ·) = _; rw [strsOf_map zs]; rfl
theorem joinS_nil : ∀ zs : List Cs, joinS [] zs = zs.flatten
  | [] => rfl
  | [x] => by simp [joinS]
  | x :: y :: r => by show x ++ [] ++ joinS [] (y :: r) = _; rw [joinS_nil (y :: r)]; simp
theorem bi_int_bl (M : Mem) (b : Bool) : biD M .int [.bl b] = some (.int (if b then 1 else 0)) := rfl
theorem bi_int_int (M : Mem) (i : Int) : biD M .int [.int i] = some (.int i) := rfl
theorem bi_len_tup (M : Mem) (xs : List D) : biD M .len [.tup xs] = some (.int xs.length) := rfl
theorem bi_len_lst (M : Mem) (xs : List D) : biD M .len [.lst xs] = some (.int xs.length) := rfl
theorem bi_len_str (M : Mem) (xs : Cs) : biD M .len [.str xs] = some (.int xs.length) := rfl
theorem bi_sum (M : Mem) (zs : List Int) : biD M .sum [.lst (zs.map .int)] = some (.int zs.sum) := by show (intsOf (zs.map .int)).map _ = _; rw [intsOf_map]; rfl
theorem bi_tuple_lst (M : Mem) (xs : List D) : biD M .tuple [.lst xs] = some (.tup xs) := rfl
theorem bi_max2 (M : Mem) (i j : Int) : biD M .max2 [.int i, .int j] = some (.int (if j > i then j else i)) := rfl
/-- 0, 1, .. as ints -/
def rgI (k : Nat) : List Int := (List.range k).map fun (i : Nat) => (i : Int)
theorem rgI_len (k : Nat) : (rgI k).length = k := by unfold rgI; rw [List.length_map, List.length_range]
theorem rgI_D (k : Nat) : ((List.range k).map fun (i : Nat) => D.int (i : Int)) = (rgI k).map .int := by unfold rgI; rw [List.map_map]; rfl
theorem mem_rgI {k : Nat} {z : Int} (h : z ∈ rgI k) : 0 ≤ z ∧ z < k := by
  obtain ⟨i, hi, rfl⟩ := List.mem_map.mp h
  have := List.mem_range.mp hi
  omega
theorem ev_rg1 {X : Fx} {a : E} {M M1 : Mem} {r : En} {n : Int} (h : ev X a M r = .ok M1 (.int n)) (hk : n < 16777216 ∧ -4611686018427387904 ≤ n) : ev X (.rg1 a) M r = .ok M1 (.lst ((rgI n.toNat).map .int)) := by
  rw [← rgI_D]
  show (ev X a M r).bind _ = _
  rw [h]
  exact if_pos hk
theorem ev_lr1 {X : Fx} {a : E} {M M1 : Mem} {r : En} {n : Int} (h : ev X a M r = .ok M1 (.int n)) (hk : n < 16777216 ∧ -4611686018427387904 ≤ n) : ev X (.lr1 a) M r = .ok M1 (.lst ((rgI n.toNat).map .int)) := by
  rw [← rgI_D]
  show (ev X a M r).bind _ = _
  rw [h]
  exact if_pos hk
/-- a comprehension over ints -/
theorem ev_lcI {X : Fx} {own : List Nat} {elt it cd : E} {pt : Pt} {M M1 : Mem} {r : En} {d : D} {xs ys : List D} (h : ev X it M r = .ok M1 d) (hi : itms d = some xs) {M2 : Mem} (hl : lcGo (lcF X own elt pt cd r) M1 xs = .ok M2 ys) : ev X (.lc own elt pt it cd) M r = .ok M2 (.lst ys) := by
  rw [ev_lc, h, bind_ok', hi]
  show (lcGo (lcF X own elt pt cd r) M1 xs).bind _ = _
  rw [hl]; rfl
end Oc
namespace Oc
open PySem (Str)
section
variable {X : Fx} {M M1 M2 M3 M4 : Mem} {r : En} {a b c l e t lo hi : E} {x y z d : D} {xs : List D}
theorem e_nil : ev X .nil M r = .ok M (.tup []) := rfl
theorem e_cons (ha : ev X a M r = .ok M1 x) (hl : ev X l M1 r = .ok M2 (.tup xs)) : ev X (.cons a l) M r = .ok M2 (.tup (x :: xs)) := by
  rw [ev, ha, bind_ok', hl]; rfl
theorem e_vr {i : Nat} (h : vsl r i = some x) : ev X (.vr i) M r = .ok M x := by rw [ev, h]; rfl
theorem e_brw {is : List Nat} (h : ev X e [] (mskE r is) = .ok [] x) (hf : flat 40 x = true) : ev X (.brw is e) M r = .ok M x := by
  rw [ev, h]; exact if_pos hf
theorem e_gi {s : Str} {i : Int} : ev X (.gi s i) M r = .ok M (.int i) := rfl
theorem e_int {i : Int} : ev X (.int i) M r = .ok M (.int i) := rfl
theorem e_str {s : Cs} : ev X (.str s) M r = .ok M (.str s) := rfl
theorem e_bl {k : Bool} : ev X (.bl k) M r = .ok M (.bl k) := rfl
theorem e_non : ev X .non M r = .ok M .non := rfl
theorem e_bin {o : O2} (ha : ev X a M r = .ok M1 x) (hb : ev X b M1 r = .ok M2 y) (h : binD M2 o x y = some z) : ev X (.bin o a b) M r = .ok M2 z := by
  rw [ev, ha, bind_ok', hb, bind_ok', h]; rfl
theorem e_neg {i : Int} (ha : ev X a M r = .ok M1 (.int i)) : ev X (.neg a) M r = .ok M1 (.int (-i)) := by
  rw [ev, ha]; rfl
theorem e_not {k : Bool} (ha : ev X a M r = .ok M1 x) (h : tru M1 x = some k) : ev X (.not a) M r = .ok M1 (.bl (!k)) := by
  rw [ev, ha, bind_ok', h]; rfl
theorem e_and {p q : Bool} (ha : ev X a M r = .ok M1 (.bl p)) (hb : p = true → ev X b M1 r = .ok M1 (.bl q)) : ev X (.and a b) M r = .ok M1 (.bl (p && q)) := by
  rw [ev, ha, bind_ok', tru_bl]
  cases p
  · rfl
  · exact hb rfl
theorem e_or {p q : Bool} (ha : ev X a M r = .ok M1 (.bl p)) (hb : p = false → ev X b M1 r = .ok M1 (.bl q)) : ev X (.or a b) M r = .ok M1 (.bl (p || q)) := by
  rw [ev, ha, bind_ok', tru_bl]
  cases p
  · exact hb rfl
  · rfl
def eqPl : CO → D → Bool
  | .eq, .obj _ _ _ => false
  | _, _ => true
theorem e_cmp {o : CO} {k : Bool} (ha : ev X a M r = .ok M1 x) (hb : ev X b M1 r = .ok M2 y) (hx : eqPl o x = true) (h : cmpD o x y = some k) : ev X (.cmp o a b) M r = .ok M2 (.bl k) := by
  rw [ev, ha, bind_ok', hb, bind_ok']
  cases o <;> cases x <;> first | (rw [h]; rfl) | cases hx
theorem e_chn {o p : CO} {k q : Bool} (ha : ev X a M r = .ok M1 x) (hb : ev X b M1 r = .ok M2 y) (h : cmpD o x y = some k) (hc : k = true → ev X c M2 r = .ok M2 z) (h2 : k = true → cmpD p y z = some q) : ev X (.chn o p a b c) M r = .ok M2 (.bl (k && q)) := by
  rw [ev, ha, bind_ok', hb, bind_ok', h]
  cases k
  · rfl
  · dsimp only; rw [hc rfl, bind_ok', h2 rfl]; rfl
theorem e_ife {p : Bool} (ht : ev X t M r = .ok M1 d) (h0 : tru M1 d = some p) (ha : p = true → ev X a M1 r = .ok M2 x) (hb : p = false → ev X b M1 r = .ok M2 y) (hz : cond p x y = z) : ev X (.ife t a b) M r = .ok M2 z := by
  rw [ev, ht, bind_ok', h0]
  subst hz
  cases p
  · exact hb rfl
  · exact ha rfl
theorem cond_int {p : Bool} {i j : Int} : cond p (D.int i) (D.int j) = .int (cond p i j) := by cases p <;> rfl
theorem cond_str {p : Bool} {i j : Cs} : cond p (D.str i) (D.str j) = .str (cond p i j) := by cases p <;> rfl
theorem cond_tup {p : Bool} {i j : List D} : cond p (D.tup i) (D.tup j) = .tup (cond p i j) := by cases p <;> rfl
theorem cond_lst {p : Bool} {i j : List D} : cond p (D.lst i) (D.lst j) = .lst (cond p i j) := by cases p <;> rfl
theorem cond_bl {p : Bool} {i j : Bool} : cond p (D.bl i) (D.bl j) = .bl (cond p i j) := by cases p <;> rfl
theorem e_tup (h : ev X l M r = .ok M1 x) : ev X (.tup l) M r = .ok M1 x := by rw [ev, h]
theorem e_lst (h : ev X l M r = .ok M1 (.tup xs)) : ev X (.lst l) M r = .ok M1 (.lst xs) := by rw [ev, h]; rfl
theorem e_cal {P : Pg} {n f : Nat} (hl : ev (P.fx n) l M r = .ok M1 (.tup xs)) (h : P.call n f M1 xs = .ok M2 z) : ev (P.fx n) (.cal f l) M r = .ok M2 z := by
  rw [ev, hl, bind_ok']; exact h
theorem e_bi {k : Bi} (hl : ev X l M r = .ok M1 (.tup xs)) (h : biD M1 k xs = some z) : ev X (.bi k l) M r = .ok M1 z := by
  rw [ev, hl, bind_ok']; show R.opt _ _ = _; rw [h]; rfl
theorem e_me {k : Me} (ho : ev X a M r = .ok M1 y) (hk : meOk k y = true) (hl : ev X l M1 r = .ok M2 (.tup xs)) (h : meD M2 k y xs = some z) : ev X (.me k a l) M r = .ok M2 z := by
  rw [ev, ho, bind_ok', if_pos hk, hl, bind_ok']; show R.opt _ _ = _; rw [h]; rfl
theorem e_isi {cl : Cl} {k : Bool} (ha : ev X a M r = .ok M1 x) (h : isiD M1 x cl = some k) : ev X (.isi a cl) M r = .ok M1 (.bl k) := by
  rw [ev, ha, bind_ok', h]; rfl
theorem e_fldO {k : Nat} {ns : List Str} {vs : List D} {s : Str} (ha : ev X a M r = .ok M1 (.obj k ns vs)) (h : (ns.zip vs).lookup s = some z) : ev X (.fld a s) M r = .ok M1 z := by
  rw [ev, ha, bind_ok']; show R.opt _ _ = _; rw [h]; rfl
theorem e_prp {P : Pg} {n f k : Nat} (ha : ev (P.fx n) a M r = .ok M1 x) (hk : clsOf M1 x = some k) (h : P.call n f M1 [x] = .ok M2 z) : ev (P.fx n) (.prp a f k) M r = .ok M2 z := by
  rw [ev, ha, bind_ok', if_pos hk]; show (match P.call n f M1 [x] with | .ok M2 z => R.ok M2 z | _ => .st) = _; rw [h]
theorem e_sub (ha : ev X a M r = .ok M1 x) (hb : ev X b M1 r = .ok M2 y) (h : subD M2 x y = some z) : ev X (.sub a b) M r = .ok M2 z := by
  rw [ev, ha, bind_ok', hb, bind_ok', h]; rfl
/-- a part of a slice -/
def evS (X : Fx) (e : E) (M : Mem) (r : En) : R D := match e with
  | .nil => .ok M .non
  | _ => (ev X e M r).bind intO
theorem evS_nil : evS X .nil M r = .ok M .non := rfl
theorem evS_e {i : Int} (h : ev X e M r = .ok M1 (.int i)) : evS X e M r = .ok M1 (.int i) := by
  unfold evS
  split
  · rw [e_nil] at h; cases h
  · rw [h]; rfl
theorem e_slc {i j : Option Int} (ha : ev X a M r = .ok M1 x) (hl : evS X lo M1 r = .ok M2 y) (hh : evS X hi M2 r = .ok M3 d) (hy : optI y = some i) (hd : optI d = some j) (h : slcD x i j = some z) : ev X (.slc a lo hi) M r = .ok M3 z := by
  rw [ev, ha, bind_ok']
  show (evS X lo M1 r).bind (fun M2 y => (evS X hi M2 r).bind fun M3 z => match optI y, optI z with
      | some l, some h => .opt M3 (slcD x l h)
      | _, _ => .st) = _
  rw [hl, bind_ok', hh, bind_ok', hy, hd]
  show R.opt _ _ = _
  rw [h]; rfl
def rgB (i j : Int) : List Int := (List.range (j - i).toNat).map fun (k : Nat) => i + (k : Int)
theorem rgB_D (i j : Int) : ((List.range (j - i).toNat).map fun (k : Nat) => D.int (i + k)) = (rgB i j).map .int := by unfold rgB; rw [List.map_map]; rfl
theorem mem_rgB {i j z : Int} (h : z ∈ rgB i j) : i ≤ z ∧ z < j := by
  obtain ⟨k, hk, rfl⟩ := List.mem_map.mp h
  have := List.mem_range.mp hk
  omega
theorem e_rg1 {n : Int} (h : ev X a M r = .ok M1 (.int n)) (hk : n < 16777216 ∧ -4611686018427387904 ≤ n) : ev X (.rg1 a) M r = .ok M1 (.lst ((rgI n.toNat).map .int)) := ev_rg1 h hk
theorem e_lr1 {n : Int} (h : ev X a M r = .ok M1 (.int n)) (hk : n < 16777216 ∧ -4611686018427387904 ≤ n) : ev X (.lr1 a) M r = .ok M1 (.lst ((rgI n.toNat).map .int)) := ev_lr1 h hk
theorem e_rg2 {m n : Int} (h : ev X a M r = .ok M1 (.int m)) (h2 : ev X b M1 r = .ok M2 (.int n)) (hk : m < 4611686018427387904 ∧ -(4611686018427387904) ≤ m ∧ n < 4611686018427387904 ∧ -(4611686018427387904) ≤ n ∧ n - m < 16777216) : ev X (.rg2 a b) M r = .ok M2 (.lst ((rgB m n).map .int)) := by
  rw [← rgB_D, ev, h, bind_ok', h2, bind_ok']
  exact if_pos hk
theorem e_lr2 {m n : Int} (h : ev X a M r = .ok M1 (.int m)) (h2 : ev X b M1 r = .ok M2 (.int n)) (hk : m < 4611686018427387904 ∧ -(4611686018427387904) ≤ m ∧ n < 4611686018427387904 ∧ -(4611686018427387904) ≤ n ∧ n - m < 16777216) : ev X (.lr2 a b) M r = .ok M2 (.lst ((rgB m n).map .int)) := by
  rw [← rgB_D, ev, h, bind_ok', h2, bind_ok']
  exact if_pos hk
theorem lcF_at {own : List Nat} {elt : E} {pt : Pt} {r2 : En} {y : D} (hs : setPt pt y (wipE r own) = some r2) (he : ev X elt M r2 = .ok M1 z) : lcF X own elt pt .nil r M y = .ok M1 (some z) := by
  show (match setPt pt y (wipE r own) with
    | none => R.st
    | some r2 => (R.ok M true).bind fun M3 b => if b then (ev X elt M3 r2).noEr.bind fun M4 z => .ok M4 (some z) else .ok M3 none) = _
  rw [hs]
  show (ev X elt M r2).noEr.bind _ = _
  rw [he]; rfl
theorem lcF_atC {own : List Nat} {elt cd : E} {pt : Pt} {r2 : En} {y : D} {k : Bool} (hn : isNilE cd = false) (hs : setPt pt y (wipE r own) = some r2) (hc : ev X cd M r2 = .ok M1 x) (ht : tru M1 x = some k) (he : k = true → ev X elt M1 r2 = .ok M1 z) : lcF X own elt pt cd r M y = .ok M1 (if k = true then some z else none) := by
  have e : cnd X cd M r2 = ((ev X cd M r2).bind fun M3 t => R.opt M3 (tru M3 t)).noEr := by cases cd <;> first | rfl | cases hn
  unfold lcF
  rw [hs]
  show (cnd X cd M r2).bind _ = _
  rw [e, hc, bind_ok', ht, opt_some, noEr_ok', bind_ok']
  cases k
  · rfl
  · simp only [if_true]
    rw [he rfl]; rfl
theorem lcGo_mapA {α : Type} {f : Mem → D → R (Option D)} {M : Mem} {h : α → D} {g : α → D} : ∀ {zs : List α}, (∀ z ∈ zs, f M (h z) = .ok M (some (g z))) → lcGo f M (zs.map h) = .ok M (zs.map g)
  | [], _ => rfl
  | x :: xs, k => by
    show (f M (h x)).bind (fun M1 o => (lcGo f M1 (xs.map h)).bind fun M2 r => .ok M2 (match o with
      | some d => d :: r
      | none => r)) = _
    rw [k x List.mem_cons_self, bind_ok', lcGo_mapA fun y hy => k y (List.mem_cons_of_mem _ hy)]
    rfl
theorem lcGo_filA {α : Type} {f : Mem → D → R (Option D)} {M : Mem} {h : α → D} {c : α → Bool} {g : α → D} : ∀ {zs : List α}, (∀ z ∈ zs, f M (h z) = .ok M (if c z = true then some (g z) else none)) → lcGo f M (zs.map h) = .ok M ((zs.filter c).map g)
  | [], _ => rfl
  | x :: xs, k => by
    show (f M (h x)).bind (fun M1 o => (lcGo f M1 (xs.map h)).bind fun M2 r => .ok M2 (match o with
      | some d => d :: r
      | none => r)) = _
    rw [k x List.mem_cons_self, bind_ok', lcGo_filA fun y hy => k y (List.mem_cons_of_mem _ hy), bind_ok']
    cases hc : c x <;> simp [hc, List.filter_cons]
theorem e_lcm {α : Type} {own : List Nat} {elt it : E} {pt : Pt} {zs : List α} {f g : α → D} {rr : α → En} (hit : ev X it M r = .ok M1 d) (hi : itms d = some (zs.map f)) (hr : ∀ z, setPt pt (f z) (wipE r own) = some (rr z)) (he : ∀ z ∈ zs, ev X elt M1 (rr z) = .ok M1 (g z)) :
    ev X (.lc own elt pt it .nil) M r = .ok M1 (.lst (zs.map g)) :=
  ev_lcI hit hi (lcGo_mapA fun z hz => lcF_at (hr z) (he z hz))
theorem e_lcf {α : Type} {own : List Nat} {elt it cd : E} {pt : Pt} {zs : List α} {f g t : α → D} {q : α → Bool} {rr : α → En} (hn : isNilE cd = false) (hit : ev X it M r = .ok M1 d) (hi : itms d = some (zs.map f)) (hr : ∀ z, setPt pt (f z) (wipE r own) = some (rr z)) (hc : ∀ z ∈ zs, ev X cd M1 (rr z) = .ok M1 (t z)) (ht : ∀ z, tru M1 (t z) = some (q z)) (he : ∀ z ∈ zs, q z = true → ev X elt M1 (rr z) = .ok M1 (g z)) :
    ev X (.lc own elt pt it cd) M r = .ok M1 (.lst ((zs.filter q).map g)) :=
  ev_lcI hit hi (lcGo_filA fun z hz => lcF_atC hn (hr z) (hc z hz) (ht z) (he z hz))
variable {fl : Fl} {s u v : S}
theorem s_seq (h : ex X (.seq s (.seq u v)) M r = fl) : ex X (.seq (.seq s u) v) M r = fl := by
  rw [← h, ex, ex, ex]
  cases ex X s M r <;> try rfl
theorem s_nil (h : ex X s M r = fl) : ex X (.seq .nil s) M r = fl := by rw [ex, ex]; exact h
theorem s_set {i : Nat} (he : ev X e M r = .ok M1 x) (h : ex X s M1 (setE r i x) = fl) : ex X (.seq (.set i e) s) M r = fl := by
  rw [ex, ex, he, fOf_ok]; exact h
theorem s_setP {p : Pt} {r1 : En} (he : ev X e M r = .ok M1 x) (hp : setPt p x r = some r1) (h : ex X s M1 r1 = fl) : ex X (.seq (.setP p e) s) M r = fl := by
  rw [ex, ex, he, fOf_ok, hp]; exact h
theorem s_par {i j : Nat} (ha : ev X a M r = .ok M1 x) (hb : ev X b M1 r = .ok M2 y) (h : ex X s M2 (setE (setE r i x) j y) = fl) : ex X (.seq (.par i j a b) s) M r = fl := by
  rw [ex, ex, ha, fOf_ok, hb, fOf_ok]; exact h
theorem s_setO {i : Nat} (he : ev X e M r = .ok M1 (.lst xs)) (h : ex X s M1 (r.set i (some (.ol xs))) = fl) : ex X (.seq (.setO i e) s) M r = fl := by
  rw [ex, ex, he, fOf_ok]; exact h
theorem s_app {i : Nat} (hx : r[i]? = some (some (.ol xs))) (he : ev X e M r = .ok M1 x) (hl : xs.length < lim) (h : ex X s M1 (r.set i (some (.ol (xs ++ [x])))) = fl) : ex X (.seq (.app i e) s) M r = fl := by
  rw [ex, ex, hx]
  dsimp only
  rw [he, fOf_ok, if_pos hl]; exact h
theorem s_frz {i : Nat} {o : Option Sl} (hx : r[i]? = some o) (h : ex X s M (r.set i (lokS o)) = fl) : ex X (.seq (.frz i) s) M r = fl := by
  rw [ex, ex, hx]; exact h
theorem s_aug {i : Nat} {o : O2} {n : Int} (hx : vsl r i = some (.int n)) (he : ev X e M r = .ok M1 y) (hb : binD M1 o (.int n) y = some z) (h : ex X s M1 (setE r i z) = fl) : ex X (.seq (.aug i o e) s) M r = fl := by
  rw [ex, ex, hx]
  dsimp only
  rw [he, fOf_ok, hb]; exact h
theorem s_ret (he : ev X e M r = .ok M1 x) : ex X (.seq (.ret e) s) M r = .rt M1 x := by
  rw [ex, ex, he, fOf_ok]
theorem s_end : ex X .nil M r = .nx M r := rfl
theorem s_ife {k : Bool} (hc : ev X c M r = .ok M1 x) (ht : tru M1 x = some k) (h1 : k = true → ex X (.seq u s) M1 r = fl) (h2 : k = false → ex X (.seq v s) M1 r = fl) : ex X (.seq (.ife c u v) s) M r = fl := by
  have e : evB X c M r = .ok M1 k := by unfold evB; rw [hc, bind_ok', ht]; rfl
  rw [ex, ex, e, bOf_ok]
  cases k
  · exact h2 rfl
  · exact h1 rfl
theorem s_ifeT (hc : ev X c M r = .ok M1 x) (ht : tru M1 x = some true) (h1 : ex X (.seq u s) M1 r = fl) : ex X (.seq (.ife c u v) s) M r = fl := s_ife hc ht (fun _ => h1) (fun h => by cases h)
theorem s_ifeF (hc : ev X c M r = .ok M1 x) (ht : tru M1 x = some false) (h1 : ex X (.seq v s) M1 r = fl) : ex X (.seq (.ife c u v) s) M r = fl := s_ife hc ht (fun h => by cases h) (fun _ => h1)
theorem s_drop (he : ev X e M r = .ok M1 x) (h : ex X s M1 r = fl) : ex X (.seq (.drop e) s) M r = fl := by
  rw [ex, ex, he, fOf_ok]; exact h
theorem s_for {p : Pt} {it : E} {M2 : Mem} {r2 : En} (hit : ev X it M r = .ok M1 d) (hi : itms d = some xs) (hl : forGo p (fun M2 r2 => ex X u M2 r2) M1 xs r = .nx M2 r2) (h : ex X s M2 r2 = fl) : ex X (.seq (.forr p it u) s) M r = fl := by
  rw [ex, ex, hit, fOf_ok, hi]
  dsimp only
  rw [hl]; exact h
theorem s_hset {j k : Nat} {i : Int} {ys : List D} (he : ev X e M r = .ok M1 x) (ha : ev X a M1 r = .ok M2 (.hnd k)) (hb : ev X b M2 r = .ok M3 (.int i)) (hm : M3[k]? = some (.ml ys)) (hi : ixO ys.length i = some j) (h : ex X s (M3.set k (.ml (ys.set j x))) r = fl) : ex X (.seq (.hset a b e) s) M r = fl := by
  rw [ex, ex, he, fOf_ok, ha, fOf_ok, hb, fOf_ok]
  simp only [hm, hi]
  exact h
theorem s_fset {k j : Nat} {ns : List Str} {vs : List D} {f : Str} (he : ev X e M r = .ok M1 x) (ha : ev X a M1 r = .ok M2 (.hnd k)) (hm : M2[k]? = some (.mi j ns vs)) (hl : ns.length < 100) (h : ex X s (M2.set k (.mi j (putF f x ns vs).1 (putF f x ns vs).2)) r = fl) : ex X (.seq (.fset a f e) s) M r = fl := by
  rw [ex, ex, he, fOf_ok, ha, fOf_ok]
  simp only [hm, hl, if_true]
  exact h
end
/-- loops that change slots: an invariant by the part that is done -/
theorem forGo_st {α : Type} {p : Pt} {f : Mem → En → Fl} {h : α → D} {zs : List α} {M : Mem} {r : En} (I : List α → Mem → En → Prop) (h0 : I [] M r)
    (s : ∀ pre z post M r, zs = pre ++ z :: post → I pre M r → ∃ r1 M2 r2, setPt p (h z) r = some r1 ∧ f M r1 = .nx M2 r2 ∧ I (pre ++ [z]) M2 r2) : ∃ M' r', forGo p f M (zs.map h) r = .nx M' r' ∧ I zs M' r' := by
  have key : ∀ post pre M r, zs = pre ++ post → I pre M r → ∃ M' r', forGo p f M (post.map h) r = .nx M' r' ∧ I zs M' r' := by
    intro post
    induction post with
    | nil => intro pre M r e hi; rw [List.append_nil] at e; subst e; exact ⟨M, r, rfl, hi⟩
    | cons z post ih =>
      intro pre M r e hi
      obtain ⟨r1, M2, r2, e1, e2, h2⟩ := s pre z post M r e hi
      obtain ⟨M', r', e3, h3⟩ := ih (pre ++ [z]) M2 r2 (by rw [e, List.append_assoc]; rfl) h2
      refine ⟨M', r', ?_, h3⟩
      show (match setPt p (h z) r with
        | none => Fl.st
        | some r1 => match f M r1 with
          | .nx M2 r2 => forGo p f M2 (post.map h) r2
          | .ct M2 r2 => forGo p f M2 (post.map h) r2
          | .bk M2 r2 => .nx M2 r2
          | z => z) = _
      rw [e1]
      dsimp only
      rw [e2]
      exact e3
  exact key zs [] M r rfl h0
end Oc
namespace Oc
theorem b_mulR {M : Mem} {i j : Int} (h : -18446744073709551616 < j ∧ j < 18446744073709551616) : binD M .mul (.int i) (.int j) = some (.int (i * j)) := by rw [b_mul, mulI_r h]; rfl
theorem b_mulL {M : Mem} {i j : Int} (h : -18446744073709551616 < i ∧ i < 18446744073709551616) : binD M .mul (.int i) (.int j) = some (.int (i * j)) := by rw [b_mul, mulI_l h]; rfl
theorem b_fdivR {M : Mem} {i j : Int} (h : 0 < j ∧ j < 18446744073709551616) : binD M .fdiv (.int i) (.int j) = some (.int (i / j)) := by rw [b_fdiv, fdivI_ok h]; rfl
theorem b_modR {M : Mem} {i j : Int} (h : 0 < j) : binD M .mod (.int i) (.int j) = some (.int (i % j)) := by rw [b_mod, modI_ok h]; rfl
theorem b_addSr {M : Mem} {x y : Cs} (h : x.length + y.length ≤ 16777216) : binD M .add (.str x) (.str y) = some (.str (x ++ y)) := by rw [b_addS]; exact if_pos h
theorem b_addTr {M : Mem} {x y : List D} (h : x.length + y.length ≤ 16777216) : binD M .add (.tup x) (.tup y) = some (.tup (x ++ y)) := by rw [b_addT]; exact if_pos h
theorem b_addLr {M : Mem} {x y : List D} (h : x.length + y.length ≤ 16777216) : binD M .add (.lst x) (.lst y) = some (.lst (x ++ y)) := by rw [b_addL]; exact if_pos h
theorem b_powR {M : Mem} {i j : Int} (h : 0 ≤ j ∧ j ≤ 1000000 ∧ i.natAbs < 18446744073709551616) : binD M .pow (.int i) (.int j) = some (.int (i ^ j.toNat)) := by rw [b_pow]; show (powI i j).map _ = _; unfold powI; rw [if_pos h]; rfl
theorem b_shlR {M : Mem} {i j : Int} (h : 0 ≤ j ∧ j ≤ 1000000 ∧ i.natAbs < 18446744073709551616) : binD M .shl (.int i) (.int j) = some (.int (i * 2 ^ j.toNat)) := by show (shlI i j).map _ = _; unfold shlI; rw [if_pos h]; rfl
theorem b_shrR {M : Mem} {i j : Int} (h : 0 ≤ j) : binD M .shr (.int i) (.int j) = some (.int (i / 2 ^ j.toNat)) := by show (shrI i j).map _ = _; unfold shrI; rw [if_pos h]; rfl
theorem bi_sumM {M : Mem} {α : Type} {zs : List α} {g : α → Int} : biD M .sum [.lst (zs.map fun z => .int (g z))] = some (.int (zs.map g).sum) := by
  have := bi_sum M (zs.map g)
  rw [List.map_map] at this
  exact this
end Oc
namespace Oc
theorem bi_len_tm {M : Mem} {α : Type} {ws : List α} {f : α → D} : biD M .len [.tup (ws.map f)] = some (.int (ws.length : Int)) := by rw [bi_len_tup, List.length_map]
theorem bi_len_lm {M : Mem} {α : Type} {ws : List α} {f : α → D} : biD M .len [.lst (ws.map f)] = some (.int (ws.length : Int)) := by rw [bi_len_lst, List.length_map]
theorem atO_map {α β : Type} {f : α → β} {ws : List α} {i : Int} {x : α} (h : atO ws i = some x) : atO (ws.map f) i = some (f x) := by
  unfold atO at h ⊢
  rw [List.length_map]
  cases e : ixO ws.length i with
  | none => rw [e] at h; cases h
  | some j =>
    rw [e] at h
    show (ws.map f)[j]? = _
    replace h : ws[j]? = some x := h
    rw [List.getElem?_map, h]; rfl
theorem atO_in {α : Type} {ws : List α} {i : Int} (d : α) (h0 : 0 ≤ i) (h : i < ws.length) : atO ws i = some (ws.getD i.toNat d) := by
  unfold atO ixO
  rw [if_pos h0, if_pos h]
  show ws[i.toNat]? = _
  have hi : i.toNat < ws.length := by omega
  rw [List.getD_eq_getElem?_getD, List.getElem?_eq_getElem hi]; rfl
theorem sub_lstI {M : Mem} {ws : List Int} {i : Int} (h0 : 0 ≤ i) (h : i < ws.length) : subD M (.lst (ws.map .int)) (.int i) = some (.int (ws.getD i.toNat 0)) := atO_map (atO_in 0 h0 h)
end Oc
namespace Oc
theorem s_retR {X : Fx} {M M1 M2 M3 : Mem} {r : En} {a b c : E} {s : S} {x z : D} {ys : List D} (ha : ev X a M r = .ok M1 x) (hb : ev X b M1 r = .ok M2 (.lst ys)) (hc : ev X c (M2 ++ [.ml ys]) r = .ok M3 z) :
    ex X (.seq (.retR a b c) s) M r = .rt (M3 ++ [.ml [x, .hnd M2.length, z]]) (.hnd M3.length) := by
  rw [ex, ex, ha, fOf_ok, hb, fOf_ok]
  dsimp only
  rw [hc, fOf_ok]
theorem bi_list_scr {M : Mem} {ns : List Int} : biD M .list [.scr ns] = some (.lst (ns.map .int)) := rfl
end Oc
namespace Oc
theorem len_flat : ∀ {cs : List Cs}, (∀ c ∈ cs, c.length ≤ 1) → (cs.map List.length).sum ≤ cs.length
  | [], _ => Nat.le_refl _
  | c :: cs, h => by
    have := len_flat fun x hx => h x (List.mem_cons_of_mem _ hx)
    have h1 := h c List.mem_cons_self
    rw [List.map_cons, List.sum_cons, List.length_cons]; omega
theorem me_join0 {M : Mem} {α : Type} {zs : List α} {g : α → Cs} (h : ∀ z ∈ zs, (g z).length ≤ 1) (hl : zs.length ≤ 16777216) : meD M .join (.str []) [.lst (zs.map fun z => .str (g z))] = some (.str (zs.flatMap g)) := by
  have e : zs.map (fun z => D.str (g z)) = (zs.map g).map .str := by rw [List.map_map]; rfl
  have h2 : ((zs.map g).map List.length).sum + (zs.map g).length * ([] : Cs).length ≤ lim := by
    have := len_flat (cs := zs.map g) fun c hc => by obtain ⟨z, hz, rfl⟩ := List.mem_map.mp hc; exact h z hz
    rw [List.length_map] at this
    show _ + _ * 0 ≤ 16777216
    omega
  rw [e]
  show (match strsOf ((zs.map g).map .str) with
    | some ys => if (ys.map List.length).sum + ys.length * ([] : Cs).length ≤ lim then some (D.str (joinS [] ys)) else none
    | none => none) = _
  rw [strsOf_map]
  dsimp only
  rw [if_pos h2, joinS_nil, List.flatMap_def]
theorem cond_one {p : Bool} {a b : Nat} : (cond p [a] [b]).length ≤ 1 := by cases p <;> exact Nat.le_refl _
end Oc
namespace Oc
/-- a comprehension that draws: an invariant of the memory, what is wanted of each value -/
theorem lcGo_draw {β : Type} {f : Mem → D → R (Option D)} (I : Mem → Prop) (P : β → Prop) (h : β → D) : ∀ {xs : List D} {M : Mem}, I M → (∀ x M, x ∈ xs → I M → ∃ M' v, f M x = .ok M' (some (h v)) ∧ I M' ∧ P v) →
    ∃ (M' : Mem) (vs : List β), lcGo f M xs = .ok M' (vs.map h) ∧ I M' ∧ vs.length = xs.length ∧ ∀ v ∈ vs, P v
  | [], M, h0, _ => ⟨M, [], rfl, h0, rfl, by simp⟩
  | x :: xs, M, h0, s => by
    obtain ⟨M1, v, e1, h1, q1⟩ := s x M List.mem_cons_self h0
    obtain ⟨M2, vs, e2, h2, l2, q2⟩ := lcGo_draw I P h (xs := xs) h1 fun y M hy => s y M (List.mem_cons_of_mem _ hy)
    refine ⟨M2, v :: vs, ?_, h2, by rw [List.length_cons, List.length_cons, l2], fun y hy => ?_⟩
    · show (f M x).bind (fun M1 o => (lcGo f M1 xs).bind fun M2 r => .ok M2 (match o with
        | some d => d :: r
        | none => r)) = _
      rw [e1, bind_ok', e2]; rfl
    · rcases List.mem_cons.mp hy with rfl | hy
      · exact q1
      · exact q2 y hy
theorem e_lcd {X : Fx} {own : List Nat} {elt it cd : E} {pt : Pt} {M M1 M2 : Mem} {r : En} {d : D} {xs ys : List D} (h : ev X it M r = .ok M1 d) (hi : itms d = some xs) (hl : lcGo (lcF X own elt pt cd r) M1 xs = .ok M2 ys) : ev X (.lc own elt pt it cd) M r = .ok M2 (.lst ys) := ev_lcI h hi hl
end Oc
namespace Oc
theorem e_slcN {X : Fx} {M M1 M2 : Mem} {r : En} {a hi : E} {x z : D} {j : Int} (ha : ev X a M r = .ok M1 x) (hh : ev X hi M1 r = .ok M2 (.int j)) (h : slcD x none (some j) = some z) : ev X (.slc a .nil hi) M r = .ok M2 z :=
  e_slc ha evS_nil (evS_e hh) rfl rfl h
theorem e_slcL {X : Fx} {M M1 M2 : Mem} {r : En} {a lo : E} {x z : D} {j : Int} (ha : ev X a M r = .ok M1 x) (hh : ev X lo M1 r = .ok M2 (.int j)) (h : slcD x (some j) none = some z) : ev X (.slc a lo .nil) M r = .ok M2 z :=
  e_slc ha (evS_e hh) evS_nil rfl rfl h
theorem e_slc2 {X : Fx} {M M1 M2 M3 : Mem} {r : En} {a lo hi : E} {x z : D} {i j : Int} (ha : ev X a M r = .ok M1 x) (hl : ev X lo M1 r = .ok M2 (.int i)) (hh : ev X hi M2 r = .ok M3 (.int j)) (h : slcD x (some i) (some j) = some z) : ev X (.slc a lo hi) M r = .ok M3 z :=
  e_slc ha (evS_e hl) (evS_e hh) rfl rfl h
theorem hf_ints (n : Nat) (us : List Int) : hf (n + 1) (.tup (us.map .int)) = true := by
  show (us.map D.int).all (hf n) = true
  rw [List.all_map, List.all_eq_true]
  intro x _
  show hf n (.int x) = true
  cases n <;> rfl
end Oc
namespace Oc
open PySem (Str)
section
variable {X : Fx} {M M1 M2 M3 : Mem} {r r1 : En} {a b c e l : E} {x y z d : D} {xs : List D} {s u v : S} {fl : Fl}
theorem e_enu {α : Type} {us : List α} {f : α → D} (h : ev X a M r = .ok M1 d) (hi : itmF d = some (us.map f)) : ev X (.enu a) M r = .ok M1 (.lst (us.zipIdx.map fun p => .tup [.int p.2, f p.1])) := by
  rw [ev, h, bind_ok', hi]
  show R.ok M1 (D.lst _) = _
  rw [List.zipIdx_map, List.map_map]; rfl
theorem e_zp {α β : Type} {us : List α} {vs : List β} {f : α → D} {g : β → D} (h : ev X a M r = .ok M1 d) (h2 : ev X b M1 r = .ok M2 y) (hi : itmF d = some (us.map f)) (hj : itmF y = some (vs.map g)) : ev X (.zp a b) M r = .ok M2 (.lst ((us.zip vs).map fun p => .tup [f p.1, g p.2])) := by
  rw [ev, h, bind_ok', h2, bind_ok', hi, hj]
  show R.ok M2 (D.lst _) = _
  rw [List.zip_map, List.map_map]; rfl
theorem e_rvL {α : Type} {us : List α} {f : α → D} (h : ev X a M r = .ok M1 (.lst (us.map f))) : ev X (.rvL a) M r = .ok M1 (.lst (us.reverse.map f)) := by
  rw [ev, h, bind_ok']
  show R.ok M1 (D.lst _) = _
  rw [List.map_reverse]
theorem e_bln {i : Int} (h : ev X a M r = .ok M1 (.int i)) : ev X (.bln a) M r = .ok M1 (.int (PySem.Builtin.Int.intBits i : Nat)) := by rw [ev, h, bind_ok']
theorem e_fs {p q : Cs} {i : Int} (h : ev X a M r = .ok M1 (.int i)) (hk : i.natAbs.log2 < 1920 ∧ p.length + (strI i).length + q.length ≤ lim ∧ (strI i).all (· < 0x110000) = true) : ev X (.fs p a q) M r = .ok M1 (.str (p ++ strI i ++ q)) := by
  rw [ev, h, bind_ok']
  exact if_pos hk
theorem rep_map {α : Type} {f : α → D} {x : List α} {k : Int} (h : -(9223372036854775808) ≤ k ∧ k < 9223372036854775808 ∧ x.length * k.toNat ≤ lim) : repD (.lst (x.map f)) (.int k) = some (.lst ((List.replicate k.toNat x).flatten.map f)) := by
  show (if _ then some (D.lst _) else none) = _
  rw [if_pos (by rw [List.length_map]; exact h), List.map_flatten, List.map_replicate]
theorem rep_one {x : D} {k : Int} (h : 0 ≤ k ∧ k ≤ 16777216) : repD (.lst [x]) (.int k) = some (.lst (List.replicate k.toNat x)) := by
  show (if _ then some (D.lst _) else none) = _
  rw [if_pos ⟨by omega, by omega, by show 1 * k.toNat ≤ 16777216; omega⟩]
  congr 2
  generalize k.toNat = n
  induction n with
  | zero => rfl
  | succ n ih => rw [List.replicate_succ, List.flatten_cons, ih, List.replicate_succ]; rfl
theorem e_rep (h : ev X a M r = .ok M1 x) (h2 : ev X b M1 r = .ok M2 y) (hz : repD x y = some z) : ev X (.rep a b) M r = .ok M2 z := by
  rw [ev, h, bind_ok', h2, bind_ok', hz]; rfl
def rgC (m n : Int) : List Int := (List.range (m - n).toNat).map fun (i : Nat) => m - (i : Int)
theorem e_rg3 {m n : Int} (h : ev X a M r = .ok M1 (.int m)) (h2 : ev X b M1 r = .ok M2 (.int n)) (hk : m < 16777216 ∧ -(16777216) ≤ n ∧ n ≤ m ∧ m - n < 16777216) : ev X (.rg3 a b (-1)) M r = .ok M2 (.lst ((rgC m n).map .int)) := by
  have : (rgC m n).map D.int = (List.range (m - n).toNat).map fun (i : Nat) => D.int (m - i) := by unfold rgC; rw [List.map_map]; rfl
  rw [this, ev, h, bind_ok', h2, bind_ok']
  exact if_pos ⟨rfl, hk⟩
theorem lcG2_map {α β : Type} {f : Mem → Nat → D → R (List D)} {M : Mem} {h : α → D} {vs : α → List β} {g : α → List D} : ∀ {us : List α} {k : Nat}, (∀ z ∈ us, (g z).length ≤ (vs z).length) → k + (us.flatMap vs).length ≤ lim → (∀ z ∈ us, ∀ k, k + (vs z).length ≤ lim → f M k (h z) = .ok M (g z)) → lcG2 f M k (us.map h) = .ok M (us.flatMap g)
  | [], _, _, _, _ => rfl
  | z :: us, k, hg, hl, hf => by
    rw [List.flatMap_cons, List.length_append] at hl
    have e := hf z List.mem_cons_self k (by omega)
    have lz := hg z List.mem_cons_self
    show (f M k (h z)).bind (fun M1 o => (lcG2 f M1 (k + o.length) (us.map h)).bind fun M2 r => .ok M2 (o ++ r)) = _
    rw [e, bind_ok', lcG2_map (vs := vs) (g := g) (us := us) (fun y hy => hg y (List.mem_cons_of_mem _ hy)) (by omega) (fun y hy => hf y (List.mem_cons_of_mem _ hy)), bind_ok', List.flatMap_cons]
theorem e_lc2m {α β : Type} {own own2 : List Nat} {elt it it2 : E} {pt pt2 : Pt} {us : List α} {f : α → D} {rr : α → En} {d2 : α → D} {vs : α → List β} {g0 : α → β → D} {rr2 : α → β → En} {g : α → β → D}
    (hit : ev X it M r = .ok M1 d) (hi : itms d = some (us.map f)) (hs : ∀ z, setPt pt (f z) (wipE r own) = some (rr z)) (h2 : ∀ z ∈ us, ev X it2 M1 (rr z) = .ok M1 (d2 z)) (hi2 : ∀ z, itms (d2 z) = some ((vs z).map (g0 z)))
    (hs2 : ∀ z y, setPt pt2 (g0 z y) (wipE (rr z) own2) = some (rr2 z y)) (he : ∀ z ∈ us, ∀ y ∈ vs z, ev X elt M1 (rr2 z y) = .ok M1 (g z y)) (hl : (us.flatMap vs).length ≤ lim) :
    ev X (.lc2 own own2 elt pt it pt2 it2 .nil) M r = .ok M1 (.lst (us.flatMap fun z => (vs z).map (g z))) := by
  rw [ev_lc2, hit, bind_ok', hi]
  show (lcG2 _ M1 0 (us.map f)).bind _ = _
  rw [lcG2_map (vs := vs) (g := fun z => (vs z).map (g z)) (fun z _ => by rw [List.length_map]; exact Nat.le_refl _) (by omega), bind_ok']
  intro z hz k hk
  unfold lcF2
  rw [hs]
  dsimp only
  rw [h2 z hz, noEr_ok', bind_ok', hi2]
  dsimp only
  rw [if_pos (by rw [List.length_map]; exact hk)]
  exact lcGo_mapA fun y hy => lcF_at (hs2 z y) (he z hz y hy)
theorem s_lset {i j : Nat} {k : Int} (hx : r[i]? = some (some (.ol xs))) (he : ev X e M r = .ok M1 x) (hk : ev X a M1 r = .ok M2 (.int k)) (hj : ixO xs.length k = some j) (h : ex X s M2 (r.set i (some (.ol (xs.set j x)))) = fl) : ex X (.seq (.lset i a e) s) M r = fl := by
  rw [ex, ex, hx]
  dsimp only
  rw [he, fOf_ok, hk, fOf_ok]
  dsimp only
  rw [hj]; exact h
theorem s_laug {i j : Nat} {k p : Int} {o : O2} (hx : r[i]? = some (some (.ol xs))) (hk : ev X a M r = .ok M1 (.int k)) (hj : ixO xs.length k = some j) (hp : xs[j]? = some (.int p)) (he : ev X e M1 r = .ok M2 y) (hb : binD M2 o (.int p) y = some z) (h : ex X s M2 (r.set i (some (.ol (xs.set j z)))) = fl) : ex X (.seq (.laug i a o e) s) M r = fl := by
  rw [ex, ex, hx]
  dsimp only
  rw [hk, fOf_ok]
  dsimp only
  rw [hj]
  dsimp only
  rw [hp]
  dsimp only
  rw [he, fOf_ok, hb]; exact h
theorem s_parO {i j : Nat} {o1 o2 : Bool} {p q : Sl} (ha : ev X a M r = .ok M1 x) (hb : ev X b M1 r = .ok M2 y) (h1 : slO o1 x = some p) (h2 : slO o2 y = some q) (h : ex X s M2 ((r.set i (some p)).set j (some q)) = fl) : ex X (.seq (.parO i j o1 o2 a b) s) M r = fl := by
  rw [ex, ex, ha, fOf_ok, hb, fOf_ok, h1, h2]; exact h
theorem msk_get : ∀ {is : List Nat} {i : Nat}, i ∈ is → i < r.length → (mskE r is)[i]? = some (mskS r[i]?)
  | j :: is, i, h, hl => by
    show ((mskE r is).set j (mskS r[j]?))[i]? = _
    have len : ∀ is : List Nat, (mskE r is).length = r.length := fun is => by
      induction is with
      | nil => show (r.map _).length = _; rw [List.length_map]
      | cons j is ih => show ((mskE r is).set j _).length = _; rw [List.length_set, ih]
    by_cases e : j = i
    · subst e
      rw [List.getElem?_set_self (by rw [len]; exact hl)]
    · rw [List.getElem?_set_ne e]
      rcases List.mem_cons.mp h with q | q
      · exact absurd q.symm e
      · exact msk_get q hl
theorem vsl_mskL {is : List Nat} {i : Nat} (h : i ∈ is) (hx : r[i]? = some (some (.ol xs))) (hf : Oc.hf 40 (.lst xs) = true) : vsl (mskE r is) i = some (.lst xs) := by
  unfold vsl
  rw [msk_get h (List.getElem?_eq_some_iff.mp hx).1, hx]
  show (match (some (if Oc.hf 40 (D.lst xs) = true then some (Sl.d (.lst xs)) else none) : Option (Option Sl)) with
    | some (some (.d x)) => some x
    | _ => none) = _
  rw [if_pos hf]
theorem vsl_mskD {is : List Nat} {i : Nat} (h : i ∈ is) (hx : r[i]? = some (some (.d x))) (hf : Oc.hf 40 x = true) : vsl (mskE r is) i = some x := by
  unfold vsl
  rw [msk_get h (List.getElem?_eq_some_iff.mp hx).1, hx]
  show (match (some (if Oc.hf 40 x = true then some (Sl.d x) else none) : Option (Option Sl)) with
    | some (some (.d x)) => some x
    | _ => none) = _
  rw [if_pos hf]
theorem hf_map {α : Type} {f : α → D} {us : List α} {n : Nat} (h : ∀ u ∈ us, Oc.hf n (f u) = true) : Oc.hf (n + 1) (.lst (us.map f)) = true := by
  show (us.map f).all (Oc.hf n) = true
  rw [List.all_map, List.all_eq_true]; exact h
theorem hf_mapT {α : Type} {f : α → D} {us : List α} {n : Nat} (h : ∀ u ∈ us, Oc.hf n (f u) = true) : Oc.hf (n + 1) (.tup (us.map f)) = true := by
  show (us.map f).all (Oc.hf n) = true
  rw [List.all_map, List.all_eq_true]; exact h
end
end Oc
namespace Oc
open PySem (Str)
section
variable {X : Fx} {M M1 M2 M3 : Mem} {r r1 r2 : En} {a b c e l : E} {x y z d : D} {xs fs : List D} {s u v : S} {fl : Fl} {k : Nat} {hs : List (Nat × Su)}
@[simp] theorem fx_exs (P : Pg) (n : Nat) : (P.fx n).exs = P.exs := rfl
@[simp] theorem retOf_er (M : Mem) (r : En) (k : Nat) (fs : List D) : retOf (.er M r k fs) = .er M k fs := rfl
theorem alk_map {α : Type} {f : α → D} {us : List α} (h1 : ∀ u, shp 8 (f u) = true) (h2 : ∀ u, notNon (f u) = true) (h3 : ∀ u v, PySem.W.alike (toP (f u)) (toP (f v)) = true) : alkOk (us.map f) = true := by
  unfold alkOk
  simp only [Bool.and_eq_true]
  refine ⟨⟨?_, ?_⟩, ?_⟩
  · rw [List.all_map, List.all_eq_true]; exact fun u _ => h1 u
  · rw [List.all_map, List.all_eq_true]; exact fun u _ => h2 u
  · rw [List.all_map, List.all_eq_true]
    intro u _
    show (us.map f).all _ = true
    rw [List.all_map, List.all_eq_true]
    exact fun v _ => h3 u v
theorem alk_strs (us : List Cs) : alkOk (us.map .str) = true := alk_map (fun _ => rfl) (fun _ => rfl) (fun _ _ => by simp only [toP, PySem.W.alike])
theorem srt_strs (us : List Cs) : srtOk (us.map .str) = true := by
  unfold srtOk
  rw [alk_strs, Bool.true_and]
  rw [Bool.or_eq_true]; right
  rw [List.all_map, List.all_eq_true]; exact fun _ _ => rfl
theorem ltO_str (i j : Cs) : ltO (.str i) (.str j) = decide (i < j) := by
  have := PySem.W.dataLt_str (csS i) (csS j)
  unfold ltO
  simp only [toP]
  rw [this]
  exact decide_eq_decide.mpr (Iff.of_eq (by simp [csS]))
theorem leO_eq (a b : D) : leO a b = !ltO b a := rfl
theorem sort_map {α : Type} {f : α → D} {le : α → α → Bool} (h : ∀ u v, leO (f u) (f v) = le u v) (us : List α) : (us.map f).mergeSort leO = (us.mergeSort le).map f := by
  symm
  exact List.map_mergeSort fun a _ b _ => by rw [h]
theorem bi_sortedS (M : Mem) (us : List Cs) : biD M .sorted [.lst (us.map .str)] = some (.lst ((us.mergeSort fun a b => decide (a ≤ b)).map .str)) := by
  show (if srtOk (us.map .str) then some (D.lst ((us.map .str).mergeSort leO)) else none) = _
  rw [srt_strs, if_pos rfl, sort_map (f := D.str) (le := fun a b => decide (a ≤ b))]
  intro u v
  rw [leO_eq, ltO_str]
  by_cases h : v < u
  · rw [decide_eq_true h, decide_eq_false (by exact fun z => absurd h (List.not_lt.mpr z))]; rfl
  · rw [decide_eq_false h, decide_eq_true (List.not_lt.mp h)]; rfl
end
end Oc
namespace Oc
open L2 PySem PySem.Spec PyProof.Rows
theorem walk_tabs {l : PySem.W.OpenLaw} {n k : Nat} {q : Program} {loose : List Str} {XP : (Str → Option Value) → Heap → Prop} {YP : World → Heap → Prop} {d : DefRec} {K : Params → PySem.W.Frag} {CX : World → CXT} {x : Str} (hn : l.most = some n) (hn2 : n ≤ sizeLine) (hdf : d.params.defaults = []) (hr : Room k callerA) (names : List Str)
    (hrec : (names.all fun y => (recsOf q).any fun e => e.name == y) = true) (hY : ∀ (w : World) (h : Heap), YP w h → (K w.params).In h)
    (F : ∀ (w : World) (mg : Str → Option Value) (fa : Addr) (h : Heap), (K w.params).In h → h.Ns mainGlobals mg → mg d.name = some (.ref fa) → (∀ y ∈ names, ∀ f, mg y = some (.ref f) → LamX.OwnTab (K w.params) f h) → LamX.LawAtS l w (K w.params) (CX w) k n x mg fa h)
    (hCX : ∀ (w : World) (H : Hp) (s : Shared) (e : Value) (s' : Shared), CX w [] H s (fun _ _ _ => False) e s' → False) : PySem.W.WalkO q loose XP YP l.row.toRowW d [] (fun f vs => PySem.call f vs) := by
  refine Att.attach_callB hn hdf fun w _ s1 mg mb fa _ _ _ _ a vs ns G Y _ _ _ hmg hobj hints hlen hbits hg => ?_
  have KX := hY w _ Y
  obtain ⟨fd, cs, sp, b1, b2, b3, b4, b5, b6⟩ := F w mg fa _ KX G.T.g hmg fun y hy f hf c Pt o fd e dd us sl k1 k2 k3 k4 k5 => by
    obtain ⟨dL, hm, hn1⟩ := List.any_eq_true.mp (List.all_eq_true.mp hrec y hy)
    have en : dL.name = y := beq_iff_eq.mp hn1
    obtain ⟨a1, o1, fd1, c1, P1, h1, h2, h3, h4, _, h6⟩ := G.T.tab dL hm
    rw [en, hf] at h1; cases h1
    rw [KX _ _ k1] at h2; cases h2
    rw [k2] at h3; cases h3
    rw [k3] at h4; cases h4
    obtain ⟨⟨oc, vc, e1, _, e3, e4⟩, hP⟩ := h6
    rw [KX _ _ k4] at e1; cases e1
    cases e3
    rw [k5] at e4; cases e4
    exact hP
  exact LamX.law_callTs KX G.T.g G.T.b G.T.builtins G.T.nolimit hg b1 b2 b3 G.T.bmain hobj hints (Nat.le_trans hlen hn2) hr b6 b4 (fun H hH hS => b5 H a ns hlen hbits hH hS) fun H e s' => hCX w H s1 e s'
/-- a code object's head, told of the object alone -/
theorem hd_of {K : PySem.W.Frag} {c P : Addr} {o : Obj} (u : K.lookup c = some o) (h : PySem.W.codeHdIn [(c, o)] c P = true) : PySem.W.codeHdIn K c P = true := by
  have e : List.lookup c [(c, o)] = some o := by simp
  unfold PySem.W.codeHdIn at h ⊢
  rw [e] at h
  rw [u]
  exact h
end Oc
namespace Oc
open L2 PySem PySem.Spec PyProof.Rows
def tp (i : Nat) : Stmt := PySem.Challenge.pw_oncounts_k15_questions_refused.main.body.getD i (.Pass ⟨0, 0, 0, 0⟩)
abbrev f_wall : Nat := 0
abbrev f_is_integer : Nat := 1
abbrev f_is_from : Nat := 2
abbrev f_Gate_init : Nat := 3
abbrev f_Gate_weights : Nat := 4
abbrev f_Gate_bar : Nat := 5
abbrev f_Gate_eq : Nat := 6
abbrev f_check_gate : Nat := 7
abbrev f_check_table : Nat := 8
abbrev f_inputs_of : Nat := 9
abbrev f_is_on : Nat := 10
abbrev f_sums_of : Nat := 11
abbrev f_table_by : Nat := 12
abbrev f_table : Nat := 13
abbrev f_rows_saying : Nat := 14
abbrev f_together : Nat := 15
abbrev f_pairs_of : Nat := 16
abbrev f_against_by : Nat := 17
abbrev f_against : Nat := 18
abbrev f_is_weighed : Nat := 19
abbrev f_all_weights : Nat := 20
abbrev f_nearest_bar : Nat := 21
abbrev f_least_gate : Nat := 22
abbrev f_counts_of : Nat := 23
abbrev f_counts : Nat := 24
abbrev f_check_counts : Nat := 25
abbrev f_row_counts : Nat := 26
abbrev f_plus : Nat := 27
abbrev f_minus : Nat := 28
abbrev f_endings : Nat := 29
abbrev f_many_by : Nat := 30
abbrev f_many : Nat := 31
abbrev f_kth_by : Nat := 32
abbrev f_kth : Nat := 33
abbrev f_weighed : Nat := 34
abbrev f_gate_by : Nat := 35
abbrev f_alike : Nat := 36
abbrev f_check_inputs : Nat := 37
abbrev f_gates : Nat := 38
abbrev f_nth : Nat := 39
abbrev f_check_weighed : Nat := 40
abbrev f_place : Nat := 41
abbrev f_next_counts : Nat := 42
abbrev f_is_between : Nat := 43
abbrev f_within : Nat := 44
abbrev f_is_row : Nat := 45
abbrev f_check_seen : Nat := 46
abbrev f_says_so : Nat := 47
abbrev f_fitting_tables : Nat := 48
abbrev f_fitting : Nat := 49
abbrev f_word_by : Nat := 50
abbrev f_word : Nat := 51
abbrev f_ask : Nat := 52
abbrev f_turned : Nat := 53
abbrev f_telling : Nat := 54
abbrev f_Panel_init : Nat := 55
abbrev f_power : Nat := 62
abbrev f_powers : Nat := 63
abbrev f_order : Nat := 64
abbrev f_check_tables : Nat := 65
abbrev f_both : Nat := 66
abbrev f_either : Nat := 67
abbrev f_contrary : Nat := 68
abbrev f_fed : Nat := 69
abbrev f_is_within : Nat := 70
abbrev f_between : Nat := 71
abbrev f_write_gate : Nat := 72
abbrev f_law_mix : Nat := 73
abbrev f_law_next : Nat := 74
abbrev f_law_first : Nat := 75
abbrev f_law_ask : Nat := 76
abbrev f_law_told : Nat := 77
abbrev f_law_good_one : Nat := 78
abbrev f_law_bad_one : Nat := 79
abbrev f_law : Nat := 80
abbrev b_wall_0 : S := (.seq .pass
    .nil)
abbrev bd_wall : S := (.seq (.whl 18446744073709551616 (.bl true) b_wall_0)
    .nil)
def d_wall : Df := ⟨"_wall", 1, ["k"], bd_wall⟩
abbrev bd_is_integer : S := (.seq (.ret (.and (.isi (.vr 0) .int) (.not (.isi (.vr 0) .bool))))
    .nil)
def d_is_integer : Df := ⟨"is_integer", 1, ["value"], bd_is_integer⟩
abbrev bd_is_from : S := (.seq (.ret (.and (.cal f_is_integer (.cons (.vr 0) .nil)) (.chn .le .le (.vr 1) (.vr 0) (.vr 2))))
    .nil)
def d_is_from : Df := ⟨"is_from", 3, ["value", "low", "high"], bd_is_from⟩
abbrev b_Gate_init_0 : S := (.seq (.ife (.not (.cal f_is_from (.cons (.vr 3) (.cons (.neg (.gi "MOST_WEIGHT" 50)) (.cons (.gi "MOST_WEIGHT" 50) .nil)))))
    (.seq (.rse 100 .nil)
    .nil)
    .nil)
    .nil)
abbrev t_Gate_init_3 : S := (.seq (.fset (.vr 0) "held" (.tup (.cons (.vr 1) (.cons (.vr 2) .nil))))
    .nil)
abbrev t_Gate_init_2 : S := (.seq (.ife (.not (.cal f_is_from (.cons (.vr 2) (.cons (.neg (.gi "MOST_BAR" 200)) (.cons (.gi "MOST_BAR" 200) .nil)))))
    (.seq (.rse 101 .nil)
    .nil)
    .nil)
    t_Gate_init_3)
abbrev t_Gate_init_1 : S := (.seq (.forr (.nm 3) (.vr 1) b_Gate_init_0)
    t_Gate_init_2)
abbrev bd_Gate_init : S := (.seq (.ife (.or (.not (.isi (.vr 1) .tuple)) (.not (.chn .le .le (.int 1) (.bi .len (.cons (.vr 1) .nil)) (.gi "MOST_INPUTS" 4))))
    (.seq (.rse 100 .nil)
    .nil)
    .nil)
    t_Gate_init_1)
def d_Gate_init : Df := ⟨"__init__", 3, ["self", "weights", "bar", "weight"], bd_Gate_init⟩
abbrev bd_Gate_weights : S := (.seq (.ret (.sub (.fld (.vr 0) "held") (.int 0)))
    .nil)
def d_Gate_weights : Df := ⟨"weights", 1, ["self"], bd_Gate_weights⟩
abbrev bd_Gate_bar : S := (.seq (.ret (.sub (.fld (.vr 0) "held") (.int 1)))
    .nil)
def d_Gate_bar : Df := ⟨"bar", 1, ["self"], bd_Gate_bar⟩
abbrev bd_Gate_eq : S := (.seq (.ret (.and (.isi (.vr 1) (.own 0)) (.cmp .eq (.fld (.vr 0) "held") (.fld (.vr 1) "held"))))
    .nil)
def d_Gate_eq : Df := ⟨"__eq__", 2, ["self", "other"], bd_Gate_eq⟩
abbrev bd_check_gate : S := (.seq (.ife (.not (.isi (.vr 0) (.own 0)))
    (.seq (.rse 102 .nil)
    .nil)
    .nil)
    .nil)
def d_check_gate : Df := ⟨"check_gate", 1, ["value"], bd_check_gate⟩
abbrev b_check_table_0 : S := (.seq (.ife (.cmp .nin (.vr 1) (.str [48, 49]))
    (.seq (.rse 103 .nil)
    .nil)
    .nil)
    .nil)
abbrev t_check_table_1 : S := (.seq (.forr (.nm 1) (.vr 0) b_check_table_0)
    .nil)
abbrev bd_check_table : S := (.seq (.ife (.or (.not (.isi (.vr 0) .str)) (.cmp .nin (.bi .len (.cons (.vr 0) .nil)) (.tup (.cons (.int 2) (.cons (.int 4) (.cons (.int 8) (.cons (.int 16) .nil)))))))
    (.seq (.rse 103 .nil)
    .nil)
    .nil)
    t_check_table_1)
def d_check_table : Df := ⟨"check_table", 1, ["value", "sign"], bd_check_table⟩
abbrev bd_inputs_of : S := (.seq (.ret (.bin .sub (.bln (.bi .len (.cons (.vr 0) .nil))) (.int 1)))
    .nil)
def d_inputs_of : Df := ⟨"inputs_of", 1, ["table"], bd_inputs_of⟩
abbrev bd_is_on : S := (.seq (.ret (.cmp .eq (.bin .band (.bin .shr (.vr 0) (.vr 1)) (.int 1)) (.int 1)))
    .nil)
def d_is_on : Df := ⟨"is_on", 2, ["row", "i"], bd_is_on⟩
abbrev q_sums_of_0 : E := .lc [3] (.bin .add (.vr 3) (.vr 2)) (.nm 3) (.vr 1) .nil
abbrev b_sums_of_0 : S := (.seq (.set 1 (.bin .add (.vr 1) q_sums_of_0))
    .nil)
abbrev t_sums_of_2 : S := (.seq (.ret (.vr 1))
    .nil)
abbrev t_sums_of_1 : S := (.seq (.forr (.nm 2) (.vr 0) b_sums_of_0)
    t_sums_of_2)
abbrev bd_sums_of : S := (.seq (.set 1 (.lst (.cons (.int 0) .nil)))
    t_sums_of_1)
def d_sums_of : Df := ⟨"sums_of", 1, ["weights", "sums", "weight", "old"], bd_sums_of⟩
abbrev q_table_by_0 : E := .lc [2] (.bi .str (.cons (.bi .int (.cons (.cmp .ge (.vr 2) (.vr 1)) .nil)) .nil)) (.nm 2) (.vr 0) .nil
abbrev bd_table_by : S := (.seq (.ret (.me .join (.str []) (.cons q_table_by_0 .nil)))
    .nil)
def d_table_by : Df := ⟨"table_by", 2, ["sums", "bar", "one"], bd_table_by⟩
abbrev t_table_1 : S := (.seq (.ret (.cal f_table_by (.cons (.cal f_sums_of (.cons (.prp (.vr 0) f_Gate_weights 0) .nil)) (.cons (.prp (.vr 0) f_Gate_bar 0) .nil))))
    .nil)
abbrev bd_table : S := (.seq (.drop (.cal f_check_gate (.cons (.vr 0) .nil)))
    t_table_1)
def d_table : Df := ⟨"table", 1, ["gate"], bd_table⟩
abbrev q_rows_saying_0 : E := .lc [2, 3] (.vr 2) (.tp [2, 3]) (.enu (.vr 0)) (.cmp .eq (.vr 3) (.vr 1))
abbrev bd_rows_saying : S := (.seq (.ret q_rows_saying_0)
    .nil)
def d_rows_saying : Df := ⟨"rows_saying", 2, ["table", "sign", "row", "own"], bd_rows_saying⟩
abbrev q_together_0 : E := .lc [3] (.bin .add (.bi .int (.cons (.cal f_is_on (.cons (.vr 0) (.cons (.vr 3) .nil))) .nil)) (.bi .int (.cons (.cal f_is_on (.cons (.vr 1) (.cons (.vr 3) .nil))) .nil))) (.nm 3) (.rg1 (.vr 2)) .nil
abbrev bd_together : S := (.seq (.ret (.bi .tuple (.cons q_together_0 .nil)))
    .nil)
def d_together : Df := ⟨"together", 3, ["one", "other", "inputs", "i"], bd_together⟩
abbrev b_pairs_of_0 : S := (.seq (.app 2 (.tup (.cons (.vr 4) (.cons (.vr 5) (.cons (.cal f_together (.cons (.vr 4) (.cons (.vr 5) (.cons (.vr 1) .nil)))) .nil)))))
    .nil)
abbrev b_pairs_of_1 : S := (.seq (.forr (.nm 5) (.slc (.vr 0) (.bin .add (.vr 3) (.int 1)) .nil) b_pairs_of_0)
    .nil)
abbrev t_pairs_of_3 : S := (.seq (.ret (.vr 2))
    .nil)
abbrev t_pairs_of_2 : S := (.seq (.frz 2)
    t_pairs_of_3)
abbrev t_pairs_of_1 : S := (.seq (.forr (.tp [3, 4]) (.enu (.vr 0)) b_pairs_of_1)
    t_pairs_of_2)
abbrev bd_pairs_of : S := (.seq (.setO 2 (.lst .nil))
    t_pairs_of_1)
def d_pairs_of : Df := ⟨"pairs_of", 2, ["rows", "inputs", "found", "place", "one", "other"], bd_pairs_of⟩
abbrev b_against_by_0 : S := (.seq (.ife (.cmp .eq (.vr 5) (.vr 8))
    (.seq (.ret (.tup (.cons (.vr 3) (.cons (.vr 4) (.cons (.vr 6) (.cons (.vr 7) .nil))))))
    .nil)
    .nil)
    .nil)
abbrev b_against_by_1 : S := (.seq (.forr (.tp [6, 7, 8]) (.vr 2) b_against_by_0)
    .nil)
abbrev t_against_by_3 : S := (.seq (.ret .non)
    .nil)
abbrev t_against_by_2 : S := (.seq (.forr (.tp [3, 4, 5]) (.cal f_pairs_of (.cons (.cal f_rows_saying (.cons (.vr 0) (.cons (.str [49]) .nil))) (.cons (.vr 1) .nil))) b_against_by_1)
    t_against_by_3)
abbrev t_against_by_1 : S := (.seq (.set 2 (.cal f_pairs_of (.cons (.cal f_rows_saying (.cons (.vr 0) (.cons (.str [48]) .nil))) (.cons (.vr 1) .nil))))
    t_against_by_2)
abbrev bd_against_by : S := (.seq (.set 1 (.cal f_inputs_of (.cons (.vr 0) .nil)))
    t_against_by_1)
def d_against_by : Df := ⟨"against_by", 1, ["table", "inputs", "refused", "a", "b", "often", "c", "d", "other"], bd_against_by⟩
abbrev t_against_1 : S := (.seq (.ret (.cal f_against_by (.cons (.vr 0) .nil)))
    .nil)
abbrev bd_against : S := (.seq (.drop (.cal f_check_table (.cons (.vr 0) .nil)))
    t_against_1)
def d_against : Df := ⟨"against", 1, ["table"], bd_against⟩
abbrev bd_is_weighed : S := (.seq (.ret (.cmp .is (.cal f_against_by (.cons (.vr 0) .nil)) .non))
    .nil)
def d_is_weighed : Df := ⟨"is_weighed", 1, ["table"], bd_is_weighed⟩
abbrev q_all_weights_0 : E := .lc2 [3, 4] [4] (.bin .add (.vr 3) (.tup (.cons (.vr 4) .nil))) (.nm 3) (.vr 1) (.nm 4) (.rg2 (.neg (.gi "LEAST_GATES" 3)) (.bin .add (.gi "LEAST_GATES" 3) (.int 1))) .nil
abbrev b_all_weights_0 : S := (.seq (.set 1 q_all_weights_0)
    .nil)
abbrev t_all_weights_2 : S := (.seq (.ret (.srk (.vr 1)))
    .nil)
abbrev t_all_weights_1 : S := (.seq (.forr (.nm 2) (.rg1 (.vr 0)) b_all_weights_0)
    t_all_weights_2)
abbrev bd_all_weights : S := (.seq (.set 1 (.lst (.cons (.tup .nil) .nil)))
    t_all_weights_1)
def d_all_weights : Df := ⟨"all_weights", 1, ["inputs", "found", "i", "old", "weight"], bd_all_weights⟩
abbrev q_nearest_bar_0 : E := .lc [2, 3] (.vr 2) (.tp [2, 3]) (.zp (.vr 0) (.vr 1)) (.cmp .eq (.vr 3) (.str [49]))
abbrev q_nearest_bar_1 : E := .lc [2, 3] (.vr 2) (.tp [2, 3]) (.zp (.vr 0) (.vr 1)) (.cmp .eq (.vr 3) (.str [48]))
abbrev t_nearest_bar_7 : S := (.seq (.ret (.bi .max2 (.cons (.vr 7) (.cons (.bi .min2 (.cons (.vr 6) (.cons (.int 0) .nil))) .nil))))
    .nil)
abbrev t_nearest_bar_6 : S := (.seq (.ife (.cmp .gt (.vr 7) (.vr 6))
    (.seq (.ret .non)
    .nil)
    .nil)
    t_nearest_bar_7)
abbrev t_nearest_bar_5 : S := (.seq (.set 7 (.bin .add (.bi .maxL (.cons (.vr 5) .nil)) (.int 1)))
    t_nearest_bar_6)
abbrev t_nearest_bar_4 : S := (.seq (.ife (.not (.vr 5))
    (.seq (.ret (.bi .min2 (.cons (.vr 6) (.cons (.int 0) .nil))))
    .nil)
    .nil)
    t_nearest_bar_5)
abbrev t_nearest_bar_3 : S := (.seq (.set 6 (.bi .minL (.cons (.vr 4) .nil)))
    t_nearest_bar_4)
abbrev t_nearest_bar_2 : S := (.seq (.ife (.not (.vr 4))
    (.seq (.ret (.bi .max2 (.cons (.bin .add (.bi .maxL (.cons (.vr 5) .nil)) (.int 1)) (.cons (.int 0) .nil))))
    .nil)
    .nil)
    t_nearest_bar_3)
abbrev t_nearest_bar_1 : S := (.seq (.set 5 q_nearest_bar_1)
    t_nearest_bar_2)
abbrev bd_nearest_bar : S := (.seq (.set 4 q_nearest_bar_0)
    t_nearest_bar_1)
def d_nearest_bar : Df := ⟨"nearest_bar", 2, ["sums", "table", "one", "sign", "passing", "failing", "high", "low"], bd_nearest_bar⟩
abbrev b_least_gate_0 : S := (.seq (.set 2 (.cal f_nearest_bar (.cons (.cal f_sums_of (.cons (.vr 1) .nil)) (.cons (.vr 0) .nil))))
    (.seq (.ife (.cmp .isN (.vr 2) .non)
    (.seq (.ret (.mk 0 (.cons (.vr 1) (.cons (.vr 2) .nil))))
    .nil)
    .nil)
    .nil))
abbrev t_least_gate_3 : S := (.seq (.ret .non)
    .nil)
abbrev t_least_gate_2 : S := (.seq (.forr (.nm 1) (.cal f_all_weights (.cons (.cal f_inputs_of (.cons (.vr 0) .nil)) .nil)) b_least_gate_0)
    t_least_gate_3)
abbrev t_least_gate_1 : S := (.seq (.ife (.not (.cal f_is_weighed (.cons (.vr 0) .nil)))
    (.seq (.ret .non)
    .nil)
    .nil)
    t_least_gate_2)
abbrev bd_least_gate : S := (.seq (.drop (.cal f_check_table (.cons (.vr 0) .nil)))
    t_least_gate_1)
def d_least_gate : Df := ⟨"least_gate", 1, ["table", "weights", "bar"], bd_least_gate⟩
abbrev q_counts_of_0 : E := .lc [1, 2] (.vr 1) (.tp [1, 2]) (.enu (.vr 0)) (.cmp .eq (.vr 2) (.str [49]))
abbrev q_counts_of_1 : E := .lc [1] (.vr 1) (.nm 1) (.vr 3) (.cal f_is_on (.cons (.vr 1) (.cons (.vr 5) .nil)))
abbrev b_counts_of_0 : S := (.seq (.app 4 (.bi .len (.cons q_counts_of_1 .nil)))
    .nil)
abbrev t_counts_of_4 : S := (.seq (.ret (.bi .tuple (.cons (.vr 4) .nil)))
    .nil)
abbrev t_counts_of_3 : S := (.seq (.frz 4)
    t_counts_of_4)
abbrev t_counts_of_2 : S := (.seq (.forr (.nm 5) (.rg1 (.cal f_inputs_of (.cons (.vr 0) .nil))) b_counts_of_0)
    t_counts_of_3)
abbrev t_counts_of_1 : S := (.seq (.setO 4 (.lst (.cons (.bi .len (.cons (.vr 3) .nil)) .nil)))
    t_counts_of_2)
abbrev bd_counts_of : S := (.seq (.set 3 q_counts_of_0)
    t_counts_of_1)
def d_counts_of : Df := ⟨"counts_of", 1, ["table", "row", "sign", "rows", "found", "i"], bd_counts_of⟩
abbrev t_counts_1 : S := (.seq (.ret (.cal f_counts_of (.cons (.vr 0) .nil)))
    .nil)
abbrev bd_counts : S := (.seq (.drop (.cal f_check_table (.cons (.vr 0) .nil)))
    t_counts_1)
def d_counts : Df := ⟨"counts", 1, ["table"], bd_counts⟩
abbrev b_check_counts_0 : S := (.seq (.ife (.not (.cal f_is_from (.cons (.vr 1) (.cons (.int 0) (.cons (.bin .shl (.int 1) (.bin .sub (.bi .len (.cons (.vr 0) .nil)) (.int 1))) .nil)))))
    (.seq (.rse 104 .nil)
    .nil)
    .nil)
    .nil)
abbrev t_check_counts_1 : S := (.seq (.forr (.nm 1) (.vr 0) b_check_counts_0)
    .nil)
abbrev bd_check_counts : S := (.seq (.ife (.or (.not (.isi (.vr 0) .tuple)) (.not (.chn .le .le (.int 2) (.bi .len (.cons (.vr 0) .nil)) (.bin .add (.gi "MOST_INPUTS" 4) (.int 1)))))
    (.seq (.rse 104 .nil)
    .nil)
    .nil)
    t_check_counts_1)
def d_check_counts : Df := ⟨"check_counts", 1, ["value", "one"], bd_check_counts⟩
abbrev q_row_counts_0 : E := .lc [2] (.bi .int (.cons (.cal f_is_on (.cons (.vr 0) (.cons (.vr 2) .nil))) .nil)) (.nm 2) (.rg1 (.vr 1)) .nil
abbrev bd_row_counts : S := (.seq (.ret (.bin .add (.tup (.cons (.int 1) .nil)) (.bi .tuple (.cons q_row_counts_0 .nil))))
    .nil)
def d_row_counts : Df := ⟨"row_counts", 2, ["row", "inputs", "i"], bd_row_counts⟩
abbrev q_plus_0 : E := .lc [2, 3] (.bin .add (.vr 2) (.vr 3)) (.tp [2, 3]) (.zp (.vr 0) (.vr 1)) .nil
abbrev bd_plus : S := (.seq (.ret (.bi .tuple (.cons q_plus_0 .nil)))
    .nil)
def d_plus : Df := ⟨"plus", 2, ["one", "other", "a", "b"], bd_plus⟩
abbrev q_minus_0 : E := .lc [2, 3] (.bin .sub (.vr 2) (.vr 3)) (.tp [2, 3]) (.zp (.vr 0) (.vr 1)) .nil
abbrev bd_minus : S := (.seq (.ret (.bi .tuple (.cons q_minus_0 .nil)))
    .nil)
def d_minus : Df := ⟨"minus", 2, ["one", "other", "a", "b"], bd_minus⟩
abbrev b_endings_0 : S := (.seq (.set 6 (.cal f_plus (.cons (.vr 5) (.cons (.vr 3) .nil))))
    (.seq (.dset 4 (.vr 6) (.bin .add (.brw [4, 6] (.me .get2 (.vr 4) (.cons (.vr 6) (.cons (.int 0) .nil)))) (.sub (.sub (.vr 1) (.int 0)) (.vr 5))))
    .nil))
abbrev b_endings_1 : S := (.seq (.set 3 (.cal f_row_counts (.cons (.vr 2) (.cons (.vr 0) .nil))))
    (.seq (.setO 4 (.dcp false (.sub (.vr 1) (.int 0))))
    (.seq (.forr (.nm 5) (.sub (.vr 1) (.int 0)) b_endings_0)
    (.seq (.frz 4)
    (.seq (.set 1 (.bin .add (.lst (.cons (.vr 4) .nil)) (.vr 1)))
    .nil)))))
abbrev t_endings_2 : S := (.seq (.ret (.vr 1))
    .nil)
abbrev t_endings_1 : S := (.seq (.forr (.nm 2) (.rvR (.bin .shl (.int 1) (.vr 0))) b_endings_1)
    t_endings_2)
abbrev bd_endings : S := (.seq (.set 1 (.lst (.cons (.ds1 true true (.bin .mul (.tup (.cons (.int 0) .nil)) (.bin .add (.vr 0) (.int 1))) (.int 1)) .nil)))
    t_endings_1)
def d_endings : Df := ⟨"endings", 1, ["inputs", "found", "row", "own", "ways", "old", "new"], bd_endings⟩
abbrev bd_many_by : S := (.seq (.ret (.me .get2 (.sub (.vr 0) (.int 0)) (.cons (.vr 1) (.cons (.int 0) .nil))))
    .nil)
def d_many_by : Df := ⟨"many_by", 2, ["ways", "counts"], bd_many_by⟩
abbrev t_many_1 : S := (.seq (.ret (.cal f_many_by (.cons (.cal f_endings (.cons (.bin .sub (.bi .len (.cons (.vr 0) .nil)) (.int 1)) .nil)) (.cons (.vr 0) .nil))))
    .nil)
abbrev bd_many : S := (.seq (.drop (.cal f_check_counts (.cons (.vr 0) .nil)))
    t_many_1)
def d_many : Df := ⟨"many", 1, ["counts"], bd_many⟩
abbrev b_kth_by_0 : S := (.seq (.set 7 (.me .get2 (.sub (.vr 0) (.bin .add (.vr 6) (.int 1))) (.cons (.vr 5) (.cons (.int 0) .nil))))
    (.seq (.ife (.cmp .lt (.vr 2) (.vr 7))
    (.seq (.app 4 (.str [48]))
    .nil)
    (.seq (.aug 2 .sub (.vr 7))
    (.seq (.app 4 (.str [49]))
    (.seq (.set 5 (.cal f_minus (.cons (.vr 5) (.cons (.cal f_row_counts (.cons (.vr 6) (.cons (.vr 3) .nil))) .nil))))
    .nil))))
    .nil))
abbrev t_kth_by_5 : S := (.seq (.ret (.me .join (.str []) (.cons (.vr 4) .nil)))
    .nil)
abbrev t_kth_by_4 : S := (.seq (.frz 4)
    t_kth_by_5)
abbrev t_kth_by_3 : S := (.seq (.forr (.nm 6) (.rg1 (.bin .shl (.int 1) (.vr 3))) b_kth_by_0)
    t_kth_by_4)
abbrev t_kth_by_2 : S := (.seq (.set 5 (.vr 1))
    t_kth_by_3)
abbrev t_kth_by_1 : S := (.seq (.setO 4 (.lst .nil))
    t_kth_by_2)
abbrev bd_kth_by : S := (.seq (.set 3 (.bin .sub (.bi .len (.cons (.vr 1) .nil)) (.int 1)))
    t_kth_by_1)
def d_kth_by : Df := ⟨"kth_by", 3, ["ways", "counts", "k", "inputs", "signs", "left", "row", "without"], bd_kth_by⟩
abbrev t_kth_3 : S := (.seq (.ret (.cal f_kth_by (.cons (.vr 2) (.cons (.vr 0) (.cons (.vr 1) .nil)))))
    .nil)
abbrev t_kth_2 : S := (.seq (.ife (.or (.not (.cal f_is_integer (.cons (.vr 1) .nil))) (.not (.chn .le .lt (.int 0) (.vr 1) (.cal f_many_by (.cons (.vr 2) (.cons (.vr 0) .nil))))))
    (.seq (.rse 105 .nil)
    .nil)
    .nil)
    t_kth_3)
abbrev t_kth_1 : S := (.seq (.set 2 (.cal f_endings (.cons (.bin .sub (.bi .len (.cons (.vr 0) .nil)) (.int 1)) .nil)))
    t_kth_2)
abbrev bd_kth : S := (.seq (.drop (.cal f_check_counts (.cons (.vr 0) .nil)))
    t_kth_1)
def d_kth : Df := ⟨"kth", 2, ["counts", "k", "ways"], bd_kth⟩
abbrev b_weighed_0 : S := (.seq (.set 6 (.cal f_table_by (.cons (.vr 4) (.cons (.vr 5) .nil))))
    (.seq (.ife (.brw [2, 6] (.cmp .nin (.vr 6) (.vr 2)))
    (.seq (.dset 2 (.vr 6) (.bl true))
    (.seq (.dset 1 (.cal f_counts_of (.cons (.vr 6) .nil)) (.vr 6))
    .nil))
    .nil)
    .nil))
abbrev b_weighed_1 : S := (.seq (.set 4 (.cal f_sums_of (.cons (.vr 3) .nil)))
    (.seq (.forr (.nm 5) (.srs (.bin .add (.vr 4) (.lst (.cons (.bin .add (.bi .maxL (.cons (.vr 4) .nil)) (.int 1)) .nil)))) b_weighed_0)
    .nil))
abbrev t_weighed_4 : S := (.seq (.ret (.vr 1))
    .nil)
abbrev t_weighed_3 : S := (.seq (.frz 1)
    t_weighed_4)
abbrev t_weighed_2 : S := (.seq (.forr (.nm 3) (.cal f_all_weights (.cons (.vr 0) .nil)) b_weighed_1)
    t_weighed_3)
abbrev t_weighed_1 : S := (.seq (.setO 2 .dnk)
    t_weighed_2)
abbrev bd_weighed : S := (.seq (.setO 1 .dnt)
    t_weighed_1)
def d_weighed : Df := ⟨"weighed", 1, ["inputs", "found", "seen", "weights", "sums", "bar", "table"], bd_weighed⟩
abbrev t_gate_by_1 : S := (.seq (.ret (.me .get1 (.cal f_weighed (.cons (.bin .sub (.bi .len (.cons (.vr 0) .nil)) (.int 1)) .nil)) (.cons (.vr 0) .nil)))
    .nil)
abbrev bd_gate_by : S := (.seq (.drop (.cal f_check_counts (.cons (.vr 0) .nil)))
    t_gate_by_1)
def d_gate_by : Df := ⟨"gate_by", 1, ["counts"], bd_gate_by⟩
abbrev b_alike_0 : S := (.seq (.set 4 (.cal f_kth_by (.cons (.vr 2) (.cons (.vr 1) (.cons (.vr 3) .nil)))))
    (.seq (.ife (.cmp .ne (.vr 4) (.vr 0))
    (.seq (.ret (.vr 4))
    .nil)
    .nil)
    .nil))
abbrev t_alike_4 : S := (.seq (.ret .non)
    .nil)
abbrev t_alike_3 : S := (.seq (.forr (.nm 3) (.rg1 (.bi .min2 (.cons (.int 2) (.cons (.cal f_many_by (.cons (.vr 2) (.cons (.vr 1) .nil))) .nil)))) b_alike_0)
    t_alike_4)
abbrev t_alike_2 : S := (.seq (.set 2 (.cal f_endings (.cons (.cal f_inputs_of (.cons (.vr 0) .nil)) .nil)))
    t_alike_3)
abbrev t_alike_1 : S := (.seq (.set 1 (.cal f_counts_of (.cons (.vr 0) .nil)))
    t_alike_2)
abbrev bd_alike : S := (.seq (.drop (.cal f_check_table (.cons (.vr 0) .nil)))
    t_alike_1)
def d_alike : Df := ⟨"alike", 1, ["table", "own", "ways", "k", "other"], bd_alike⟩
abbrev bd_check_inputs : S := (.seq (.ife (.not (.cal f_is_from (.cons (.vr 0) (.cons (.int 1) (.cons (.gi "MOST_INPUTS" 4) .nil)))))
    (.seq (.rse 106 .nil)
    .nil)
    .nil)
    .nil)
def d_check_inputs : Df := ⟨"check_inputs", 1, ["value"], bd_check_inputs⟩
abbrev t_gates_1 : S := (.seq (.ret (.bi .len (.cons (.cal f_weighed (.cons (.vr 0) .nil)) .nil)))
    .nil)
abbrev bd_gates : S := (.seq (.drop (.cal f_check_inputs (.cons (.vr 0) .nil)))
    t_gates_1)
def d_gates : Df := ⟨"gates", 1, ["n"], bd_gates⟩
abbrev t_nth_3 : S := (.seq (.ret (.sub (.vr 2) (.sub (.bi .sorted (.cons (.ldk (.vr 2)) .nil)) (.vr 1))))
    .nil)
abbrev t_nth_2 : S := (.seq (.ife (.or (.not (.cal f_is_integer (.cons (.vr 1) .nil))) (.not (.chn .le .lt (.int 0) (.vr 1) (.bi .len (.cons (.vr 2) .nil)))))
    (.seq (.rse 105 .nil)
    .nil)
    .nil)
    t_nth_3)
abbrev t_nth_1 : S := (.seq (.set 2 (.cal f_weighed (.cons (.vr 0) .nil)))
    t_nth_2)
abbrev bd_nth : S := (.seq (.drop (.cal f_check_inputs (.cons (.vr 0) .nil)))
    t_nth_1)
def d_nth : Df := ⟨"nth", 2, ["n", "k", "found"], bd_nth⟩
abbrev bd_check_weighed : S := (.seq (.ife (.not (.cal f_is_weighed (.cons (.vr 0) .nil)))
    .never
    .nil)
    .nil)
def d_check_weighed : Df := ⟨"check_weighed", 1, ["table"], bd_check_weighed⟩
abbrev q_place_0 : E := .lc [2] (.vr 2) (.nm 2) (.cal f_weighed (.cons (.cal f_inputs_of (.cons (.vr 0) .nil)) .nil)) (.cmp .lt (.vr 2) (.vr 1))
abbrev t_place_3 : S := (.seq (.ret (.bi .len (.cons q_place_0 .nil)))
    .nil)
abbrev t_place_2 : S := (.seq (.set 1 (.cal f_counts_of (.cons (.vr 0) .nil)))
    t_place_3)
abbrev t_place_1 : S := (.seq (.drop (.cal f_check_weighed (.cons (.vr 0) .nil)))
    t_place_2)
abbrev bd_place : S := (.seq (.drop (.cal f_check_table (.cons (.vr 0) .nil)))
    t_place_1)
def d_place : Df := ⟨"place", 1, ["table", "own", "other"], bd_place⟩
abbrev q_next_counts_0 : E := .lc [1] (.vr 1) (.nm 1) (.cal f_weighed (.cons (.bin .sub (.bi .len (.cons (.vr 0) .nil)) (.int 1)) .nil)) (.cmp .gt (.vr 1) (.vr 0))
abbrev t_next_counts_2 : S := (.seq (.ret (.mdn (.vr 2)))
    .nil)
abbrev t_next_counts_1 : S := (.seq (.set 2 q_next_counts_0)
    t_next_counts_2)
abbrev bd_next_counts : S := (.seq (.drop (.cal f_check_counts (.cons (.vr 0) .nil)))
    t_next_counts_1)
def d_next_counts : Df := ⟨"next_counts", 1, ["counts", "other", "later"], bd_next_counts⟩
abbrev b_is_between_0 : S := (.seq (.ife (.not (.chn .le .le (.vr 3) (.vr 4) (.vr 5)))
    (.seq (.ret (.bl false))
    .nil)
    .nil)
    .nil)
abbrev t_is_between_1 : S := (.seq (.ret (.bl true))
    .nil)
abbrev bd_is_between : S := (.seq (.forr (.tp [3, 4, 5]) (.zp3 (.vr 0) (.vr 1) (.vr 2)) b_is_between_0)
    t_is_between_1)
def d_is_between : Df := ⟨"is_between", 3, ["low", "one", "high", "a", "b", "c"], bd_is_between⟩
abbrev q_within_0 : E := .lc [2] (.vr 2) (.nm 2) (.cal f_weighed (.cons (.bin .sub (.bi .len (.cons (.vr 0) .nil)) (.int 1)) .nil)) (.cal f_is_between (.cons (.vr 0) (.cons (.vr 2) (.cons (.vr 1) .nil))))
abbrev t_within_3 : S := (.seq (.ret (.bi .sorted (.cons q_within_0 .nil)))
    .nil)
abbrev t_within_2 : S := (.seq (.ife (.cmp .ne (.bi .len (.cons (.vr 0) .nil)) (.bi .len (.cons (.vr 1) .nil)))
    .never
    .nil)
    t_within_3)
abbrev t_within_1 : S := (.seq (.drop (.cal f_check_counts (.cons (.vr 1) .nil)))
    t_within_2)
abbrev bd_within : S := (.seq (.drop (.cal f_check_counts (.cons (.vr 0) .nil)))
    t_within_1)
def d_within : Df := ⟨"within", 2, ["low", "high", "one"], bd_within⟩
abbrev bd_is_row : S := (.seq (.ret (.cal f_is_from (.cons (.vr 0) (.cons (.int 0) (.cons (.bin .sub (.bin .shl (.int 1) (.vr 1)) (.int 1)) .nil)))))
    .nil)
def d_is_row : Df := ⟨"is_row", 2, ["value", "n"], bd_is_row⟩
abbrev b_check_seen_0 : S := (.seq (.ife (.or (.not (.isi (.vr 3) .tuple)) (.cmp .ne (.bi .len (.cons (.vr 3) .nil)) (.int 2)))
    (.seq (.rse 107 (.cons (.vr 2) .nil))
    .nil)
    .nil)
    (.seq (.ife (.or (.not (.cal f_is_row (.cons (.sub (.vr 3) (.int 0)) (.cons (.vr 0) .nil)))) (.not (.isi (.sub (.vr 3) (.int 1)) .bool)))
    (.seq (.rse 107 (.cons (.vr 2) .nil))
    .nil)
    .nil)
    .nil))
abbrev t_check_seen_1 : S := (.seq (.forr (.tp [2, 3]) (.enu (.vr 1)) b_check_seen_0)
    .nil)
abbrev bd_check_seen : S := (.seq (.ife (.or (.not (.isi (.vr 1) .tuple)) (.cmp .gt (.bi .len (.cons (.vr 1) .nil)) (.gi "MOST_SEEN" 16)))
    (.seq (.rse 107 (.cons .non .nil))
    .nil)
    .nil)
    t_check_seen_1)
def d_check_seen : Df := ⟨"check_seen", 2, ["n", "value", "index", "one"], bd_check_seen⟩
abbrev b_says_so_0 : S := (.seq (.ife (.cmp .ne (.cmp .eq (.sub (.vr 0) (.vr 2)) (.str [49])) (.vr 3))
    (.seq (.ret (.bl false))
    .nil)
    .nil)
    .nil)
abbrev t_says_so_1 : S := (.seq (.ret (.bl true))
    .nil)
abbrev bd_says_so : S := (.seq (.forr (.tp [2, 3]) (.vr 1) b_says_so_0)
    t_says_so_1)
def d_says_so : Df := ⟨"says_so", 2, ["table", "seen", "row", "yes"], bd_says_so⟩
abbrev q_fitting_tables_0 : E := .lc [3] (.sub (.vr 2) (.vr 3)) (.nm 3) (.vr 2) (.cal f_says_so (.cons (.sub (.vr 2) (.vr 3)) (.cons (.vr 1) .nil)))
abbrev t_fitting_tables_1 : S := (.seq (.ret q_fitting_tables_0)
    .nil)
abbrev bd_fitting_tables : S := (.seq (.set 2 (.cal f_weighed (.cons (.vr 0) .nil)))
    t_fitting_tables_1)
def d_fitting_tables : Df := ⟨"fitting_tables", 2, ["n", "seen", "known", "own"], bd_fitting_tables⟩
abbrev t_fitting_2 : S := (.seq (.ret (.bi .len (.cons (.cal f_fitting_tables (.cons (.vr 0) (.cons (.vr 1) .nil))) .nil)))
    .nil)
abbrev t_fitting_1 : S := (.seq (.drop (.cal f_check_seen (.cons (.vr 0) (.cons (.vr 1) .nil))))
    t_fitting_2)
abbrev bd_fitting : S := (.seq (.drop (.cal f_check_inputs (.cons (.vr 0) .nil)))
    t_fitting_1)
def d_fitting : Df := ⟨"fitting", 2, ["n", "seen"], bd_fitting⟩
abbrev q_word_by_0 : E := .lc [2] (.sub (.vr 2) (.vr 1)) (.nm 2) (.vr 0) .nil
abbrev t_word_by_3 : S := (.seq (.ret (.str [111, 112, 101, 110]))
    .nil)
abbrev t_word_by_2 : S := (.seq (.ife (.cmp .nin (.str [49]) (.vr 3))
    (.seq (.ret (.str [110, 111]))
    .nil)
    .nil)
    t_word_by_3)
abbrev t_word_by_1 : S := (.seq (.ife (.cmp .nin (.str [48]) (.vr 3))
    (.seq (.ret (.str [121, 101, 115]))
    .nil)
    .nil)
    t_word_by_2)
abbrev bd_word_by : S := (.seq (.set 3 q_word_by_0)
    t_word_by_1)
def d_word_by : Df := ⟨"word_by", 2, ["tables", "row", "table", "signs"], bd_word_by⟩
abbrev t_word_5 : S := (.seq (.ret (.cal f_word_by (.cons (.vr 3) (.cons (.vr 2) .nil))))
    .nil)
abbrev t_word_4 : S := (.seq (.ife (.not (.vr 3))
    .never
    .nil)
    t_word_5)
abbrev t_word_3 : S := (.seq (.set 3 (.cal f_fitting_tables (.cons (.vr 0) (.cons (.vr 1) .nil))))
    t_word_4)
abbrev t_word_2 : S := (.seq (.ife (.not (.cal f_is_row (.cons (.vr 2) (.cons (.vr 0) .nil))))
    (.seq (.rse 108 .nil)
    .nil)
    .nil)
    t_word_3)
abbrev t_word_1 : S := (.seq (.drop (.cal f_check_seen (.cons (.vr 0) (.cons (.vr 1) .nil))))
    t_word_2)
abbrev bd_word : S := (.seq (.drop (.cal f_check_inputs (.cons (.vr 0) .nil)))
    t_word_1)
def d_word : Df := ⟨"word", 3, ["n", "seen", "row", "tables"], bd_word⟩
abbrev q_ask_0 : E := .lc [5] (.vr 5) (.nm 5) (.vr 2) (.cmp .eq (.sub (.vr 5) (.vr 4)) (.str [49]))
abbrev b_ask_0 : S := (.seq (.set 6 (.bi .len (.cons q_ask_0 .nil)))
    (.seq (.set 7 (.bi .max2 (.cons (.vr 6) (.cons (.bin .sub (.bi .len (.cons (.vr 2) .nil)) (.vr 6)) .nil))))
    (.seq (.ife (.or (.cmp .is (.vr 3) .non) (.cmp .lt (.vr 7) (.sub (.vr 3) (.int 0))))
    (.seq (.set 3 (.tup (.cons (.vr 7) (.cons (.vr 4) .nil))))
    .nil)
    .nil)
    .nil)))
abbrev t_ask_7 : S := (.seq (.ret (.sub (.vr 3) (.int 1)))
    .nil)
abbrev t_ask_6 : S := (.seq (.forr (.nm 4) (.rg1 (.bin .shl (.int 1) (.vr 0))) b_ask_0)
    t_ask_7)
abbrev t_ask_5 : S := (.seq (.set 3 .non)
    t_ask_6)
abbrev t_ask_4 : S := (.seq (.ife (.cmp .eq (.bi .len (.cons (.vr 2) .nil)) (.int 1))
    (.seq (.ret .non)
    .nil)
    .nil)
    t_ask_5)
abbrev t_ask_3 : S := (.seq (.ife (.not (.vr 2))
    .never
    .nil)
    t_ask_4)
abbrev t_ask_2 : S := (.seq (.set 2 (.cal f_fitting_tables (.cons (.vr 0) (.cons (.vr 1) .nil))))
    t_ask_3)
abbrev t_ask_1 : S := (.seq (.drop (.cal f_check_seen (.cons (.vr 0) (.cons (.vr 1) .nil))))
    t_ask_2)
abbrev bd_ask : S := (.seq (.drop (.cal f_check_inputs (.cons (.vr 0) .nil)))
    t_ask_1)
def d_ask : Df := ⟨"ask", 2, ["n", "seen", "tables", "best", "row", "table", "passing", "most"], bd_ask⟩
abbrev bd_turned : S := (.seq (.ret (.bin .add (.bin .add (.slc (.vr 0) .nil (.vr 1)) (.bi .str (.cons (.bin .sub (.int 1) (.bi .int (.cons (.sub (.vr 0) (.vr 1)) .nil))) .nil))) (.slc (.vr 0) (.bin .add (.vr 1) (.int 1)) .nil)))
    .nil)
def d_turned : Df := ⟨"turned", 2, ["table", "row"], bd_turned⟩
abbrev q_telling_0 : E := .lc [1] (.vr 1) (.nm 1) (.rg1 (.bin .shl (.int 1) (.cal f_inputs_of (.cons (.vr 0) .nil)))) (.cal f_is_weighed (.cons (.cal f_turned (.cons (.vr 0) (.cons (.vr 1) .nil))) .nil))
abbrev t_telling_2 : S := (.seq (.ret (.bi .tuple (.cons q_telling_0 .nil)))
    .nil)
abbrev t_telling_1 : S := (.seq (.drop (.cal f_check_weighed (.cons (.vr 0) .nil)))
    t_telling_2)
abbrev bd_telling : S := (.seq (.drop (.cal f_check_table (.cons (.vr 0) .nil)))
    t_telling_1)
def d_telling : Df := ⟨"telling", 1, ["table", "row"], bd_telling⟩
abbrev t_Panel_init_3 : S := (.seq (.fset (.vr 0) "tables" (.cal f_fitting_tables (.cons (.vr 1) (.cons (.tup .nil) .nil))))
    .nil)
abbrev t_Panel_init_2 : S := (.seq (.fset (.vr 0) "notes" (.tup .nil))
    t_Panel_init_3)
abbrev t_Panel_init_1 : S := (.seq (.fset (.vr 0) "inputs" (.vr 1))
    t_Panel_init_2)
abbrev bd_Panel_init : S := (.seq (.drop (.cal f_check_inputs (.cons (.vr 1) .nil)))
    t_Panel_init_1)
def d_Panel_init : Df := ⟨"__init__", 2, ["self", "n"], bd_Panel_init⟩
abbrev bd_Panel_seen : S := (.seq (.ret (.fld (.vr 0) "notes"))
    .nil)
def d_Panel_seen : Df := ⟨"seen", 1, ["self"], bd_Panel_seen⟩
abbrev bd_Panel_words : S := (.seq (.drop (.cal f_wall (.cons (.int 0) .nil)))
    .nil)
def d_Panel_words : Df := ⟨"words", 1, ["self"], bd_Panel_words⟩
abbrev bd_Panel_note : S := (.seq (.drop (.cal f_wall (.cons (.int 1) .nil)))
    .nil)
def d_Panel_note : Df := ⟨"note", 3, ["self", "row", "yes"], bd_Panel_note⟩
abbrev bd_Panel_undo : S := (.seq (.drop (.cal f_wall (.cons (.int 2) .nil)))
    .nil)
def d_Panel_undo : Df := ⟨"undo", 1, ["self"], bd_Panel_undo⟩
abbrev bd_Panel_copy : S := (.seq (.drop (.cal f_wall (.cons (.int 3) .nil)))
    .nil)
def d_Panel_copy : Df := ⟨"copy", 1, ["self"], bd_Panel_copy⟩
abbrev bd_Panel_len : S := (.seq (.ret (.bi .len (.cons (.fld (.vr 0) "notes") .nil)))
    .nil)
def d_Panel_len : Df := ⟨"__len__", 1, ["self"], bd_Panel_len⟩
abbrev q_power_0 : E := .lc [2] (.vr 2) (.nm 2) (.rg1 (.bi .len (.cons (.vr 0) .nil))) (.not (.cal f_is_on (.cons (.vr 2) (.cons (.vr 1) .nil))))
abbrev q_power_1 : E := .lc [2] (.vr 2) (.nm 2) (.vr 3) (.cmp .ne (.sub (.vr 0) (.vr 2)) (.sub (.vr 0) (.bin .add (.vr 2) (.bin .shl (.int 1) (.vr 1)))))
abbrev t_power_1 : S := (.seq (.ret (.bi .len (.cons q_power_1 .nil)))
    .nil)
abbrev bd_power : S := (.seq (.set 3 q_power_0)
    t_power_1)
def d_power : Df := ⟨"power", 2, ["table", "i", "row", "rows"], bd_power⟩
abbrev q_powers_0 : E := .lc [1] (.cal f_power (.cons (.vr 0) (.cons (.vr 1) .nil))) (.nm 1) (.rg1 (.cal f_inputs_of (.cons (.vr 0) .nil))) .nil
abbrev t_powers_1 : S := (.seq (.ret (.bi .tuple (.cons q_powers_0 .nil)))
    .nil)
abbrev bd_powers : S := (.seq (.drop (.cal f_check_table (.cons (.vr 0) .nil)))
    t_powers_1)
def d_powers : Df := ⟨"powers", 1, ["table", "i"], bd_powers⟩
abbrev q_order_0 : E := .lc [4, 5] (.vr 4) (.tp [4, 5]) (.enu (.vr 1)) (.cmp .eq (.vr 5) (.vr 3))
abbrev b_order_0 : S := (.seq (.app 2 q_order_0)
    .nil)
abbrev t_order_4 : S := (.seq (.ret (.vr 2))
    .nil)
abbrev t_order_3 : S := (.seq (.frz 2)
    t_order_4)
abbrev t_order_2 : S := (.seq (.forr (.nm 3) (.rvL (.srs (.vr 1))) b_order_0)
    t_order_3)
abbrev t_order_1 : S := (.seq (.setO 2 (.lst .nil))
    t_order_2)
abbrev bd_order : S := (.seq (.set 1 (.cal f_powers (.cons (.vr 0) .nil)))
    t_order_1)
def d_order : Df := ⟨"order", 1, ["table", "own", "found", "some", "i", "one"], bd_order⟩
abbrev t_check_tables_2 : S := (.seq (.ife (.cmp .ne (.bi .len (.cons (.vr 0) .nil)) (.bi .len (.cons (.vr 1) .nil)))
    .never
    .nil)
    .nil)
abbrev t_check_tables_1 : S := (.seq (.drop (.cal f_check_table (.cons (.vr 1) .nil)))
    t_check_tables_2)
abbrev bd_check_tables : S := (.seq (.drop (.cal f_check_table (.cons (.vr 0) .nil)))
    t_check_tables_1)
def d_check_tables : Df := ⟨"check_tables", 2, ["one", "other"], bd_check_tables⟩
abbrev q_both_0 : E := .lc [2, 3] (.bi .min2 (.cons (.vr 2) (.cons (.vr 3) .nil))) (.tp [2, 3]) (.zp (.vr 0) (.vr 1)) .nil
abbrev t_both_1 : S := (.seq (.ret (.me .join (.str []) (.cons q_both_0 .nil)))
    .nil)
abbrev bd_both : S := (.seq (.drop (.cal f_check_tables (.cons (.vr 0) (.cons (.vr 1) .nil))))
    t_both_1)
def d_both : Df := ⟨"both", 2, ["one", "other", "a", "b"], bd_both⟩
abbrev q_either_0 : E := .lc [2, 3] (.bi .max2 (.cons (.vr 2) (.cons (.vr 3) .nil))) (.tp [2, 3]) (.zp (.vr 0) (.vr 1)) .nil
abbrev t_either_1 : S := (.seq (.ret (.me .join (.str []) (.cons q_either_0 .nil)))
    .nil)
abbrev bd_either : S := (.seq (.drop (.cal f_check_tables (.cons (.vr 0) (.cons (.vr 1) .nil))))
    t_either_1)
def d_either : Df := ⟨"either", 2, ["one", "other", "a", "b"], bd_either⟩
abbrev q_contrary_0 : E := .lc [1] (.bi .str (.cons (.bin .sub (.int 1) (.bi .int (.cons (.vr 1) .nil))) .nil)) (.nm 1) (.vr 0) .nil
abbrev t_contrary_1 : S := (.seq (.ret (.me .join (.str []) (.cons q_contrary_0 .nil)))
    .nil)
abbrev bd_contrary : S := (.seq (.drop (.cal f_check_table (.cons (.vr 0) .nil)))
    t_contrary_1)
def d_contrary : Df := ⟨"contrary", 1, ["table", "sign"], bd_contrary⟩
abbrev b_fed_0 : S := (.seq (.set 6 (.vr 4))
    (.seq (.ife (.cal f_is_on (.cons (.vr 4) (.cons (.vr 2) .nil)))
    (.seq (.aug 6 .sub (.bin .shl (.int 1) (.vr 2)))
    .nil)
    .nil)
    (.seq (.ife (.cmp .eq (.vr 5) (.str [49]))
    (.seq (.aug 6 .add (.bin .shl (.int 1) (.vr 2)))
    .nil)
    .nil)
    (.seq (.app 3 (.sub (.vr 0) (.vr 6)))
    .nil))))
abbrev t_fed_5 : S := (.seq (.ret (.me .join (.str []) (.cons (.vr 3) .nil)))
    .nil)
abbrev t_fed_4 : S := (.seq (.frz 3)
    t_fed_5)
abbrev t_fed_3 : S := (.seq (.forr (.tp [4, 5]) (.enu (.vr 1)) b_fed_0)
    t_fed_4)
abbrev t_fed_2 : S := (.seq (.setO 3 (.lst .nil))
    t_fed_3)
abbrev t_fed_1 : S := (.seq (.ife (.not (.cal f_is_from (.cons (.vr 2) (.cons (.int 0) (.cons (.bin .sub (.cal f_inputs_of (.cons (.vr 0) .nil)) (.int 1)) .nil)))))
    (.seq (.rse 109 .nil)
    .nil)
    .nil)
    t_fed_2)
abbrev bd_fed : S := (.seq (.drop (.cal f_check_tables (.cons (.vr 0) (.cons (.vr 1) .nil))))
    t_fed_1)
def d_fed : Df := ⟨"fed", 3, ["outer", "inner", "i", "signs", "row", "sign", "place"], bd_fed⟩
abbrev b_is_within_0 : S := (.seq (.ife (.cmp .gt (.vr 2) (.vr 3))
    (.seq (.ret (.bl false))
    .nil)
    .nil)
    .nil)
abbrev t_is_within_1 : S := (.seq (.ret (.bl true))
    .nil)
abbrev bd_is_within : S := (.seq (.forr (.tp [2, 3]) (.zp (.vr 0) (.vr 1)) b_is_within_0)
    t_is_within_1)
def d_is_within : Df := ⟨"is_within", 2, ["one", "other", "a", "b"], bd_is_within⟩
abbrev q_between_0 : E := .lc [3] (.sub (.vr 2) (.vr 3)) (.nm 3) (.vr 2) (.and (.cal f_is_within (.cons (.vr 0) (.cons (.sub (.vr 2) (.vr 3)) .nil))) (.cal f_is_within (.cons (.sub (.vr 2) (.vr 3)) (.cons (.vr 1) .nil))))
abbrev t_between_2 : S := (.seq (.ret (.bi .sorted (.cons q_between_0 .nil)))
    .nil)
abbrev t_between_1 : S := (.seq (.set 2 (.cal f_weighed (.cons (.cal f_inputs_of (.cons (.vr 0) .nil)) .nil)))
    t_between_2)
abbrev bd_between : S := (.seq (.drop (.cal f_check_tables (.cons (.vr 0) (.cons (.vr 1) .nil))))
    t_between_1)
def d_between : Df := ⟨"between", 2, ["one", "other", "known", "own"], bd_between⟩
abbrev q_write_gate_0 : E := .lc [1] (.bi .str (.cons (.vr 1) .nil)) (.nm 1) (.prp (.vr 0) f_Gate_weights 0) .nil
abbrev t_write_gate_1 : S := (.seq (.ret (.bin .add (.fs [98, 97, 114, 32] (.prp (.vr 0) f_Gate_bar 0) [10, 119, 101, 105, 103, 104, 116, 115, 32]) (.me .join (.str [32]) (.cons q_write_gate_0 .nil))))
    .nil)
abbrev bd_write_gate : S := (.seq (.drop (.cal f_check_gate (.cons (.vr 0) .nil)))
    t_write_gate_1)
def d_write_gate : Df := ⟨"write_gate", 1, ["gate", "weight"], bd_write_gate⟩
abbrev b_law_mix_0 : S := (.seq (.set 2 (.bin .mod (.bi .int (.cons (.bin .add (.bin .add (.bin .mul (.vr 2) (.int 48271)) (.bin .mod (.bi .int (.cons (.vr 3) .nil)) (.int 2147483629))) (.int 1)) .nil)) (.int 2147483647)))
    .nil)
abbrev t_law_mix_2 : S := (.seq (.retR (.vr 2) (.bi .list (.cons (.vr 0) .nil)) (.int 0))
    .nil)
abbrev t_law_mix_1 : S := (.seq (.forr (.nm 3) (.vr 0) b_law_mix_0)
    t_law_mix_2)
abbrev bd_law_mix : S := (.seq (.set 2 (.vr 1))
    t_law_mix_1)
def d_law_mix : Df := ⟨"_law_mix", 2, ["_law_script", "_law_seed", "_law_state", "_law_cell"], bd_law_mix⟩
abbrev t_law_next_4 : S := (.seq (.ret (.bin .mod (.bi .int (.cons (.bin .fdiv (.sub (.vr 0) (.int 0)) (.int 7)) .nil)) (.vr 1)))
    .nil)
abbrev t_law_next_3 : S := (.seq (.hset (.vr 0) (.int 2) (.bin .add (.sub (.vr 0) (.int 2)) (.int 1)))
    t_law_next_4)
abbrev t_law_next_2 : S := (.seq (.hset (.vr 0) (.int 0) (.bin .mod (.bi .int (.cons (.bin .add (.bin .add (.bin .mul (.sub (.vr 0) (.int 0)) (.int 48271)) (.bin .mul (.vr 2) (.int 69621))) (.int 11)) .nil)) (.int 2147483647)))
    t_law_next_3)
abbrev t_law_next_1 : S := (.seq (.ife (.cmp .ge (.vr 2) (.bin .pow (.int 10) (.int 18)))
    (.seq (.set 3 (.sub (.vr 0) (.int 1)))
    (.seq (.hset (.vr 3) (.bin .mod (.bi .int (.cons (.sub (.vr 0) (.int 2)) .nil)) (.bi .len (.cons (.vr 3) .nil))) (.bin .fdiv (.vr 2) (.vr 1)))
    (.seq (.ret (.bin .mod (.bi .int (.cons (.vr 2) .nil)) (.vr 1)))
    .nil)))
    .nil)
    t_law_next_2)
abbrev bd_law_next : S := (.seq (.set 2 (.sub (.bin .add (.sub (.vr 0) (.int 1)) (.lst (.cons (.int 0) .nil))) (.bin .mod (.bi .int (.cons (.sub (.vr 0) (.int 2)) .nil)) (.bi .max2 (.cons (.int 1) (.cons (.bi .len (.cons (.sub (.vr 0) (.int 1)) .nil)) .nil))))))
    t_law_next_1)
def d_law_next : Df := ⟨"_law_next", 2, ["_law_h", "_law_bound", "_law_cell", "_law_cells"], bd_law_next⟩
abbrev t_law_first_7 : S := (.seq (.ret (.cal f_nth (.cons (.sub (.vr 1) (.int 0)) (.cons (.sub (.vr 1) (.int 1)) .nil))))
    .nil)
abbrev t_law_first_6 : S := (.seq (.ife (.cmp .eq (.vr 0) (.int 6))
    (.seq (.ret (.lst (.cons (.cal f_gates (.cons (.sub (.vr 1) (.int 0)) .nil)) (.cons (.mk 1 (.cons (.sub (.vr 1) (.int 0)) .nil)) .nil))))
    .nil)
    .nil)
    t_law_first_7)
abbrev t_law_first_5 : S := (.seq (.ife (.cmp .eq (.vr 0) (.int 5))
    (.seq (.ret (.cal f_kth (.cons (.sub (.vr 1) (.int 0)) (.cons (.sub (.vr 1) (.int 1)) .nil))))
    .nil)
    .nil)
    t_law_first_6)
abbrev t_law_first_4 : S := (.seq (.ife (.cmp .eq (.vr 0) (.int 4))
    (.seq (.ret (.lst (.cons (.cal f_many (.cons (.sub (.vr 1) (.int 0)) .nil)) (.cons (.cal f_gate_by (.cons (.sub (.vr 1) (.int 0)) .nil)) (.cons (.cal f_next_counts (.cons (.sub (.vr 1) (.int 0)) .nil)) .nil)))))
    .nil)
    .nil)
    t_law_first_5)
abbrev t_law_first_3 : S := (.seq (.ife (.cmp .eq (.vr 0) (.int 3))
    (.seq (.ret (.lst (.cons (.cal f_place (.cons (.sub (.vr 1) (.int 0)) .nil)) (.cons (.cal f_telling (.cons (.sub (.vr 1) (.int 0)) .nil)) .nil))))
    .nil)
    .nil)
    t_law_first_4)
abbrev t_law_first_2 : S := (.seq (.ife (.cmp .eq (.vr 0) (.int 2))
    (.seq (.ret (.lst (.cons (.cal f_least_gate (.cons (.sub (.vr 1) (.int 0)) .nil)) (.cons (.cal f_against (.cons (.sub (.vr 1) (.int 0)) .nil)) (.cons (.cal f_counts (.cons (.sub (.vr 1) (.int 0)) .nil)) (.cons (.cal f_alike (.cons (.sub (.vr 1) (.int 0)) .nil)) (.cons (.cal f_powers (.cons (.sub (.vr 1) (.int 0)) .nil)) (.cons (.cal f_order (.cons (.sub (.vr 1) (.int 0)) .nil)) (.cons (.cal f_contrary (.cons (.sub (.vr 1) (.int 0)) .nil)) .nil)))))))))
    .nil)
    .nil)
    t_law_first_3)
abbrev t_law_first_1 : S := (.seq (.ife (.cmp .eq (.vr 0) (.int 1))
    (.seq (.ret (.lst (.cons (.cal f_table (.cons (.sub (.vr 1) (.int 0)) .nil)) (.cons (.cal f_write_gate (.cons (.sub (.vr 1) (.int 0)) .nil)) .nil))))
    .nil)
    .nil)
    t_law_first_2)
abbrev bd_law_first : S := (.seq (.ife (.cmp .eq (.vr 0) (.int 0))
    (.seq (.ret (.mk 0 (.cons (.sub (.vr 1) (.int 0)) (.cons (.sub (.vr 1) (.int 1)) .nil))))
    .nil)
    .nil)
    t_law_first_1)
def d_law_first : Df := ⟨"_law_first", 2, ["_law_kind", "_law_t"], bd_law_first⟩
abbrev t_law_ask_5 : S := (.seq (.ret (.cal f_word (.cons (.sub (.vr 1) (.int 0)) (.cons (.sub (.vr 1) (.int 1)) (.cons (.sub (.vr 1) (.int 2)) .nil)))))
    .nil)
abbrev t_law_ask_4 : S := (.seq (.ife (.cmp .eq (.vr 0) (.int 11))
    (.seq (.ret (.lst (.cons (.cal f_fitting (.cons (.sub (.vr 1) (.int 0)) (.cons (.sub (.vr 1) (.int 1)) .nil))) (.cons (.cal f_ask (.cons (.sub (.vr 1) (.int 0)) (.cons (.sub (.vr 1) (.int 1)) .nil))) .nil))))
    .nil)
    .nil)
    t_law_ask_5)
abbrev t_law_ask_3 : S := (.seq (.ife (.cmp .eq (.vr 0) (.int 10))
    (.seq (.ret (.cal f_fed (.cons (.sub (.vr 1) (.int 0)) (.cons (.sub (.vr 1) (.int 1)) (.cons (.sub (.vr 1) (.int 2)) .nil)))))
    .nil)
    .nil)
    t_law_ask_4)
abbrev t_law_ask_2 : S := (.seq (.ife (.cmp .eq (.vr 0) (.int 9))
    (.seq (.ret (.lst (.cons (.cal f_between (.cons (.sub (.vr 1) (.int 0)) (.cons (.sub (.vr 1) (.int 1)) .nil))) (.cons (.cal f_both (.cons (.sub (.vr 1) (.int 0)) (.cons (.sub (.vr 1) (.int 1)) .nil))) (.cons (.cal f_either (.cons (.sub (.vr 1) (.int 0)) (.cons (.sub (.vr 1) (.int 1)) .nil))) .nil)))))
    .nil)
    .nil)
    t_law_ask_3)
abbrev t_law_ask_1 : S := (.seq (.ife (.cmp .eq (.vr 0) (.int 8))
    (.seq (.ret (.cal f_within (.cons (.sub (.vr 1) (.int 0)) (.cons (.sub (.vr 1) (.int 1)) .nil))))
    .nil)
    .nil)
    t_law_ask_2)
abbrev bd_law_ask : S := (.seq (.ife (.cmp .lt (.vr 0) (.int 8))
    (.seq (.ret (.cal f_law_first (.cons (.vr 0) (.cons (.vr 1) .nil))))
    .nil)
    .nil)
    t_law_ask_1)
def d_law_ask : Df := ⟨"_law_ask", 2, ["_law_kind", "_law_t"], bd_law_ask⟩
abbrev b_law_told_0 : S := (.seq (.drop (.cal f_law_ask (.cons (.vr 0) (.cons (.vr 1) .nil))))
    .nil)
abbrev t_law_told_1 : S := (.seq (.ret (.str [103, 111, 111, 100]))
    .nil)
abbrev bd_law_told : S := (.seq (.trm b_law_told_0 [.bare 100 (.ret (.str [119, 101, 105, 103, 104, 116, 115])), .bare 101 (.ret (.str [98, 97, 114])), .bare 102 (.ret (.str [103, 97, 116, 101])), .bare 103 (.ret (.str [116, 97, 98, 108, 101])), .bare 104 (.ret (.str [99, 111, 117, 110, 116, 115])), .bare 105 (.ret (.str [110, 117, 109, 98, 101, 114])), .bare 106 (.ret (.str [105, 110, 112, 117, 116, 115])), .as 107 2 (.ret (.ife (.inn (.fld 107 0 "index") (.lst (.cons .non (.cons (.int 1) .nil)))) (.str [115, 101, 101, 110]) (.str [119, 114, 111, 110, 103]))), .bare 109 (.ret (.str [105, 110, 112, 117, 116])), .bare 108 (.ret (.str [114, 111, 119]))])
    t_law_told_1)
def d_law_told : Df := ⟨"_law_told", 2, ["_law_kind", "_law_t", "e"], bd_law_told⟩
abbrev t_law_good_one_4 : S := (.seq (.ret (.ife (.cmp .inn (.vr 0) (.vr 1)) (.sub (.vr 1) (.vr 0)) (.sub (.vr 2) (.vr 0))))
    .nil)
abbrev t_law_good_one_3 : S := (.seq (.frz 2)
    t_law_good_one_4)
abbrev t_law_good_one_2 : S := (.seq (.frz 1)
    t_law_good_one_3)
abbrev t_law_good_one_1 : S := (.seq (.dspO 2 [((.str [105, 110, 112, 117, 116, 115]), (.int 2)), ((.str [115, 101, 101, 110]), (.tup (.cons (.tup (.cons (.int 0) (.cons (.bl false) .nil))) (.cons (.tup (.cons (.int 3) (.cons (.bl true) .nil))) .nil)))), ((.str [105, 110, 112, 117, 116]), (.int 1)), ((.str [114, 111, 119]), (.int 2))])
    t_law_good_one_2)
abbrev bd_law_good_one : S := (.seq (.dspO 1 [((.str [119, 101, 105, 103, 104, 116, 115]), (.tup (.cons (.int 2) (.cons (.neg (.int 1)) .nil)))), ((.str [98, 97, 114]), (.int 1)), ((.str [103, 97, 116, 101]), (.mk 0 (.cons (.tup (.cons (.int 1) (.cons (.int 1) .nil))) (.cons (.int 1) .nil)))), ((.str [116, 97, 98, 108, 101]), (.str [48, 49, 49, 49])), ((.str [99, 111, 117, 110, 116, 115]), (.tup (.cons (.int 1) (.cons (.int 1) (.cons (.int 1) .nil))))), ((.str [110, 117, 109, 98, 101, 114]), (.int 0))])
    t_law_good_one_1)
def d_law_good_one : Df := ⟨"_law_good_one", 1, ["_law_name", "_law_good", "_law_more"], bd_law_good_one⟩
abbrev t_law_bad_one_14 : S := (.seq (.ret (.sub (.vr 2) (.cal f_law_next (.cons (.vr 0) (.cons (.bi .len (.cons (.vr 2) .nil)) .nil)))))
    .nil)
abbrev t_law_bad_one_13 : S := (.seq (.frz 2)
    t_law_bad_one_14)
abbrev t_law_bad_one_12 : S := (.seq (.ife (.cmp .eq (.vr 1) (.str [114, 111, 119]))
    (.seq (.setO 2 (.lst (.cons .non (.cons (.bl true) (.cons (.str [48]) (.cons (.int 4) (.cons (.neg (.int 1)) (.cons (.tup (.cons (.int 0) .nil)) .nil))))))))
    .nil)
    .nil)
    t_law_bad_one_13)
abbrev t_law_bad_one_11 : S := (.seq (.frz 2)
    t_law_bad_one_12)
abbrev t_law_bad_one_10 : S := (.seq (.ife (.cmp .eq (.vr 1) (.str [105, 110, 112, 117, 116]))
    (.seq (.setO 2 (.lst (.cons .non (.cons (.bl true) (.cons (.str [48]) (.cons (.int 2) (.cons (.neg (.int 1)) (.cons (.tup (.cons (.int 0) .nil)) .nil))))))))
    .nil)
    .nil)
    t_law_bad_one_11)
abbrev t_law_bad_one_9 : S := (.seq (.frz 2)
    t_law_bad_one_10)
abbrev t_law_bad_one_8 : S := (.seq (.ife (.cmp .eq (.vr 1) (.str [115, 101, 101, 110]))
    (.seq (.setO 2 (.lst (.cons .non (.cons (.lst .nil) (.cons (.bin .mul (.tup (.cons (.tup (.cons (.int 0) (.cons (.bl true) .nil))) .nil)) (.int 17)) (.cons (.tup (.cons (.tup (.cons (.int 0) (.cons (.bl true) .nil))) (.cons (.tup (.cons (.int 4) (.cons (.bl true) .nil))) .nil))) (.cons (.tup (.cons (.tup (.cons (.int 0) (.cons (.bl true) .nil))) (.cons (.tup (.cons (.int 0) (.cons (.int 1) .nil))) .nil))) (.cons (.tup (.cons (.tup (.cons (.int 0) (.cons (.bl true) .nil))) (.cons (.int 3) .nil))) .nil))))))))
    (.seq (.app 2 (.tup (.cons (.tup (.cons (.int 0) (.cons (.bl true) .nil))) (.cons (.tup (.cons (.bl true) (.cons (.bl true) .nil))) .nil))))
    .nil))
    .nil)
    t_law_bad_one_9)
abbrev t_law_bad_one_7 : S := (.seq (.ife (.cmp .eq (.vr 1) (.str [105, 110, 112, 117, 116, 115]))
    (.seq (.setO 2 (.lst (.cons .non (.cons (.bl true) (.cons (.str [50]) (.cons (.int 0) (.cons (.int 5) (.cons (.tup (.cons (.int 2) .nil)) (.cons (.neg (.int 1)) .nil)))))))))
    .nil)
    .nil)
    t_law_bad_one_8)
abbrev t_law_bad_one_6 : S := (.seq (.ife (.cmp .eq (.vr 1) (.str [110, 117, 109, 98, 101, 114]))
    (.seq (.setO 2 (.lst (.cons .non (.cons (.bl true) (.cons (.str [48]) (.cons (.neg (.int 1)) (.cons (.bin .pow (.int 10) (.int 9)) (.cons (.tup (.cons (.int 0) .nil)) .nil))))))))
    .nil)
    .nil)
    t_law_bad_one_7)
abbrev t_law_bad_one_5 : S := (.seq (.ife (.cmp .eq (.vr 1) (.str [99, 111, 117, 110, 116, 115]))
    (.seq (.setO 2 (.lst (.cons .non (.cons (.tup (.cons (.int 1) .nil)) (.cons (.bin .mul (.tup (.cons (.int 0) .nil)) (.int 6)) (.cons (.lst (.cons (.int 1) (.cons (.int 1) .nil))) (.cons (.tup (.cons (.int 5) (.cons (.int 1) (.cons (.int 1) .nil)))) (.cons (.tup (.cons (.neg (.int 1)) (.cons (.int 0) .nil))) (.cons (.tup (.cons (.bl true) (.cons (.int 1) .nil))) (.cons (.tup (.cons (.str [49]) (.cons (.int 1) .nil))) (.cons (.int 3) .nil)))))))))))
    .nil)
    .nil)
    t_law_bad_one_6)
abbrev t_law_bad_one_4 : S := (.seq (.ife (.cmp .eq (.vr 1) (.str [116, 97, 98, 108, 101]))
    (.seq (.setO 2 (.lst (.cons .non (.cons (.str []) (.cons (.str [48]) (.cons (.str [48, 49, 48]) (.cons (.str [48, 49, 48, 50]) (.cons (.bin .mul (.str [48, 49]) (.int 16)) (.cons (.int 1) (.cons (.tup (.cons (.str [48]) (.cons (.str [49]) .nil))) (.cons (.str [48, 49, 32, 49]) (.cons (.bl true) .nil))))))))))))
    .nil)
    .nil)
    t_law_bad_one_5)
abbrev t_law_bad_one_3 : S := (.seq (.ife (.cmp .eq (.vr 1) (.str [103, 97, 116, 101]))
    (.seq (.setO 2 (.lst (.cons .non (.cons (.int 3) (.cons (.str [48, 49]) (.cons (.tup (.cons (.tup (.cons (.int 1) .nil)) (.cons (.int 1) .nil))) .nil))))))
    .nil)
    .nil)
    t_law_bad_one_4)
abbrev t_law_bad_one_2 : S := (.seq (.ife (.cmp .eq (.vr 1) (.str [98, 97, 114]))
    (.seq (.frz 2)
    (.seq (.setO 2 (.cat (.vr 2) (.lst (.cons (.int 201) (.cons (.neg (.int 201)) .nil)))))
    .nil))
    .nil)
    t_law_bad_one_3)
abbrev t_law_bad_one_1 : S := (.seq (.ife (.cmp .eq (.vr 1) (.str [119, 101, 105, 103, 104, 116, 115]))
    (.seq (.setO 2 (.lst (.cons .non (.cons (.tup .nil) (.cons (.lst (.cons (.int 1) .nil)) (.cons (.bin .mul (.tup (.cons (.int 1) .nil)) (.int 5)) (.cons (.tup (.cons (.int 51) .nil)) (.cons (.tup (.cons (.bl true) .nil)) (.cons (.tup (.cons (.str [49]) .nil)) (.cons (.tup (.cons (.int 0) (.cons (.neg (.int 51)) .nil))) (.cons (.int 3) .nil)))))))))))
    .nil)
    .nil)
    t_law_bad_one_2)
abbrev bd_law_bad_one : S := (.seq (.setO 2 (.lst (.cons .non (.cons (.bl true) (.cons (.str [120]) (.cons (.tup (.cons (.int 0) .nil)) (.cons (.lst (.cons (.int 1) .nil)) .nil)))))))
    t_law_bad_one_1)
def d_law_bad_one : Df := ⟨"_law_bad_one", 2, ["_law_h", "_law_name", "_law_bad"], bd_law_bad_one⟩
abbrev q_law_0 : E := .lc [5] (.cmp .eq (.cal f_law_next (.cons (.vr 1) (.cons (.int 3) .nil))) (.int 0)) (.nm 5) (.vr 4) .nil
abbrev b_law_0 : S := (.seq (.app 7 (.ife (.sub (.vr 6) (.vr 8)) (.cal f_law_bad_one (.cons (.vr 1) (.cons (.sub (.vr 4) (.vr 8)) .nil))) (.cal f_law_good_one (.cons (.sub (.vr 4) (.vr 8)) .nil))))
    .nil)
abbrev q_law_1 : E := .lc [8] (.sub (.vr 4) (.vr 8)) (.nm 8) (.rg1 (.bi .len (.cons (.vr 4) .nil))) (.sub (.vr 6) (.vr 8))
abbrev t_law_11 : S := (.seq (.ret (.cmp .eq (.cal f_law_told (.cons (.vr 3) (.cons (.vr 7) .nil))) (.sub (.vr 9) (.int 0))))
    .nil)
abbrev t_law_10 : S := (.seq (.frz 7)
    t_law_11)
abbrev t_law_9 : S := (.seq (.set 9 (.bin .add q_law_1 (.lst (.cons (.str [103, 111, 111, 100]) .nil))))
    t_law_10)
abbrev t_law_8 : S := (.seq (.forr (.nm 8) (.rg1 (.bi .len (.cons (.vr 4) .nil))) b_law_0)
    t_law_9)
abbrev t_law_7 : S := (.seq (.setO 7 (.lst .nil))
    t_law_8)
abbrev t_law_6 : S := (.seq (.set 6 q_law_0)
    t_law_7)
abbrev t_law_5 : S := (.seq (.set 4 (.sub (.vr 2) (.vr 3)))
    t_law_6)
abbrev t_law_4 : S := (.seq (.set 3 (.cal f_law_next (.cons (.vr 1) (.cons (.int 13) .nil))))
    t_law_5)
abbrev t_law_3 : S := (.seq (.set 2 (.bin .add (.vr 2) (.lst (.cons (.lst (.cons (.str [105, 110, 112, 117, 116, 115]) (.cons (.str [115, 101, 101, 110]) .nil))) (.cons (.lst (.cons (.str [105, 110, 112, 117, 116, 115]) (.cons (.str [115, 101, 101, 110]) (.cons (.str [114, 111, 119]) .nil)))) .nil)))))
    t_law_4)
abbrev t_law_2 : S := (.seq (.set 2 (.bin .add (.vr 2) (.lst (.cons (.lst (.cons (.str [105, 110, 112, 117, 116, 115]) (.cons (.str [110, 117, 109, 98, 101, 114]) .nil))) (.cons (.lst (.cons (.str [99, 111, 117, 110, 116, 115]) (.cons (.str [99, 111, 117, 110, 116, 115]) .nil))) (.cons (.lst (.cons (.str [116, 97, 98, 108, 101]) (.cons (.str [116, 97, 98, 108, 101]) .nil))) (.cons (.lst (.cons (.str [116, 97, 98, 108, 101]) (.cons (.str [116, 97, 98, 108, 101]) (.cons (.str [105, 110, 112, 117, 116]) .nil)))) .nil)))))))
    t_law_3)
abbrev t_law_1 : S := (.seq (.set 2 (.lst (.cons (.lst (.cons (.str [119, 101, 105, 103, 104, 116, 115]) (.cons (.str [98, 97, 114]) .nil))) (.cons (.lst (.cons (.str [103, 97, 116, 101]) .nil)) (.cons (.lst (.cons (.str [116, 97, 98, 108, 101]) .nil)) (.cons (.lst (.cons (.str [116, 97, 98, 108, 101]) .nil)) (.cons (.lst (.cons (.str [99, 111, 117, 110, 116, 115]) .nil)) (.cons (.lst (.cons (.str [99, 111, 117, 110, 116, 115]) (.cons (.str [110, 117, 109, 98, 101, 114]) .nil))) (.cons (.lst (.cons (.str [105, 110, 112, 117, 116, 115]) .nil)) .nil)))))))))
    t_law_2)
abbrev bd_law : S := (.seq (.set 1 (.cal f_law_mix (.cons (.vr 0) (.cons (.int 15) .nil))))
    t_law_1)
def d_law : Df := ⟨"law", 1, ["_law_script", "_law_h", "_law_asked", "_law_kind", "_law_words", "_law_one", "_law_wrong", "_law_t", "_law_k", "_law_due"], bd_law⟩
def PPl : List Df := [d_wall, d_is_integer, d_is_from, d_Gate_init, d_Gate_weights, d_Gate_bar, d_Gate_eq, d_check_gate, d_check_table, d_inputs_of, d_is_on, d_sums_of, d_table_by, d_table, d_rows_saying, d_together, d_pairs_of, d_against_by, d_against, d_is_weighed, d_all_weights, d_nearest_bar, d_least_gate, d_counts_of, d_counts, d_check_counts, d_row_counts, d_plus, d_minus, d_endings, d_many_by, d_many, d_kth_by, d_kth, d_weighed, d_gate_by, d_alike, d_check_inputs, d_gates, d_nth, d_check_weighed, d_place, d_next_counts, d_is_between, d_within, d_is_row, d_check_seen, d_says_so, d_fitting_tables, d_fitting, d_word_by, d_word, d_ask, d_turned, d_telling, d_Panel_init, d_Panel_seen, d_Panel_words, d_Panel_note, d_Panel_undo, d_Panel_copy, d_Panel_len, d_power, d_powers, d_order, d_check_tables, d_both, d_either, d_contrary, d_fed, d_is_within, d_between, d_write_gate, d_law_mix, d_law_next, d_law_first, d_law_ask, d_law_told, d_law_good_one, d_law_bad_one, d_law]
def PP : Pg := ⟨fun f => PPl[f]?, fun c => match c with
    | 0 => some f_Gate_eq
    | _ => none, fun c => match c with
    | 0 => some f_Gate_init
    | 1 => some f_Panel_init
    | _ => none, fun c => match c with
    | 0 => true
    | _ => false, fun c k => match c with
    | 101 => (match k with
      | 101 => some true
      | 104 => some false
      | 102 => some false
      | 109 => some false
      | 106 => some false
      | 105 => some false
      | 108 => some false
      | 107 => some false
      | 103 => some false
      | 100 => some false
      | _ => none)
    | 104 => (match k with
      | 101 => some false
      | 104 => some true
      | 102 => some false
      | 109 => some false
      | 106 => some false
      | 105 => some false
      | 108 => some false
      | 107 => some false
      | 103 => some false
      | 100 => some false
      | _ => none)
    | 102 => (match k with
      | 101 => some false
      | 104 => some false
      | 102 => some true
      | 109 => some false
      | 106 => some false
      | 105 => some false
      | 108 => some false
      | 107 => some false
      | 103 => some false
      | 100 => some false
      | _ => none)
    | 109 => (match k with
      | 101 => some false
      | 104 => some false
      | 102 => some false
      | 109 => some true
      | 106 => some false
      | 105 => some false
      | 108 => some false
      | 107 => some false
      | 103 => some false
      | 100 => some false
      | _ => none)
    | 106 => (match k with
      | 101 => some false
      | 104 => some false
      | 102 => some false
      | 109 => some false
      | 106 => some true
      | 105 => some false
      | 108 => some false
      | 107 => some false
      | 103 => some false
      | 100 => some false
      | _ => none)
    | 105 => (match k with
      | 101 => some false
      | 104 => some false
      | 102 => some false
      | 109 => some false
      | 106 => some false
      | 105 => some true
      | 108 => some false
      | 107 => some false
      | 103 => some false
      | 100 => some false
      | _ => none)
    | 108 => (match k with
      | 101 => some false
      | 104 => some false
      | 102 => some false
      | 109 => some false
      | 106 => some false
      | 105 => some false
      | 108 => some true
      | 107 => some false
      | 103 => some false
      | 100 => some false
      | _ => none)
    | 107 => (match k with
      | 101 => some false
      | 104 => some false
      | 102 => some false
      | 109 => some false
      | 106 => some false
      | 105 => some false
      | 108 => some false
      | 107 => some true
      | 103 => some false
      | 100 => some false
      | _ => none)
    | 103 => (match k with
      | 101 => some false
      | 104 => some false
      | 102 => some false
      | 109 => some false
      | 106 => some false
      | 105 => some false
      | 108 => some false
      | 107 => some false
      | 103 => some true
      | 100 => some false
      | _ => none)
    | 100 => (match k with
      | 101 => some false
      | 104 => some false
      | 102 => some false
      | 109 => some false
      | 106 => some false
      | 105 => some false
      | 108 => some false
      | 107 => some false
      | 103 => some false
      | 100 => some true
      | _ => none)
    | _ => none⟩
def TT : Tb := ⟨fun f => decide (f < 81), fun f => [0, 1, 2, 7, 8, 9, 10, 11, 12, 13, 14, 15, 16, 17, 18, 19, 20, 21, 22, 23, 24, 25, 26, 27, 28, 29, 30, 31, 32, 33, 34, 35, 36, 37, 38, 39, 40, 41, 42, 43, 44, 45, 46, 47, 48, 49, 50, 51, 52, 53, 54, 62, 63, 64, 65, 66, 67, 68, 69, 70, 71, 72, 73, 74, 75, 76, 77, 78, 79, 80].contains f, [("MOST_INPUTS", 4), ("MOST_WEIGHT", 50), ("MOST_BAR", 200), ("LEAST_GATES", 3), ("MOST_SEEN", 16)], ["abs", "bool", "dict", "enumerate", "int", "isinstance", "len", "list", "max", "min", "range", "reversed", "set", "sorted", "str", "sum", "tuple", "zip"], fun c => match c with
    | 0 => some "Gate"
    | 1 => some "Panel"
    | _ => none, fun f c => if f = 4 ∧ c = 0 then some "weights" else if f = 5 ∧ c = 0 then some "bar" else if f = 56 ∧ c = 1 then some "seen" else if f = 57 ∧ c = 1 then some "words" else none, fun c => match c with
    | 100 => some "BadWeights"
    | 101 => some "BadBar"
    | 102 => some "BadGate"
    | 103 => some "BadTable"
    | 104 => some "BadCounts"
    | 105 => some "BadNumber"
    | 106 => some "BadInputs"
    | 107 => some "BadSeen"
    | 108 => some "BadRow"
    | 109 => some "BadInput"
    | _ => none, fun c => match c with
    | 101 => true
    | 104 => true
    | 102 => true
    | 109 => true
    | 106 => true
    | 105 => true
    | 108 => true
    | 103 => true
    | 100 => true
    | _ => false, ["held", "inputs", "notes", "tables"], fun _ => false, fun N => decide (N = (["inputs", "found", "i", "old", "weight"] : List Str)), fun f c => if f = 58 ∧ c = 1 then some "note" else if f = 59 ∧ c = 1 then some "undo" else if f = 60 ∧ c = 1 then some "copy" else if f = 61 ∧ c = 1 then some "__len__" else none, fun c => match c with
    | 107 => ["index"]
    | _ => [], false⟩
theorem go_all_weights {n : Nat} {M : Mem} {x0 : D} {fl : Fl} {R0 : R D} (e : ex (PP.fx n) bd_all_weights M [some (.d x0), none, none, none, none] = fl) (h : retOf fl = R0) : PP.call (n + 1) f_all_weights M [x0] = R0 := by
  subst e; exact (call_eq (d := d_all_weights) rfl ⟨rfl, by decide⟩).trans h
theorem go_nth {n : Nat} {M : Mem} {x0 x1 : D} {fl : Fl} {R0 : R D} (e : ex (PP.fx n) bd_nth M [some (.d x0), some (.d x1), none] = fl) (h : retOf fl = R0) : PP.call (n + 1) f_nth M [x0, x1] = R0 := by
  subst e; exact (call_eq (d := d_nth) rfl ⟨rfl, by decide⟩).trans h
theorem go_within {n : Nat} {M : Mem} {x0 x1 : D} {fl : Fl} {R0 : R D} (e : ex (PP.fx n) bd_within M [some (.d x0), some (.d x1), none] = fl) (h : retOf fl = R0) : PP.call (n + 1) f_within M [x0, x1] = R0 := by
  subst e; exact (call_eq (d := d_within) rfl ⟨rfl, by decide⟩).trans h
theorem go_between {n : Nat} {M : Mem} {x0 x1 : D} {fl : Fl} {R0 : R D} (e : ex (PP.fx n) bd_between M [some (.d x0), some (.d x1), none, none] = fl) (h : retOf fl = R0) : PP.call (n + 1) f_between M [x0, x1] = R0 := by
  subst e; exact (call_eq (d := d_between) rfl ⟨rfl, by decide⟩).trans h
theorem go_law_mix {n : Nat} {M : Mem} {x0 x1 : D} {fl : Fl} {R0 : R D} (e : ex (PP.fx n) bd_law_mix M [some (.d x0), some (.d x1), none, none] = fl) (h : retOf fl = R0) : PP.call (n + 1) f_law_mix M [x0, x1] = R0 := by
  subst e; exact (call_eq (d := d_law_mix) rfl ⟨rfl, by decide⟩).trans h
theorem go_law_next {n : Nat} {M : Mem} {x0 x1 : D} {fl : Fl} {R0 : R D} (e : ex (PP.fx n) bd_law_next M [some (.d x0), some (.d x1), none, none] = fl) (h : retOf fl = R0) : PP.call (n + 1) f_law_next M [x0, x1] = R0 := by
  subst e; exact (call_eq (d := d_law_next) rfl ⟨rfl, by decide⟩).trans h
theorem go_law {n : Nat} {M : Mem} {x0 : D} {fl : Fl} {R0 : R D} (e : ex (PP.fx n) bd_law M [some (.d x0), none, none, none, none, none, none, none, none, none] = fl) (h : retOf fl = R0) : PP.call (n + 1) f_law M [x0] = R0 := by
  subst e; exact (call_eq (d := d_law) rfl ⟨rfl, by decide⟩).trans h
theorem ok_init_BadSeen : initOk (inClass (tp 13) 0) (["index"] : List Str).reverse = true := by decide +kernel
theorem ok_wall : defOk PP TT d_wall (tp 0) = true := by decide +kernel
theorem ok_is_integer : defOk PP TT d_is_integer (tp 21) = true := by decide +kernel
theorem ok_is_from : defOk PP TT d_is_from (tp 22) = true := by decide +kernel
theorem ok_Gate_init : defOk PP TT d_Gate_init (inClass (tp 23) 0) = true := by decide +kernel
theorem ok_Gate_weights : defOk PP TT d_Gate_weights (inClass (tp 23) 1) = true := by decide +kernel
theorem ok_Gate_bar : defOk PP TT d_Gate_bar (inClass (tp 23) 2) = true := by decide +kernel
theorem ok_Gate_eq : defOk PP TT d_Gate_eq (inClass (tp 23) 3) = true := by decide +kernel
theorem ok_check_gate : defOk PP TT d_check_gate (tp 24) = true := by decide +kernel
theorem ok_check_table : defOk PP TT d_check_table (tp 25) = true := by decide +kernel
theorem ok_inputs_of : defOk PP TT d_inputs_of (tp 26) = true := by decide +kernel
theorem ok_is_on : defOk PP TT d_is_on (tp 27) = true := by decide +kernel
theorem ok_sums_of : defOk PP TT d_sums_of (tp 28) = true := by decide +kernel
theorem ok_table_by : defOk PP TT d_table_by (tp 29) = true := by decide +kernel
theorem ok_table : defOk PP TT d_table (tp 30) = true := by decide +kernel
theorem ok_rows_saying : defOk PP TT d_rows_saying (tp 31) = true := by decide +kernel
theorem ok_together : defOk PP TT d_together (tp 32) = true := by decide +kernel
theorem ok_pairs_of : defOk PP TT d_pairs_of (tp 33) = true := by decide +kernel
theorem ok_against_by : defOk PP TT d_against_by (tp 34) = true := by decide +kernel
theorem ok_against : defOk PP TT d_against (tp 35) = true := by decide +kernel
theorem ok_is_weighed : defOk PP TT d_is_weighed (tp 36) = true := by decide +kernel
theorem ok_all_weights : defOk PP TT d_all_weights (tp 37) = true := by decide +kernel
theorem ok_nearest_bar : defOk PP TT d_nearest_bar (tp 38) = true := by decide +kernel
theorem ok_least_gate : defOk PP TT d_least_gate (tp 39) = true := by decide +kernel
theorem ok_counts_of : defOk PP TT d_counts_of (tp 41) = true := by decide +kernel
theorem ok_counts : defOk PP TT d_counts (tp 42) = true := by decide +kernel
theorem ok_check_counts : defOk PP TT d_check_counts (tp 43) = true := by decide +kernel
theorem ok_row_counts : defOk PP TT d_row_counts (tp 44) = true := by decide +kernel
theorem ok_plus : defOk PP TT d_plus (tp 45) = true := by decide +kernel
theorem ok_minus : defOk PP TT d_minus (tp 46) = true := by decide +kernel
theorem ok_endings : defOk PP TT d_endings (tp 47) = true := by decide +kernel
theorem ok_many_by : defOk PP TT d_many_by (tp 48) = true := by decide +kernel
theorem ok_many : defOk PP TT d_many (tp 49) = true := by decide +kernel
theorem ok_kth_by : defOk PP TT d_kth_by (tp 50) = true := by decide +kernel
theorem ok_kth : defOk PP TT d_kth (tp 51) = true := by decide +kernel
theorem ok_weighed : defOk PP TT d_weighed (tp 52) = true := by decide +kernel
theorem ok_gate_by : defOk PP TT d_gate_by (tp 53) = true := by decide +kernel
theorem ok_alike : defOk PP TT d_alike (tp 54) = true := by decide +kernel
theorem ok_check_inputs : defOk PP TT d_check_inputs (tp 56) = true := by decide +kernel
theorem ok_gates : defOk PP TT d_gates (tp 57) = true := by decide +kernel
theorem ok_nth : defOk PP TT d_nth (tp 58) = true := by decide +kernel
theorem ok_check_weighed : defOk PP TT d_check_weighed (tp 59) = true := by decide +kernel
theorem ok_place : defOk PP TT d_place (tp 60) = true := by decide +kernel
theorem ok_next_counts : defOk PP TT d_next_counts (tp 61) = true := by decide +kernel
theorem ok_is_between : defOk PP TT d_is_between (tp 62) = true := by decide +kernel
theorem ok_within : defOk PP TT d_within (tp 63) = true := by decide +kernel
theorem ok_is_row : defOk PP TT d_is_row (tp 66) = true := by decide +kernel
theorem ok_check_seen : defOk PP TT d_check_seen (tp 67) = true := by decide +kernel
theorem ok_says_so : defOk PP TT d_says_so (tp 68) = true := by decide +kernel
theorem ok_fitting_tables : defOk PP TT d_fitting_tables (tp 69) = true := by decide +kernel
theorem ok_fitting : defOk PP TT d_fitting (tp 70) = true := by decide +kernel
theorem ok_word_by : defOk PP TT d_word_by (tp 71) = true := by decide +kernel
theorem ok_word : defOk PP TT d_word (tp 72) = true := by decide +kernel
theorem ok_ask : defOk PP TT d_ask (tp 73) = true := by decide +kernel
theorem ok_turned : defOk PP TT d_turned (tp 74) = true := by decide +kernel
theorem ok_telling : defOk PP TT d_telling (tp 75) = true := by decide +kernel
theorem ok_Panel_init : defOk PP TT d_Panel_init (inClass (tp 77) 0) = true := by decide +kernel
theorem ok_Panel_seen : defOk PP TT d_Panel_seen (inClass (tp 77) 1) = true := by decide +kernel
theorem ok_Panel_words : defOk PP TT d_Panel_words (inClass (tp 77) 2) = true := by decide +kernel
theorem ok_Panel_note : defOk PP TT d_Panel_note (inClass (tp 77) 3) = true := by decide +kernel
theorem ok_Panel_undo : defOk PP TT d_Panel_undo (inClass (tp 77) 4) = true := by decide +kernel
theorem ok_Panel_copy : defOk PP TT d_Panel_copy (inClass (tp 77) 5) = true := by decide +kernel
theorem ok_Panel_len : defOk PP TT d_Panel_len (inClass (tp 77) 6) = true := by decide +kernel
theorem ok_power : defOk PP TT d_power (tp 79) = true := by decide +kernel
theorem ok_powers : defOk PP TT d_powers (tp 80) = true := by decide +kernel
theorem ok_order : defOk PP TT d_order (tp 81) = true := by decide +kernel
theorem ok_check_tables : defOk PP TT d_check_tables (tp 82) = true := by decide +kernel
theorem ok_both : defOk PP TT d_both (tp 83) = true := by decide +kernel
theorem ok_either : defOk PP TT d_either (tp 84) = true := by decide +kernel
theorem ok_contrary : defOk PP TT d_contrary (tp 85) = true := by decide +kernel
theorem ok_fed : defOk PP TT d_fed (tp 86) = true := by decide +kernel
theorem ok_is_within : defOk PP TT d_is_within (tp 87) = true := by decide +kernel
theorem ok_between : defOk PP TT d_between (tp 88) = true := by decide +kernel
theorem ok_write_gate : defOk PP TT d_write_gate (tp 90) = true := by decide +kernel
theorem ok_law_mix : defOk PP TT d_law_mix (tp 92) = true := by decide +kernel
theorem ok_law_next : defOk PP TT d_law_next (tp 93) = true := by decide +kernel
theorem ok_law_first : defOk PP TT d_law_first (tp 94) = true := by decide +kernel
theorem ok_law_ask : defOk PP TT d_law_ask (tp 95) = true := by decide +kernel
theorem ok_law_told : defOk PP TT d_law_told (tp 96) = true := by decide +kernel
theorem ok_law_good_one : defOk PP TT d_law_good_one (tp 97) = true := by decide +kernel
theorem ok_law_bad_one : defOk PP TT d_law_bad_one (tp 98) = true := by decide +kernel
theorem ok_law : defOk PP TT d_law (tp 99) = true := by decide +kernel
end Oc
namespace Oc
open PySem (Str)
local macro_rules | `(tactic| walk_at "s") => `(tactic| first
  | (with_reducible assumption)
  | decide
  | omega
  | (simp only [List.length_map, List.length_cons, List.length_nil]; omega)
  | (constructor <;> walk_at "s"))
local macro_rules | `(tactic| walk_at "ci") => `(tactic| first
  | exact cond_int
  | exact cond_str
  | exact cond_tup
  | exact cond_lst
  | exact cond_bl
  | exact rfl)
local macro_rules | `(tactic| walk_at "b") => `(tactic| first
  | (with_reducible assumption)
  | (with_reducible exact b_add _ _ _)
  | (with_reducible exact b_sub _ _ _)
  | ((with_reducible refine' b_mulR ?k1); (case k1 => walk_at "s"))
  | ((with_reducible refine' b_mulL ?k1); (case k1 => walk_at "s"))
  | ((with_reducible refine' b_fdivR ?k1); (case k1 => walk_at "s"))
  | ((with_reducible refine' b_modR ?k1); (case k1 => walk_at "s"))
  | ((with_reducible refine' b_addSr ?k1); (case k1 => walk_at "s"))
  | ((with_reducible refine' b_addTr ?k1); (case k1 => walk_at "s"))
  | ((with_reducible refine' b_addLr ?k1); (case k1 => walk_at "s"))
  | ((with_reducible refine' b_powR ?k1); (case k1 => walk_at "s"))
  | ((with_reducible refine' b_shlR ?k1); (case k1 => walk_at "s"))
  | ((with_reducible refine' b_shrR ?k1); (case k1 => walk_at "s")))
local macro_rules | `(tactic| walk_at "c") => `(tactic| first
  | (with_reducible assumption)
  | (with_reducible exact c_eqI _ _)
  | (with_reducible exact c_neI _ _)
  | (with_reducible exact c_ltI _ _)
  | (with_reducible exact c_gtI _ _)
  | (with_reducible exact c_leI _ _)
  | (with_reducible exact c_geI _ _)
  | (with_reducible exact c_eqS _ _)
  | (with_reducible exact c_neS _ _))
local macro_rules | `(tactic| walk_at "bi") => `(tactic| first
  | (with_reducible assumption)
  | (with_reducible exact bi_len_tm)
  | (with_reducible exact bi_len_lm)
  | (with_reducible exact bi_len_tup _ _)
  | (with_reducible exact bi_len_lst _ _)
  | (with_reducible exact bi_len_str _ _)
  | (with_reducible exact bi_int_bl _ _)
  | (with_reducible exact bi_int_int _ _)
  | (with_reducible exact bi_sumM)
  | (with_reducible exact bi_tuple_lst _ _)
  | (with_reducible exact bi_list_scr)
  | (with_reducible exact bi_max2 _ _ _))
local macro_rules | `(tactic| walk_at "slc") => `(tactic| first
  | (with_reducible assumption)
  | exact rfl)
local macro_rules | `(tactic| walk_at "ix") => `(tactic| first
  | (with_reducible assumption)
  | exact rfl)
local macro_rules | `(tactic| walk_at "lm") => `(tactic| first
  | (with_reducible assumption)
  | decide
  | (show _ < 16777216; walk_at "s"))
local macro_rules | `(tactic| walk_at "one") => `(tactic| first
  | (intro _ _; exact cond_one)
  | (intro _ _; exact Nat.le_refl _)
  | (with_reducible assumption))
local macro_rules | `(tactic| walk_at "me") => `(tactic| first
  | (with_reducible assumption)
  | ((with_reducible refine' me_join0 ?k1 ?k2); (case k1 => walk_at "one"); (case k2 => walk_at "s")))
local macro_rules | `(tactic| walk_at "sub") => `(tactic| first
  | (with_reducible assumption)
  | exact rfl)
local macro_rules | `(tactic| walk_at "t") => `(tactic| first
  | exact tru_bl _ _
  | exact rfl)
local macro_rules | `(tactic| walk_at "rep") => `(tactic| first
  | (with_reducible assumption)
  | ((with_reducible refine' rep_one ?k1); (case k1 => walk_at "s"))
  | ((with_reducible refine' rep_map ?k1); (case k1 => walk_at "s")))
local macro_rules | `(tactic| walk_at "hf") => `(tactic| first
  | (with_reducible assumption)
  | exact rfl
  | (with_reducible exact hf_ints _ _)
  | (refine' hf_map ?k1; (case k1 => (intro _ _; exact rfl)))
  | (refine' hf_mapT ?k1; (case k1 => (intro _ _; exact rfl))))
local macro_rules | `(tactic| walk_at "call") => `(tactic| first
  | with_reducible assumption)
local macro_rules | `(tactic| walk_at "e") => `(tactic| first
  | (with_reducible assumption)
  | (with_reducible exact e_int)
  | (with_reducible exact e_str)
  | (with_reducible exact e_bl)
  | (with_reducible exact e_non)
  | (with_reducible exact e_gi)
  | (with_reducible exact e_nil)
  | ((with_reducible refine' e_vr ?k1); (case k1 => exact rfl))
  | ((with_reducible refine' e_cons ?k1 ?k2); (case k1 => walk_at "e"); (case k2 => walk_at "e"))
  | ((with_reducible refine' e_tup ?k1); (case k1 => walk_at "e"))
  | ((with_reducible refine' e_lst ?k1); (case k1 => walk_at "e"))
  | ((with_reducible refine' e_bin ?k1 ?k2 ?k3); (case k1 => walk_at "e"); (case k2 => walk_at "e"); (case k3 => walk_at "b"))
  | ((with_reducible refine' e_cmp ?k1 ?k2 ?k3 ?k4); (case k1 => walk_at "e"); (case k2 => walk_at "e"); (case k3 => exact rfl); (case k4 => walk_at "c"))
  | ((with_reducible refine' e_sub ?k1 ?k2 ?k3); (case k1 => walk_at "e"); (case k2 => walk_at "e"); (case k3 => walk_at "sub"))
  | ((with_reducible refine' e_slcN ?k1 ?k2 ?k3); (case k1 => walk_at "e"); (case k2 => walk_at "e"); (case k3 => walk_at "slc"))
  | ((with_reducible refine' e_slcL ?k1 ?k2 ?k3); (case k1 => walk_at "e"); (case k2 => walk_at "e"); (case k3 => walk_at "slc"))
  | ((with_reducible refine' e_slc2 ?k1 ?k2 ?k3 ?k4); (case k1 => walk_at "e"); (case k2 => walk_at "e"); (case k3 => walk_at "e"); (case k4 => walk_at "slc"))
  | ((with_reducible refine' e_bi ?k1 ?k2); (case k1 => walk_at "e"); (case k2 => walk_at "bi"))
  | ((with_reducible refine' e_neg ?k1); (case k1 => walk_at "e"))
  | ((with_reducible refine' e_not ?k1 ?k2); (case k1 => walk_at "e"); (case k2 => walk_at "t"))
  | ((with_reducible refine' e_and ?k1 ?k2); (case k1 => walk_at "e"); (case k2 => intro _; walk_at "e"))
  | ((with_reducible refine' e_or ?k1 ?k2); (case k1 => walk_at "e"); (case k2 => intro _; walk_at "e"))
  | ((with_reducible refine' e_chn ?k1 ?k2 ?k3 ?k4 ?k5); (case k1 => walk_at "e"); (case k2 => walk_at "e"); (case k3 => walk_at "c"); (case k4 => intro _; walk_at "e"); (case k5 => intro _; walk_at "c"))
  | ((with_reducible refine' e_ife ?k1 ?k2 ?k3 ?k4 ?k5); (case k1 => walk_at "e"); (case k2 => walk_at "t"); (case k3 => intro _; walk_at "e"); (case k4 => intro _; walk_at "e"); (case k5 => walk_at "ci"))
  | ((with_reducible refine' e_cal ?k1 ?k2); (case k1 => walk_at "e"); (case k2 => walk_at "call"))
  | ((with_reducible refine' e_prp ?k1 ?k2 ?k3); (case k1 => walk_at "e"); (case k2 => exact rfl); (case k3 => walk_at "call"))
  | ((with_reducible refine' e_rg1 ?k1 ?k2); (case k1 => walk_at "e"); (case k2 => walk_at "s"))
  | ((with_reducible refine' e_lr1 ?k1 ?k2); (case k1 => walk_at "e"); (case k2 => walk_at "s"))
  | ((with_reducible refine' e_rg2 ?k1 ?k2 ?k3); (case k1 => walk_at "e"); (case k2 => walk_at "e"); (case k3 => walk_at "s"))
  | ((with_reducible refine' e_lr2 ?k1 ?k2 ?k3); (case k1 => walk_at "e"); (case k2 => walk_at "e"); (case k3 => walk_at "s"))
  | ((with_reducible refine' e_lcm ?k1 ?k2 ?k3 ?k4); (case k1 => walk_at "e"); (case k2 => exact rfl); (case k3 => intro _; exact rfl); (case k4 => intro z hz; walk_at "z"))
  | ((with_reducible refine' e_lcf ?k1 ?k2 ?k3 ?k4 ?k5 ?k6 ?k7); (case k1 => exact rfl); (case k2 => walk_at "e"); (case k3 => exact rfl); (case k4 => intro _; exact rfl); (case k5 => intro z hz; walk_at "z"); (case k6 => intro _; walk_at "t"); (case k7 => intro z hz _; walk_at "z"))
  | ((with_reducible refine' e_enu ?k1 ?k2); (case k1 => walk_at "e"); (case k2 => exact rfl))
  | ((with_reducible refine' e_zp ?k1 ?k2 ?k3 ?k4); (case k1 => walk_at "e"); (case k2 => walk_at "e"); (case k3 => exact rfl); (case k4 => exact rfl))
  | ((with_reducible refine' e_bln ?k1); (case k1 => walk_at "e"))
  | ((with_reducible refine' e_rep ?k1 ?k2 ?k3); (case k1 => walk_at "e"); (case k2 => walk_at "e"); (case k3 => walk_at "rep"))
  | ((with_reducible refine' e_fs ?k1 ?k2); (case k1 => walk_at "e"); (case k2 => walk_at "s"))
  | ((with_reducible refine' e_rg3 ?k1 ?k2 ?k3); (case k1 => walk_at "e"); (case k2 => walk_at "e"); (case k3 => walk_at "s"))
  | ((with_reducible refine' e_rvL ?k1); (case k1 => walk_at "e"))
  | ((with_reducible refine' e_brw ?k1 ?k2); (case k1 => walk_at "e"); (case k2 => exact rfl))
  | ((with_reducible refine' e_vr ?k1); (case k1 => ((with_reducible refine' vsl_mskL ?k2 ?k3 ?k4); (case k2 => decide); (case k3 => exact rfl); (case k4 => walk_at "hf"))))
  | ((with_reducible refine' e_vr ?k1); (case k1 => ((with_reducible refine' vsl_mskD ?k2 ?k3 ?k4); (case k2 => decide); (case k3 => exact rfl); (case k4 => walk_at "hf"))))
  | ((with_reducible refine' e_me ?k1 ?k2 ?k3 ?k4); (case k1 => walk_at "e"); (case k2 => exact rfl); (case k3 => walk_at "e"); (case k4 => walk_at "me"))
  | ((with_reducible refine' e_isi ?k1 ?k2); (case k1 => walk_at "e"); (case k2 => exact rfl))
  | ((with_reducible refine' e_fldO ?k1 ?k2); (case k1 => walk_at "e"); (case k2 => exact rfl)))
local macro_rules | `(tactic| walk_at "z") => `(tactic| first
  | (have hz0 := mem_rgI (by assumption); walk_at "e")
  | (have hz0 := mem_rgB (by assumption); walk_at "e")
  | walk_at "e")
local macro_rules | `(tactic| walk_at "st") => `(tactic| first
  | ((with_reducible refine' s_seq ?k1); (case' k1 => skip))
  | ((with_reducible refine' s_nil ?k1); (case' k1 => skip))
  | ((with_reducible refine' s_set ?k1 ?k2); (case k1 => walk_at "e"); (case' k2 => skip))
  | ((with_reducible refine' s_setO ?k1 ?k2); (case k1 => walk_at "e"); (case' k2 => skip))
  | ((with_reducible refine' s_app ?k1 ?k2 ?k3 ?k4); (case k1 => exact rfl); (case k2 => walk_at "e"); (case k3 => walk_at "lm"); (case' k4 => skip))
  | ((with_reducible refine' s_frz ?k1 ?k2); (case k1 => exact rfl); (case' k2 => skip))
  | ((with_reducible refine' s_aug ?k1 ?k2 ?k3 ?k4); (case k1 => exact rfl); (case k2 => walk_at "e"); (case k3 => walk_at "b"); (case' k4 => skip))
  | ((with_reducible refine' s_lset ?k1 ?k2 ?k3 ?k4 ?k5); (case k1 => exact rfl); (case k2 => walk_at "e"); (case k3 => walk_at "e"); (case k4 => walk_at "ix"); (case' k5 => skip))
  | ((with_reducible refine' s_laug ?k1 ?k2 ?k3 ?k4 ?k5 ?k6 ?k7); (case k1 => exact rfl); (case k2 => walk_at "e"); (case k3 => walk_at "ix"); (case k4 => walk_at "ix"); (case k5 => walk_at "e"); (case k6 => walk_at "b"); (case' k7 => skip))
  | ((with_reducible refine' s_parO ?k1 ?k2 ?k3 ?k4 ?k5); (case k1 => walk_at "e"); (case k2 => walk_at "e"); (case k3 => exact rfl); (case k4 => exact rfl); (case' k5 => skip))
  | ((with_reducible refine' s_setP ?k1 ?k2 ?k3); (case k1 => walk_at "e"); (case k2 => exact rfl); (case' k3 => skip))
  | ((with_reducible refine' s_par ?k1 ?k2 ?k3); (case k1 => walk_at "e"); (case k2 => walk_at "e"); (case' k3 => skip))
  | ((with_reducible refine' s_ret ?k1); (case k1 => walk_at "e"))
  | ((with_reducible refine' s_drop ?k1 ?k2); (case k1 => walk_at "e"); (case' k2 => skip))
  | ((with_reducible refine' s_retR ?k1 ?k2 ?k3); (case k1 => walk_at "e"); (case k2 => walk_at "e"); (case k3 => walk_at "e"))
  | ((with_reducible refine' s_hset ?k1 ?k2 ?k3 ?k4 ?k5 ?k6); (case k1 => walk_at "e"); (case k2 => walk_at "e"); (case k3 => walk_at "e"); (case k4 => exact rfl); (case k5 => walk_at "ix"); (case' k6 => skip)))
local macro_rules | `(tactic| walk_at "ifF") => `(tactic| first
  | ((with_reducible refine' s_ifeF ?k1 ?k2 ?k3); (case k1 => walk_at "e"); (case' k3 => skip); (case' k2 => skip)))
local macro_rules | `(tactic| walk_at "ifT") => `(tactic| first
  | ((with_reducible refine' s_ifeT ?k1 ?k2 ?k3); (case k1 => walk_at "e"); (case' k3 => skip); (case' k2 => skip)))
local macro_rules | `(tactic| walk_at "if") => `(tactic| first
  | ((with_reducible refine' s_ife ?k1 ?k2 ?k3 ?k4); (case k1 => walk_at "e"); (case k2 => walk_at "t"); (case' k4 => skip); (case' k3 => skip)))
local macro_rules | `(tactic| walk_at "for") => `(tactic| first
  | ((with_reducible refine' s_for ?k1 ?k2 ?k3 ?k4); (case k1 => walk_at "e"); (case k2 => exact rfl); (case k3 => assumption); (case' k4 => skip)))
local macro_rules | `(tactic| walk_at "fset") => `(tactic| first
  | ((with_reducible refine' s_fset ?k1 ?k2 ?k3 ?k4 ?k5); (case k1 => walk_at "e"); (case k2 => walk_at "e"); (case k3 => exact rfl); (case k4 => decide); (case' k5 => skip)))
/-- the memory: the cells, the state; what stands behind -/
def RM (cs : List Int) (s i : Int) (N : Mem) : Mem := .ml (cs.map .int) :: .ml [.int s, .hnd 0, .int i] :: N
/-- a memory with a source of draws, N behind it -/
def Src (N M : Mem) : Prop := ∃ cs s i, cs.length ≤ 63 ∧ M = RM cs s i N
theorem c_mix (n : Nat) (ns : List Int) (k : Int) (h : ns.length ≤ 63) : ∃ M, Src [] M ∧ PP.call (n + 1) f_law_mix [] [.scr ns, .int k] = .ok M (.hnd 1) := by
  obtain ⟨M', r', e, rfl, s, x, rfl⟩ := forGo_st (p := .nm 3) (f := fun M2 r2 => ex (PP.fx n) b_law_mix_0 M2 r2) (h := D.int) (zs := ns) (M := []) (r := [some (.d (.scr ns)), some (.d (.int k)), some (.d (.int k)), none])
    (fun _ M r => M = [] ∧ ∃ s x, r = [some (.d (.scr ns)), some (.d (.int k)), some (.d (.int s)), x]) ⟨rfl, k, none, rfl⟩ fun pre z post M r hz hI => by
      obtain ⟨rfl, s, x, rfl⟩ := hI
      refine' ⟨_, _, _, rfl, ?e, ?i⟩
      case e => walk_at "st"; exact s_end
      case i => exact ⟨rfl, _, _, rfl⟩
  refine ⟨RM ns s 0 [], ⟨ns, s, 0, h, rfl⟩, ?_⟩
  refine' go_law_mix ?a ?b
  case a =>
    walk_at "st"
    refine' s_for ?c ?d e ?g
    case c => walk_at "e"
    case d => rfl
    case g => walk_at "st"
  case b => rfl
theorem add_h (cs : List Int) (s i : Int) (N : Mem) (h : cs.length ≤ 63) : binD (RM cs s i N) .add (.hnd 0) (.lst [.int 0]) = some (.lst ((cs ++ [0]).map .int)) := by
  show (if (cs.map D.int).length + [D.int 0].length ≤ lim then some (D.lst (cs.map D.int ++ [D.int 0])) else none) = _
  rw [if_pos (by rw [List.length_map]; show cs.length + 1 ≤ 16777216; omega), List.map_append]
  rfl
theorem len_h (cs : List Int) (s i : Int) (N : Mem) : biD (RM cs s i N) .len [.hnd 0] = some (.int (cs.length : Int)) := by
  show some (D.int ((cs.map D.int).length : Int)) = _
  rw [List.length_map]
theorem ixO_in {n : Nat} {i : Int} (h0 : 0 ≤ i) (h : i < n) : ixO n i = some i.toNat := by
  unfold ixO; rw [if_pos h0, if_pos h]
theorem c_next (n : Nat) (N M : Mem) (b : Int) (hM : Src N M) (h0 : 0 < b) (h1 : b < 1073741824) : ∃ M' v, Src N M' ∧ 0 ≤ v ∧ v < b ∧ PP.call (n + 1) f_law_next M [.hnd 1, .int b] = .ok M' (.int v) := by
  obtain ⟨cs, s, i, hl, rfl⟩ := hM
  have ga := add_h cs s i N hl
  have gl := len_h cs s i N
  have m1 : (0 : Int) < (if (cs.length : Int) > 1 then (cs.length : Int) else 1) := by split <;> omega
  have m2 : (if (cs.length : Int) > 1 then (cs.length : Int) else 1) ≤ (cs.length : Int) + 1 := by split <;> omega
  have k0 := Int.emod_nonneg i (show (if (cs.length : Int) > 1 then (cs.length : Int) else 1) ≠ 0 by omega)
  have k1 := Int.emod_lt_of_pos i m1
  have gs := sub_lstI (M := RM cs s i N) (ws := cs ++ [0]) k0 (by rw [List.length_append]; show _ < ((cs.length + 1 : Nat) : Int); omega)
  generalize hc : (cs ++ [0]).getD (i % (if (cs.length : Int) > 1 then (cs.length : Int) else 1)).toNat 0 = c at gs
  by_cases hbig : (1000000000000000000 : Int) ≤ c
  · have hpos : 0 < cs.length := by
      rcases Nat.eq_zero_or_pos cs.length with e | e
      · have : cs = [] := List.length_eq_zero_iff.mp e
        subst this
        exfalso
        have : i % (if (([] : List Int).length : Int) > 1 then (([] : List Int).length : Int) else 1) = 0 := by simp [Int.emod_one]
        rw [this] at hc
        have : c = 0 := by rw [← hc]; rfl
        omega
      · exact e
    have q0 := Int.emod_nonneg i (show (cs.length : Int) ≠ 0 by omega)
    have q1 := Int.emod_lt_of_pos i (show (0 : Int) < cs.length by omega)
    have gp : (0 : Int) < (cs.length : Int) := by omega
    have gx : ixO (cs.map D.int).length (i % (cs.length : Int)) = some (i % (cs.length : Int)).toNat := by rw [List.length_map]; exact ixO_in q0 q1
    refine ⟨RM (cs.set (i % (cs.length : Int)).toNat (c / b)) s i N, c % b, ⟨_, s, i, by rw [List.length_set]; exact hl, rfl⟩, Int.emod_nonneg _ (by omega), Int.emod_lt_of_pos _ h0, ?_⟩
    refine' go_law_next ?a ?b
    case a =>
      walk_at "st"
      refine' s_ifeT ?c ?d ?e
      case c => walk_at "e"
      case d => exact congrArg some (decide_eq_true hbig)
      case e =>
        walk_at "st"
        walk_at "st"
        walk_at "st"
        walk_at "st"
        walk_at "st"
        walk_at "st"
    case b =>
      show R.ok _ _ = R.ok _ _
      unfold RM
      rw [List.map_set]
      rfl
  · refine ⟨RM cs ((s * 48271 + c * 69621 + 11) % 2147483647) (i + 1) N, (s * 48271 + c * 69621 + 11) % 2147483647 / 7 % b, ⟨cs, _, _, hl, rfl⟩, Int.emod_nonneg _ (by omega), Int.emod_lt_of_pos _ h0, ?_⟩
    refine' go_law_next ?a ?b
    case a =>
      walk_at "st"
      refine' s_ifeF ?c ?d ?e
      case c => walk_at "e"
      case d => exact congrArg some (decide_eq_false hbig)
      case e =>
        walk_at "st"
        walk_at "st"
        walk_at "st"
        walk_at "st"
    case b => rfl
abbrev tpD (ws : List Int) : D := .tup (ws.map D.int)
def rgW : List Int := [-3, -2, -1, 0, 1, 2, 3]
def awL : Nat → List (List Int)
  | 0 => [[]]
  | n + 1 => (awL n).flatMap fun o => rgW.map fun w => o ++ [w]
theorem awL_len : ∀ {n : Nat} {ws : List Int}, ws ∈ awL n → ws.length = n ∧ ∀ z ∈ ws, -3 ≤ z ∧ z ≤ 3
  | 0, ws, h => by simp [awL] at h; subst h; simp
  | n + 1, ws, h => by
    simp only [awL, List.mem_flatMap, List.mem_map] at h
    obtain ⟨o, ho, w, hw, rfl⟩ := h
    obtain ⟨h1, h2⟩ := awL_len ho
    refine ⟨by rw [List.length_append, h1]; rfl, fun z hz => ?_⟩
    rcases List.mem_append.mp hz with q | q
    · exact h2 z q
    · simp at q; subst q
      simp [rgW] at hw
      omega
theorem awL_card : ∀ n : Nat, (awL n).length = 7 ^ n
  | 0 => rfl
  | n + 1 => by
    simp only [awL, List.length_flatMap, List.length_map]
    have key : ∀ l : List (List Int), (l.map fun _ => rgW.length).sum = l.length * 7 := by
      intro l
      induction l with
      | nil => rfl
      | cons a l ih => rw [List.map_cons, List.sum_cons, ih, List.length_cons]; show 7 + _ = _; omega
    rw [Nat.pow_succ, ← awL_card n, key]
def leW (a b : List Int) : Bool := leK (tpD a) (tpD b)
def aw (n : Nat) : List (List Int) := (awL n).mergeSort leW
theorem srk_aw (n : Nat) : srkD (.lst ((awL n).map tpD)) = some (.lst ((aw n).map tpD)) := by
  have h0 : ((awL n).map tpD).all tupI = true := by
    rw [List.all_map, List.all_eq_true]
    intro ws _
    show (intsOf (ws.map D.int)).isSome = true
    rw [intsOf_map]; rfl
  show (if ((awL n).map tpD).all tupI = true then some (D.lst (((awL n).map tpD).mergeSort leK)) else none) = _
  rw [if_pos h0]
  congr 2
  symm
  exact List.map_mergeSort fun a _ b _ => rfl
theorem e_srkA {X : Fx} {M M1 : Mem} {r : En} {a : E} {d z : D} (ha : ev X a M r = .ok M1 d) (h : srkD d = some z) : ev X (.srk a) M r = .ok M1 z := by
  rw [ev, ha, bind_ok', h]; rfl
theorem c_all_weights (n : Nat) (M : Mem) (k : Nat) (hk : k ≤ 4) : PP.call (n + 1) f_all_weights M [.int k] = .ok M (.lst ((aw k).map tpD)) := by
  obtain ⟨M', r', e, rfl, x, rfl⟩ := forGo_st (p := .nm 2) (f := fun M2 r2 => ex (PP.fx n) b_all_weights_0 M2 r2) (h := D.int) (zs := rgI k) (M := M) (r := [some (.d (.int k)), some (.d (.lst ((awL 0).map tpD))), none, none, none])
    (fun pre M1 r => M1 = M ∧ ∃ x, r = [some (.d (.int k)), some (.d (.lst ((awL pre.length).map tpD))), x, none, none]) ⟨rfl, none, rfl⟩ fun pre z post M r hz hI => by
      obtain ⟨rfl, x, rfl⟩ := hI
      have hm : pre.length ≤ 3 := by
        have := congrArg List.length hz
        rw [rgI_len, List.length_append, List.length_cons] at this
        omega
      have q : ev (PP.fx n) q_all_weights_0 M [some (.d (.int k)), some (.d (.lst ((awL pre.length).map tpD))), some (.d (.int z)), none, none] = .ok M (.lst ((awL (pre.length + 1)).map tpD)) := by
        refine' (e_lc2m (us := awL pre.length) (f := tpD) (d2 := fun _ => .lst (rgW.map .int)) (vs := fun _ => rgW) (g0 := fun _ i => D.int i) (g := fun o i => tpD (o ++ [i])) ?g1 ?g2 ?g3 ?g4 ?g5 ?g6 ?g7 ?g8).trans ?g9
        case g1 => walk_at "e"
        case g2 => rfl
        case g3 => intro o; exact rfl
        case g4 =>
          intro o ho
          have h1 : ev (PP.fx n) (.rg2 (.neg (.gi "LEAST_GATES" 3)) (.bin .add (.gi "LEAST_GATES" 3) (.int 1))) M (setE (wipE [some (Sl.d (.int k)), some (.d (.lst ((awL pre.length).map tpD))), some (.d (.int z)), none, none] [3, 4]) 3 (tpD o)) = .ok M (.lst (rgW.map .int)) := by
            refine' (e_rg2 ?a1 ?a2 ?a3).trans ?a4
            case a1 => walk_at "e"
            case a2 => walk_at "e"
            case a3 => decide
            case a4 => rfl
          exact h1
        case g5 => intro o; rfl
        case g6 => intro o i; exact rfl
        case g7 =>
          intro o ho i hi
          have hl := (awL_len ho).1
          have ha : binD M .add (tpD o) (.tup [.int i]) = some (tpD (o ++ [i])) := by
            show (if _ then some (D.tup (o.map D.int ++ [D.int i])) else none) = _
            rw [if_pos (by rw [List.length_map, hl]; show _ + 1 ≤ 16777216; omega)]
            show _ = some (D.tup ((o ++ [i]).map D.int))
            rw [List.map_append]; rfl
          refine' e_bin ?b1 ?b2 ha
          case b1 => exact e_vr rfl
          case b2 => walk_at "e"
        case g8 =>
          have := awL_card pre.length
          have h7 : ((awL pre.length).flatMap fun _ => rgW).length = (awL pre.length).length * 7 := by
            induction awL pre.length with
            | nil => rfl
            | cons a l ih => rw [List.flatMap_cons, List.length_append, ih, List.length_cons]; show 7 + _ = _; omega
          rw [h7, this]
          have h8 : (7 : Nat) ^ pre.length ≤ 7 ^ 3 := Nat.pow_le_pow_right (by decide) hm
          show _ ≤ 16777216
          omega
        case g9 =>
          congr 2
          show _ = (((awL pre.length).flatMap fun o => rgW.map fun w => o ++ [w])).map tpD
          rw [List.map_flatMap]
          congr 1
      have hx : ex (PP.fx n) b_all_weights_0 M [some (.d (.int k)), some (.d (.lst ((awL pre.length).map tpD))), some (.d (.int z)), none, none] = .nx M [some (.d (.int k)), some (.d (.lst ((awL (pre.length + 1)).map tpD))), some (.d (.int z)), none, none] := by
        walk_at "st"; exact s_end
      exact ⟨_, _, _, rfl, hx, rfl, some (.d (.int z)), by rw [List.length_append]; rfl⟩
  rw [rgI_len] at e
  have hs := srk_aw k
  have hk0 : ((k : Nat) : Int) < 16777216 ∧ -4611686018427387904 ≤ ((k : Nat) : Int) := by omega
  refine' go_all_weights (fl := .rt M' (.lst ((aw k).map tpD))) ?r1 ?r2
  case r1 =>
    walk_at "st"
    have it : ev (PP.fx n) (.rg1 (.vr 0)) M' [some (.d (.int k)), some (.d (.lst [.tup []])), none, none, none] = .ok M' (.lst ((rgI k).map .int)) := by
      refine' (e_rg1 (n := (k : Int)) ?w1 ?w2).trans ?w3
      case w1 => exact e_vr rfl
      case w2 => exact hk0
      case w3 => rw [Int.toNat_natCast]
    refine s_for it rfl e ?g
    case g =>
      refine s_ret ?j
      case j =>
        refine' e_srkA ?j1 hs
        case j1 => exact e_vr rfl
  case r2 => rfl
theorem kyL_tp (ws : List Int) : kyL (tpD ws) = .tuple [.int (ws.map absI).sum, .tuple (ws.map .int)] := by
  show (match intsOf (ws.map D.int) with | some ws => _ | none => _) = _
  rw [intsOf_map]
theorem leW_lex (a b : List Int) : leW a b = !PyProof.Rows.lexLt PyProof.Rows.itemOrd (PySem.W.keyToks (kyL (tpD b))) (PySem.W.keyToks (kyL (tpD a))) := rfl
theorem leW_trans (a b c : List Int) (h1 : leW a b = true) (h2 : leW b c = true) : leW a c = true := by
  rw [leW_lex] at h1 h2 ⊢
  rw [Bool.not_eq_true'] at h1 h2 ⊢
  rw [Bool.eq_false_iff]
  intro h
  rcases PyProof.Rows.lex_negTrans (O := PyProof.Rows.itemOrd) _ (PySem.W.keyToks (kyL (tpD b))) _ h with q | q
  · rw [h2] at q; cases q
  · rw [h1] at q; cases q
theorem leW_total (a b : List Int) : (leW a b || leW b a) = true := by
  rw [leW_lex, leW_lex]
  cases h1 : PyProof.Rows.lexLt PyProof.Rows.itemOrd (PySem.W.keyToks (kyL (tpD b))) (PySem.W.keyToks (kyL (tpD a)))
  · simp
  · cases h2 : PyProof.Rows.lexLt PyProof.Rows.itemOrd (PySem.W.keyToks (kyL (tpD a))) (PySem.W.keyToks (kyL (tpD b)))
    · simp
    · have := PyProof.Rows.lex_trans (O := PyProof.Rows.itemOrd) _ _ _ h1 h2
      rw [PyProof.Rows.lex_irrefl] at this; cases this
theorem eqvA_ints : ∀ a b : List Int, PySem.PyData.eqvAll (a.map .int) (b.map .int) = decide (a = b)
  | [], [] => by simp [PySem.PyData.eqvAll]
  | [], _ :: _ => by simp [PySem.PyData.eqvAll]
  | _ :: _, [] => by simp [PySem.PyData.eqvAll]
  | x :: a, y :: b => by
    have ih := eqvA_ints a b
    simp only [List.map_cons, PySem.PyData.eqvAll, PySem.PyData.eqv, ih]
    by_cases h : x = y <;> by_cases h2 : a = b <;> simp [h, h2]
theorem leW_eq (a b : List Int) : leW a b = !(decide ((b.map absI).sum < (a.map absI).sum) || (decide ((b.map absI).sum = (a.map absI).sum) && decide (b < a))) := by
  have e : leW a b = !PySem.W.dataLt (kyL (tpD b)) (kyL (tpD a)) := rfl
  rw [e, kyL_tp, kyL_tp, PySem.W.dataLt_pair (by simp [PySem.W.alike]) (by simp [PySem.W.alike, PySem.W.alike_ints])]
  rw [PySem.W.dataLt_int, PySem.W.dataLt_tuple]
  have h3 : PySem.W.dataLt (.tuple (b.map .int)) (.tuple (a.map .int)) = decide (b < a) := by
    rw [PySem.W.dataLt_tuple]; exact PySem.W.dataLt_ints b a
  rw [PySem.W.dataLt_tuple] at h3
  by_cases h : (b.map absI).sum = (a.map absI).sum
  · have h2 : PySem.PyData.eqv (.int (b.map absI).sum) (.int (a.map absI).sum) = true := by
      rw [h]; simp [PySem.PyData.eqv]
    rw [h2, if_pos rfl, h3, decide_eq_true h, h, decide_eq_false (Int.lt_irrefl _)]
    have h5 : PySem.PyData.eqv (.tuple (b.map .int)) (.tuple (a.map .int)) = decide (b = a) := by
      rw [PySem.PyData.eqv, eqvA_ints]
    rw [h5]
    by_cases q : b = a
    · subst q
      simp [List.lt_irrefl]
    · simp [q]
  · have h2 : PySem.PyData.eqv (.int (b.map absI).sum) (.int (a.map absI).sum) = false := by
      simp [PySem.PyData.eqv]; exact h
    rw [h2, if_neg (by simp), decide_eq_false h]
    simp
theorem leW_anti {a b : List Int} (h1 : leW a b = true) (h2 : leW b a = true) : a = b := by
  rw [leW_eq] at h1 h2
  simp only [Bool.not_eq_true', Bool.or_eq_false_iff, Bool.and_eq_false_iff, decide_eq_false_iff_not] at h1 h2
  have e : (b.map absI).sum = (a.map absI).sum := by omega
  have q1 : ¬ b < a := h1.2.resolve_left (fun z => z e)
  have q2 : ¬ a < b := h2.2.resolve_left (fun z => z e.symm)
  exact Std.le_antisymm (List.not_lt.mp q1) (List.not_lt.mp q2)
/-- in order, neighbour by neighbour -/
def ascW : List (List Int) → Bool
  | a :: b :: l => leW a b && ascW (b :: l)
  | _ => true
theorem ascW_pw : ∀ {l : List (List Int)}, ascW l = true → l.Pairwise fun a b => leW a b = true
  | [], _ => .nil
  | [a], _ => List.pairwise_singleton _ _
  | a :: b :: l, h => by
    rw [ascW, Bool.and_eq_true] at h
    have ih := ascW_pw h.2
    refine .cons (fun c hc => ?_) ih
    rcases List.mem_cons.mp hc with rfl | hc
    · exact h.1
    · exact leW_trans _ _ _ h.1 ((List.pairwise_cons.mp ih).1 c hc)
theorem aw_lit {k : Nat} {l : List (List Int)} (h : ascW l = true) (hp : (awL k).isPerm l = true) : aw k = l := by
  refine List.Perm.eq_of_pairwise (le := fun a b => leW a b = true) (fun a b _ _ => leW_anti) (List.pairwise_mergeSort leW_trans leW_total _) (ascW_pw h) ?_
  exact (List.mergeSort_perm _ _).trans (List.isPerm_iff.mp hp)
def awl_2 : List (List Int) := [[0, 0], [(-1), 0], [0, (-1)], [0, 1], [1, 0], [(-2), 0], [(-1), (-1)], [(-1), 1], [0, (-2)], [0, 2], [1, (-1)], [1, 1], [2, 0], [(-3), 0], [(-2), (-1)], [(-2), 1], [(-1), (-2)], [(-1), 2], [0, (-3)], [0, 3], [1, (-2)], [1, 2], [2, (-1)], [2, 1], [3, 0], [(-3), (-1)], [(-3), 1], [(-2), (-2)], [(-2), 2], [(-1), (-3)], [(-1), 3], [1, (-3)], [1, 3], [2, (-2)], [2, 2], [3, (-1)], [3, 1], [(-3), (-2)], [(-3), 2], [(-2), (-3)], [(-2), 3], [2, (-3)], [2, 3], [3, (-2)], [3, 2], [(-3), (-3)], [(-3), 3], [3, (-3)], [3, 3]]
theorem aw_2 : aw 2 = awl_2 := aw_lit (by decide +kernel) (by decide +kernel)
mutual
/-- the same data; false: not known -/
def smD : D → D → Bool
  | .non, .non => true
  | .bl a, .bl b => a == b
  | .int i, .int j => decide (i = j)
  | .str a, .str b => decide (a = b)
  | .tup a, .tup b => smL a b
  | _, _ => false
def smL : List D → List D → Bool
  | [], [] => true
  | x :: xs, y :: ys => smD x y && smL xs ys
  | _, _ => false
end
mutual
theorem smD_eq : ∀ {a b : D}, smD a b = true → a = b
  | .non, .non, _ => rfl
  | .bl a, .bl b, h => by rw [smD] at h; rw [eq_of_beq h]
  | .int i, .int j, h => by rw [smD] at h; rw [of_decide_eq_true h]
  | .str i, .str j, h => by rw [smD] at h; rw [of_decide_eq_true h]
  | .tup a, .tup b, h => by rw [smD] at h; rw [smL_eq h]
theorem smL_eq : ∀ {a b : List D}, smL a b = true → a = b
  | [], [], _ => rfl
  | x :: xs, y :: ys, h => by
    rw [smL, Bool.and_eq_true] at h
    rw [smD_eq h.1, smL_eq h.2]
end
/-- a call, its arguments, its answer -/
abbrev Kn := List (Nat × List D × D)
def knF : Kn → Nat → List D → Option D
  | [], _, _ => none
  | e :: l, f, xs => if (Nat.beq e.1 f && smL e.2.1 xs) = true then some e.2.2 else knF l f xs
def memo (K : Kn) (n0 : Nat) : Nat → Nat → Mem → List D → R D
  | 0, f, M, xs => PP.call n0 f M xs
  | n + 1, f, M, xs => match knF K f xs with
    | some d => .ok M d
    | none => match PP.df f with
      | some d => if xs.length = d.np ∧ d.np ≤ d.ns.length then retOf (ex ⟨memo K n0 n, PP.eqf, PP.ini, PP.frz, PP.exs⟩ d.bd M (xs.map (fun x => some (.d x)) ++ List.replicate (d.ns.length - xs.length) none)) else .st
      | none => .st
def KnOk (K : Kn) (n0 : Nat) : Prop := ∀ e ∈ K, ∀ (n : Nat) (M : Mem), PP.call (n + n0 + 1) e.1 M e.2.1 = .ok M e.2.2
theorem knF_mem : ∀ {K : Kn} {f : Nat} {xs : List D} {d : D}, knF K f xs = some d → (f, xs, d) ∈ K
  | e :: l, f, xs, d, h => by
    rw [knF] at h
    split at h
    · rename_i c
      rw [Bool.and_eq_true] at c
      cases h
      have h1 := Nat.eq_of_beq_eq_true c.1
      have h2 := smL_eq c.2
      subst h1 h2
      exact List.mem_cons_self
    · exact List.mem_cons_of_mem _ (knF_mem h)
theorem memo_eq {K : Kn} {n0 : Nat} (hK : KnOk K n0) : ∀ n f M xs, memo K n0 n f M xs = PP.call (n + n0) f M xs
  | 0, f, M, xs => by rw [Nat.zero_add]; rfl
  | n + 1, f, M, xs => by
    have ih : memo K n0 n = PP.call (n + n0) := by funext f M xs; exact memo_eq hK n f M xs
    have en : n + 1 + n0 = n + n0 + 1 := by omega
    rw [memo, en]
    split
    · rename_i d h
      exact (hK _ (knF_mem h) n M).symm
    · rw [Pg.call, ih]
      try rfl
theorem memo_to {K : Kn} {n0 n m : Nat} {f : Nat} {M : Mem} {xs : List D} {r : R D} (hK : KnOk K n0) (hm : n + n0 = m) (h : memo K n0 n f M xs = r) : PP.call m f M xs = r := by
  rw [← hm, ← memo_eq hK, h]
def okS (s : Cs) : R D → Bool
  | .ok _ (.str x) => decide (x = s)
  | _ => false
theorem okS_ex {s : Cs} {r : R D} (h : okS s r = true) : ∃ M, r = .ok M (.str s) := by
  unfold okS at h
  split at h
  · rename_i M x
    exact ⟨M, by rw [of_decide_eq_true h]⟩
  · cases h
theorem memo_fun {K : Kn} {n0 : Nat} (hK : KnOk K n0) (n : Nat) : memo K n0 n = PP.call (n + n0) := by funext f M xs; exact memo_eq hK n f M xs
abbrev mfx (K : Kn) (n0 n : Nat) : Fx := ⟨memo K n0 n, PP.eqf, PP.ini, PP.frz, PP.exs⟩
theorem mfx_eq {K : Kn} {n0 : Nat} (hK : KnOk K n0) (n : Nat) : mfx K n0 n = PP.fx (n + n0) := by
  show Fx.mk _ _ _ _ _ = Fx.mk _ _ _ _ _
  rw [memo_fun hK]
theorem ev_to {K : Kn} {n0 n m : Nat} {e : E} {M : Mem} {r : En} {z : R D} (hK : KnOk K n0) (hm : n + n0 = m) (h : ev (mfx K n0 n) e M r = z) : ev (PP.fx m) e M r = z := by
  rw [← hm, ← mfx_eq hK, h]
theorem toPs_intsS : ∀ c : List Int, toPs (c.map .int) = c.map .int
  | [] => rfl
  | x :: c => by
    show toPs (D.int x :: c.map .int) = _
    rw [toPs, toPs_intsS c]; rfl
theorem ltO_tp (a b : List Int) : ltO (tpD a) (tpD b) = decide (a < b) := by
  have h := PySem.W.dataLt_ints a b
  unfold ltO
  simp only [toP, toPs_intsS]
  rw [PySem.W.dataLt_tuple]
  exact h
theorem alike_tp (a b : List Int) : PySem.W.alike (toP (tpD a)) (toP (tpD b)) = true := by
  simp only [toP, toPs_intsS, PySem.W.alike]
  exact PySem.W.alike_ints a b
theorem shp_tp (a : List Int) : shp 8 (tpD a) = true := by
  show (a.map D.int).all (shp 7) = true
  rw [List.all_map, List.all_eq_true]
  exact fun _ _ => rfl
theorem alk_tp (us : List (List Int)) : alkOk (us.map tpD) = true := alk_map shp_tp (fun _ => rfl) alike_tp
section
variable {α : Type} [BEq α] [LawfulBEq α]
/-- in order, neighbour by neighbour -/
def ascB (le : α → α → Bool) : List α → Bool
  | a :: b :: l => le a b && ascB le (b :: l)
  | _ => true
theorem ascB_pw {le : α → α → Bool} (ht : ∀ a b c, le a b = true → le b c = true → le a c = true) : ∀ {l : List α}, ascB le l = true → l.Pairwise fun a b => le a b = true
  | [], _ => .nil
  | [a], _ => List.pairwise_singleton _ _
  | a :: b :: l, h => by
    rw [ascB, Bool.and_eq_true] at h
    have ih := ascB_pw ht h.2
    refine .cons (fun c hc => ?_) ih
    rcases List.mem_cons.mp hc with rfl | hc
    · exact h.1
    · exact ht _ _ _ h.1 ((List.pairwise_cons.mp ih).1 c hc)
theorem sort_lit {le : α → α → Bool} (ht : ∀ a b c, le a b = true → le b c = true → le a c = true) (hl : ∀ a b, (le a b || le b a) = true) (ha : ∀ a b, le a b = true → le b a = true → a = b) {us ls : List α} (h : ascB le ls = true) (hp : us.isPerm ls = true) : us.mergeSort le = ls :=
  List.Perm.eq_of_pairwise (le := fun a b => le a b = true) (fun a b _ _ => ha a b) (List.pairwise_mergeSort ht hl _) (ascB_pw ht h) ((List.mergeSort_perm _ _).trans (List.isPerm_iff.mp hp))
end
def leT (a b : List Int) : Bool := decide (a ≤ b)
def leC0 (a b : Cs) : Bool := decide (a ≤ b)
theorem srt_tpL (M : Mem) {us ls : List (List Int)} (hn : (us.map tpD).all neTup = true) (h : ascB leT ls = true) (hp : us.isPerm ls = true) : biD M .sorted [.lst (us.map tpD)] = some (.lst (ls.map tpD)) := by
  show (if srtOk (us.map tpD) then some (D.lst ((us.map tpD).mergeSort leO)) else none) = _
  have hs : srtOk (us.map tpD) = true := by
    unfold srtOk
    rw [alk_tp, Bool.true_and, hn]; rfl
  have hm := sort_map (f := tpD) (le := leT) (fun u v => by
    rw [leO_eq, ltO_tp]
    unfold leT
    by_cases h : v < u
    · rw [decide_eq_true h, decide_eq_false (by exact fun z => absurd h (List.not_lt.mpr z))]; rfl
    · rw [decide_eq_false h, decide_eq_true (List.not_lt.mp h)]; rfl) us
  rw [if_pos hs, hm, sort_lit (le := leT) (fun a b c x y => by unfold leT at *; rw [decide_eq_true_eq] at *; exact Std.le_trans x y) (fun a b => by unfold leT; simp only [Bool.or_eq_true, decide_eq_true_eq]; exact Std.le_total)
    (fun a b x y => by unfold leT at *; rw [decide_eq_true_eq] at *; exact Std.le_antisymm x y) h hp]
theorem srt_strL (M : Mem) {us ls : List Cs} (h : ascB leC0 ls = true) (hp : us.isPerm ls = true) : biD M .sorted [.lst (us.map .str)] = some (.lst (ls.map .str)) := by
  rw [bi_sortedS]
  have hm : (us.mergeSort fun a b => decide (a ≤ b)) = ls := sort_lit (le := leC0) (fun a b c x y => by unfold leC0 at *; rw [decide_eq_true_eq] at *; exact Std.le_trans x y) (fun a b => by unfold leC0; simp only [Bool.or_eq_true, decide_eq_true_eq]; exact Std.le_total)
    (fun a b x y => by unfold leC0 at *; rw [decide_eq_true_eq] at *; exact Std.le_antisymm x y) h hp
  rw [hm]
abbrev kl1 : Kn := [(f_all_weights, [.int 2], .lst (awl_2.map tpD))]
theorem kn1 : KnOk kl1 0 := by
  intro e he n M
  simp only [kl1, List.mem_cons, List.not_mem_nil, or_false] at he
  subst he
  have h := c_all_weights n M 2 (by decide)
  rw [aw_2] at h
  exact h
def wd2 : D := .dt true [[.inl 4, .inl 2, .inl 2], [.inl 0, .inl 0, .inl 0], [.inl 2, .inl 0, .inl 1], [.inl 2, .inl 1, .inl 0], [.inl 2, .inl 1, .inl 2], [.inl 2, .inl 2, .inl 1], [.inl 3, .inl 1, .inl 1], [.inl 1, .inl 0, .inl 0], [.inl 3, .inl 1, .inl 2], [.inl 1, .inl 0, .inl 1], [.inl 3, .inl 2, .inl 1], [.inl 1, .inl 1, .inl 0], [.inl 3, .inl 2, .inl 2], [.inl 1, .inl 1, .inl 1]] [.str [49, 49, 49, 49], .str [48, 48, 48, 48], .str [49, 48, 49, 48], .str [49, 49, 48, 48], .str [48, 48, 49, 49], .str [48, 49, 48, 49], .str [49, 49, 49, 48], .str [49, 48, 48, 48], .str [49, 48, 49, 49], .str [48, 48, 49, 48], .str [49, 49, 48, 49], .str [48, 49, 48, 48], .str [48, 49, 49, 49], .str [48, 48, 48, 49]]
theorem c_wd2 (n : Nat) (M : Mem) : PP.call (n + 3) f_weighed M [.int 2] = .ok M wd2 := memo_to (n := n + 3) kn1 rfl (by kernel_rfl)
abbrev kl1w : Kn := [(f_all_weights, [.int 2], .lst (awl_2.map tpD)), (f_weighed, [.int 2], wd2)]
theorem kn1w : KnOk kl1w 2 := by
  intro e he n M
  simp only [kl1w, List.mem_cons, List.not_mem_nil, or_false] at he
  rcases he with rfl | rfl
  · exact kn1 _ List.mem_cons_self (n + 2) M
  · exact c_wd2 n M
theorem c_nth0 (n : Nat) (M : Mem) : PP.call (n + 8) f_nth M [.int 2, .int 0] = .ok M (.str [48, 48, 48, 48]) := by
  have hs := srt_tpL M (us := [[4, 2, 2], [0, 0, 0], [2, 0, 1], [2, 1, 0], [2, 1, 2], [2, 2, 1], [3, 1, 1], [1, 0, 0], [3, 1, 2], [1, 0, 1], [3, 2, 1], [1, 1, 0], [3, 2, 2], [1, 1, 1]]) (ls := [[0, 0, 0], [1, 0, 0], [1, 0, 1], [1, 1, 0], [1, 1, 1], [2, 0, 1], [2, 1, 0], [2, 1, 2], [2, 2, 1], [3, 1, 1], [3, 1, 2], [3, 2, 1], [3, 2, 2], [4, 2, 2]]) rfl (by decide +kernel) (by decide +kernel)
  refine' go_nth (fl := .rt M (.str [48, 48, 48, 48])) ?r1 ?r2
  case r2 => rfl
  case r1 =>
    refine s_drop (x := .non) (M1 := M) (ev_to (n := n + 5) kn1w rfl (by kernel_rfl)) ?_
    refine s_set (x := wd2) (M1 := M) (ev_to (n := n + 5) kn1w rfl (by kernel_rfl)) ?_
    refine s_ifeF (x := .bl false) (M1 := M) (ev_to (n := n + 5) kn1w rfl (by kernel_rfl)) rfl (s_nil ?_)
    exact s_ret (e_sub (e_vr rfl) (e_sub (e_bi (e_cons (ev_to (n := n + 5) kn1w rfl (by kernel_rfl)) e_nil) hs) (e_vr rfl) rfl) rfl)
theorem c_within1 (n : Nat) (M : Mem) : PP.call (n + 8) f_within M [.tup [.int 1, .int 1, .int 1], .tup [.int 1, .int 1, .int 1]] = .ok M (.lst [.tup [.int 1, .int 1, .int 1]]) := by
  have hs := srt_tpL M (us := [[1, 1, 1]]) (ls := [[1, 1, 1]]) rfl (by decide +kernel) (by decide +kernel)
  refine' go_within (fl := .rt M (.lst [.tup [.int 1, .int 1, .int 1]])) ?r1 ?r2
  case r2 => rfl
  case r1 =>
    refine s_drop (x := .non) (M1 := M) (ev_to (n := n + 5) kn1w rfl (by kernel_rfl)) ?_
    refine s_drop (x := .non) (M1 := M) (ev_to (n := n + 5) kn1w rfl (by kernel_rfl)) ?_
    refine s_ifeF (x := .bl false) (M1 := M) (ev_to (n := n + 5) kn1w rfl (by kernel_rfl)) rfl (s_nil ?_)
    exact s_ret (e_bi (e_cons (ev_to (n := n + 5) kn1w rfl (by kernel_rfl)) e_nil) hs)
theorem c_between1 (n : Nat) (M : Mem) : PP.call (n + 8) f_between M [.str [48, 49, 49, 49], .str [48, 49, 49, 49]] = .ok M (.lst [.str [48, 49, 49, 49]]) := by
  have hs := srt_strL M (us := [[48, 49, 49, 49]]) (ls := [[48, 49, 49, 49]]) (by decide +kernel) (by decide +kernel)
  refine' go_between (fl := .rt M (.lst [.str [48, 49, 49, 49]])) ?r1 ?r2
  case r2 => rfl
  case r1 =>
    refine s_drop (x := .non) (M1 := M) (ev_to (n := n + 5) kn1w rfl (by kernel_rfl)) ?_
    refine s_set (x := wd2) (M1 := M) (ev_to (n := n + 5) kn1w rfl (by kernel_rfl)) ?_
    exact s_ret (e_bi (e_cons (ev_to (n := n + 5) kn1w rfl (by kernel_rfl)) e_nil) hs)
abbrev kl2 : Kn := [(f_all_weights, [.int 2], .lst (awl_2.map tpD)), (f_weighed, [.int 2], wd2), (f_nth, [.int 2, .int 0], .str [48, 48, 48, 48]), (f_within, [.tup [.int 1, .int 1, .int 1], .tup [.int 1, .int 1, .int 1]], .lst [.tup [.int 1, .int 1, .int 1]]), (f_between, [.str [48, 49, 49, 49], .str [48, 49, 49, 49]], .lst [.str [48, 49, 49, 49]])]
theorem kn2 : KnOk kl2 7 := by
  intro e he n M
  simp only [kl2, List.mem_cons, List.not_mem_nil, or_false] at he
  rcases he with rfl | rfl | rfl | rfl | rfl
  · exact kn1 _ List.mem_cons_self (n + 7) M
  · exact c_wd2 (n + 5) M
  · exact c_nth0 n M
  · exact c_within1 n M
  · exact c_between1 n M
def bad_weights : List D := [.non, .tup [], .lst [.int 1], .tup [.int 1, .int 1, .int 1, .int 1, .int 1], .tup [.int 51], .tup [.bl true], .tup [.str [49]], .tup [.int 0, .int (-51)], .int 3]
def good_weights : D := .tup [.int 2, .int (-1)]
def bad_bar : List D := [.non, .bl true, .str [120], .tup [.int 0], .lst [.int 1], .int 201, .int (-201)]
def good_bar : D := .int 1
def bad_gate : List D := [.non, .int 3, .str [48, 49], .tup [.tup [.int 1], .int 1]]
def good_gate : D := .obj 0 ["held"] [.tup [.tup [.int 1, .int 1], .int 1]]
def bad_table : List D := [.non, .str [], .str [48], .str [48, 49, 48], .str [48, 49, 48, 50], .str [48, 49, 48, 49, 48, 49, 48, 49, 48, 49, 48, 49, 48, 49, 48, 49, 48, 49, 48, 49, 48, 49, 48, 49, 48, 49, 48, 49, 48, 49, 48, 49], .int 1, .tup [.str [48], .str [49]], .str [48, 49, 32, 49], .bl true]
def good_table : D := .str [48, 49, 49, 49]
def bad_counts : List D := [.non, .tup [.int 1], .tup [.int 0, .int 0, .int 0, .int 0, .int 0, .int 0], .lst [.int 1, .int 1], .tup [.int 5, .int 1, .int 1], .tup [.int (-1), .int 0], .tup [.bl true, .int 1], .tup [.str [49], .int 1], .int 3]
def good_counts : D := .tup [.int 1, .int 1, .int 1]
def bad_number : List D := [.non, .bl true, .str [48], .int (-1), .int 1000000000, .tup [.int 0]]
def good_number : D := .int 0
def bad_inputs : List D := [.non, .bl true, .str [50], .int 0, .int 5, .tup [.int 2], .int (-1)]
def good_inputs : D := .int 2
def bad_seen : List D := [.non, .lst [], .tup [.tup [.int 0, .bl true], .tup [.int 0, .bl true], .tup [.int 0, .bl true], .tup [.int 0, .bl true], .tup [.int 0, .bl true], .tup [.int 0, .bl true], .tup [.int 0, .bl true], .tup [.int 0, .bl true], .tup [.int 0, .bl true], .tup [.int 0, .bl true], .tup [.int 0, .bl true], .tup [.int 0, .bl true], .tup [.int 0, .bl true], .tup [.int 0, .bl true], .tup [.int 0, .bl true], .tup [.int 0, .bl true], .tup [.int 0, .bl true]], .tup [.tup [.int 0, .bl true], .tup [.int 4, .bl true]], .tup [.tup [.int 0, .bl true], .tup [.int 0, .int 1]], .tup [.tup [.int 0, .bl true], .int 3], .tup [.tup [.int 0, .bl true], .tup [.bl true, .bl true]]]
def good_seen : D := .tup [.tup [.int 0, .bl false], .tup [.int 3, .bl true]]
def bad_input : List D := [.non, .bl true, .str [48], .int 2, .int (-1), .tup [.int 0]]
def good_input : D := .int 1
def bad_row : List D := [.non, .bl true, .str [48], .int 4, .int (-1), .tup [.int 0]]
def good_row : D := .int 2
theorem tb_0_0 (M : Mem) (x1 : D) (hx : x1 = good_bar ∨ x1 ∈ bad_bar) : ∀ d ∈ bad_weights, PP.call 30 f_law_told M [.int 0, .lst [d, x1]] = .ok M (.str [119, 101, 105, 103, 104, 116, 115]) := by
  intro d hd
  simp only [bad_weights, List.mem_cons, List.not_mem_nil, or_false] at hd
  simp only [bad_bar, List.mem_cons, List.not_mem_nil, or_false] at hx
  rcases hx with rfl | rfl | rfl | rfl | rfl | rfl | rfl | rfl <;> rcases hd with rfl | rfl | rfl | rfl | rfl | rfl | rfl | rfl | rfl <;> exact memo_to kn2 (n := 23) rfl (by kernel_rfl)
theorem tb_0_1 (M : Mem) : ∀ d ∈ bad_bar, PP.call 30 f_law_told M [.int 0, .lst [good_weights, d]] = .ok M (.str [98, 97, 114]) := by
  intro d hd
  simp only [bad_bar, List.mem_cons, List.not_mem_nil, or_false] at hd
  rcases hd with rfl | rfl | rfl | rfl | rfl | rfl | rfl <;> exact memo_to kn2 (n := 23) rfl (by kernel_rfl)
theorem tb_1_0 (M : Mem) : ∀ d ∈ bad_gate, PP.call 30 f_law_told M [.int 1, .lst [d]] = .ok M (.str [103, 97, 116, 101]) := by
  intro d hd
  simp only [bad_gate, List.mem_cons, List.not_mem_nil, or_false] at hd
  rcases hd with rfl | rfl | rfl | rfl <;> exact memo_to kn2 (n := 23) rfl (by kernel_rfl)
theorem tb_2_0 (M : Mem) : ∀ d ∈ bad_table, PP.call 30 f_law_told M [.int 2, .lst [d]] = .ok M (.str [116, 97, 98, 108, 101]) := by
  intro d hd
  simp only [bad_table, List.mem_cons, List.not_mem_nil, or_false] at hd
  rcases hd with rfl | rfl | rfl | rfl | rfl | rfl | rfl | rfl | rfl | rfl <;> exact memo_to kn2 (n := 23) rfl (by kernel_rfl)
theorem tb_3_0 (M : Mem) : ∀ d ∈ bad_table, PP.call 30 f_law_told M [.int 3, .lst [d]] = .ok M (.str [116, 97, 98, 108, 101]) := by
  intro d hd
  simp only [bad_table, List.mem_cons, List.not_mem_nil, or_false] at hd
  rcases hd with rfl | rfl | rfl | rfl | rfl | rfl | rfl | rfl | rfl | rfl <;> exact memo_to kn2 (n := 23) rfl (by kernel_rfl)
theorem tb_4_0 (M : Mem) : ∀ d ∈ bad_counts, PP.call 30 f_law_told M [.int 4, .lst [d]] = .ok M (.str [99, 111, 117, 110, 116, 115]) := by
  intro d hd
  simp only [bad_counts, List.mem_cons, List.not_mem_nil, or_false] at hd
  rcases hd with rfl | rfl | rfl | rfl | rfl | rfl | rfl | rfl | rfl <;> exact memo_to kn2 (n := 23) rfl (by kernel_rfl)
theorem tb_5_0 (M : Mem) (x1 : D) : ∀ d ∈ bad_counts, PP.call 30 f_law_told M [.int 5, .lst [d, x1]] = .ok M (.str [99, 111, 117, 110, 116, 115]) := by
  intro d hd
  simp only [bad_counts, List.mem_cons, List.not_mem_nil, or_false] at hd
  rcases hd with rfl | rfl | rfl | rfl | rfl | rfl | rfl | rfl | rfl <;> exact memo_to kn2 (n := 23) rfl (by kernel_rfl)
theorem tb_5_1 (M : Mem) : ∀ d ∈ bad_number, PP.call 30 f_law_told M [.int 5, .lst [good_counts, d]] = .ok M (.str [110, 117, 109, 98, 101, 114]) := by
  intro d hd
  simp only [bad_number, List.mem_cons, List.not_mem_nil, or_false] at hd
  rcases hd with rfl | rfl | rfl | rfl | rfl | rfl <;> exact memo_to kn2 (n := 23) rfl (by kernel_rfl)
theorem tb_6_0 (M : Mem) : ∀ d ∈ bad_inputs, PP.call 30 f_law_told M [.int 6, .lst [d]] = .ok M (.str [105, 110, 112, 117, 116, 115]) := by
  intro d hd
  simp only [bad_inputs, List.mem_cons, List.not_mem_nil, or_false] at hd
  rcases hd with rfl | rfl | rfl | rfl | rfl | rfl | rfl <;> exact memo_to kn2 (n := 23) rfl (by kernel_rfl)
theorem tb_7_0 (M : Mem) (x1 : D) : ∀ d ∈ bad_inputs, PP.call 30 f_law_told M [.int 7, .lst [d, x1]] = .ok M (.str [105, 110, 112, 117, 116, 115]) := by
  intro d hd
  simp only [bad_inputs, List.mem_cons, List.not_mem_nil, or_false] at hd
  rcases hd with rfl | rfl | rfl | rfl | rfl | rfl | rfl <;> exact memo_to kn2 (n := 23) rfl (by kernel_rfl)
theorem tb_7_1 (M : Mem) : ∀ d ∈ bad_number, PP.call 30 f_law_told M [.int 7, .lst [good_inputs, d]] = .ok M (.str [110, 117, 109, 98, 101, 114]) := by
  intro d hd
  simp only [bad_number, List.mem_cons, List.not_mem_nil, or_false] at hd
  rcases hd with rfl | rfl | rfl | rfl | rfl | rfl <;> exact memo_to kn2 (n := 23) rfl (by kernel_rfl)
theorem tb_8_0 (M : Mem) (x1 : D) : ∀ d ∈ bad_counts, PP.call 30 f_law_told M [.int 8, .lst [d, x1]] = .ok M (.str [99, 111, 117, 110, 116, 115]) := by
  intro d hd
  simp only [bad_counts, List.mem_cons, List.not_mem_nil, or_false] at hd
  rcases hd with rfl | rfl | rfl | rfl | rfl | rfl | rfl | rfl | rfl <;> exact memo_to kn2 (n := 23) rfl (by kernel_rfl)
theorem tb_8_1 (M : Mem) : ∀ d ∈ bad_counts, PP.call 30 f_law_told M [.int 8, .lst [good_counts, d]] = .ok M (.str [99, 111, 117, 110, 116, 115]) := by
  intro d hd
  simp only [bad_counts, List.mem_cons, List.not_mem_nil, or_false] at hd
  rcases hd with rfl | rfl | rfl | rfl | rfl | rfl | rfl | rfl | rfl <;> exact memo_to kn2 (n := 23) rfl (by kernel_rfl)
theorem tb_9_0 (M : Mem) (x1 : D) : ∀ d ∈ bad_table, PP.call 30 f_law_told M [.int 9, .lst [d, x1]] = .ok M (.str [116, 97, 98, 108, 101]) := by
  intro d hd
  simp only [bad_table, List.mem_cons, List.not_mem_nil, or_false] at hd
  rcases hd with rfl | rfl | rfl | rfl | rfl | rfl | rfl | rfl | rfl | rfl <;> exact memo_to kn2 (n := 23) rfl (by kernel_rfl)
theorem tb_9_1 (M : Mem) : ∀ d ∈ bad_table, PP.call 30 f_law_told M [.int 9, .lst [good_table, d]] = .ok M (.str [116, 97, 98, 108, 101]) := by
  intro d hd
  simp only [bad_table, List.mem_cons, List.not_mem_nil, or_false] at hd
  rcases hd with rfl | rfl | rfl | rfl | rfl | rfl | rfl | rfl | rfl | rfl <;> exact memo_to kn2 (n := 23) rfl (by kernel_rfl)
theorem tb_10_0 (M : Mem) (x1 x2 : D) : ∀ d ∈ bad_table, PP.call 30 f_law_told M [.int 10, .lst [d, x1, x2]] = .ok M (.str [116, 97, 98, 108, 101]) := by
  intro d hd
  simp only [bad_table, List.mem_cons, List.not_mem_nil, or_false] at hd
  rcases hd with rfl | rfl | rfl | rfl | rfl | rfl | rfl | rfl | rfl | rfl <;> exact memo_to kn2 (n := 23) rfl (by kernel_rfl)
theorem tb_10_1 (M : Mem) (x2 : D) : ∀ d ∈ bad_table, PP.call 30 f_law_told M [.int 10, .lst [good_table, d, x2]] = .ok M (.str [116, 97, 98, 108, 101]) := by
  intro d hd
  simp only [bad_table, List.mem_cons, List.not_mem_nil, or_false] at hd
  rcases hd with rfl | rfl | rfl | rfl | rfl | rfl | rfl | rfl | rfl | rfl <;> exact memo_to kn2 (n := 23) rfl (by kernel_rfl)
theorem tb_10_2 (M : Mem) : ∀ d ∈ bad_input, PP.call 30 f_law_told M [.int 10, .lst [good_table, good_table, d]] = .ok M (.str [105, 110, 112, 117, 116]) := by
  intro d hd
  simp only [bad_input, List.mem_cons, List.not_mem_nil, or_false] at hd
  rcases hd with rfl | rfl | rfl | rfl | rfl | rfl <;> exact memo_to kn2 (n := 23) rfl (by kernel_rfl)
theorem tb_11_0 (M : Mem) (x1 : D) : ∀ d ∈ bad_inputs, PP.call 30 f_law_told M [.int 11, .lst [d, x1]] = .ok M (.str [105, 110, 112, 117, 116, 115]) := by
  intro d hd
  simp only [bad_inputs, List.mem_cons, List.not_mem_nil, or_false] at hd
  rcases hd with rfl | rfl | rfl | rfl | rfl | rfl | rfl <;> exact memo_to kn2 (n := 23) rfl (by kernel_rfl)
theorem tb_11_1 (M : Mem) : ∀ d ∈ bad_seen, PP.call 30 f_law_told M [.int 11, .lst [good_inputs, d]] = .ok M (.str [115, 101, 101, 110]) := by
  intro d hd
  simp only [bad_seen, List.mem_cons, List.not_mem_nil, or_false] at hd
  rcases hd with rfl | rfl | rfl | rfl | rfl | rfl | rfl <;> exact memo_to kn2 (n := 23) rfl (by kernel_rfl)
theorem tb_12_0 (M : Mem) (x1 x2 : D) : ∀ d ∈ bad_inputs, PP.call 30 f_law_told M [.int 12, .lst [d, x1, x2]] = .ok M (.str [105, 110, 112, 117, 116, 115]) := by
  intro d hd
  simp only [bad_inputs, List.mem_cons, List.not_mem_nil, or_false] at hd
  rcases hd with rfl | rfl | rfl | rfl | rfl | rfl | rfl <;> exact memo_to kn2 (n := 23) rfl (by kernel_rfl)
theorem tb_12_1 (M : Mem) (x2 : D) : ∀ d ∈ bad_seen, PP.call 30 f_law_told M [.int 12, .lst [good_inputs, d, x2]] = .ok M (.str [115, 101, 101, 110]) := by
  intro d hd
  simp only [bad_seen, List.mem_cons, List.not_mem_nil, or_false] at hd
  rcases hd with rfl | rfl | rfl | rfl | rfl | rfl | rfl <;> exact memo_to kn2 (n := 23) rfl (by kernel_rfl)
theorem tb_12_2 (M : Mem) : ∀ d ∈ bad_row, PP.call 30 f_law_told M [.int 12, .lst [good_inputs, good_seen, d]] = .ok M (.str [114, 111, 119]) := by
  intro d hd
  simp only [bad_row, List.mem_cons, List.not_mem_nil, or_false] at hd
  rcases hd with rfl | rfl | rfl | rfl | rfl | rfl <;> exact memo_to kn2 (n := 23) rfl (by kernel_rfl)
abbrev gdS : Cs := [103, 111, 111, 100]
theorem tg_0 {M : Mem} (_ : Src [] M) : ∃ M', PP.call 30 f_law_told M [.int 0, .lst [good_weights, good_bar]] = .ok M' (.str gdS) := ⟨M, memo_to kn2 (n := 23) rfl (by kernel_rfl)⟩
theorem tg_1 {M : Mem} (_ : Src [] M) : ∃ M', PP.call 30 f_law_told M [.int 1, .lst [good_gate]] = .ok M' (.str gdS) := ⟨M, memo_to kn2 (n := 23) rfl (by kernel_rfl)⟩
theorem tg_2 {M : Mem} (_ : Src [] M) : ∃ M', PP.call 30 f_law_told M [.int 2, .lst [good_table]] = .ok M' (.str gdS) := ⟨M, memo_to kn2 (n := 23) rfl (by kernel_rfl)⟩
theorem tg_3 {M : Mem} (_ : Src [] M) : ∃ M', PP.call 30 f_law_told M [.int 3, .lst [good_table]] = .ok M' (.str gdS) := ⟨M, memo_to kn2 (n := 23) rfl (by kernel_rfl)⟩
theorem tg_4 {M : Mem} (_ : Src [] M) : ∃ M', PP.call 30 f_law_told M [.int 4, .lst [good_counts]] = .ok M' (.str gdS) := ⟨M, memo_to kn2 (n := 23) rfl (by kernel_rfl)⟩
theorem tg_5 {M : Mem} (_ : Src [] M) : ∃ M', PP.call 30 f_law_told M [.int 5, .lst [good_counts, good_number]] = .ok M' (.str gdS) := ⟨M, memo_to kn2 (n := 23) rfl (by kernel_rfl)⟩
theorem tg_6 {M : Mem} (hM : Src [] M) : ∃ M', PP.call 30 f_law_told M [.int 6, .lst [good_inputs]] = .ok M' (.str gdS) := by
  obtain ⟨cs, s, i, hl, rfl⟩ := hM
  have e : okS gdS (memo kl2 7 23 f_law_told (RM cs s i []) [.int 6, .lst [good_inputs]]) = true := by kernel_rfl
  obtain ⟨M', e⟩ := okS_ex e
  exact ⟨M', memo_to kn2 rfl e⟩
theorem tg_7 {M : Mem} (_ : Src [] M) : ∃ M', PP.call 30 f_law_told M [.int 7, .lst [good_inputs, good_number]] = .ok M' (.str gdS) := ⟨M, memo_to kn2 (n := 23) rfl (by kernel_rfl)⟩
theorem tg_8 {M : Mem} (_ : Src [] M) : ∃ M', PP.call 30 f_law_told M [.int 8, .lst [good_counts, good_counts]] = .ok M' (.str gdS) := ⟨M, memo_to kn2 (n := 23) rfl (by kernel_rfl)⟩
theorem tg_9 {M : Mem} (_ : Src [] M) : ∃ M', PP.call 30 f_law_told M [.int 9, .lst [good_table, good_table]] = .ok M' (.str gdS) := ⟨M, memo_to kn2 (n := 23) rfl (by kernel_rfl)⟩
theorem tg_10 {M : Mem} (_ : Src [] M) : ∃ M', PP.call 30 f_law_told M [.int 10, .lst [good_table, good_table, good_input]] = .ok M' (.str gdS) := ⟨M, memo_to kn2 (n := 23) rfl (by kernel_rfl)⟩
theorem tg_11 {M : Mem} (_ : Src [] M) : ∃ M', PP.call 30 f_law_told M [.int 11, .lst [good_inputs, good_seen]] = .ok M' (.str gdS) := ⟨M, memo_to kn2 (n := 23) rfl (by kernel_rfl)⟩
theorem tg_12 {M : Mem} (_ : Src [] M) : ∃ M', PP.call 30 f_law_told M [.int 12, .lst [good_inputs, good_seen, good_row]] = .ok M' (.str gdS) := ⟨M, memo_to kn2 (n := 23) rfl (by kernel_rfl)⟩
def goodL (w : Cs) : D := if w = [119, 101, 105, 103, 104, 116, 115] then good_weights else if w = [98, 97, 114] then good_bar else if w = [103, 97, 116, 101] then good_gate else if w = [116, 97, 98, 108, 101] then good_table else if w = [99, 111, 117, 110, 116, 115] then good_counts else if w = [110, 117, 109, 98, 101, 114] then good_number else if w = [105, 110, 112, 117, 116, 115] then good_inputs else if w = [115, 101, 101, 110] then good_seen else if w = [105, 110, 112, 117, 116] then good_input else good_row
def badL (w : Cs) : List D := if w = [119, 101, 105, 103, 104, 116, 115] then bad_weights else if w = [98, 97, 114] then bad_bar else if w = [103, 97, 116, 101] then bad_gate else if w = [116, 97, 98, 108, 101] then bad_table else if w = [99, 111, 117, 110, 116, 115] then bad_counts else if w = [110, 117, 109, 98, 101, 114] then bad_number else if w = [105, 110, 112, 117, 116, 115] then bad_inputs else if w = [115, 101, 101, 110] then bad_seen else if w = [105, 110, 112, 117, 116] then bad_input else bad_row
abbrev names : List Cs := [[119, 101, 105, 103, 104, 116, 115], [98, 97, 114], [103, 97, 116, 101], [116, 97, 98, 108, 101], [99, 111, 117, 110, 116, 115], [110, 117, 109, 98, 101, 114], [105, 110, 112, 117, 116, 115], [115, 101, 101, 110], [105, 110, 112, 117, 116], [114, 111, 119]]
theorem c_good (n : Nat) (M : Mem) : ∀ w ∈ names, PP.call (n + 5) f_law_good_one M [.str w] = .ok M (goodL w) := by
  intro w hw
  simp only [names, List.mem_cons, List.not_mem_nil, or_false] at hw
  rcases hw with rfl | rfl | rfl | rfl | rfl | rfl | rfl | rfl | rfl | rfl <;> kernel_rfl
theorem c_bad (n : Nat) {N M : Mem} (hM : Src N M) : ∀ w ∈ names, ∃ M' d, Src N M' ∧ d ∈ badL w ∧ PP.call (n + 2) f_law_bad_one M [.hnd 1, .str w] = .ok M' d := by
  have fin : ∀ (w : Cs) (l : List D), 0 < l.length → l.length < 1000 → badL w = l → PP.call (n + 2) f_law_bad_one M [.hnd 1, .str w] = retOf (ex (PP.fx (n + 1)) t_law_bad_one_14 M [some (.d (.hnd 1)), some (.d (.str w)), some (.d (.lst l))]) → ∃ M' d, Src N M' ∧ d ∈ badL w ∧ PP.call (n + 2) f_law_bad_one M [.hnd 1, .str w] = .ok M' d := fun w l h0 h1 hl e => by
    obtain ⟨M1, v, s1, v0, v1, e1⟩ := c_next n N M (l.length : Nat) hM (by omega) (by omega)
    have hi : v.toNat < l.length := by omega
    have hs : subD M1 (.lst l) (.int v) = some l[v.toNat] := by
      show atO l v = _
      unfold atO ixO
      rw [if_pos v0, if_pos v1]
      exact List.getElem?_eq_getElem hi
    have hb : biD M .len [.lst l] = some (.int (l.length : Nat)) := rfl
    refine ⟨M1, l[v.toNat], s1, by rw [hl]; exact List.getElem_mem hi, e.trans ?_⟩
    generalize l[v.toNat] = d at hs
    have : ex (PP.fx (n + 1)) t_law_bad_one_14 M [some (.d (.hnd 1)), some (.d (.str w)), some (.d (.lst l))] = .rt M1 d := by
      walk_at "st"
    rw [this]; rfl
  intro w hw
  simp only [names, List.mem_cons, List.not_mem_nil, or_false] at hw
  rcases hw with rfl | rfl | rfl | rfl | rfl | rfl | rfl | rfl | rfl | rfl
  · exact fin [119, 101, 105, 103, 104, 116, 115] bad_weights (by decide) (by decide) rfl (by kernel_rfl)
  · exact fin [98, 97, 114] bad_bar (by decide) (by decide) rfl (by kernel_rfl)
  · exact fin [103, 97, 116, 101] bad_gate (by decide) (by decide) rfl (by kernel_rfl)
  · exact fin [116, 97, 98, 108, 101] bad_table (by decide) (by decide) rfl (by kernel_rfl)
  · exact fin [99, 111, 117, 110, 116, 115] bad_counts (by decide) (by decide) rfl (by kernel_rfl)
  · exact fin [110, 117, 109, 98, 101, 114] bad_number (by decide) (by decide) rfl (by kernel_rfl)
  · exact fin [105, 110, 112, 117, 116, 115] bad_inputs (by decide) (by decide) rfl (by kernel_rfl)
  · exact fin [115, 101, 101, 110] bad_seen (by decide) (by decide) rfl (by kernel_rfl)
  · exact fin [105, 110, 112, 117, 116] bad_input (by decide) (by decide) rfl (by kernel_rfl)
  · exact fin [114, 111, 119] bad_row (by decide) (by decide) rfl (by kernel_rfl)
abbrev dep : Nat := 30
theorem at_in {α : Type} {ws : List α} {i : Nat} {x : α} (h : ws[i]? = some x) : atO ws (i : Int) = some x := by
  have hi : i < ws.length := (List.getElem?_eq_some_iff.mp h).1
  unfold atO ixO
  rw [if_pos (by omega), if_pos (by omega), Int.toNat_natCast]
  exact h
theorem rgI_at2 {k : Nat} {pre post : List Int} {z : Int} (h : rgI k = pre ++ z :: post) : z = pre.length ∧ pre.length < k := by
  have h1 := congrArg List.length h
  rw [rgI_len, List.length_append, List.length_cons] at h1
  have h2 : (rgI k)[pre.length]? = some z := by rw [h, List.getElem?_append_right (Nat.le_refl _), Nat.sub_self]; rfl
  unfold rgI at h2
  rw [List.getElem?_map, List.getElem?_range (by omega)] at h2
  exact ⟨by cases h2; rfl, by omega⟩
def OkT (ws : List Cs) (bs : List Bool) (ts : List D) : Prop := ∀ (i : Nat) (w : Cs) (b : Bool) (d : D), ws[i]? = some w → bs[i]? = some b → ts[i]? = some d → if b = true then d ∈ badL w else d = goodL w
abbrev en7 (ns : List Int) (asked : D) (k : Int) (ws : List Cs) (bs : List Bool) (t x8 x9 : Option Sl) : En := [some (.d (.scr ns)), some (.d (.hnd 1)), some (.d asked), some (.d (.int k)), some (.d (.lst (ws.map .str))), none, some (.d (.lst (bs.map .bl))), t, x8, x9]
theorem l_rest {N M : Mem} {ns : List Int} {asked : D} {k : Int} {ws : List Cs} (hM : Src N M) (hw : ∀ w ∈ ws, w ∈ names) (h4 : ws.length ≤ 4)
    (hk : ∀ M, subD M asked (.int k) = some (.lst (ws.map .str)))
    (fin : ∀ (M : Mem) (bs : List Bool) (ts : List D) (x8 : Option Sl), Src N M → bs.length = ws.length → ts.length = ws.length → OkT ws bs ts → ∃ M', ex (PP.fx 30) t_law_9 M (en7 ns asked k ws bs (some (.ol ts)) x8 none) = .rt M' (.bl true)) :
    ∃ M', ex (PP.fx 30) t_law_5 M [some (.d (.scr ns)), some (.d (.hnd 1)), some (.d asked), some (.d (.int k)), none, none, none, none, none, none] = .rt M' (.bl true) := by
  obtain ⟨M1, bs, f1, s1, l1, _⟩ := lcGo_draw (f := lcF (PP.fx 30) [5] (.cmp .eq (.cal f_law_next (.cons (.vr 1) (.cons (.int 3) .nil))) (.int 0)) (.nm 5) .nil [some (.d (.scr ns)), some (.d (.hnd 1)), some (.d asked), some (.d (.int k)), some (.d (.lst (ws.map .str))), none, none, none, none, none])
    (Src N) (fun _ : Bool => True) D.bl (xs := ws.map .str) hM fun x M2 hx hM2 => by
      obtain ⟨M3, v, s3, v0, v1, e3⟩ := c_next 29 N M2 3 hM2 (by decide) (by decide)
      refine ⟨M3, v == 0, ?_, s3, trivial⟩
      refine' lcF_at ?r1 ?r2
      case r1 => exact rfl
      case r2 => exact e_cmp (e_cal (e_cons (e_vr rfl) (e_cons e_int e_nil)) e3) e_int rfl (c_eqI _ _)
  rw [List.length_map] at l1
  obtain ⟨M2, r', e2, s2, ts, x8, ht, hO, rfl⟩ := forGo_st (p := .nm 8) (f := fun M2 r2 => ex (PP.fx 30) b_law_0 M2 r2) (h := D.int) (zs := rgI ws.length) (M := M1) (r := en7 ns asked k ws bs (some (.ol [])) none none)
    (fun pre M r => Src N M ∧ ∃ (ts : List D) (x8 : Option Sl), ts.length = pre.length ∧ OkT ws bs ts ∧ r = en7 ns asked k ws bs (some (.ol ts)) x8 none) ⟨s1, [], none, rfl, fun i w b d _ _ h => by simp at h, rfl⟩ fun pre i post M r hz hI => by
      obtain ⟨sM, ts, x8, ht, hO, rfl⟩ := hI
      obtain ⟨rfl, hi⟩ := rgI_at2 hz
      have hwi : ws[pre.length]? = some ws[pre.length] := List.getElem?_eq_getElem hi
      have hbi : bs[pre.length]? = some (bs[pre.length]'(by omega)) := List.getElem?_eq_getElem _
      have hnm := hw _ (List.getElem_mem hi)
      generalize ws[pre.length] = w at hwi hnm
      generalize bs[pre.length]'(by omega) = b at hbi
      have a1 : ∀ M, subD M (.lst (bs.map .bl)) (.int (pre.length : Int)) = some (.bl b) := fun M => atO_map (at_in hbi)
      have a2 : ∀ M, subD M (.lst (ws.map .str)) (.int (pre.length : Int)) = some (.str w) := fun M => atO_map (at_in hwi)
      have hl2 : ts.length < lim := by rw [ht]; show _ < 16777216; omega
      have grow : ∀ d, (if b = true then d ∈ badL w else d = goodL w) → OkT ws bs (ts ++ [d]) := fun d hd i w' b' d' h1 h2 h3 => by
        by_cases hlt : i < ts.length
        · rw [List.getElem?_append_left hlt] at h3
          exact hO i w' b' d' h1 h2 h3
        · rw [List.getElem?_append_right (by omega)] at h3
          have h0 : i - ts.length = 0 := by
            have := (List.getElem?_eq_some_iff.mp h3).1
            rw [List.length_singleton] at this; omega
          rw [h0] at h3
          cases h3
          have : i = pre.length := by omega
          subst this
          rw [hwi] at h1; cases h1
          rw [hbi] at h2; cases h2
          exact hd
      cases b with
      | true =>
        obtain ⟨M3, d, s3, hd, e3⟩ := c_bad 28 sM w hnm
        refine ⟨_, _, _, rfl, s_app (x := d) rfl (e_ife (p := true) (x := d) (y := .non) (e_sub (e_vr rfl) (e_vr rfl) (a1 _)) rfl (fun _ => e_cal (e_cons (e_vr rfl) (e_cons (e_sub (e_vr rfl) (e_vr rfl) (a2 _)) e_nil)) e3) (fun z => by cases z) rfl) hl2 s_end, s3, ts ++ [d], _, by rw [List.length_append, List.length_append, ht]; rfl, grow d hd, rfl⟩
      | false =>
        have e3 := c_good 25 M w hnm
        refine ⟨_, _, _, rfl, s_app (x := goodL w) rfl (e_ife (p := false) (x := .non) (y := goodL w) (e_sub (e_vr rfl) (e_vr rfl) (a1 _)) rfl (fun z => by cases z) (fun _ => e_cal (e_cons (e_sub (e_vr rfl) (e_vr rfl) (a2 _)) e_nil) e3) rfl) hl2 s_end, sM, ts ++ [goodL w], _, by rw [List.length_append, List.length_append, ht]; rfl, grow _ rfl, rfl⟩
  rw [rgI_len] at ht
  obtain ⟨M', e⟩ := fin M2 bs ts x8 s2 l1 ht hO
  refine ⟨M', ?_⟩
  have it : ev (PP.fx 30) (.rg1 (.bi .len (.cons (.vr 4) .nil))) M1 (en7 ns asked k ws bs (some (.ol [])) none none) = .ok M1 (.lst ((rgI ws.length).map .int)) := by
    have e := e_rg1 (X := PP.fx 30) (M := M1) (r := en7 ns asked k ws bs (some (.ol [])) none none) (a := .bi .len (.cons (.vr 4) .nil)) (e_bi (e_cons (e_vr rfl) e_nil) (bi_len_lm (f := D.str) (ws := ws))) (by omega)
    rw [Int.toNat_natCast] at e
    exact e
  refine s_set (e_sub (e_vr rfl) (e_vr rfl) (hk _)) ?_
  refine s_set (e_lcd (e_vr rfl) rfl f1) ?_
  refine s_setO (e_lst e_nil) ?_
  exact s_for it rfl e2 e
theorem l_fin {M : Mem} {ns : List Int} {asked : D} {k : Int} {ws : List Cs} {bs : List Bool} {ts due : List D} {nm : Cs} {x8 : Option Sl} (hq : ev (PP.fx 30) q_law_1 M (en7 ns asked k ws bs (some (.ol ts)) x8 none) = .ok M (.lst due))
    (hd : binD M .add (.lst due) (.lst [.str gdS]) = some (.lst (due ++ [.str gdS]))) (hs : ∀ M, subD M (.lst (due ++ [.str gdS])) (.int 0) = some (.str nm))
    (h : ∃ M', PP.call 30 f_law_told M [.int k, .lst ts] = .ok M' (.str nm)) :
    ∃ M', ex (PP.fx 30) t_law_9 M (en7 ns asked k ws bs (some (.ol ts)) x8 none) = .rt M' (.bl true) := by
  obtain ⟨M', h⟩ := h
  refine ⟨M', s_set (e_bin hq (e_lst (e_cons e_str e_nil)) hd) ?_⟩
  refine s_frz (o := some (.ol ts)) rfl ?_
  have hc : cmpD .eq (.str nm) (.str nm) = some true := by
    show some (nm == nm) = _
    simp
  exact s_ret (e_cmp (k := true) (e_cal (e_cons (e_vr rfl) (e_cons (e_vr rfl) e_nil)) h) (e_sub (e_vr rfl) e_int (hs _)) rfl hc)
abbrev askD : D := .lst [.lst [.str [119, 101, 105, 103, 104, 116, 115], .str [98, 97, 114]], .lst [.str [103, 97, 116, 101]], .lst [.str [116, 97, 98, 108, 101]], .lst [.str [116, 97, 98, 108, 101]], .lst [.str [99, 111, 117, 110, 116, 115]], .lst [.str [99, 111, 117, 110, 116, 115], .str [110, 117, 109, 98, 101, 114]], .lst [.str [105, 110, 112, 117, 116, 115]], .lst [.str [105, 110, 112, 117, 116, 115], .str [110, 117, 109, 98, 101, 114]], .lst [.str [99, 111, 117, 110, 116, 115], .str [99, 111, 117, 110, 116, 115]], .lst [.str [116, 97, 98, 108, 101], .str [116, 97, 98, 108, 101]], .lst [.str [116, 97, 98, 108, 101], .str [116, 97, 98, 108, 101], .str [105, 110, 112, 117, 116]], .lst [.str [105, 110, 112, 117, 116, 115], .str [115, 101, 101, 110]], .lst [.str [105, 110, 112, 117, 116, 115], .str [115, 101, 101, 110], .str [114, 111, 119]]]
theorem fin_0 {ns : List Int} : ∀ (M : Mem) (bs : List Bool) (ts : List D) (x8 : Option Sl), Src [] M → bs.length = ([[119, 101, 105, 103, 104, 116, 115], [98, 97, 114]] : List Cs).length → ts.length = ([[119, 101, 105, 103, 104, 116, 115], [98, 97, 114]] : List Cs).length → OkT [[119, 101, 105, 103, 104, 116, 115], [98, 97, 114]] bs ts → ∃ M', ex (PP.fx 30) t_law_9 M (en7 ns askD 0 [[119, 101, 105, 103, 104, 116, 115], [98, 97, 114]] bs (some (.ol ts)) x8 none) = .rt M' (.bl true) := by
  intro M bs ts x8 hM hb hts hO
  obtain ⟨b0, b1, rfl⟩ : ∃ b0 b1, bs = [b0, b1] := by
    match bs, hb with
    | [b0, b1], _ => exact ⟨b0, b1, rfl⟩
  obtain ⟨d0, d1, rfl⟩ : ∃ d0 d1, ts = [d0, d1] := by
    match ts, hts with
    | [d0, d1], _ => exact ⟨d0, d1, rfl⟩
  have o0 := hO 0 [119, 101, 105, 103, 104, 116, 115] b0 d0 rfl rfl rfl
  have o1 := hO 1 [98, 97, 114] b1 d1 rfl rfl rfl
  clear hO hb hts
  cases b0 with
  | true =>
    cases b1 with
    | true =>
      exact l_fin (due := [.str [119, 101, 105, 103, 104, 116, 115], .str [98, 97, 114]]) (nm := [119, 101, 105, 103, 104, 116, 115]) (by kernel_rfl) rfl (fun _ => rfl) ⟨M, tb_0_0 M d1 (.inr o1) d0 o0⟩
    | false =>
      exact l_fin (due := [.str [119, 101, 105, 103, 104, 116, 115]]) (nm := [119, 101, 105, 103, 104, 116, 115]) (by kernel_rfl) rfl (fun _ => rfl) ⟨M, tb_0_0 M d1 (.inl o1) d0 o0⟩
  | false =>
    cases b1 with
    | true =>
      have e0 : d0 = good_weights := o0
      subst e0
      exact l_fin (due := [.str [98, 97, 114]]) (nm := [98, 97, 114]) (by kernel_rfl) rfl (fun _ => rfl) ⟨M, tb_0_1 M  d1 o1⟩
    | false =>
      have e0 : d0 = good_weights := o0
      have e1 : d1 = good_bar := o1
      subst e0 e1
      exact l_fin (due := []) (nm := gdS) (by kernel_rfl) rfl (fun _ => rfl) (tg_0 hM)
theorem fin_1 {ns : List Int} : ∀ (M : Mem) (bs : List Bool) (ts : List D) (x8 : Option Sl), Src [] M → bs.length = ([[103, 97, 116, 101]] : List Cs).length → ts.length = ([[103, 97, 116, 101]] : List Cs).length → OkT [[103, 97, 116, 101]] bs ts → ∃ M', ex (PP.fx 30) t_law_9 M (en7 ns askD 1 [[103, 97, 116, 101]] bs (some (.ol ts)) x8 none) = .rt M' (.bl true) := by
  intro M bs ts x8 hM hb hts hO
  obtain ⟨b0, rfl⟩ : ∃ b0, bs = [b0] := by
    match bs, hb with
    | [b0], _ => exact ⟨b0, rfl⟩
  obtain ⟨d0, rfl⟩ : ∃ d0, ts = [d0] := by
    match ts, hts with
    | [d0], _ => exact ⟨d0, rfl⟩
  have o0 := hO 0 [103, 97, 116, 101] b0 d0 rfl rfl rfl
  clear hO hb hts
  cases b0 with
  | true =>
    exact l_fin (due := [.str [103, 97, 116, 101]]) (nm := [103, 97, 116, 101]) (by kernel_rfl) rfl (fun _ => rfl) ⟨M, tb_1_0 M  d0 o0⟩
  | false =>
    have e0 : d0 = good_gate := o0
    subst e0
    exact l_fin (due := []) (nm := gdS) (by kernel_rfl) rfl (fun _ => rfl) (tg_1 hM)
theorem fin_2 {ns : List Int} : ∀ (M : Mem) (bs : List Bool) (ts : List D) (x8 : Option Sl), Src [] M → bs.length = ([[116, 97, 98, 108, 101]] : List Cs).length → ts.length = ([[116, 97, 98, 108, 101]] : List Cs).length → OkT [[116, 97, 98, 108, 101]] bs ts → ∃ M', ex (PP.fx 30) t_law_9 M (en7 ns askD 2 [[116, 97, 98, 108, 101]] bs (some (.ol ts)) x8 none) = .rt M' (.bl true) := by
  intro M bs ts x8 hM hb hts hO
  obtain ⟨b0, rfl⟩ : ∃ b0, bs = [b0] := by
    match bs, hb with
    | [b0], _ => exact ⟨b0, rfl⟩
  obtain ⟨d0, rfl⟩ : ∃ d0, ts = [d0] := by
    match ts, hts with
    | [d0], _ => exact ⟨d0, rfl⟩
  have o0 := hO 0 [116, 97, 98, 108, 101] b0 d0 rfl rfl rfl
  clear hO hb hts
  cases b0 with
  | true =>
    exact l_fin (due := [.str [116, 97, 98, 108, 101]]) (nm := [116, 97, 98, 108, 101]) (by kernel_rfl) rfl (fun _ => rfl) ⟨M, tb_2_0 M  d0 o0⟩
  | false =>
    have e0 : d0 = good_table := o0
    subst e0
    exact l_fin (due := []) (nm := gdS) (by kernel_rfl) rfl (fun _ => rfl) (tg_2 hM)
theorem fin_3 {ns : List Int} : ∀ (M : Mem) (bs : List Bool) (ts : List D) (x8 : Option Sl), Src [] M → bs.length = ([[116, 97, 98, 108, 101]] : List Cs).length → ts.length = ([[116, 97, 98, 108, 101]] : List Cs).length → OkT [[116, 97, 98, 108, 101]] bs ts → ∃ M', ex (PP.fx 30) t_law_9 M (en7 ns askD 3 [[116, 97, 98, 108, 101]] bs (some (.ol ts)) x8 none) = .rt M' (.bl true) := by
  intro M bs ts x8 hM hb hts hO
  obtain ⟨b0, rfl⟩ : ∃ b0, bs = [b0] := by
    match bs, hb with
    | [b0], _ => exact ⟨b0, rfl⟩
  obtain ⟨d0, rfl⟩ : ∃ d0, ts = [d0] := by
    match ts, hts with
    | [d0], _ => exact ⟨d0, rfl⟩
  have o0 := hO 0 [116, 97, 98, 108, 101] b0 d0 rfl rfl rfl
  clear hO hb hts
  cases b0 with
  | true =>
    exact l_fin (due := [.str [116, 97, 98, 108, 101]]) (nm := [116, 97, 98, 108, 101]) (by kernel_rfl) rfl (fun _ => rfl) ⟨M, tb_3_0 M  d0 o0⟩
  | false =>
    have e0 : d0 = good_table := o0
    subst e0
    exact l_fin (due := []) (nm := gdS) (by kernel_rfl) rfl (fun _ => rfl) (tg_3 hM)
theorem fin_4 {ns : List Int} : ∀ (M : Mem) (bs : List Bool) (ts : List D) (x8 : Option Sl), Src [] M → bs.length = ([[99, 111, 117, 110, 116, 115]] : List Cs).length → ts.length = ([[99, 111, 117, 110, 116, 115]] : List Cs).length → OkT [[99, 111, 117, 110, 116, 115]] bs ts → ∃ M', ex (PP.fx 30) t_law_9 M (en7 ns askD 4 [[99, 111, 117, 110, 116, 115]] bs (some (.ol ts)) x8 none) = .rt M' (.bl true) := by
  intro M bs ts x8 hM hb hts hO
  obtain ⟨b0, rfl⟩ : ∃ b0, bs = [b0] := by
    match bs, hb with
    | [b0], _ => exact ⟨b0, rfl⟩
  obtain ⟨d0, rfl⟩ : ∃ d0, ts = [d0] := by
    match ts, hts with
    | [d0], _ => exact ⟨d0, rfl⟩
  have o0 := hO 0 [99, 111, 117, 110, 116, 115] b0 d0 rfl rfl rfl
  clear hO hb hts
  cases b0 with
  | true =>
    exact l_fin (due := [.str [99, 111, 117, 110, 116, 115]]) (nm := [99, 111, 117, 110, 116, 115]) (by kernel_rfl) rfl (fun _ => rfl) ⟨M, tb_4_0 M  d0 o0⟩
  | false =>
    have e0 : d0 = good_counts := o0
    subst e0
    exact l_fin (due := []) (nm := gdS) (by kernel_rfl) rfl (fun _ => rfl) (tg_4 hM)
theorem fin_5 {ns : List Int} : ∀ (M : Mem) (bs : List Bool) (ts : List D) (x8 : Option Sl), Src [] M → bs.length = ([[99, 111, 117, 110, 116, 115], [110, 117, 109, 98, 101, 114]] : List Cs).length → ts.length = ([[99, 111, 117, 110, 116, 115], [110, 117, 109, 98, 101, 114]] : List Cs).length → OkT [[99, 111, 117, 110, 116, 115], [110, 117, 109, 98, 101, 114]] bs ts → ∃ M', ex (PP.fx 30) t_law_9 M (en7 ns askD 5 [[99, 111, 117, 110, 116, 115], [110, 117, 109, 98, 101, 114]] bs (some (.ol ts)) x8 none) = .rt M' (.bl true) := by
  intro M bs ts x8 hM hb hts hO
  obtain ⟨b0, b1, rfl⟩ : ∃ b0 b1, bs = [b0, b1] := by
    match bs, hb with
    | [b0, b1], _ => exact ⟨b0, b1, rfl⟩
  obtain ⟨d0, d1, rfl⟩ : ∃ d0 d1, ts = [d0, d1] := by
    match ts, hts with
    | [d0, d1], _ => exact ⟨d0, d1, rfl⟩
  have o0 := hO 0 [99, 111, 117, 110, 116, 115] b0 d0 rfl rfl rfl
  have o1 := hO 1 [110, 117, 109, 98, 101, 114] b1 d1 rfl rfl rfl
  clear hO hb hts
  cases b0 with
  | true =>
    cases b1 with
    | true =>
      exact l_fin (due := [.str [99, 111, 117, 110, 116, 115], .str [110, 117, 109, 98, 101, 114]]) (nm := [99, 111, 117, 110, 116, 115]) (by kernel_rfl) rfl (fun _ => rfl) ⟨M, tb_5_0 M d1 d0 o0⟩
    | false =>
      exact l_fin (due := [.str [99, 111, 117, 110, 116, 115]]) (nm := [99, 111, 117, 110, 116, 115]) (by kernel_rfl) rfl (fun _ => rfl) ⟨M, tb_5_0 M d1 d0 o0⟩
  | false =>
    cases b1 with
    | true =>
      have e0 : d0 = good_counts := o0
      subst e0
      exact l_fin (due := [.str [110, 117, 109, 98, 101, 114]]) (nm := [110, 117, 109, 98, 101, 114]) (by kernel_rfl) rfl (fun _ => rfl) ⟨M, tb_5_1 M  d1 o1⟩
    | false =>
      have e0 : d0 = good_counts := o0
      have e1 : d1 = good_number := o1
      subst e0 e1
      exact l_fin (due := []) (nm := gdS) (by kernel_rfl) rfl (fun _ => rfl) (tg_5 hM)
theorem fin_6 {ns : List Int} : ∀ (M : Mem) (bs : List Bool) (ts : List D) (x8 : Option Sl), Src [] M → bs.length = ([[105, 110, 112, 117, 116, 115]] : List Cs).length → ts.length = ([[105, 110, 112, 117, 116, 115]] : List Cs).length → OkT [[105, 110, 112, 117, 116, 115]] bs ts → ∃ M', ex (PP.fx 30) t_law_9 M (en7 ns askD 6 [[105, 110, 112, 117, 116, 115]] bs (some (.ol ts)) x8 none) = .rt M' (.bl true) := by
  intro M bs ts x8 hM hb hts hO
  obtain ⟨b0, rfl⟩ : ∃ b0, bs = [b0] := by
    match bs, hb with
    | [b0], _ => exact ⟨b0, rfl⟩
  obtain ⟨d0, rfl⟩ : ∃ d0, ts = [d0] := by
    match ts, hts with
    | [d0], _ => exact ⟨d0, rfl⟩
  have o0 := hO 0 [105, 110, 112, 117, 116, 115] b0 d0 rfl rfl rfl
  clear hO hb hts
  cases b0 with
  | true =>
    exact l_fin (due := [.str [105, 110, 112, 117, 116, 115]]) (nm := [105, 110, 112, 117, 116, 115]) (by kernel_rfl) rfl (fun _ => rfl) ⟨M, tb_6_0 M  d0 o0⟩
  | false =>
    have e0 : d0 = good_inputs := o0
    subst e0
    exact l_fin (due := []) (nm := gdS) (by kernel_rfl) rfl (fun _ => rfl) (tg_6 hM)
theorem fin_7 {ns : List Int} : ∀ (M : Mem) (bs : List Bool) (ts : List D) (x8 : Option Sl), Src [] M → bs.length = ([[105, 110, 112, 117, 116, 115], [110, 117, 109, 98, 101, 114]] : List Cs).length → ts.length = ([[105, 110, 112, 117, 116, 115], [110, 117, 109, 98, 101, 114]] : List Cs).length → OkT [[105, 110, 112, 117, 116, 115], [110, 117, 109, 98, 101, 114]] bs ts → ∃ M', ex (PP.fx 30) t_law_9 M (en7 ns askD 7 [[105, 110, 112, 117, 116, 115], [110, 117, 109, 98, 101, 114]] bs (some (.ol ts)) x8 none) = .rt M' (.bl true) := by
  intro M bs ts x8 hM hb hts hO
  obtain ⟨b0, b1, rfl⟩ : ∃ b0 b1, bs = [b0, b1] := by
    match bs, hb with
    | [b0, b1], _ => exact ⟨b0, b1, rfl⟩
  obtain ⟨d0, d1, rfl⟩ : ∃ d0 d1, ts = [d0, d1] := by
    match ts, hts with
    | [d0, d1], _ => exact ⟨d0, d1, rfl⟩
  have o0 := hO 0 [105, 110, 112, 117, 116, 115] b0 d0 rfl rfl rfl
  have o1 := hO 1 [110, 117, 109, 98, 101, 114] b1 d1 rfl rfl rfl
  clear hO hb hts
  cases b0 with
  | true =>
    cases b1 with
    | true =>
      exact l_fin (due := [.str [105, 110, 112, 117, 116, 115], .str [110, 117, 109, 98, 101, 114]]) (nm := [105, 110, 112, 117, 116, 115]) (by kernel_rfl) rfl (fun _ => rfl) ⟨M, tb_7_0 M d1 d0 o0⟩
    | false =>
      exact l_fin (due := [.str [105, 110, 112, 117, 116, 115]]) (nm := [105, 110, 112, 117, 116, 115]) (by kernel_rfl) rfl (fun _ => rfl) ⟨M, tb_7_0 M d1 d0 o0⟩
  | false =>
    cases b1 with
    | true =>
      have e0 : d0 = good_inputs := o0
      subst e0
      exact l_fin (due := [.str [110, 117, 109, 98, 101, 114]]) (nm := [110, 117, 109, 98, 101, 114]) (by kernel_rfl) rfl (fun _ => rfl) ⟨M, tb_7_1 M  d1 o1⟩
    | false =>
      have e0 : d0 = good_inputs := o0
      have e1 : d1 = good_number := o1
      subst e0 e1
      exact l_fin (due := []) (nm := gdS) (by kernel_rfl) rfl (fun _ => rfl) (tg_7 hM)
theorem fin_8 {ns : List Int} : ∀ (M : Mem) (bs : List Bool) (ts : List D) (x8 : Option Sl), Src [] M → bs.length = ([[99, 111, 117, 110, 116, 115], [99, 111, 117, 110, 116, 115]] : List Cs).length → ts.length = ([[99, 111, 117, 110, 116, 115], [99, 111, 117, 110, 116, 115]] : List Cs).length → OkT [[99, 111, 117, 110, 116, 115], [99, 111, 117, 110, 116, 115]] bs ts → ∃ M', ex (PP.fx 30) t_law_9 M (en7 ns askD 8 [[99, 111, 117, 110, 116, 115], [99, 111, 117, 110, 116, 115]] bs (some (.ol ts)) x8 none) = .rt M' (.bl true) := by
  intro M bs ts x8 hM hb hts hO
  obtain ⟨b0, b1, rfl⟩ : ∃ b0 b1, bs = [b0, b1] := by
    match bs, hb with
    | [b0, b1], _ => exact ⟨b0, b1, rfl⟩
  obtain ⟨d0, d1, rfl⟩ : ∃ d0 d1, ts = [d0, d1] := by
    match ts, hts with
    | [d0, d1], _ => exact ⟨d0, d1, rfl⟩
  have o0 := hO 0 [99, 111, 117, 110, 116, 115] b0 d0 rfl rfl rfl
  have o1 := hO 1 [99, 111, 117, 110, 116, 115] b1 d1 rfl rfl rfl
  clear hO hb hts
  cases b0 with
  | true =>
    cases b1 with
    | true =>
      exact l_fin (due := [.str [99, 111, 117, 110, 116, 115], .str [99, 111, 117, 110, 116, 115]]) (nm := [99, 111, 117, 110, 116, 115]) (by kernel_rfl) rfl (fun _ => rfl) ⟨M, tb_8_0 M d1 d0 o0⟩
    | false =>
      exact l_fin (due := [.str [99, 111, 117, 110, 116, 115]]) (nm := [99, 111, 117, 110, 116, 115]) (by kernel_rfl) rfl (fun _ => rfl) ⟨M, tb_8_0 M d1 d0 o0⟩
  | false =>
    cases b1 with
    | true =>
      have e0 : d0 = good_counts := o0
      subst e0
      exact l_fin (due := [.str [99, 111, 117, 110, 116, 115]]) (nm := [99, 111, 117, 110, 116, 115]) (by kernel_rfl) rfl (fun _ => rfl) ⟨M, tb_8_1 M  d1 o1⟩
    | false =>
      have e0 : d0 = good_counts := o0
      have e1 : d1 = good_counts := o1
      subst e0 e1
      exact l_fin (due := []) (nm := gdS) (by kernel_rfl) rfl (fun _ => rfl) (tg_8 hM)
theorem fin_9 {ns : List Int} : ∀ (M : Mem) (bs : List Bool) (ts : List D) (x8 : Option Sl), Src [] M → bs.length = ([[116, 97, 98, 108, 101], [116, 97, 98, 108, 101]] : List Cs).length → ts.length = ([[116, 97, 98, 108, 101], [116, 97, 98, 108, 101]] : List Cs).length → OkT [[116, 97, 98, 108, 101], [116, 97, 98, 108, 101]] bs ts → ∃ M', ex (PP.fx 30) t_law_9 M (en7 ns askD 9 [[116, 97, 98, 108, 101], [116, 97, 98, 108, 101]] bs (some (.ol ts)) x8 none) = .rt M' (.bl true) := by
  intro M bs ts x8 hM hb hts hO
  obtain ⟨b0, b1, rfl⟩ : ∃ b0 b1, bs = [b0, b1] := by
    match bs, hb with
    | [b0, b1], _ => exact ⟨b0, b1, rfl⟩
  obtain ⟨d0, d1, rfl⟩ : ∃ d0 d1, ts = [d0, d1] := by
    match ts, hts with
    | [d0, d1], _ => exact ⟨d0, d1, rfl⟩
  have o0 := hO 0 [116, 97, 98, 108, 101] b0 d0 rfl rfl rfl
  have o1 := hO 1 [116, 97, 98, 108, 101] b1 d1 rfl rfl rfl
  clear hO hb hts
  cases b0 with
  | true =>
    cases b1 with
    | true =>
      exact l_fin (due := [.str [116, 97, 98, 108, 101], .str [116, 97, 98, 108, 101]]) (nm := [116, 97, 98, 108, 101]) (by kernel_rfl) rfl (fun _ => rfl) ⟨M, tb_9_0 M d1 d0 o0⟩
    | false =>
      exact l_fin (due := [.str [116, 97, 98, 108, 101]]) (nm := [116, 97, 98, 108, 101]) (by kernel_rfl) rfl (fun _ => rfl) ⟨M, tb_9_0 M d1 d0 o0⟩
  | false =>
    cases b1 with
    | true =>
      have e0 : d0 = good_table := o0
      subst e0
      exact l_fin (due := [.str [116, 97, 98, 108, 101]]) (nm := [116, 97, 98, 108, 101]) (by kernel_rfl) rfl (fun _ => rfl) ⟨M, tb_9_1 M  d1 o1⟩
    | false =>
      have e0 : d0 = good_table := o0
      have e1 : d1 = good_table := o1
      subst e0 e1
      exact l_fin (due := []) (nm := gdS) (by kernel_rfl) rfl (fun _ => rfl) (tg_9 hM)
theorem fin_10 {ns : List Int} : ∀ (M : Mem) (bs : List Bool) (ts : List D) (x8 : Option Sl), Src [] M → bs.length = ([[116, 97, 98, 108, 101], [116, 97, 98, 108, 101], [105, 110, 112, 117, 116]] : List Cs).length → ts.length = ([[116, 97, 98, 108, 101], [116, 97, 98, 108, 101], [105, 110, 112, 117, 116]] : List Cs).length → OkT [[116, 97, 98, 108, 101], [116, 97, 98, 108, 101], [105, 110, 112, 117, 116]] bs ts → ∃ M', ex (PP.fx 30) t_law_9 M (en7 ns askD 10 [[116, 97, 98, 108, 101], [116, 97, 98, 108, 101], [105, 110, 112, 117, 116]] bs (some (.ol ts)) x8 none) = .rt M' (.bl true) := by
  intro M bs ts x8 hM hb hts hO
  obtain ⟨b0, b1, b2, rfl⟩ : ∃ b0 b1 b2, bs = [b0, b1, b2] := by
    match bs, hb with
    | [b0, b1, b2], _ => exact ⟨b0, b1, b2, rfl⟩
  obtain ⟨d0, d1, d2, rfl⟩ : ∃ d0 d1 d2, ts = [d0, d1, d2] := by
    match ts, hts with
    | [d0, d1, d2], _ => exact ⟨d0, d1, d2, rfl⟩
  have o0 := hO 0 [116, 97, 98, 108, 101] b0 d0 rfl rfl rfl
  have o1 := hO 1 [116, 97, 98, 108, 101] b1 d1 rfl rfl rfl
  have o2 := hO 2 [105, 110, 112, 117, 116] b2 d2 rfl rfl rfl
  clear hO hb hts
  cases b0 with
  | true =>
    cases b1 with
    | true =>
      cases b2 with
      | true =>
        exact l_fin (due := [.str [116, 97, 98, 108, 101], .str [116, 97, 98, 108, 101], .str [105, 110, 112, 117, 116]]) (nm := [116, 97, 98, 108, 101]) (by kernel_rfl) rfl (fun _ => rfl) ⟨M, tb_10_0 M d1 d2 d0 o0⟩
      | false =>
        exact l_fin (due := [.str [116, 97, 98, 108, 101], .str [116, 97, 98, 108, 101]]) (nm := [116, 97, 98, 108, 101]) (by kernel_rfl) rfl (fun _ => rfl) ⟨M, tb_10_0 M d1 d2 d0 o0⟩
    | false =>
      cases b2 with
      | true =>
        exact l_fin (due := [.str [116, 97, 98, 108, 101], .str [105, 110, 112, 117, 116]]) (nm := [116, 97, 98, 108, 101]) (by kernel_rfl) rfl (fun _ => rfl) ⟨M, tb_10_0 M d1 d2 d0 o0⟩
      | false =>
        exact l_fin (due := [.str [116, 97, 98, 108, 101]]) (nm := [116, 97, 98, 108, 101]) (by kernel_rfl) rfl (fun _ => rfl) ⟨M, tb_10_0 M d1 d2 d0 o0⟩
  | false =>
    cases b1 with
    | true =>
      cases b2 with
      | true =>
        have e0 : d0 = good_table := o0
        subst e0
        exact l_fin (due := [.str [116, 97, 98, 108, 101], .str [105, 110, 112, 117, 116]]) (nm := [116, 97, 98, 108, 101]) (by kernel_rfl) rfl (fun _ => rfl) ⟨M, tb_10_1 M d2 d1 o1⟩
      | false =>
        have e0 : d0 = good_table := o0
        subst e0
        exact l_fin (due := [.str [116, 97, 98, 108, 101]]) (nm := [116, 97, 98, 108, 101]) (by kernel_rfl) rfl (fun _ => rfl) ⟨M, tb_10_1 M d2 d1 o1⟩
    | false =>
      cases b2 with
      | true =>
        have e0 : d0 = good_table := o0
        have e1 : d1 = good_table := o1
        subst e0 e1
        exact l_fin (due := [.str [105, 110, 112, 117, 116]]) (nm := [105, 110, 112, 117, 116]) (by kernel_rfl) rfl (fun _ => rfl) ⟨M, tb_10_2 M  d2 o2⟩
      | false =>
        have e0 : d0 = good_table := o0
        have e1 : d1 = good_table := o1
        have e2 : d2 = good_input := o2
        subst e0 e1 e2
        exact l_fin (due := []) (nm := gdS) (by kernel_rfl) rfl (fun _ => rfl) (tg_10 hM)
theorem fin_11 {ns : List Int} : ∀ (M : Mem) (bs : List Bool) (ts : List D) (x8 : Option Sl), Src [] M → bs.length = ([[105, 110, 112, 117, 116, 115], [115, 101, 101, 110]] : List Cs).length → ts.length = ([[105, 110, 112, 117, 116, 115], [115, 101, 101, 110]] : List Cs).length → OkT [[105, 110, 112, 117, 116, 115], [115, 101, 101, 110]] bs ts → ∃ M', ex (PP.fx 30) t_law_9 M (en7 ns askD 11 [[105, 110, 112, 117, 116, 115], [115, 101, 101, 110]] bs (some (.ol ts)) x8 none) = .rt M' (.bl true) := by
  intro M bs ts x8 hM hb hts hO
  obtain ⟨b0, b1, rfl⟩ : ∃ b0 b1, bs = [b0, b1] := by
    match bs, hb with
    | [b0, b1], _ => exact ⟨b0, b1, rfl⟩
  obtain ⟨d0, d1, rfl⟩ : ∃ d0 d1, ts = [d0, d1] := by
    match ts, hts with
    | [d0, d1], _ => exact ⟨d0, d1, rfl⟩
  have o0 := hO 0 [105, 110, 112, 117, 116, 115] b0 d0 rfl rfl rfl
  have o1 := hO 1 [115, 101, 101, 110] b1 d1 rfl rfl rfl
  clear hO hb hts
  cases b0 with
  | true =>
    cases b1 with
    | true =>
      exact l_fin (due := [.str [105, 110, 112, 117, 116, 115], .str [115, 101, 101, 110]]) (nm := [105, 110, 112, 117, 116, 115]) (by kernel_rfl) rfl (fun _ => rfl) ⟨M, tb_11_0 M d1 d0 o0⟩
    | false =>
      exact l_fin (due := [.str [105, 110, 112, 117, 116, 115]]) (nm := [105, 110, 112, 117, 116, 115]) (by kernel_rfl) rfl (fun _ => rfl) ⟨M, tb_11_0 M d1 d0 o0⟩
  | false =>
    cases b1 with
    | true =>
      have e0 : d0 = good_inputs := o0
      subst e0
      exact l_fin (due := [.str [115, 101, 101, 110]]) (nm := [115, 101, 101, 110]) (by kernel_rfl) rfl (fun _ => rfl) ⟨M, tb_11_1 M  d1 o1⟩
    | false =>
      have e0 : d0 = good_inputs := o0
      have e1 : d1 = good_seen := o1
      subst e0 e1
      exact l_fin (due := []) (nm := gdS) (by kernel_rfl) rfl (fun _ => rfl) (tg_11 hM)
theorem fin_12 {ns : List Int} : ∀ (M : Mem) (bs : List Bool) (ts : List D) (x8 : Option Sl), Src [] M → bs.length = ([[105, 110, 112, 117, 116, 115], [115, 101, 101, 110], [114, 111, 119]] : List Cs).length → ts.length = ([[105, 110, 112, 117, 116, 115], [115, 101, 101, 110], [114, 111, 119]] : List Cs).length → OkT [[105, 110, 112, 117, 116, 115], [115, 101, 101, 110], [114, 111, 119]] bs ts → ∃ M', ex (PP.fx 30) t_law_9 M (en7 ns askD 12 [[105, 110, 112, 117, 116, 115], [115, 101, 101, 110], [114, 111, 119]] bs (some (.ol ts)) x8 none) = .rt M' (.bl true) := by
  intro M bs ts x8 hM hb hts hO
  obtain ⟨b0, b1, b2, rfl⟩ : ∃ b0 b1 b2, bs = [b0, b1, b2] := by
    match bs, hb with
    | [b0, b1, b2], _ => exact ⟨b0, b1, b2, rfl⟩
  obtain ⟨d0, d1, d2, rfl⟩ : ∃ d0 d1 d2, ts = [d0, d1, d2] := by
    match ts, hts with
    | [d0, d1, d2], _ => exact ⟨d0, d1, d2, rfl⟩
  have o0 := hO 0 [105, 110, 112, 117, 116, 115] b0 d0 rfl rfl rfl
  have o1 := hO 1 [115, 101, 101, 110] b1 d1 rfl rfl rfl
  have o2 := hO 2 [114, 111, 119] b2 d2 rfl rfl rfl
  clear hO hb hts
  cases b0 with
  | true =>
    cases b1 with
    | true =>
      cases b2 with
      | true =>
        exact l_fin (due := [.str [105, 110, 112, 117, 116, 115], .str [115, 101, 101, 110], .str [114, 111, 119]]) (nm := [105, 110, 112, 117, 116, 115]) (by kernel_rfl) rfl (fun _ => rfl) ⟨M, tb_12_0 M d1 d2 d0 o0⟩
      | false =>
        exact l_fin (due := [.str [105, 110, 112, 117, 116, 115], .str [115, 101, 101, 110]]) (nm := [105, 110, 112, 117, 116, 115]) (by kernel_rfl) rfl (fun _ => rfl) ⟨M, tb_12_0 M d1 d2 d0 o0⟩
    | false =>
      cases b2 with
      | true =>
        exact l_fin (due := [.str [105, 110, 112, 117, 116, 115], .str [114, 111, 119]]) (nm := [105, 110, 112, 117, 116, 115]) (by kernel_rfl) rfl (fun _ => rfl) ⟨M, tb_12_0 M d1 d2 d0 o0⟩
      | false =>
        exact l_fin (due := [.str [105, 110, 112, 117, 116, 115]]) (nm := [105, 110, 112, 117, 116, 115]) (by kernel_rfl) rfl (fun _ => rfl) ⟨M, tb_12_0 M d1 d2 d0 o0⟩
  | false =>
    cases b1 with
    | true =>
      cases b2 with
      | true =>
        have e0 : d0 = good_inputs := o0
        subst e0
        exact l_fin (due := [.str [115, 101, 101, 110], .str [114, 111, 119]]) (nm := [115, 101, 101, 110]) (by kernel_rfl) rfl (fun _ => rfl) ⟨M, tb_12_1 M d2 d1 o1⟩
      | false =>
        have e0 : d0 = good_inputs := o0
        subst e0
        exact l_fin (due := [.str [115, 101, 101, 110]]) (nm := [115, 101, 101, 110]) (by kernel_rfl) rfl (fun _ => rfl) ⟨M, tb_12_1 M d2 d1 o1⟩
    | false =>
      cases b2 with
      | true =>
        have e0 : d0 = good_inputs := o0
        have e1 : d1 = good_seen := o1
        subst e0 e1
        exact l_fin (due := [.str [114, 111, 119]]) (nm := [114, 111, 119]) (by kernel_rfl) rfl (fun _ => rfl) ⟨M, tb_12_2 M  d2 o2⟩
      | false =>
        have e0 : d0 = good_inputs := o0
        have e1 : d1 = good_seen := o1
        have e2 : d2 = good_row := o2
        subst e0 e1 e2
        exact l_fin (due := []) (nm := gdS) (by kernel_rfl) rfl (fun _ => rfl) (tg_12 hM)
theorem law_pure : ∀ ns : List Int, ns.length ≤ 63 → ∃ M, PP.call (dep + 1) f_law [] [.scr ns] = .ok M (.bl true) := by
  intro ns hns
  obtain ⟨M1, s1, e1⟩ := c_mix 29 ns 15 hns
  obtain ⟨M2, k, s2, k0, k1, e2⟩ := c_next 29 [] M1 13 s1 (by decide) (by decide)
  simp only [Nat.reduceAdd] at e1 e2
  have key : ∃ M', ex (PP.fx 30) t_law_5 M2 [some (.d (.scr ns)), some (.d (.hnd 1)), some (.d askD), some (.d (.int k)), none, none, none, none, none, none] = .rt M' (.bl true) := by
    have hk : k = 0 ∨ k = 1 ∨ k = 2 ∨ k = 3 ∨ k = 4 ∨ k = 5 ∨ k = 6 ∨ k = 7 ∨ k = 8 ∨ k = 9 ∨ k = 10 ∨ k = 11 ∨ k = 12 := by omega
    rcases hk with rfl | rfl | rfl | rfl | rfl | rfl | rfl | rfl | rfl | rfl | rfl | rfl | rfl
    · exact l_rest (ws := [[119, 101, 105, 103, 104, 116, 115], [98, 97, 114]]) s2 (by decide) (by decide) (fun _ => rfl) fin_0
    · exact l_rest (ws := [[103, 97, 116, 101]]) s2 (by decide) (by decide) (fun _ => rfl) fin_1
    · exact l_rest (ws := [[116, 97, 98, 108, 101]]) s2 (by decide) (by decide) (fun _ => rfl) fin_2
    · exact l_rest (ws := [[116, 97, 98, 108, 101]]) s2 (by decide) (by decide) (fun _ => rfl) fin_3
    · exact l_rest (ws := [[99, 111, 117, 110, 116, 115]]) s2 (by decide) (by decide) (fun _ => rfl) fin_4
    · exact l_rest (ws := [[99, 111, 117, 110, 116, 115], [110, 117, 109, 98, 101, 114]]) s2 (by decide) (by decide) (fun _ => rfl) fin_5
    · exact l_rest (ws := [[105, 110, 112, 117, 116, 115]]) s2 (by decide) (by decide) (fun _ => rfl) fin_6
    · exact l_rest (ws := [[105, 110, 112, 117, 116, 115], [110, 117, 109, 98, 101, 114]]) s2 (by decide) (by decide) (fun _ => rfl) fin_7
    · exact l_rest (ws := [[99, 111, 117, 110, 116, 115], [99, 111, 117, 110, 116, 115]]) s2 (by decide) (by decide) (fun _ => rfl) fin_8
    · exact l_rest (ws := [[116, 97, 98, 108, 101], [116, 97, 98, 108, 101]]) s2 (by decide) (by decide) (fun _ => rfl) fin_9
    · exact l_rest (ws := [[116, 97, 98, 108, 101], [116, 97, 98, 108, 101], [105, 110, 112, 117, 116]]) s2 (by decide) (by decide) (fun _ => rfl) fin_10
    · exact l_rest (ws := [[105, 110, 112, 117, 116, 115], [115, 101, 101, 110]]) s2 (by decide) (by decide) (fun _ => rfl) fin_11
    · exact l_rest (ws := [[105, 110, 112, 117, 116, 115], [115, 101, 101, 110], [114, 111, 119]]) s2 (by decide) (by decide) (fun _ => rfl) fin_12
  obtain ⟨M', e⟩ := key
  refine ⟨M', ?_⟩
  refine' go_law (fl := .rt M' (.bl true)) ?r1 ?r2
  case r2 => rfl
  case r1 =>
    refine s_set (e_cal (e_cons (e_vr rfl) (e_cons e_int e_nil)) e1) ?_
    have ask : ∀ (n : Nat) (M : Mem) (fl : Fl), ex (PP.fx 30) t_law_4 M [some (.d (.scr ns)), some (.d (.hnd 1)), some (.d askD), none, none, none, none, none, none, none] = fl → ex (PP.fx 30) t_law_1 M [some (.d (.scr ns)), some (.d (.hnd 1)), none, none, none, none, none, none, none, none] = fl := fun n M fl h => by
      rw [← h]
      kernel_rfl
    refine ask 0 M1 _ ?_
    exact s_set (e_cal (e_cons (e_vr rfl) (e_cons e_int e_nil)) e2) e
end Oc
namespace Oc
open L2 PySem PySem.Spec PyProof.Rows
theorem all_mk {w : World} {K : PySem.W.Frag} {h : Heap} {mg : Str → Option Value} {fa C0 C1 g0 g1 g2 g3 g4 g5 g6 g7 g8 g9 g10 g11 g12 g13 g14 g15 g16 g17 g18 g19 g20 g21 g22 g23 g24 g25 g26 g27 g28 g29 g30 g31 g32 g33 g34 g35 g36 g37 g38 g39 g40 g41 g42 g43 g44 g45 g46 g47 g48 g49 g50 g51 g52 g53 g54 g55 g56 g57 g58 g59 g60 g61 g62 g63 g64 g65 g66 g67 g68 g69 g70 g71 g72 g73 g74 g75 g76 g77 g78 g79 g80 X100 X101 X102 X103 X104 X105 X106 X107 X108 X109 T20 P20 gI107 p4 p5 p56 p57 : Addr} (X : K.In h) (G : h.Ns mainGlobals mg) (hfa : mg "law" = some (.ref fa))
    {nmX107 qX107 : String} {NX107 : Addr} {bsX107 bmX107 : List Value} {snX107 : List Str} {suX107 : List Value} {abX107 : Bool} {coX107 : Option Bool} {ddX107 : Option Addr} {kaX107 kbX107 kcX107 kdX107 keX107 : Option Value} {odI107 anI107 : Option Addr} {slI107 : Array (Option Value)} {ocI107 kVI107 dcI107 pmI107 cdI107 ctI107 : Value} {od0 an0 : Option Addr} {sl0 : Array (Option Value)} {oc0 kV0 dc0 pm0 cd0 ct0 : Value} {od1 an1 : Option Addr} {sl1 : Array (Option Value)} {oc1 kV1 dc1 pm1 cd1 ct1 : Value} {od2 an2 : Option Addr} {sl2 : Array (Option Value)} {oc2 kV2 dc2 pm2 cd2 ct2 : Value} {od3 an3 : Option Addr} {sl3 : Array (Option Value)} {oc3 kV3 dc3 pm3 cd3 ct3 : Value} {rest4 : List Value} {od4 an4 : Option Addr} {sl4 : Array (Option Value)} {oc4 kV4 dc4 pm4 cd4 ct4 : Value} {rest5 : List Value} {od5 an5 : Option Addr} {sl5 : Array (Option Value)} {oc5 kV5 dc5 pm5 cd5 ct5 : Value} {od6 an6 : Option Addr} {sl6 : Array (Option Value)} {oc6 kV6 dc6 pm6 cd6 ct6 : Value} {od7 an7 : Option Addr} {sl7 : Array (Option Value)} {oc7 kV7 dc7 pm7 cd7 ct7 : Value} {od8 an8 : Option Addr} {sl8 : Array (Option Value)} {oc8 kV8 dc8 pm8 cd8 ct8 : Value} {od9 an9 : Option Addr} {sl9 : Array (Option Value)} {oc9 kV9 dc9 pm9 cd9 ct9 : Value} {od10 an10 : Option Addr} {sl10 : Array (Option Value)} {oc10 kV10 dc10 pm10 cd10 ct10 : Value} {od11 an11 : Option Addr} {sl11 : Array (Option Value)} {oc11 kV11 dc11 pm11 cd11 ct11 : Value} {od12 an12 : Option Addr} {sl12 : Array (Option Value)} {oc12 kV12 dc12 pm12 cd12 ct12 : Value} {od13 an13 : Option Addr} {sl13 : Array (Option Value)} {oc13 kV13 dc13 pm13 cd13 ct13 : Value} {od14 an14 : Option Addr} {sl14 : Array (Option Value)} {oc14 kV14 dc14 pm14 cd14 ct14 : Value} {od15 an15 : Option Addr} {sl15 : Array (Option Value)} {oc15 kV15 dc15 pm15 cd15 ct15 : Value} {od16 an16 : Option Addr} {sl16 : Array (Option Value)} {oc16 kV16 dc16 pm16 cd16 ct16 : Value} {od17 an17 : Option Addr} {sl17 : Array (Option Value)} {oc17 kV17 dc17 pm17 cd17 ct17 : Value} {od18 an18 : Option Addr} {sl18 : Array (Option Value)} {oc18 kV18 dc18 pm18 cd18 ct18 : Value} {od19 an19 : Option Addr} {sl19 : Array (Option Value)} {oc19 kV19 dc19 pm19 cd19 ct19 : Value} {od20 an20 : Option Addr} {sl20 : Array (Option Value)} {oc20 kV20 dc20 pm20 ct20 : Value} {eT20 : Value} {dT20 : Option Addr} {vT20 : Array Value} {sT20 : Array (Option Value)} {od21 an21 : Option Addr} {sl21 : Array (Option Value)} {oc21 kV21 dc21 pm21 cd21 ct21 : Value} {od22 an22 : Option Addr} {sl22 : Array (Option Value)} {oc22 kV22 dc22 pm22 cd22 ct22 : Value} {od23 an23 : Option Addr} {sl23 : Array (Option Value)} {oc23 kV23 dc23 pm23 cd23 ct23 : Value} {od24 an24 : Option Addr} {sl24 : Array (Option Value)} {oc24 kV24 dc24 pm24 cd24 ct24 : Value} {od25 an25 : Option Addr} {sl25 : Array (Option Value)} {oc25 kV25 dc25 pm25 cd25 ct25 : Value} {od26 an26 : Option Addr} {sl26 : Array (Option Value)} {oc26 kV26 dc26 pm26 cd26 ct26 : Value} {od27 an27 : Option Addr} {sl27 : Array (Option Value)} {oc27 kV27 dc27 pm27 cd27 ct27 : Value} {od28 an28 : Option Addr} {sl28 : Array (Option Value)} {oc28 kV28 dc28 pm28 cd28 ct28 : Value} {od29 an29 : Option Addr} {sl29 : Array (Option Value)} {oc29 kV29 dc29 pm29 cd29 ct29 : Value} {od30 an30 : Option Addr} {sl30 : Array (Option Value)} {oc30 kV30 dc30 pm30 cd30 ct30 : Value} {od31 an31 : Option Addr} {sl31 : Array (Option Value)} {oc31 kV31 dc31 pm31 cd31 ct31 : Value} {od32 an32 : Option Addr} {sl32 : Array (Option Value)} {oc32 kV32 dc32 pm32 cd32 ct32 : Value} {od33 an33 : Option Addr} {sl33 : Array (Option Value)} {oc33 kV33 dc33 pm33 cd33 ct33 : Value} {od34 an34 : Option Addr} {sl34 : Array (Option Value)} {oc34 kV34 dc34 pm34 cd34 ct34 : Value} {od35 an35 : Option Addr} {sl35 : Array (Option Value)} {oc35 kV35 dc35 pm35 cd35 ct35 : Value} {od36 an36 : Option Addr} {sl36 : Array (Option Value)} {oc36 kV36 dc36 pm36 cd36 ct36 : Value} {od37 an37 : Option Addr} {sl37 : Array (Option Value)} {oc37 kV37 dc37 pm37 cd37 ct37 : Value} {od38 an38 : Option Addr} {sl38 : Array (Option Value)} {oc38 kV38 dc38 pm38 cd38 ct38 : Value} {od39 an39 : Option Addr} {sl39 : Array (Option Value)} {oc39 kV39 dc39 pm39 cd39 ct39 : Value} {od40 an40 : Option Addr} {sl40 : Array (Option Value)} {oc40 kV40 dc40 pm40 cd40 ct40 : Value} {od41 an41 : Option Addr} {sl41 : Array (Option Value)} {oc41 kV41 dc41 pm41 cd41 ct41 : Value} {od42 an42 : Option Addr} {sl42 : Array (Option Value)} {oc42 kV42 dc42 pm42 cd42 ct42 : Value} {od43 an43 : Option Addr} {sl43 : Array (Option Value)} {oc43 kV43 dc43 pm43 cd43 ct43 : Value} {od44 an44 : Option Addr} {sl44 : Array (Option Value)} {oc44 kV44 dc44 pm44 cd44 ct44 : Value} {od45 an45 : Option Addr} {sl45 : Array (Option Value)} {oc45 kV45 dc45 pm45 cd45 ct45 : Value} {od46 an46 : Option Addr} {sl46 : Array (Option Value)} {oc46 kV46 dc46 pm46 cd46 ct46 : Value} {od47 an47 : Option Addr} {sl47 : Array (Option Value)} {oc47 kV47 dc47 pm47 cd47 ct47 : Value} {od48 an48 : Option Addr} {sl48 : Array (Option Value)} {oc48 kV48 dc48 pm48 cd48 ct48 : Value} {od49 an49 : Option Addr} {sl49 : Array (Option Value)} {oc49 kV49 dc49 pm49 cd49 ct49 : Value} {od50 an50 : Option Addr} {sl50 : Array (Option Value)} {oc50 kV50 dc50 pm50 cd50 ct50 : Value} {od51 an51 : Option Addr} {sl51 : Array (Option Value)} {oc51 kV51 dc51 pm51 cd51 ct51 : Value} {od52 an52 : Option Addr} {sl52 : Array (Option Value)} {oc52 kV52 dc52 pm52 cd52 ct52 : Value} {od53 an53 : Option Addr} {sl53 : Array (Option Value)} {oc53 kV53 dc53 pm53 cd53 ct53 : Value} {od54 an54 : Option Addr} {sl54 : Array (Option Value)} {oc54 kV54 dc54 pm54 cd54 ct54 : Value} {od55 an55 : Option Addr} {sl55 : Array (Option Value)} {oc55 kV55 dc55 pm55 cd55 ct55 : Value} {rest56 : List Value} {od56 an56 : Option Addr} {sl56 : Array (Option Value)} {oc56 kV56 dc56 pm56 cd56 ct56 : Value} {rest57 : List Value} {od57 an57 : Option Addr} {sl57 : Array (Option Value)} {oc57 kV57 dc57 pm57 cd57 ct57 : Value} {od58 an58 : Option Addr} {sl58 : Array (Option Value)} {oc58 kV58 dc58 pm58 cd58 ct58 : Value} {od59 an59 : Option Addr} {sl59 : Array (Option Value)} {oc59 kV59 dc59 pm59 cd59 ct59 : Value} {od60 an60 : Option Addr} {sl60 : Array (Option Value)} {oc60 kV60 dc60 pm60 cd60 ct60 : Value} {od61 an61 : Option Addr} {sl61 : Array (Option Value)} {oc61 kV61 dc61 pm61 cd61 ct61 : Value} {od62 an62 : Option Addr} {sl62 : Array (Option Value)} {oc62 kV62 dc62 pm62 cd62 ct62 : Value} {od63 an63 : Option Addr} {sl63 : Array (Option Value)} {oc63 kV63 dc63 pm63 cd63 ct63 : Value} {od64 an64 : Option Addr} {sl64 : Array (Option Value)} {oc64 kV64 dc64 pm64 cd64 ct64 : Value} {od65 an65 : Option Addr} {sl65 : Array (Option Value)} {oc65 kV65 dc65 pm65 cd65 ct65 : Value} {od66 an66 : Option Addr} {sl66 : Array (Option Value)} {oc66 kV66 dc66 pm66 cd66 ct66 : Value} {od67 an67 : Option Addr} {sl67 : Array (Option Value)} {oc67 kV67 dc67 pm67 cd67 ct67 : Value} {od68 an68 : Option Addr} {sl68 : Array (Option Value)} {oc68 kV68 dc68 pm68 cd68 ct68 : Value} {od69 an69 : Option Addr} {sl69 : Array (Option Value)} {oc69 kV69 dc69 pm69 cd69 ct69 : Value} {od70 an70 : Option Addr} {sl70 : Array (Option Value)} {oc70 kV70 dc70 pm70 cd70 ct70 : Value} {od71 an71 : Option Addr} {sl71 : Array (Option Value)} {oc71 kV71 dc71 pm71 cd71 ct71 : Value} {od72 an72 : Option Addr} {sl72 : Array (Option Value)} {oc72 kV72 dc72 pm72 cd72 ct72 : Value} {od73 an73 : Option Addr} {sl73 : Array (Option Value)} {oc73 kV73 dc73 pm73 cd73 ct73 : Value} {od74 an74 : Option Addr} {sl74 : Array (Option Value)} {oc74 kV74 dc74 pm74 cd74 ct74 : Value} {od75 an75 : Option Addr} {sl75 : Array (Option Value)} {oc75 kV75 dc75 pm75 cd75 ct75 : Value} {od76 an76 : Option Addr} {sl76 : Array (Option Value)} {oc76 kV76 dc76 pm76 cd76 ct76 : Value} {od77 an77 : Option Addr} {sl77 : Array (Option Value)} {oc77 kV77 dc77 pm77 cd77 ct77 : Value} {od78 an78 : Option Addr} {sl78 : Array (Option Value)} {oc78 kV78 dc78 pm78 cd78 ct78 : Value} {od79 an79 : Option Addr} {sl79 : Array (Option Value)} {oc79 kV79 dc79 pm79 cd79 ct79 : Value} {od80 an80 : Option Addr} {sl80 : Array (Option Value)} {oc80 kV80 dc80 pm80 cd80 ct80 : Value} {tk0 : Tok} {tk1 : Tok} {tk2 : Tok} {tk3 : Tok} {tk4 : Tok}
    (gX100 : PySem.W.nsIn K mainGlobals "BadWeights" = some (some (.ref X100)))
    (kX100 : PySem.W.keepIn K (.ref X100) = true)
    (bX100 : PySem.W.subIn K (.ref X100) (.type "BaseException") = some true)
    (tX100 : PySem.W.typeIn K (.ref X100) = some (.type "type"))
    (iX100 : PySem.W.isClsIn K X100 = true)
    (xX100 : PySem.W.excIn K X100 [.type "ValueError", .type "Exception", .type "BaseException", .type "object"] "ValueError.__new__" = true)
    (gX101 : PySem.W.nsIn K mainGlobals "BadBar" = some (some (.ref X101)))
    (kX101 : PySem.W.keepIn K (.ref X101) = true)
    (bX101 : PySem.W.subIn K (.ref X101) (.type "BaseException") = some true)
    (tX101 : PySem.W.typeIn K (.ref X101) = some (.type "type"))
    (iX101 : PySem.W.isClsIn K X101 = true)
    (xX101 : PySem.W.excIn K X101 [.type "ValueError", .type "Exception", .type "BaseException", .type "object"] "ValueError.__new__" = true)
    (gX102 : PySem.W.nsIn K mainGlobals "BadGate" = some (some (.ref X102)))
    (kX102 : PySem.W.keepIn K (.ref X102) = true)
    (bX102 : PySem.W.subIn K (.ref X102) (.type "BaseException") = some true)
    (tX102 : PySem.W.typeIn K (.ref X102) = some (.type "type"))
    (iX102 : PySem.W.isClsIn K X102 = true)
    (xX102 : PySem.W.excIn K X102 [.type "ValueError", .type "Exception", .type "BaseException", .type "object"] "ValueError.__new__" = true)
    (gX103 : PySem.W.nsIn K mainGlobals "BadTable" = some (some (.ref X103)))
    (kX103 : PySem.W.keepIn K (.ref X103) = true)
    (bX103 : PySem.W.subIn K (.ref X103) (.type "BaseException") = some true)
    (tX103 : PySem.W.typeIn K (.ref X103) = some (.type "type"))
    (iX103 : PySem.W.isClsIn K X103 = true)
    (xX103 : PySem.W.excIn K X103 [.type "ValueError", .type "Exception", .type "BaseException", .type "object"] "ValueError.__new__" = true)
    (gX104 : PySem.W.nsIn K mainGlobals "BadCounts" = some (some (.ref X104)))
    (kX104 : PySem.W.keepIn K (.ref X104) = true)
    (bX104 : PySem.W.subIn K (.ref X104) (.type "BaseException") = some true)
    (tX104 : PySem.W.typeIn K (.ref X104) = some (.type "type"))
    (iX104 : PySem.W.isClsIn K X104 = true)
    (xX104 : PySem.W.excIn K X104 [.type "ValueError", .type "Exception", .type "BaseException", .type "object"] "ValueError.__new__" = true)
    (gX105 : PySem.W.nsIn K mainGlobals "BadNumber" = some (some (.ref X105)))
    (kX105 : PySem.W.keepIn K (.ref X105) = true)
    (bX105 : PySem.W.subIn K (.ref X105) (.type "BaseException") = some true)
    (tX105 : PySem.W.typeIn K (.ref X105) = some (.type "type"))
    (iX105 : PySem.W.isClsIn K X105 = true)
    (xX105 : PySem.W.excIn K X105 [.type "ValueError", .type "Exception", .type "BaseException", .type "object"] "ValueError.__new__" = true)
    (gX106 : PySem.W.nsIn K mainGlobals "BadInputs" = some (some (.ref X106)))
    (kX106 : PySem.W.keepIn K (.ref X106) = true)
    (bX106 : PySem.W.subIn K (.ref X106) (.type "BaseException") = some true)
    (tX106 : PySem.W.typeIn K (.ref X106) = some (.type "type"))
    (iX106 : PySem.W.isClsIn K X106 = true)
    (xX106 : PySem.W.excIn K X106 [.type "ValueError", .type "Exception", .type "BaseException", .type "object"] "ValueError.__new__" = true)
    (gX107 : PySem.W.nsIn K mainGlobals "BadSeen" = some (some (.ref X107)))
    (kX107 : PySem.W.keepIn K (.ref X107) = true)
    (bX107 : PySem.W.subIn K (.ref X107) (.type "BaseException") = some true)
    (tX107 : PySem.W.typeIn K (.ref X107) = some (.type "type"))
    (iX107 : PySem.W.isClsIn K X107 = true)
    (gaX107 : PySem.W.findIn K (.ref X107) "__getattribute__" = some (some (.builtin "BaseException.__getattribute__")))
    (ggX107 : PySem.W.findIn K (.ref X107) "__getattr__" = some none)
    (hdX107 : PySem.W.hasDictIn K X107 = true)
    (lX107 : K.lookup X107 = some (excClassObj nmX107 qX107 X107 NX107 bsX107 bmX107 true snX107 suX107 abX107 coX107 ddX107 kaX107 kbX107 kcX107 kdX107 keX107 "ValueError.__new__"))
    (vX107 : PySem.HandSPX.refsVE bmX107 = true)
    (saX107 : PySem.W.findIn K (.ref X107) "__setattr__" = some (some (.builtin "object.__setattr__")))
    (aI107 : PySem.W.findIn K (.ref X107) "__init__" = some (some (.ref gI107)))
    (tI107 : PySem.W.typeIn K (.ref gI107) = some (.type "function"))
    (lI107 : K.lookup gI107 = some ⟨ocI107, odI107, .func (PySem.W.fnOf "__init__" "BadSeen.__init__" (defArgs (inClass (tp 13) 0)) (defBody (inClass (tp 13) 0)) (defScope (inClass (tp 13) 0)) .none kVI107 dcI107 pmI107 anI107 cdI107 ctI107), slI107⟩)
    (cI107 : PySem.W.codeIn K cdI107 "BadSeen.__init__" = true)
    (kI107 : PySem.W.keepIn K (.ref gI107) = true)
    (nX107_0 : PySem.W.findIn K (.ref X107) "index" = some none)
    (gX108 : PySem.W.nsIn K mainGlobals "BadRow" = some (some (.ref X108)))
    (kX108 : PySem.W.keepIn K (.ref X108) = true)
    (bX108 : PySem.W.subIn K (.ref X108) (.type "BaseException") = some true)
    (tX108 : PySem.W.typeIn K (.ref X108) = some (.type "type"))
    (iX108 : PySem.W.isClsIn K X108 = true)
    (xX108 : PySem.W.excIn K X108 [.type "ValueError", .type "Exception", .type "BaseException", .type "object"] "ValueError.__new__" = true)
    (gX109 : PySem.W.nsIn K mainGlobals "BadInput" = some (some (.ref X109)))
    (kX109 : PySem.W.keepIn K (.ref X109) = true)
    (bX109 : PySem.W.subIn K (.ref X109) (.type "BaseException") = some true)
    (tX109 : PySem.W.typeIn K (.ref X109) = some (.type "type"))
    (iX109 : PySem.W.isClsIn K X109 = true)
    (xX109 : PySem.W.excIn K X109 [.type "ValueError", .type "Exception", .type "BaseException", .type "object"] "ValueError.__new__" = true)
    (sX101_101 : PySem.W.subIn K (.ref X101) (.ref X101) = some true)
    (sX101_104 : PySem.W.subIn K (.ref X101) (.ref X104) = some false)
    (sX101_102 : PySem.W.subIn K (.ref X101) (.ref X102) = some false)
    (sX101_109 : PySem.W.subIn K (.ref X101) (.ref X109) = some false)
    (sX101_106 : PySem.W.subIn K (.ref X101) (.ref X106) = some false)
    (sX101_105 : PySem.W.subIn K (.ref X101) (.ref X105) = some false)
    (sX101_108 : PySem.W.subIn K (.ref X101) (.ref X108) = some false)
    (sX101_107 : PySem.W.subIn K (.ref X101) (.ref X107) = some false)
    (sX101_103 : PySem.W.subIn K (.ref X101) (.ref X103) = some false)
    (sX101_100 : PySem.W.subIn K (.ref X101) (.ref X100) = some false)
    (sX104_101 : PySem.W.subIn K (.ref X104) (.ref X101) = some false)
    (sX104_104 : PySem.W.subIn K (.ref X104) (.ref X104) = some true)
    (sX104_102 : PySem.W.subIn K (.ref X104) (.ref X102) = some false)
    (sX104_109 : PySem.W.subIn K (.ref X104) (.ref X109) = some false)
    (sX104_106 : PySem.W.subIn K (.ref X104) (.ref X106) = some false)
    (sX104_105 : PySem.W.subIn K (.ref X104) (.ref X105) = some false)
    (sX104_108 : PySem.W.subIn K (.ref X104) (.ref X108) = some false)
    (sX104_107 : PySem.W.subIn K (.ref X104) (.ref X107) = some false)
    (sX104_103 : PySem.W.subIn K (.ref X104) (.ref X103) = some false)
    (sX104_100 : PySem.W.subIn K (.ref X104) (.ref X100) = some false)
    (sX102_101 : PySem.W.subIn K (.ref X102) (.ref X101) = some false)
    (sX102_104 : PySem.W.subIn K (.ref X102) (.ref X104) = some false)
    (sX102_102 : PySem.W.subIn K (.ref X102) (.ref X102) = some true)
    (sX102_109 : PySem.W.subIn K (.ref X102) (.ref X109) = some false)
    (sX102_106 : PySem.W.subIn K (.ref X102) (.ref X106) = some false)
    (sX102_105 : PySem.W.subIn K (.ref X102) (.ref X105) = some false)
    (sX102_108 : PySem.W.subIn K (.ref X102) (.ref X108) = some false)
    (sX102_107 : PySem.W.subIn K (.ref X102) (.ref X107) = some false)
    (sX102_103 : PySem.W.subIn K (.ref X102) (.ref X103) = some false)
    (sX102_100 : PySem.W.subIn K (.ref X102) (.ref X100) = some false)
    (sX109_101 : PySem.W.subIn K (.ref X109) (.ref X101) = some false)
    (sX109_104 : PySem.W.subIn K (.ref X109) (.ref X104) = some false)
    (sX109_102 : PySem.W.subIn K (.ref X109) (.ref X102) = some false)
    (sX109_109 : PySem.W.subIn K (.ref X109) (.ref X109) = some true)
    (sX109_106 : PySem.W.subIn K (.ref X109) (.ref X106) = some false)
    (sX109_105 : PySem.W.subIn K (.ref X109) (.ref X105) = some false)
    (sX109_108 : PySem.W.subIn K (.ref X109) (.ref X108) = some false)
    (sX109_107 : PySem.W.subIn K (.ref X109) (.ref X107) = some false)
    (sX109_103 : PySem.W.subIn K (.ref X109) (.ref X103) = some false)
    (sX109_100 : PySem.W.subIn K (.ref X109) (.ref X100) = some false)
    (sX106_101 : PySem.W.subIn K (.ref X106) (.ref X101) = some false)
    (sX106_104 : PySem.W.subIn K (.ref X106) (.ref X104) = some false)
    (sX106_102 : PySem.W.subIn K (.ref X106) (.ref X102) = some false)
    (sX106_109 : PySem.W.subIn K (.ref X106) (.ref X109) = some false)
    (sX106_106 : PySem.W.subIn K (.ref X106) (.ref X106) = some true)
    (sX106_105 : PySem.W.subIn K (.ref X106) (.ref X105) = some false)
    (sX106_108 : PySem.W.subIn K (.ref X106) (.ref X108) = some false)
    (sX106_107 : PySem.W.subIn K (.ref X106) (.ref X107) = some false)
    (sX106_103 : PySem.W.subIn K (.ref X106) (.ref X103) = some false)
    (sX106_100 : PySem.W.subIn K (.ref X106) (.ref X100) = some false)
    (sX105_101 : PySem.W.subIn K (.ref X105) (.ref X101) = some false)
    (sX105_104 : PySem.W.subIn K (.ref X105) (.ref X104) = some false)
    (sX105_102 : PySem.W.subIn K (.ref X105) (.ref X102) = some false)
    (sX105_109 : PySem.W.subIn K (.ref X105) (.ref X109) = some false)
    (sX105_106 : PySem.W.subIn K (.ref X105) (.ref X106) = some false)
    (sX105_105 : PySem.W.subIn K (.ref X105) (.ref X105) = some true)
    (sX105_108 : PySem.W.subIn K (.ref X105) (.ref X108) = some false)
    (sX105_107 : PySem.W.subIn K (.ref X105) (.ref X107) = some false)
    (sX105_103 : PySem.W.subIn K (.ref X105) (.ref X103) = some false)
    (sX105_100 : PySem.W.subIn K (.ref X105) (.ref X100) = some false)
    (sX108_101 : PySem.W.subIn K (.ref X108) (.ref X101) = some false)
    (sX108_104 : PySem.W.subIn K (.ref X108) (.ref X104) = some false)
    (sX108_102 : PySem.W.subIn K (.ref X108) (.ref X102) = some false)
    (sX108_109 : PySem.W.subIn K (.ref X108) (.ref X109) = some false)
    (sX108_106 : PySem.W.subIn K (.ref X108) (.ref X106) = some false)
    (sX108_105 : PySem.W.subIn K (.ref X108) (.ref X105) = some false)
    (sX108_108 : PySem.W.subIn K (.ref X108) (.ref X108) = some true)
    (sX108_107 : PySem.W.subIn K (.ref X108) (.ref X107) = some false)
    (sX108_103 : PySem.W.subIn K (.ref X108) (.ref X103) = some false)
    (sX108_100 : PySem.W.subIn K (.ref X108) (.ref X100) = some false)
    (sX107_101 : PySem.W.subIn K (.ref X107) (.ref X101) = some false)
    (sX107_104 : PySem.W.subIn K (.ref X107) (.ref X104) = some false)
    (sX107_102 : PySem.W.subIn K (.ref X107) (.ref X102) = some false)
    (sX107_109 : PySem.W.subIn K (.ref X107) (.ref X109) = some false)
    (sX107_106 : PySem.W.subIn K (.ref X107) (.ref X106) = some false)
    (sX107_105 : PySem.W.subIn K (.ref X107) (.ref X105) = some false)
    (sX107_108 : PySem.W.subIn K (.ref X107) (.ref X108) = some false)
    (sX107_107 : PySem.W.subIn K (.ref X107) (.ref X107) = some true)
    (sX107_103 : PySem.W.subIn K (.ref X107) (.ref X103) = some false)
    (sX107_100 : PySem.W.subIn K (.ref X107) (.ref X100) = some false)
    (sX103_101 : PySem.W.subIn K (.ref X103) (.ref X101) = some false)
    (sX103_104 : PySem.W.subIn K (.ref X103) (.ref X104) = some false)
    (sX103_102 : PySem.W.subIn K (.ref X103) (.ref X102) = some false)
    (sX103_109 : PySem.W.subIn K (.ref X103) (.ref X109) = some false)
    (sX103_106 : PySem.W.subIn K (.ref X103) (.ref X106) = some false)
    (sX103_105 : PySem.W.subIn K (.ref X103) (.ref X105) = some false)
    (sX103_108 : PySem.W.subIn K (.ref X103) (.ref X108) = some false)
    (sX103_107 : PySem.W.subIn K (.ref X103) (.ref X107) = some false)
    (sX103_103 : PySem.W.subIn K (.ref X103) (.ref X103) = some true)
    (sX103_100 : PySem.W.subIn K (.ref X103) (.ref X100) = some false)
    (sX100_101 : PySem.W.subIn K (.ref X100) (.ref X101) = some false)
    (sX100_104 : PySem.W.subIn K (.ref X100) (.ref X104) = some false)
    (sX100_102 : PySem.W.subIn K (.ref X100) (.ref X102) = some false)
    (sX100_109 : PySem.W.subIn K (.ref X100) (.ref X109) = some false)
    (sX100_106 : PySem.W.subIn K (.ref X100) (.ref X106) = some false)
    (sX100_105 : PySem.W.subIn K (.ref X100) (.ref X105) = some false)
    (sX100_108 : PySem.W.subIn K (.ref X100) (.ref X108) = some false)
    (sX100_107 : PySem.W.subIn K (.ref X100) (.ref X107) = some false)
    (sX100_103 : PySem.W.subIn K (.ref X100) (.ref X103) = some false)
    (sX100_100 : PySem.W.subIn K (.ref X100) (.ref X100) = some true)
    (aC0 : PySem.W.nsIn K mainGlobals "Gate" = some (some (.ref C0)))
    (pg0 : PySem.W.plainGet K C0 Str.empty = true)
    (hd0 : PySem.W.hasDictIn K C0 = true)
    (po0 : PySem.W.plainOver K C0 = true)
    (sa0 : PySem.W.findIn K (.ref C0) "__setattr__" = some (some (.builtin "object.__setattr__")))
    (mk0 : PySem.W.makesIn K C0 = true)
    (kc0 : PySem.W.keepIn K (.ref C0) = true)
    (ic0 : PySem.W.isClsIn K C0 = true)
    (tc0 : PySem.W.typeIn K (.ref C0) = some (.type "type"))
    (sNoneType0 : PySem.W.subIn K (.type "NoneType") (.ref C0) = some false)
    (sbool0 : PySem.W.subIn K (.type "bool") (.ref C0) = some false)
    (sint0 : PySem.W.subIn K (.type "int") (.ref C0) = some false)
    (sstr0 : PySem.W.subIn K (.type "str") (.ref C0) = some false)
    (stuple0 : PySem.W.subIn K (.type "tuple") (.ref C0) = some false)
    (slist0 : PySem.W.subIn K (.type "list") (.ref C0) = some false)
    (ha0 : PySem.W.findIn K (.ref C0) "__class__" = some (some (.builtin "object.__class__")))
    (hm0 : PySem.W.mroIn K C0 (.type "object") = some true)
    (n0_0 : PySem.W.findIn K (.ref C0) "held" = some none)
    (n0_1 : PySem.W.findIn K (.ref C0) "inputs" = some none)
    (n0_2 : PySem.W.findIn K (.ref C0) "notes" = some none)
    (n0_3 : PySem.W.findIn K (.ref C0) "tables" = some none)
    (aC1 : PySem.W.nsIn K mainGlobals "Panel" = some (some (.ref C1)))
    (pg1 : PySem.W.plainGet K C1 Str.empty = true)
    (hd1 : PySem.W.hasDictIn K C1 = true)
    (po1 : PySem.W.plainOver K C1 = true)
    (sa1 : PySem.W.findIn K (.ref C1) "__setattr__" = some (some (.builtin "object.__setattr__")))
    (mk1 : PySem.W.makesIn K C1 = true)
    (kc1 : PySem.W.keepIn K (.ref C1) = true)
    (ic1 : PySem.W.isClsIn K C1 = true)
    (tc1 : PySem.W.typeIn K (.ref C1) = some (.type "type"))
    (sNoneType1 : PySem.W.subIn K (.type "NoneType") (.ref C1) = some false)
    (sbool1 : PySem.W.subIn K (.type "bool") (.ref C1) = some false)
    (sint1 : PySem.W.subIn K (.type "int") (.ref C1) = some false)
    (sstr1 : PySem.W.subIn K (.type "str") (.ref C1) = some false)
    (stuple1 : PySem.W.subIn K (.type "tuple") (.ref C1) = some false)
    (slist1 : PySem.W.subIn K (.type "list") (.ref C1) = some false)
    (ha1 : PySem.W.findIn K (.ref C1) "__class__" = some (some (.builtin "object.__class__")))
    (hm1 : PySem.W.mroIn K C1 (.type "object") = some true)
    (n1_0 : PySem.W.findIn K (.ref C1) "held" = some none)
    (n1_1 : PySem.W.findIn K (.ref C1) "inputs" = some none)
    (n1_2 : PySem.W.findIn K (.ref C1) "notes" = some none)
    (n1_3 : PySem.W.findIn K (.ref C1) "tables" = some none)
    (hn : PySem.W.specialIn K (.builtin "object.__class__") "__get__" = some (some (.builtin "getset_descriptor.__get__")))
    (ht : PySem.W.takesIn K (.builtin "object.__class__") = some true)
    (a0 : PySem.W.nsIn K mainGlobals "_wall" = some (some (.ref g0)))
    (l0 : K.lookup g0 = some ⟨oc0, od0, .func (PySem.W.fnOf "_wall" "_wall" (defArgs (tp 0)) (defBody (tp 0)) (defScope (tp 0)) .none kV0 dc0 pm0 an0 cd0 ct0), sl0⟩)
    (c0 : PySem.W.codeIn K cd0 "_wall" = true)
    (k0 : PySem.W.keepIn K (.ref g0) = true)
    (a1 : PySem.W.nsIn K mainGlobals "is_integer" = some (some (.ref g1)))
    (l1 : K.lookup g1 = some ⟨oc1, od1, .func (PySem.W.fnOf "is_integer" "is_integer" (defArgs (tp 21)) (defBody (tp 21)) (defScope (tp 21)) .none kV1 dc1 pm1 an1 cd1 ct1), sl1⟩)
    (c1 : PySem.W.codeIn K cd1 "is_integer" = true)
    (k1 : PySem.W.keepIn K (.ref g1) = true)
    (a2 : PySem.W.nsIn K mainGlobals "is_from" = some (some (.ref g2)))
    (l2 : K.lookup g2 = some ⟨oc2, od2, .func (PySem.W.fnOf "is_from" "is_from" (defArgs (tp 22)) (defBody (tp 22)) (defScope (tp 22)) .none kV2 dc2 pm2 an2 cd2 ct2), sl2⟩)
    (c2 : PySem.W.codeIn K cd2 "is_from" = true)
    (k2 : PySem.W.keepIn K (.ref g2) = true)
    (a3 : PySem.W.findIn K (.ref C0) "__init__" = some (some (.ref g3)))
    (i3 : PySem.W.isFn K (.ref g3) = true)
    (l3 : K.lookup g3 = some ⟨oc3, od3, .func (PySem.W.fnOf "__init__" "Gate.__init__" (defArgs (inClass (tp 23) 0)) (defBody (inClass (tp 23) 0)) (defScope (inClass (tp 23) 0)) .none kV3 dc3 pm3 an3 cd3 ct3), sl3⟩)
    (c3 : PySem.W.codeIn K cd3 "Gate.__init__" = true)
    (k3 : PySem.W.keepIn K (.ref g3) = true)
    (a4 : PySem.W.findIn K (.ref C0) "weights" = some (some (.ref p4)))
    (q4 : PySem.W.specialIn K (.ref p4) "__get__" = some (some (.builtin "property.__get__")))
    (t4 : PySem.W.takesIn K (.ref p4) = some true)
    (r4 : PySem.W.recIn K p4 "property" = some (.ref g4 :: rest4))
    (l4 : K.lookup g4 = some ⟨oc4, od4, .func (PySem.W.fnOf "weights" "Gate.weights" (defArgs (inClass (tp 23) 1)) (defBody (inClass (tp 23) 1)) (defScope (inClass (tp 23) 1)) .none kV4 dc4 pm4 an4 cd4 ct4), sl4⟩)
    (c4 : PySem.W.codeIn K cd4 "Gate.weights" = true)
    (k4 : PySem.W.keepIn K (.ref g4) = true)
    (a5 : PySem.W.findIn K (.ref C0) "bar" = some (some (.ref p5)))
    (q5 : PySem.W.specialIn K (.ref p5) "__get__" = some (some (.builtin "property.__get__")))
    (t5 : PySem.W.takesIn K (.ref p5) = some true)
    (r5 : PySem.W.recIn K p5 "property" = some (.ref g5 :: rest5))
    (l5 : K.lookup g5 = some ⟨oc5, od5, .func (PySem.W.fnOf "bar" "Gate.bar" (defArgs (inClass (tp 23) 2)) (defBody (inClass (tp 23) 2)) (defScope (inClass (tp 23) 2)) .none kV5 dc5 pm5 an5 cd5 ct5), sl5⟩)
    (c5 : PySem.W.codeIn K cd5 "Gate.bar" = true)
    (k5 : PySem.W.keepIn K (.ref g5) = true)
    (a6 : PySem.W.findIn K (.ref C0) "__eq__" = some (some (.ref g6)))
    (i6 : PySem.W.isFn K (.ref g6) = true)
    (l6 : K.lookup g6 = some ⟨oc6, od6, .func (PySem.W.fnOf "__eq__" "Gate.__eq__" (defArgs (inClass (tp 23) 3)) (defBody (inClass (tp 23) 3)) (defScope (inClass (tp 23) 3)) .none kV6 dc6 pm6 an6 cd6 ct6), sl6⟩)
    (c6 : PySem.W.codeIn K cd6 "Gate.__eq__" = true)
    (k6 : PySem.W.keepIn K (.ref g6) = true)
    (a7 : PySem.W.nsIn K mainGlobals "check_gate" = some (some (.ref g7)))
    (l7 : K.lookup g7 = some ⟨oc7, od7, .func (PySem.W.fnOf "check_gate" "check_gate" (defArgs (tp 24)) (defBody (tp 24)) (defScope (tp 24)) .none kV7 dc7 pm7 an7 cd7 ct7), sl7⟩)
    (c7 : PySem.W.codeIn K cd7 "check_gate" = true)
    (k7 : PySem.W.keepIn K (.ref g7) = true)
    (a8 : PySem.W.nsIn K mainGlobals "check_table" = some (some (.ref g8)))
    (l8 : K.lookup g8 = some ⟨oc8, od8, .func (PySem.W.fnOf "check_table" "check_table" (defArgs (tp 25)) (defBody (tp 25)) (defScope (tp 25)) .none kV8 dc8 pm8 an8 cd8 ct8), sl8⟩)
    (c8 : PySem.W.codeIn K cd8 "check_table" = true)
    (k8 : PySem.W.keepIn K (.ref g8) = true)
    (a9 : PySem.W.nsIn K mainGlobals "inputs_of" = some (some (.ref g9)))
    (l9 : K.lookup g9 = some ⟨oc9, od9, .func (PySem.W.fnOf "inputs_of" "inputs_of" (defArgs (tp 26)) (defBody (tp 26)) (defScope (tp 26)) .none kV9 dc9 pm9 an9 cd9 ct9), sl9⟩)
    (c9 : PySem.W.codeIn K cd9 "inputs_of" = true)
    (k9 : PySem.W.keepIn K (.ref g9) = true)
    (a10 : PySem.W.nsIn K mainGlobals "is_on" = some (some (.ref g10)))
    (l10 : K.lookup g10 = some ⟨oc10, od10, .func (PySem.W.fnOf "is_on" "is_on" (defArgs (tp 27)) (defBody (tp 27)) (defScope (tp 27)) .none kV10 dc10 pm10 an10 cd10 ct10), sl10⟩)
    (c10 : PySem.W.codeIn K cd10 "is_on" = true)
    (k10 : PySem.W.keepIn K (.ref g10) = true)
    (a11 : PySem.W.nsIn K mainGlobals "sums_of" = some (some (.ref g11)))
    (l11 : K.lookup g11 = some ⟨oc11, od11, .func (PySem.W.fnOf "sums_of" "sums_of" (defArgs (tp 28)) (defBody (tp 28)) (defScope (tp 28)) .none kV11 dc11 pm11 an11 cd11 ct11), sl11⟩)
    (c11 : PySem.W.codeIn K cd11 "sums_of" = true)
    (k11 : PySem.W.keepIn K (.ref g11) = true)
    (a12 : PySem.W.nsIn K mainGlobals "table_by" = some (some (.ref g12)))
    (l12 : K.lookup g12 = some ⟨oc12, od12, .func (PySem.W.fnOf "table_by" "table_by" (defArgs (tp 29)) (defBody (tp 29)) (defScope (tp 29)) .none kV12 dc12 pm12 an12 cd12 ct12), sl12⟩)
    (c12 : PySem.W.codeIn K cd12 "table_by" = true)
    (k12 : PySem.W.keepIn K (.ref g12) = true)
    (a13 : PySem.W.nsIn K mainGlobals "table" = some (some (.ref g13)))
    (l13 : K.lookup g13 = some ⟨oc13, od13, .func (PySem.W.fnOf "table" "table" (defArgs (tp 30)) (defBody (tp 30)) (defScope (tp 30)) .none kV13 dc13 pm13 an13 cd13 ct13), sl13⟩)
    (c13 : PySem.W.codeIn K cd13 "table" = true)
    (k13 : PySem.W.keepIn K (.ref g13) = true)
    (a14 : PySem.W.nsIn K mainGlobals "rows_saying" = some (some (.ref g14)))
    (l14 : K.lookup g14 = some ⟨oc14, od14, .func (PySem.W.fnOf "rows_saying" "rows_saying" (defArgs (tp 31)) (defBody (tp 31)) (defScope (tp 31)) .none kV14 dc14 pm14 an14 cd14 ct14), sl14⟩)
    (c14 : PySem.W.codeIn K cd14 "rows_saying" = true)
    (k14 : PySem.W.keepIn K (.ref g14) = true)
    (a15 : PySem.W.nsIn K mainGlobals "together" = some (some (.ref g15)))
    (l15 : K.lookup g15 = some ⟨oc15, od15, .func (PySem.W.fnOf "together" "together" (defArgs (tp 32)) (defBody (tp 32)) (defScope (tp 32)) .none kV15 dc15 pm15 an15 cd15 ct15), sl15⟩)
    (c15 : PySem.W.codeIn K cd15 "together" = true)
    (k15 : PySem.W.keepIn K (.ref g15) = true)
    (a16 : PySem.W.nsIn K mainGlobals "pairs_of" = some (some (.ref g16)))
    (l16 : K.lookup g16 = some ⟨oc16, od16, .func (PySem.W.fnOf "pairs_of" "pairs_of" (defArgs (tp 33)) (defBody (tp 33)) (defScope (tp 33)) .none kV16 dc16 pm16 an16 cd16 ct16), sl16⟩)
    (c16 : PySem.W.codeIn K cd16 "pairs_of" = true)
    (k16 : PySem.W.keepIn K (.ref g16) = true)
    (a17 : PySem.W.nsIn K mainGlobals "against_by" = some (some (.ref g17)))
    (l17 : K.lookup g17 = some ⟨oc17, od17, .func (PySem.W.fnOf "against_by" "against_by" (defArgs (tp 34)) (defBody (tp 34)) (defScope (tp 34)) .none kV17 dc17 pm17 an17 cd17 ct17), sl17⟩)
    (c17 : PySem.W.codeIn K cd17 "against_by" = true)
    (k17 : PySem.W.keepIn K (.ref g17) = true)
    (a18 : PySem.W.nsIn K mainGlobals "against" = some (some (.ref g18)))
    (l18 : K.lookup g18 = some ⟨oc18, od18, .func (PySem.W.fnOf "against" "against" (defArgs (tp 35)) (defBody (tp 35)) (defScope (tp 35)) .none kV18 dc18 pm18 an18 cd18 ct18), sl18⟩)
    (c18 : PySem.W.codeIn K cd18 "against" = true)
    (k18 : PySem.W.keepIn K (.ref g18) = true)
    (a19 : PySem.W.nsIn K mainGlobals "is_weighed" = some (some (.ref g19)))
    (l19 : K.lookup g19 = some ⟨oc19, od19, .func (PySem.W.fnOf "is_weighed" "is_weighed" (defArgs (tp 36)) (defBody (tp 36)) (defScope (tp 36)) .none kV19 dc19 pm19 an19 cd19 ct19), sl19⟩)
    (c19 : PySem.W.codeIn K cd19 "is_weighed" = true)
    (k19 : PySem.W.keepIn K (.ref g19) = true)
    (a20 : PySem.W.nsIn K mainGlobals "all_weights" = some (some (.ref g20)))
    (l20 : K.lookup g20 = some ⟨oc20, od20, .func (PySem.W.fnOf "all_weights" "all_weights" (defArgs (tp 37)) (defBody (tp 37)) (defScope (tp 37)) .none kV20 dc20 pm20 an20 (.ref T20) ct20), sl20⟩)
    (c20 : PySem.W.codeIn K (.ref T20) "all_weights" = true)
    (k20 : PySem.W.keepIn K (.ref g20) = true)
    (uT20 : K.lookup T20 = some ⟨eT20, dT20, .fields vT20, sT20⟩)
    (wT20 : vT20[11]? = some (.ref P20))
    (hT20 : PySem.W.codeHdIn [(T20, ⟨eT20, dT20, .fields vT20, sT20⟩)] T20 P20 = true)
    (nT20 : K.lookup P20 = none)
    (a21 : PySem.W.nsIn K mainGlobals "nearest_bar" = some (some (.ref g21)))
    (l21 : K.lookup g21 = some ⟨oc21, od21, .func (PySem.W.fnOf "nearest_bar" "nearest_bar" (defArgs (tp 38)) (defBody (tp 38)) (defScope (tp 38)) .none kV21 dc21 pm21 an21 cd21 ct21), sl21⟩)
    (c21 : PySem.W.codeIn K cd21 "nearest_bar" = true)
    (k21 : PySem.W.keepIn K (.ref g21) = true)
    (a22 : PySem.W.nsIn K mainGlobals "least_gate" = some (some (.ref g22)))
    (l22 : K.lookup g22 = some ⟨oc22, od22, .func (PySem.W.fnOf "least_gate" "least_gate" (defArgs (tp 39)) (defBody (tp 39)) (defScope (tp 39)) .none kV22 dc22 pm22 an22 cd22 ct22), sl22⟩)
    (c22 : PySem.W.codeIn K cd22 "least_gate" = true)
    (k22 : PySem.W.keepIn K (.ref g22) = true)
    (a23 : PySem.W.nsIn K mainGlobals "counts_of" = some (some (.ref g23)))
    (l23 : K.lookup g23 = some ⟨oc23, od23, .func (PySem.W.fnOf "counts_of" "counts_of" (defArgs (tp 41)) (defBody (tp 41)) (defScope (tp 41)) .none kV23 dc23 pm23 an23 cd23 ct23), sl23⟩)
    (c23 : PySem.W.codeIn K cd23 "counts_of" = true)
    (k23 : PySem.W.keepIn K (.ref g23) = true)
    (a24 : PySem.W.nsIn K mainGlobals "counts" = some (some (.ref g24)))
    (l24 : K.lookup g24 = some ⟨oc24, od24, .func (PySem.W.fnOf "counts" "counts" (defArgs (tp 42)) (defBody (tp 42)) (defScope (tp 42)) .none kV24 dc24 pm24 an24 cd24 ct24), sl24⟩)
    (c24 : PySem.W.codeIn K cd24 "counts" = true)
    (k24 : PySem.W.keepIn K (.ref g24) = true)
    (a25 : PySem.W.nsIn K mainGlobals "check_counts" = some (some (.ref g25)))
    (l25 : K.lookup g25 = some ⟨oc25, od25, .func (PySem.W.fnOf "check_counts" "check_counts" (defArgs (tp 43)) (defBody (tp 43)) (defScope (tp 43)) .none kV25 dc25 pm25 an25 cd25 ct25), sl25⟩)
    (c25 : PySem.W.codeIn K cd25 "check_counts" = true)
    (k25 : PySem.W.keepIn K (.ref g25) = true)
    (a26 : PySem.W.nsIn K mainGlobals "row_counts" = some (some (.ref g26)))
    (l26 : K.lookup g26 = some ⟨oc26, od26, .func (PySem.W.fnOf "row_counts" "row_counts" (defArgs (tp 44)) (defBody (tp 44)) (defScope (tp 44)) .none kV26 dc26 pm26 an26 cd26 ct26), sl26⟩)
    (c26 : PySem.W.codeIn K cd26 "row_counts" = true)
    (k26 : PySem.W.keepIn K (.ref g26) = true)
    (a27 : PySem.W.nsIn K mainGlobals "plus" = some (some (.ref g27)))
    (l27 : K.lookup g27 = some ⟨oc27, od27, .func (PySem.W.fnOf "plus" "plus" (defArgs (tp 45)) (defBody (tp 45)) (defScope (tp 45)) .none kV27 dc27 pm27 an27 cd27 ct27), sl27⟩)
    (c27 : PySem.W.codeIn K cd27 "plus" = true)
    (k27 : PySem.W.keepIn K (.ref g27) = true)
    (a28 : PySem.W.nsIn K mainGlobals "minus" = some (some (.ref g28)))
    (l28 : K.lookup g28 = some ⟨oc28, od28, .func (PySem.W.fnOf "minus" "minus" (defArgs (tp 46)) (defBody (tp 46)) (defScope (tp 46)) .none kV28 dc28 pm28 an28 cd28 ct28), sl28⟩)
    (c28 : PySem.W.codeIn K cd28 "minus" = true)
    (k28 : PySem.W.keepIn K (.ref g28) = true)
    (a29 : PySem.W.nsIn K mainGlobals "endings" = some (some (.ref g29)))
    (l29 : K.lookup g29 = some ⟨oc29, od29, .func (PySem.W.fnOf "endings" "endings" (defArgs (tp 47)) (defBody (tp 47)) (defScope (tp 47)) .none kV29 dc29 pm29 an29 cd29 ct29), sl29⟩)
    (c29 : PySem.W.codeIn K cd29 "endings" = true)
    (k29 : PySem.W.keepIn K (.ref g29) = true)
    (a30 : PySem.W.nsIn K mainGlobals "many_by" = some (some (.ref g30)))
    (l30 : K.lookup g30 = some ⟨oc30, od30, .func (PySem.W.fnOf "many_by" "many_by" (defArgs (tp 48)) (defBody (tp 48)) (defScope (tp 48)) .none kV30 dc30 pm30 an30 cd30 ct30), sl30⟩)
    (c30 : PySem.W.codeIn K cd30 "many_by" = true)
    (k30 : PySem.W.keepIn K (.ref g30) = true)
    (a31 : PySem.W.nsIn K mainGlobals "many" = some (some (.ref g31)))
    (l31 : K.lookup g31 = some ⟨oc31, od31, .func (PySem.W.fnOf "many" "many" (defArgs (tp 49)) (defBody (tp 49)) (defScope (tp 49)) .none kV31 dc31 pm31 an31 cd31 ct31), sl31⟩)
    (c31 : PySem.W.codeIn K cd31 "many" = true)
    (k31 : PySem.W.keepIn K (.ref g31) = true)
    (a32 : PySem.W.nsIn K mainGlobals "kth_by" = some (some (.ref g32)))
    (l32 : K.lookup g32 = some ⟨oc32, od32, .func (PySem.W.fnOf "kth_by" "kth_by" (defArgs (tp 50)) (defBody (tp 50)) (defScope (tp 50)) .none kV32 dc32 pm32 an32 cd32 ct32), sl32⟩)
    (c32 : PySem.W.codeIn K cd32 "kth_by" = true)
    (k32 : PySem.W.keepIn K (.ref g32) = true)
    (a33 : PySem.W.nsIn K mainGlobals "kth" = some (some (.ref g33)))
    (l33 : K.lookup g33 = some ⟨oc33, od33, .func (PySem.W.fnOf "kth" "kth" (defArgs (tp 51)) (defBody (tp 51)) (defScope (tp 51)) .none kV33 dc33 pm33 an33 cd33 ct33), sl33⟩)
    (c33 : PySem.W.codeIn K cd33 "kth" = true)
    (k33 : PySem.W.keepIn K (.ref g33) = true)
    (a34 : PySem.W.nsIn K mainGlobals "weighed" = some (some (.ref g34)))
    (l34 : K.lookup g34 = some ⟨oc34, od34, .func (PySem.W.fnOf "weighed" "weighed" (defArgs (tp 52)) (defBody (tp 52)) (defScope (tp 52)) .none kV34 dc34 pm34 an34 cd34 ct34), sl34⟩)
    (c34 : PySem.W.codeIn K cd34 "weighed" = true)
    (k34 : PySem.W.keepIn K (.ref g34) = true)
    (a35 : PySem.W.nsIn K mainGlobals "gate_by" = some (some (.ref g35)))
    (l35 : K.lookup g35 = some ⟨oc35, od35, .func (PySem.W.fnOf "gate_by" "gate_by" (defArgs (tp 53)) (defBody (tp 53)) (defScope (tp 53)) .none kV35 dc35 pm35 an35 cd35 ct35), sl35⟩)
    (c35 : PySem.W.codeIn K cd35 "gate_by" = true)
    (k35 : PySem.W.keepIn K (.ref g35) = true)
    (a36 : PySem.W.nsIn K mainGlobals "alike" = some (some (.ref g36)))
    (l36 : K.lookup g36 = some ⟨oc36, od36, .func (PySem.W.fnOf "alike" "alike" (defArgs (tp 54)) (defBody (tp 54)) (defScope (tp 54)) .none kV36 dc36 pm36 an36 cd36 ct36), sl36⟩)
    (c36 : PySem.W.codeIn K cd36 "alike" = true)
    (k36 : PySem.W.keepIn K (.ref g36) = true)
    (a37 : PySem.W.nsIn K mainGlobals "check_inputs" = some (some (.ref g37)))
    (l37 : K.lookup g37 = some ⟨oc37, od37, .func (PySem.W.fnOf "check_inputs" "check_inputs" (defArgs (tp 56)) (defBody (tp 56)) (defScope (tp 56)) .none kV37 dc37 pm37 an37 cd37 ct37), sl37⟩)
    (c37 : PySem.W.codeIn K cd37 "check_inputs" = true)
    (k37 : PySem.W.keepIn K (.ref g37) = true)
    (a38 : PySem.W.nsIn K mainGlobals "gates" = some (some (.ref g38)))
    (l38 : K.lookup g38 = some ⟨oc38, od38, .func (PySem.W.fnOf "gates" "gates" (defArgs (tp 57)) (defBody (tp 57)) (defScope (tp 57)) .none kV38 dc38 pm38 an38 cd38 ct38), sl38⟩)
    (c38 : PySem.W.codeIn K cd38 "gates" = true)
    (k38 : PySem.W.keepIn K (.ref g38) = true)
    (a39 : PySem.W.nsIn K mainGlobals "nth" = some (some (.ref g39)))
    (l39 : K.lookup g39 = some ⟨oc39, od39, .func (PySem.W.fnOf "nth" "nth" (defArgs (tp 58)) (defBody (tp 58)) (defScope (tp 58)) .none kV39 dc39 pm39 an39 cd39 ct39), sl39⟩)
    (c39 : PySem.W.codeIn K cd39 "nth" = true)
    (k39 : PySem.W.keepIn K (.ref g39) = true)
    (a40 : PySem.W.nsIn K mainGlobals "check_weighed" = some (some (.ref g40)))
    (l40 : K.lookup g40 = some ⟨oc40, od40, .func (PySem.W.fnOf "check_weighed" "check_weighed" (defArgs (tp 59)) (defBody (tp 59)) (defScope (tp 59)) .none kV40 dc40 pm40 an40 cd40 ct40), sl40⟩)
    (c40 : PySem.W.codeIn K cd40 "check_weighed" = true)
    (k40 : PySem.W.keepIn K (.ref g40) = true)
    (a41 : PySem.W.nsIn K mainGlobals "place" = some (some (.ref g41)))
    (l41 : K.lookup g41 = some ⟨oc41, od41, .func (PySem.W.fnOf "place" "place" (defArgs (tp 60)) (defBody (tp 60)) (defScope (tp 60)) .none kV41 dc41 pm41 an41 cd41 ct41), sl41⟩)
    (c41 : PySem.W.codeIn K cd41 "place" = true)
    (k41 : PySem.W.keepIn K (.ref g41) = true)
    (a42 : PySem.W.nsIn K mainGlobals "next_counts" = some (some (.ref g42)))
    (l42 : K.lookup g42 = some ⟨oc42, od42, .func (PySem.W.fnOf "next_counts" "next_counts" (defArgs (tp 61)) (defBody (tp 61)) (defScope (tp 61)) .none kV42 dc42 pm42 an42 cd42 ct42), sl42⟩)
    (c42 : PySem.W.codeIn K cd42 "next_counts" = true)
    (k42 : PySem.W.keepIn K (.ref g42) = true)
    (a43 : PySem.W.nsIn K mainGlobals "is_between" = some (some (.ref g43)))
    (l43 : K.lookup g43 = some ⟨oc43, od43, .func (PySem.W.fnOf "is_between" "is_between" (defArgs (tp 62)) (defBody (tp 62)) (defScope (tp 62)) .none kV43 dc43 pm43 an43 cd43 ct43), sl43⟩)
    (c43 : PySem.W.codeIn K cd43 "is_between" = true)
    (k43 : PySem.W.keepIn K (.ref g43) = true)
    (a44 : PySem.W.nsIn K mainGlobals "within" = some (some (.ref g44)))
    (l44 : K.lookup g44 = some ⟨oc44, od44, .func (PySem.W.fnOf "within" "within" (defArgs (tp 63)) (defBody (tp 63)) (defScope (tp 63)) .none kV44 dc44 pm44 an44 cd44 ct44), sl44⟩)
    (c44 : PySem.W.codeIn K cd44 "within" = true)
    (k44 : PySem.W.keepIn K (.ref g44) = true)
    (a45 : PySem.W.nsIn K mainGlobals "is_row" = some (some (.ref g45)))
    (l45 : K.lookup g45 = some ⟨oc45, od45, .func (PySem.W.fnOf "is_row" "is_row" (defArgs (tp 66)) (defBody (tp 66)) (defScope (tp 66)) .none kV45 dc45 pm45 an45 cd45 ct45), sl45⟩)
    (c45 : PySem.W.codeIn K cd45 "is_row" = true)
    (k45 : PySem.W.keepIn K (.ref g45) = true)
    (a46 : PySem.W.nsIn K mainGlobals "check_seen" = some (some (.ref g46)))
    (l46 : K.lookup g46 = some ⟨oc46, od46, .func (PySem.W.fnOf "check_seen" "check_seen" (defArgs (tp 67)) (defBody (tp 67)) (defScope (tp 67)) .none kV46 dc46 pm46 an46 cd46 ct46), sl46⟩)
    (c46 : PySem.W.codeIn K cd46 "check_seen" = true)
    (k46 : PySem.W.keepIn K (.ref g46) = true)
    (a47 : PySem.W.nsIn K mainGlobals "says_so" = some (some (.ref g47)))
    (l47 : K.lookup g47 = some ⟨oc47, od47, .func (PySem.W.fnOf "says_so" "says_so" (defArgs (tp 68)) (defBody (tp 68)) (defScope (tp 68)) .none kV47 dc47 pm47 an47 cd47 ct47), sl47⟩)
    (c47 : PySem.W.codeIn K cd47 "says_so" = true)
    (k47 : PySem.W.keepIn K (.ref g47) = true)
    (a48 : PySem.W.nsIn K mainGlobals "fitting_tables" = some (some (.ref g48)))
    (l48 : K.lookup g48 = some ⟨oc48, od48, .func (PySem.W.fnOf "fitting_tables" "fitting_tables" (defArgs (tp 69)) (defBody (tp 69)) (defScope (tp 69)) .none kV48 dc48 pm48 an48 cd48 ct48), sl48⟩)
    (c48 : PySem.W.codeIn K cd48 "fitting_tables" = true)
    (k48 : PySem.W.keepIn K (.ref g48) = true)
    (a49 : PySem.W.nsIn K mainGlobals "fitting" = some (some (.ref g49)))
    (l49 : K.lookup g49 = some ⟨oc49, od49, .func (PySem.W.fnOf "fitting" "fitting" (defArgs (tp 70)) (defBody (tp 70)) (defScope (tp 70)) .none kV49 dc49 pm49 an49 cd49 ct49), sl49⟩)
    (c49 : PySem.W.codeIn K cd49 "fitting" = true)
    (k49 : PySem.W.keepIn K (.ref g49) = true)
    (a50 : PySem.W.nsIn K mainGlobals "word_by" = some (some (.ref g50)))
    (l50 : K.lookup g50 = some ⟨oc50, od50, .func (PySem.W.fnOf "word_by" "word_by" (defArgs (tp 71)) (defBody (tp 71)) (defScope (tp 71)) .none kV50 dc50 pm50 an50 cd50 ct50), sl50⟩)
    (c50 : PySem.W.codeIn K cd50 "word_by" = true)
    (k50 : PySem.W.keepIn K (.ref g50) = true)
    (a51 : PySem.W.nsIn K mainGlobals "word" = some (some (.ref g51)))
    (l51 : K.lookup g51 = some ⟨oc51, od51, .func (PySem.W.fnOf "word" "word" (defArgs (tp 72)) (defBody (tp 72)) (defScope (tp 72)) .none kV51 dc51 pm51 an51 cd51 ct51), sl51⟩)
    (c51 : PySem.W.codeIn K cd51 "word" = true)
    (k51 : PySem.W.keepIn K (.ref g51) = true)
    (a52 : PySem.W.nsIn K mainGlobals "ask" = some (some (.ref g52)))
    (l52 : K.lookup g52 = some ⟨oc52, od52, .func (PySem.W.fnOf "ask" "ask" (defArgs (tp 73)) (defBody (tp 73)) (defScope (tp 73)) .none kV52 dc52 pm52 an52 cd52 ct52), sl52⟩)
    (c52 : PySem.W.codeIn K cd52 "ask" = true)
    (k52 : PySem.W.keepIn K (.ref g52) = true)
    (a53 : PySem.W.nsIn K mainGlobals "turned" = some (some (.ref g53)))
    (l53 : K.lookup g53 = some ⟨oc53, od53, .func (PySem.W.fnOf "turned" "turned" (defArgs (tp 74)) (defBody (tp 74)) (defScope (tp 74)) .none kV53 dc53 pm53 an53 cd53 ct53), sl53⟩)
    (c53 : PySem.W.codeIn K cd53 "turned" = true)
    (k53 : PySem.W.keepIn K (.ref g53) = true)
    (a54 : PySem.W.nsIn K mainGlobals "telling" = some (some (.ref g54)))
    (l54 : K.lookup g54 = some ⟨oc54, od54, .func (PySem.W.fnOf "telling" "telling" (defArgs (tp 75)) (defBody (tp 75)) (defScope (tp 75)) .none kV54 dc54 pm54 an54 cd54 ct54), sl54⟩)
    (c54 : PySem.W.codeIn K cd54 "telling" = true)
    (k54 : PySem.W.keepIn K (.ref g54) = true)
    (a55 : PySem.W.findIn K (.ref C1) "__init__" = some (some (.ref g55)))
    (i55 : PySem.W.isFn K (.ref g55) = true)
    (l55 : K.lookup g55 = some ⟨oc55, od55, .func (PySem.W.fnOf "__init__" "Panel.__init__" (defArgs (inClass (tp 77) 0)) (defBody (inClass (tp 77) 0)) (defScope (inClass (tp 77) 0)) .none kV55 dc55 pm55 an55 cd55 ct55), sl55⟩)
    (c55 : PySem.W.codeIn K cd55 "Panel.__init__" = true)
    (k55 : PySem.W.keepIn K (.ref g55) = true)
    (a56 : PySem.W.findIn K (.ref C1) "seen" = some (some (.ref p56)))
    (q56 : PySem.W.specialIn K (.ref p56) "__get__" = some (some (.builtin "property.__get__")))
    (t56 : PySem.W.takesIn K (.ref p56) = some true)
    (r56 : PySem.W.recIn K p56 "property" = some (.ref g56 :: rest56))
    (l56 : K.lookup g56 = some ⟨oc56, od56, .func (PySem.W.fnOf "seen" "Panel.seen" (defArgs (inClass (tp 77) 1)) (defBody (inClass (tp 77) 1)) (defScope (inClass (tp 77) 1)) .none kV56 dc56 pm56 an56 cd56 ct56), sl56⟩)
    (c56 : PySem.W.codeIn K cd56 "Panel.seen" = true)
    (k56 : PySem.W.keepIn K (.ref g56) = true)
    (a57 : PySem.W.findIn K (.ref C1) "words" = some (some (.ref p57)))
    (q57 : PySem.W.specialIn K (.ref p57) "__get__" = some (some (.builtin "property.__get__")))
    (t57 : PySem.W.takesIn K (.ref p57) = some true)
    (r57 : PySem.W.recIn K p57 "property" = some (.ref g57 :: rest57))
    (l57 : K.lookup g57 = some ⟨oc57, od57, .func (PySem.W.fnOf "words" "Panel.words" (defArgs (inClass (tp 77) 2)) (defBody (inClass (tp 77) 2)) (defScope (inClass (tp 77) 2)) .none kV57 dc57 pm57 an57 cd57 ct57), sl57⟩)
    (c57 : PySem.W.codeIn K cd57 "Panel.words" = true)
    (k57 : PySem.W.keepIn K (.ref g57) = true)
    (a58 : PySem.W.findIn K (.ref C1) "note" = some (some (.ref g58)))
    (i58 : PySem.W.isFn K (.ref g58) = true)
    (l58 : K.lookup g58 = some ⟨oc58, od58, .func (PySem.W.fnOf "note" "Panel.note" (defArgs (inClass (tp 77) 3)) (defBody (inClass (tp 77) 3)) (defScope (inClass (tp 77) 3)) .none kV58 dc58 pm58 an58 cd58 ct58), sl58⟩)
    (c58 : PySem.W.codeIn K cd58 "Panel.note" = true)
    (k58 : PySem.W.keepIn K (.ref g58) = true)
    (a59 : PySem.W.findIn K (.ref C1) "undo" = some (some (.ref g59)))
    (i59 : PySem.W.isFn K (.ref g59) = true)
    (l59 : K.lookup g59 = some ⟨oc59, od59, .func (PySem.W.fnOf "undo" "Panel.undo" (defArgs (inClass (tp 77) 4)) (defBody (inClass (tp 77) 4)) (defScope (inClass (tp 77) 4)) .none kV59 dc59 pm59 an59 cd59 ct59), sl59⟩)
    (c59 : PySem.W.codeIn K cd59 "Panel.undo" = true)
    (k59 : PySem.W.keepIn K (.ref g59) = true)
    (a60 : PySem.W.findIn K (.ref C1) "copy" = some (some (.ref g60)))
    (i60 : PySem.W.isFn K (.ref g60) = true)
    (l60 : K.lookup g60 = some ⟨oc60, od60, .func (PySem.W.fnOf "copy" "Panel.copy" (defArgs (inClass (tp 77) 5)) (defBody (inClass (tp 77) 5)) (defScope (inClass (tp 77) 5)) .none kV60 dc60 pm60 an60 cd60 ct60), sl60⟩)
    (c60 : PySem.W.codeIn K cd60 "Panel.copy" = true)
    (k60 : PySem.W.keepIn K (.ref g60) = true)
    (a61 : PySem.W.findIn K (.ref C1) "__len__" = some (some (.ref g61)))
    (i61 : PySem.W.isFn K (.ref g61) = true)
    (l61 : K.lookup g61 = some ⟨oc61, od61, .func (PySem.W.fnOf "__len__" "Panel.__len__" (defArgs (inClass (tp 77) 6)) (defBody (inClass (tp 77) 6)) (defScope (inClass (tp 77) 6)) .none kV61 dc61 pm61 an61 cd61 ct61), sl61⟩)
    (c61 : PySem.W.codeIn K cd61 "Panel.__len__" = true)
    (k61 : PySem.W.keepIn K (.ref g61) = true)
    (a62 : PySem.W.nsIn K mainGlobals "power" = some (some (.ref g62)))
    (l62 : K.lookup g62 = some ⟨oc62, od62, .func (PySem.W.fnOf "power" "power" (defArgs (tp 79)) (defBody (tp 79)) (defScope (tp 79)) .none kV62 dc62 pm62 an62 cd62 ct62), sl62⟩)
    (c62 : PySem.W.codeIn K cd62 "power" = true)
    (k62 : PySem.W.keepIn K (.ref g62) = true)
    (a63 : PySem.W.nsIn K mainGlobals "powers" = some (some (.ref g63)))
    (l63 : K.lookup g63 = some ⟨oc63, od63, .func (PySem.W.fnOf "powers" "powers" (defArgs (tp 80)) (defBody (tp 80)) (defScope (tp 80)) .none kV63 dc63 pm63 an63 cd63 ct63), sl63⟩)
    (c63 : PySem.W.codeIn K cd63 "powers" = true)
    (k63 : PySem.W.keepIn K (.ref g63) = true)
    (a64 : PySem.W.nsIn K mainGlobals "order" = some (some (.ref g64)))
    (l64 : K.lookup g64 = some ⟨oc64, od64, .func (PySem.W.fnOf "order" "order" (defArgs (tp 81)) (defBody (tp 81)) (defScope (tp 81)) .none kV64 dc64 pm64 an64 cd64 ct64), sl64⟩)
    (c64 : PySem.W.codeIn K cd64 "order" = true)
    (k64 : PySem.W.keepIn K (.ref g64) = true)
    (a65 : PySem.W.nsIn K mainGlobals "check_tables" = some (some (.ref g65)))
    (l65 : K.lookup g65 = some ⟨oc65, od65, .func (PySem.W.fnOf "check_tables" "check_tables" (defArgs (tp 82)) (defBody (tp 82)) (defScope (tp 82)) .none kV65 dc65 pm65 an65 cd65 ct65), sl65⟩)
    (c65 : PySem.W.codeIn K cd65 "check_tables" = true)
    (k65 : PySem.W.keepIn K (.ref g65) = true)
    (a66 : PySem.W.nsIn K mainGlobals "both" = some (some (.ref g66)))
    (l66 : K.lookup g66 = some ⟨oc66, od66, .func (PySem.W.fnOf "both" "both" (defArgs (tp 83)) (defBody (tp 83)) (defScope (tp 83)) .none kV66 dc66 pm66 an66 cd66 ct66), sl66⟩)
    (c66 : PySem.W.codeIn K cd66 "both" = true)
    (k66 : PySem.W.keepIn K (.ref g66) = true)
    (a67 : PySem.W.nsIn K mainGlobals "either" = some (some (.ref g67)))
    (l67 : K.lookup g67 = some ⟨oc67, od67, .func (PySem.W.fnOf "either" "either" (defArgs (tp 84)) (defBody (tp 84)) (defScope (tp 84)) .none kV67 dc67 pm67 an67 cd67 ct67), sl67⟩)
    (c67 : PySem.W.codeIn K cd67 "either" = true)
    (k67 : PySem.W.keepIn K (.ref g67) = true)
    (a68 : PySem.W.nsIn K mainGlobals "contrary" = some (some (.ref g68)))
    (l68 : K.lookup g68 = some ⟨oc68, od68, .func (PySem.W.fnOf "contrary" "contrary" (defArgs (tp 85)) (defBody (tp 85)) (defScope (tp 85)) .none kV68 dc68 pm68 an68 cd68 ct68), sl68⟩)
    (c68 : PySem.W.codeIn K cd68 "contrary" = true)
    (k68 : PySem.W.keepIn K (.ref g68) = true)
    (a69 : PySem.W.nsIn K mainGlobals "fed" = some (some (.ref g69)))
    (l69 : K.lookup g69 = some ⟨oc69, od69, .func (PySem.W.fnOf "fed" "fed" (defArgs (tp 86)) (defBody (tp 86)) (defScope (tp 86)) .none kV69 dc69 pm69 an69 cd69 ct69), sl69⟩)
    (c69 : PySem.W.codeIn K cd69 "fed" = true)
    (k69 : PySem.W.keepIn K (.ref g69) = true)
    (a70 : PySem.W.nsIn K mainGlobals "is_within" = some (some (.ref g70)))
    (l70 : K.lookup g70 = some ⟨oc70, od70, .func (PySem.W.fnOf "is_within" "is_within" (defArgs (tp 87)) (defBody (tp 87)) (defScope (tp 87)) .none kV70 dc70 pm70 an70 cd70 ct70), sl70⟩)
    (c70 : PySem.W.codeIn K cd70 "is_within" = true)
    (k70 : PySem.W.keepIn K (.ref g70) = true)
    (a71 : PySem.W.nsIn K mainGlobals "between" = some (some (.ref g71)))
    (l71 : K.lookup g71 = some ⟨oc71, od71, .func (PySem.W.fnOf "between" "between" (defArgs (tp 88)) (defBody (tp 88)) (defScope (tp 88)) .none kV71 dc71 pm71 an71 cd71 ct71), sl71⟩)
    (c71 : PySem.W.codeIn K cd71 "between" = true)
    (k71 : PySem.W.keepIn K (.ref g71) = true)
    (a72 : PySem.W.nsIn K mainGlobals "write_gate" = some (some (.ref g72)))
    (l72 : K.lookup g72 = some ⟨oc72, od72, .func (PySem.W.fnOf "write_gate" "write_gate" (defArgs (tp 90)) (defBody (tp 90)) (defScope (tp 90)) .none kV72 dc72 pm72 an72 cd72 ct72), sl72⟩)
    (c72 : PySem.W.codeIn K cd72 "write_gate" = true)
    (k72 : PySem.W.keepIn K (.ref g72) = true)
    (a73 : PySem.W.nsIn K mainGlobals "_law_mix" = some (some (.ref g73)))
    (l73 : K.lookup g73 = some ⟨oc73, od73, .func (PySem.W.fnOf "_law_mix" "_law_mix" (defArgs (tp 92)) (defBody (tp 92)) (defScope (tp 92)) .none kV73 dc73 pm73 an73 cd73 ct73), sl73⟩)
    (c73 : PySem.W.codeIn K cd73 "_law_mix" = true)
    (k73 : PySem.W.keepIn K (.ref g73) = true)
    (a74 : PySem.W.nsIn K mainGlobals "_law_next" = some (some (.ref g74)))
    (l74 : K.lookup g74 = some ⟨oc74, od74, .func (PySem.W.fnOf "_law_next" "_law_next" (defArgs (tp 93)) (defBody (tp 93)) (defScope (tp 93)) .none kV74 dc74 pm74 an74 cd74 ct74), sl74⟩)
    (c74 : PySem.W.codeIn K cd74 "_law_next" = true)
    (k74 : PySem.W.keepIn K (.ref g74) = true)
    (a75 : PySem.W.nsIn K mainGlobals "_law_first" = some (some (.ref g75)))
    (l75 : K.lookup g75 = some ⟨oc75, od75, .func (PySem.W.fnOf "_law_first" "_law_first" (defArgs (tp 94)) (defBody (tp 94)) (defScope (tp 94)) .none kV75 dc75 pm75 an75 cd75 ct75), sl75⟩)
    (c75 : PySem.W.codeIn K cd75 "_law_first" = true)
    (k75 : PySem.W.keepIn K (.ref g75) = true)
    (a76 : PySem.W.nsIn K mainGlobals "_law_ask" = some (some (.ref g76)))
    (l76 : K.lookup g76 = some ⟨oc76, od76, .func (PySem.W.fnOf "_law_ask" "_law_ask" (defArgs (tp 95)) (defBody (tp 95)) (defScope (tp 95)) .none kV76 dc76 pm76 an76 cd76 ct76), sl76⟩)
    (c76 : PySem.W.codeIn K cd76 "_law_ask" = true)
    (k76 : PySem.W.keepIn K (.ref g76) = true)
    (a77 : PySem.W.nsIn K mainGlobals "_law_told" = some (some (.ref g77)))
    (l77 : K.lookup g77 = some ⟨oc77, od77, .func (PySem.W.fnOf "_law_told" "_law_told" (defArgs (tp 96)) (defBody (tp 96)) (defScope (tp 96)) .none kV77 dc77 pm77 an77 cd77 ct77), sl77⟩)
    (c77 : PySem.W.codeIn K cd77 "_law_told" = true)
    (k77 : PySem.W.keepIn K (.ref g77) = true)
    (a78 : PySem.W.nsIn K mainGlobals "_law_good_one" = some (some (.ref g78)))
    (l78 : K.lookup g78 = some ⟨oc78, od78, .func (PySem.W.fnOf "_law_good_one" "_law_good_one" (defArgs (tp 97)) (defBody (tp 97)) (defScope (tp 97)) .none kV78 dc78 pm78 an78 cd78 ct78), sl78⟩)
    (c78 : PySem.W.codeIn K cd78 "_law_good_one" = true)
    (k78 : PySem.W.keepIn K (.ref g78) = true)
    (a79 : PySem.W.nsIn K mainGlobals "_law_bad_one" = some (some (.ref g79)))
    (l79 : K.lookup g79 = some ⟨oc79, od79, .func (PySem.W.fnOf "_law_bad_one" "_law_bad_one" (defArgs (tp 98)) (defBody (tp 98)) (defScope (tp 98)) .none kV79 dc79 pm79 an79 cd79 ct79), sl79⟩)
    (c79 : PySem.W.codeIn K cd79 "_law_bad_one" = true)
    (k79 : PySem.W.keepIn K (.ref g79) = true)
    (a80 : PySem.W.nsIn K mainGlobals "law" = some (some (.ref g80)))
    (l80 : K.lookup g80 = some ⟨oc80, od80, .func (PySem.W.fnOf "law" "law" (defArgs (tp 99)) (defBody (tp 99)) (defScope (tp 99)) .none kV80 dc80 pm80 an80 cd80 ct80), sl80⟩)
    (c80 : PySem.W.codeIn K cd80 "law" = true)
    (k80 : PySem.W.keepIn K (.ref g80) = true)
    (m0 : PySem.W.nsIn K mainGlobals "MOST_INPUTS" = some (some (.int 4 tk0)))
    (m1 : PySem.W.nsIn K mainGlobals "MOST_WEIGHT" = some (some (.int 50 tk1)))
    (m2 : PySem.W.nsIn K mainGlobals "MOST_BAR" = some (some (.int 200 tk2)))
    (m3 : PySem.W.nsIn K mainGlobals "LEAST_GATES" = some (some (.int 3 tk3)))
    (m4 : PySem.W.nsIn K mainGlobals "MOST_SEEN" = some (some (.int 16 tk4)))
    (z0 : PySem.W.nsIn K mainGlobals "abs" = some none)
    (z1 : PySem.W.nsIn K mainGlobals "bool" = some none)
    (z2 : PySem.W.nsIn K mainGlobals "dict" = some none)
    (z3 : PySem.W.nsIn K mainGlobals "enumerate" = some none)
    (z4 : PySem.W.nsIn K mainGlobals "int" = some none)
    (z5 : PySem.W.nsIn K mainGlobals "isinstance" = some none)
    (z6 : PySem.W.nsIn K mainGlobals "len" = some none)
    (z7 : PySem.W.nsIn K mainGlobals "list" = some none)
    (z8 : PySem.W.nsIn K mainGlobals "max" = some none)
    (z9 : PySem.W.nsIn K mainGlobals "min" = some none)
    (z10 : PySem.W.nsIn K mainGlobals "range" = some none)
    (z11 : PySem.W.nsIn K mainGlobals "reversed" = some none)
    (z12 : PySem.W.nsIn K mainGlobals "set" = some none)
    (z13 : PySem.W.nsIn K mainGlobals "sorted" = some none)
    (z14 : PySem.W.nsIn K mainGlobals "str" = some none)
    (z15 : PySem.W.nsIn K mainGlobals "sum" = some none)
    (z16 : PySem.W.nsIn K mainGlobals "tuple" = some none)
    (z17 : PySem.W.nsIn K mainGlobals "zip" = some none)
    (own : ∀ y ∈ (["all_weights"] : List Str), ∀ f, mg y = some (.ref f) → LamX.OwnTab K f h)
    : LamX.LawAtS PySem.Challenge.rw_oncounts_k15_questions_refused w K (L2.CX PySem.Challenge.pw_oncounts_k15_questions_refused w) (2 * (dep + 1) + 2) 63 "_law_script" mg fa h := by
  have e := hfa.symm.trans (PySem.W.mg_of X G a80)
  cases e
  let W : Wd := ⟨fun f => ([g0, g1, g2, g3, g4, g5, g6, g7, g8, g9, g10, g11, g12, g13, g14, g15, g16, g17, g18, g19, g20, g21, g22, g23, g24, g25, g26, g27, g28, g29, g30, g31, g32, g33, g34, g35, g36, g37, g38, g39, g40, g41, g42, g43, g44, g45, g46, g47, g48, g49, g50, g51, g52, g53, g54, g55, g56, g57, g58, g59, g60, g61, g62, g63, g64, g65, g66, g67, g68, g69, g70, g71, g72, g73, g74, g75, g76, g77, g78, g79, fa] : List Addr).getD f 0, fun c => if c < 100 then ([C0, C1] : List Addr).getD c 0 else ([X100, X101, X102, X103, X104, X105, X106, X107, X108, X109] : List Addr).getD (c - 100) 0, TT.exn, fun c => decide (c < 2), fun a ns => SqK K a (ns.map V.int), ([(T20, P20, ((("all_weights" : Str) ++ ".<locals>.") ++ "<lambda>"))] : List (Addr × Addr × Str))⟩
  have lm20 : ∀ fd : FuncData, fd.code = .ref T20 → LamD W TT d_all_weights "all_weights" fd := fun fd e _ => ⟨T20, P20, e, (by show _ ∈ ([(T20, P20, ((("all_weights" : Str) ++ ".<locals>.") ++ "<lambda>"))] : List (Addr × Addr × Str)); simp), fun p hp e2 => by
      have hq : p ∈ ([(T20, P20, ((("all_weights" : Str) ++ ".<locals>.") ++ "<lambda>"))] : List (Addr × Addr × Str)) := hp
      simp only [List.mem_cons, List.not_mem_nil, or_false] at hq
      rcases hq with rfl
      · rfl⟩
  have F0 := fun_mk (st := tp 0) l0 c0 k0
  have b0 := F0.binds (ps := ["k"]) fun _ _ _ _ _ _ us hl => match us, hl with | [_], _ => rfl
  have F1 := fun_mk (st := tp 21) l1 c1 k1
  have b1 := F1.binds (ps := ["value"]) fun _ _ _ _ _ _ us hl => match us, hl with | [_], _ => rfl
  have F2 := fun_mk (st := tp 22) l2 c2 k2
  have b2 := F2.binds (ps := ["value", "low", "high"]) fun _ _ _ _ _ _ us hl => match us, hl with | [_, _, _], _ => rfl
  have F3 := fun_mk (st := inClass (tp 23) 0) l3 c3 k3
  have b3 := F3.binds (ps := ["self", "weights", "bar"]) fun _ _ _ _ _ _ us hl => match us, hl with | [_, _, _], _ => rfl
  have F4 := fun_mk (st := inClass (tp 23) 1) l4 c4 k4
  have b4 := F4.binds (ps := ["self"]) fun _ _ _ _ _ _ us hl => match us, hl with | [_], _ => rfl
  have F5 := fun_mk (st := inClass (tp 23) 2) l5 c5 k5
  have b5 := F5.binds (ps := ["self"]) fun _ _ _ _ _ _ us hl => match us, hl with | [_], _ => rfl
  have F6 := fun_mk (st := inClass (tp 23) 3) l6 c6 k6
  have b6 := F6.binds (ps := ["self", "other"]) fun _ _ _ _ _ _ us hl => match us, hl with | [_, _], _ => rfl
  have F7 := fun_mk (st := tp 24) l7 c7 k7
  have b7 := F7.binds (ps := ["value"]) fun _ _ _ _ _ _ us hl => match us, hl with | [_], _ => rfl
  have F8 := fun_mk (st := tp 25) l8 c8 k8
  have b8 := F8.binds (ps := ["value"]) fun _ _ _ _ _ _ us hl => match us, hl with | [_], _ => rfl
  have F9 := fun_mk (st := tp 26) l9 c9 k9
  have b9 := F9.binds (ps := ["table"]) fun _ _ _ _ _ _ us hl => match us, hl with | [_], _ => rfl
  have F10 := fun_mk (st := tp 27) l10 c10 k10
  have b10 := F10.binds (ps := ["row", "i"]) fun _ _ _ _ _ _ us hl => match us, hl with | [_, _], _ => rfl
  have F11 := fun_mk (st := tp 28) l11 c11 k11
  have b11 := F11.binds (ps := ["weights"]) fun _ _ _ _ _ _ us hl => match us, hl with | [_], _ => rfl
  have F12 := fun_mk (st := tp 29) l12 c12 k12
  have b12 := F12.binds (ps := ["sums", "bar"]) fun _ _ _ _ _ _ us hl => match us, hl with | [_, _], _ => rfl
  have F13 := fun_mk (st := tp 30) l13 c13 k13
  have b13 := F13.binds (ps := ["gate"]) fun _ _ _ _ _ _ us hl => match us, hl with | [_], _ => rfl
  have F14 := fun_mk (st := tp 31) l14 c14 k14
  have b14 := F14.binds (ps := ["table", "sign"]) fun _ _ _ _ _ _ us hl => match us, hl with | [_, _], _ => rfl
  have F15 := fun_mk (st := tp 32) l15 c15 k15
  have b15 := F15.binds (ps := ["one", "other", "inputs"]) fun _ _ _ _ _ _ us hl => match us, hl with | [_, _, _], _ => rfl
  have F16 := fun_mk (st := tp 33) l16 c16 k16
  have b16 := F16.binds (ps := ["rows", "inputs"]) fun _ _ _ _ _ _ us hl => match us, hl with | [_, _], _ => rfl
  have F17 := fun_mk (st := tp 34) l17 c17 k17
  have b17 := F17.binds (ps := ["table"]) fun _ _ _ _ _ _ us hl => match us, hl with | [_], _ => rfl
  have F18 := fun_mk (st := tp 35) l18 c18 k18
  have b18 := F18.binds (ps := ["table"]) fun _ _ _ _ _ _ us hl => match us, hl with | [_], _ => rfl
  have F19 := fun_mk (st := tp 36) l19 c19 k19
  have b19 := F19.binds (ps := ["table"]) fun _ _ _ _ _ _ us hl => match us, hl with | [_], _ => rfl
  have F20 := fun_mk (st := tp 37) l20 c20 k20
  have b20 := F20.binds (ps := ["inputs"]) fun _ _ _ _ _ _ us hl => match us, hl with | [_], _ => rfl
  have F21 := fun_mk (st := tp 38) l21 c21 k21
  have b21 := F21.binds (ps := ["sums", "table"]) fun _ _ _ _ _ _ us hl => match us, hl with | [_, _], _ => rfl
  have F22 := fun_mk (st := tp 39) l22 c22 k22
  have b22 := F22.binds (ps := ["table"]) fun _ _ _ _ _ _ us hl => match us, hl with | [_], _ => rfl
  have F23 := fun_mk (st := tp 41) l23 c23 k23
  have b23 := F23.binds (ps := ["table"]) fun _ _ _ _ _ _ us hl => match us, hl with | [_], _ => rfl
  have F24 := fun_mk (st := tp 42) l24 c24 k24
  have b24 := F24.binds (ps := ["table"]) fun _ _ _ _ _ _ us hl => match us, hl with | [_], _ => rfl
  have F25 := fun_mk (st := tp 43) l25 c25 k25
  have b25 := F25.binds (ps := ["value"]) fun _ _ _ _ _ _ us hl => match us, hl with | [_], _ => rfl
  have F26 := fun_mk (st := tp 44) l26 c26 k26
  have b26 := F26.binds (ps := ["row", "inputs"]) fun _ _ _ _ _ _ us hl => match us, hl with | [_, _], _ => rfl
  have F27 := fun_mk (st := tp 45) l27 c27 k27
  have b27 := F27.binds (ps := ["one", "other"]) fun _ _ _ _ _ _ us hl => match us, hl with | [_, _], _ => rfl
  have F28 := fun_mk (st := tp 46) l28 c28 k28
  have b28 := F28.binds (ps := ["one", "other"]) fun _ _ _ _ _ _ us hl => match us, hl with | [_, _], _ => rfl
  have F29 := fun_mk (st := tp 47) l29 c29 k29
  have b29 := F29.binds (ps := ["inputs"]) fun _ _ _ _ _ _ us hl => match us, hl with | [_], _ => rfl
  have F30 := fun_mk (st := tp 48) l30 c30 k30
  have b30 := F30.binds (ps := ["ways", "counts"]) fun _ _ _ _ _ _ us hl => match us, hl with | [_, _], _ => rfl
  have F31 := fun_mk (st := tp 49) l31 c31 k31
  have b31 := F31.binds (ps := ["counts"]) fun _ _ _ _ _ _ us hl => match us, hl with | [_], _ => rfl
  have F32 := fun_mk (st := tp 50) l32 c32 k32
  have b32 := F32.binds (ps := ["ways", "counts", "k"]) fun _ _ _ _ _ _ us hl => match us, hl with | [_, _, _], _ => rfl
  have F33 := fun_mk (st := tp 51) l33 c33 k33
  have b33 := F33.binds (ps := ["counts", "k"]) fun _ _ _ _ _ _ us hl => match us, hl with | [_, _], _ => rfl
  have F34 := fun_mk (st := tp 52) l34 c34 k34
  have b34 := F34.binds (ps := ["inputs"]) fun _ _ _ _ _ _ us hl => match us, hl with | [_], _ => rfl
  have F35 := fun_mk (st := tp 53) l35 c35 k35
  have b35 := F35.binds (ps := ["counts"]) fun _ _ _ _ _ _ us hl => match us, hl with | [_], _ => rfl
  have F36 := fun_mk (st := tp 54) l36 c36 k36
  have b36 := F36.binds (ps := ["table"]) fun _ _ _ _ _ _ us hl => match us, hl with | [_], _ => rfl
  have F37 := fun_mk (st := tp 56) l37 c37 k37
  have b37 := F37.binds (ps := ["value"]) fun _ _ _ _ _ _ us hl => match us, hl with | [_], _ => rfl
  have F38 := fun_mk (st := tp 57) l38 c38 k38
  have b38 := F38.binds (ps := ["n"]) fun _ _ _ _ _ _ us hl => match us, hl with | [_], _ => rfl
  have F39 := fun_mk (st := tp 58) l39 c39 k39
  have b39 := F39.binds (ps := ["n", "k"]) fun _ _ _ _ _ _ us hl => match us, hl with | [_, _], _ => rfl
  have F40 := fun_mk (st := tp 59) l40 c40 k40
  have b40 := F40.binds (ps := ["table"]) fun _ _ _ _ _ _ us hl => match us, hl with | [_], _ => rfl
  have F41 := fun_mk (st := tp 60) l41 c41 k41
  have b41 := F41.binds (ps := ["table"]) fun _ _ _ _ _ _ us hl => match us, hl with | [_], _ => rfl
  have F42 := fun_mk (st := tp 61) l42 c42 k42
  have b42 := F42.binds (ps := ["counts"]) fun _ _ _ _ _ _ us hl => match us, hl with | [_], _ => rfl
  have F43 := fun_mk (st := tp 62) l43 c43 k43
  have b43 := F43.binds (ps := ["low", "one", "high"]) fun _ _ _ _ _ _ us hl => match us, hl with | [_, _, _], _ => rfl
  have F44 := fun_mk (st := tp 63) l44 c44 k44
  have b44 := F44.binds (ps := ["low", "high"]) fun _ _ _ _ _ _ us hl => match us, hl with | [_, _], _ => rfl
  have F45 := fun_mk (st := tp 66) l45 c45 k45
  have b45 := F45.binds (ps := ["value", "n"]) fun _ _ _ _ _ _ us hl => match us, hl with | [_, _], _ => rfl
  have F46 := fun_mk (st := tp 67) l46 c46 k46
  have b46 := F46.binds (ps := ["n", "value"]) fun _ _ _ _ _ _ us hl => match us, hl with | [_, _], _ => rfl
  have F47 := fun_mk (st := tp 68) l47 c47 k47
  have b47 := F47.binds (ps := ["table", "seen"]) fun _ _ _ _ _ _ us hl => match us, hl with | [_, _], _ => rfl
  have F48 := fun_mk (st := tp 69) l48 c48 k48
  have b48 := F48.binds (ps := ["n", "seen"]) fun _ _ _ _ _ _ us hl => match us, hl with | [_, _], _ => rfl
  have F49 := fun_mk (st := tp 70) l49 c49 k49
  have b49 := F49.binds (ps := ["n", "seen"]) fun _ _ _ _ _ _ us hl => match us, hl with | [_, _], _ => rfl
  have F50 := fun_mk (st := tp 71) l50 c50 k50
  have b50 := F50.binds (ps := ["tables", "row"]) fun _ _ _ _ _ _ us hl => match us, hl with | [_, _], _ => rfl
  have F51 := fun_mk (st := tp 72) l51 c51 k51
  have b51 := F51.binds (ps := ["n", "seen", "row"]) fun _ _ _ _ _ _ us hl => match us, hl with | [_, _, _], _ => rfl
  have F52 := fun_mk (st := tp 73) l52 c52 k52
  have b52 := F52.binds (ps := ["n", "seen"]) fun _ _ _ _ _ _ us hl => match us, hl with | [_, _], _ => rfl
  have F53 := fun_mk (st := tp 74) l53 c53 k53
  have b53 := F53.binds (ps := ["table", "row"]) fun _ _ _ _ _ _ us hl => match us, hl with | [_, _], _ => rfl
  have F54 := fun_mk (st := tp 75) l54 c54 k54
  have b54 := F54.binds (ps := ["table"]) fun _ _ _ _ _ _ us hl => match us, hl with | [_], _ => rfl
  have F55 := fun_mk (st := inClass (tp 77) 0) l55 c55 k55
  have b55 := F55.binds (ps := ["self", "n"]) fun _ _ _ _ _ _ us hl => match us, hl with | [_, _], _ => rfl
  have F56 := fun_mk (st := inClass (tp 77) 1) l56 c56 k56
  have b56 := F56.binds (ps := ["self"]) fun _ _ _ _ _ _ us hl => match us, hl with | [_], _ => rfl
  have F57 := fun_mk (st := inClass (tp 77) 2) l57 c57 k57
  have b57 := F57.binds (ps := ["self"]) fun _ _ _ _ _ _ us hl => match us, hl with | [_], _ => rfl
  have F58 := fun_mk (st := inClass (tp 77) 3) l58 c58 k58
  have b58 := F58.binds (ps := ["self", "row", "yes"]) fun _ _ _ _ _ _ us hl => match us, hl with | [_, _, _], _ => rfl
  have F59 := fun_mk (st := inClass (tp 77) 4) l59 c59 k59
  have b59 := F59.binds (ps := ["self"]) fun _ _ _ _ _ _ us hl => match us, hl with | [_], _ => rfl
  have F60 := fun_mk (st := inClass (tp 77) 5) l60 c60 k60
  have b60 := F60.binds (ps := ["self"]) fun _ _ _ _ _ _ us hl => match us, hl with | [_], _ => rfl
  have F61 := fun_mk (st := inClass (tp 77) 6) l61 c61 k61
  have b61 := F61.binds (ps := ["self"]) fun _ _ _ _ _ _ us hl => match us, hl with | [_], _ => rfl
  have F62 := fun_mk (st := tp 79) l62 c62 k62
  have b62 := F62.binds (ps := ["table", "i"]) fun _ _ _ _ _ _ us hl => match us, hl with | [_, _], _ => rfl
  have F63 := fun_mk (st := tp 80) l63 c63 k63
  have b63 := F63.binds (ps := ["table"]) fun _ _ _ _ _ _ us hl => match us, hl with | [_], _ => rfl
  have F64 := fun_mk (st := tp 81) l64 c64 k64
  have b64 := F64.binds (ps := ["table"]) fun _ _ _ _ _ _ us hl => match us, hl with | [_], _ => rfl
  have F65 := fun_mk (st := tp 82) l65 c65 k65
  have b65 := F65.binds (ps := ["one", "other"]) fun _ _ _ _ _ _ us hl => match us, hl with | [_, _], _ => rfl
  have F66 := fun_mk (st := tp 83) l66 c66 k66
  have b66 := F66.binds (ps := ["one", "other"]) fun _ _ _ _ _ _ us hl => match us, hl with | [_, _], _ => rfl
  have F67 := fun_mk (st := tp 84) l67 c67 k67
  have b67 := F67.binds (ps := ["one", "other"]) fun _ _ _ _ _ _ us hl => match us, hl with | [_, _], _ => rfl
  have F68 := fun_mk (st := tp 85) l68 c68 k68
  have b68 := F68.binds (ps := ["table"]) fun _ _ _ _ _ _ us hl => match us, hl with | [_], _ => rfl
  have F69 := fun_mk (st := tp 86) l69 c69 k69
  have b69 := F69.binds (ps := ["outer", "inner", "i"]) fun _ _ _ _ _ _ us hl => match us, hl with | [_, _, _], _ => rfl
  have F70 := fun_mk (st := tp 87) l70 c70 k70
  have b70 := F70.binds (ps := ["one", "other"]) fun _ _ _ _ _ _ us hl => match us, hl with | [_, _], _ => rfl
  have F71 := fun_mk (st := tp 88) l71 c71 k71
  have b71 := F71.binds (ps := ["one", "other"]) fun _ _ _ _ _ _ us hl => match us, hl with | [_, _], _ => rfl
  have F72 := fun_mk (st := tp 90) l72 c72 k72
  have b72 := F72.binds (ps := ["gate"]) fun _ _ _ _ _ _ us hl => match us, hl with | [_], _ => rfl
  have F73 := fun_mk (st := tp 92) l73 c73 k73
  have b73 := F73.binds (ps := ["_law_script", "_law_seed"]) fun _ _ _ _ _ _ us hl => match us, hl with | [_, _], _ => rfl
  have F74 := fun_mk (st := tp 93) l74 c74 k74
  have b74 := F74.binds (ps := ["_law_h", "_law_bound"]) fun _ _ _ _ _ _ us hl => match us, hl with | [_, _], _ => rfl
  have F75 := fun_mk (st := tp 94) l75 c75 k75
  have b75 := F75.binds (ps := ["_law_kind", "_law_t"]) fun _ _ _ _ _ _ us hl => match us, hl with | [_, _], _ => rfl
  have F76 := fun_mk (st := tp 95) l76 c76 k76
  have b76 := F76.binds (ps := ["_law_kind", "_law_t"]) fun _ _ _ _ _ _ us hl => match us, hl with | [_, _], _ => rfl
  have F77 := fun_mk (st := tp 96) l77 c77 k77
  have b77 := F77.binds (ps := ["_law_kind", "_law_t"]) fun _ _ _ _ _ _ us hl => match us, hl with | [_, _], _ => rfl
  have F78 := fun_mk (st := tp 97) l78 c78 k78
  have b78 := F78.binds (ps := ["_law_name"]) fun _ _ _ _ _ _ us hl => match us, hl with | [_], _ => rfl
  have F79 := fun_mk (st := tp 98) l79 c79 k79
  have b79 := F79.binds (ps := ["_law_h", "_law_name"]) fun _ _ _ _ _ _ us hl => match us, hl with | [_, _], _ => rfl
  have F80 := fun_mk (st := tp 99) l80 c80 k80
  have b80 := F80.binds (ps := ["_law_script"]) fun _ _ _ _ _ _ us hl => match us, hl with | [_], _ => rfl
  have FI107 := fun_mk (st := inClass (tp 13) 0) lI107 cI107 kI107
  have bI107 := FI107.binds (ps := ["self", "index"]) fun _ _ _ _ _ _ us hl => match us, hl with | [_, _], _ => rfl
  have g : Gs W PP TT PySem.Challenge.pw_oncounts_k15_questions_refused w K mg := {
    fn := fun f d h1 h2 => by
        rcases f with _ | f
        · have e : d_wall = d := Option.some.inj (show some d_wall = some d from h2); subst e; exact ⟨_, _, _, F0, b0, ok_wall, LamD.none (by decide)⟩
        rcases f with _ | f
        · have e : d_is_integer = d := Option.some.inj (show some d_is_integer = some d from h2); subst e; exact ⟨_, _, _, F1, b1, ok_is_integer, LamD.none (by decide)⟩
        rcases f with _ | f
        · have e : d_is_from = d := Option.some.inj (show some d_is_from = some d from h2); subst e; exact ⟨_, _, _, F2, b2, ok_is_from, LamD.none (by decide)⟩
        rcases f with _ | f
        · have e : d_Gate_init = d := Option.some.inj (show some d_Gate_init = some d from h2); subst e; exact ⟨_, _, _, F3, b3, ok_Gate_init, LamD.none (by decide)⟩
        rcases f with _ | f
        · have e : d_Gate_weights = d := Option.some.inj (show some d_Gate_weights = some d from h2); subst e; exact ⟨_, _, _, F4, b4, ok_Gate_weights, LamD.none (by decide)⟩
        rcases f with _ | f
        · have e : d_Gate_bar = d := Option.some.inj (show some d_Gate_bar = some d from h2); subst e; exact ⟨_, _, _, F5, b5, ok_Gate_bar, LamD.none (by decide)⟩
        rcases f with _ | f
        · have e : d_Gate_eq = d := Option.some.inj (show some d_Gate_eq = some d from h2); subst e; exact ⟨_, _, _, F6, b6, ok_Gate_eq, LamD.none (by decide)⟩
        rcases f with _ | f
        · have e : d_check_gate = d := Option.some.inj (show some d_check_gate = some d from h2); subst e; exact ⟨_, _, _, F7, b7, ok_check_gate, LamD.none (by decide)⟩
        rcases f with _ | f
        · have e : d_check_table = d := Option.some.inj (show some d_check_table = some d from h2); subst e; exact ⟨_, _, _, F8, b8, ok_check_table, LamD.none (by decide)⟩
        rcases f with _ | f
        · have e : d_inputs_of = d := Option.some.inj (show some d_inputs_of = some d from h2); subst e; exact ⟨_, _, _, F9, b9, ok_inputs_of, LamD.none (by decide)⟩
        rcases f with _ | f
        · have e : d_is_on = d := Option.some.inj (show some d_is_on = some d from h2); subst e; exact ⟨_, _, _, F10, b10, ok_is_on, LamD.none (by decide)⟩
        rcases f with _ | f
        · have e : d_sums_of = d := Option.some.inj (show some d_sums_of = some d from h2); subst e; exact ⟨_, _, _, F11, b11, ok_sums_of, LamD.none (by decide)⟩
        rcases f with _ | f
        · have e : d_table_by = d := Option.some.inj (show some d_table_by = some d from h2); subst e; exact ⟨_, _, _, F12, b12, ok_table_by, LamD.none (by decide)⟩
        rcases f with _ | f
        · have e : d_table = d := Option.some.inj (show some d_table = some d from h2); subst e; exact ⟨_, _, _, F13, b13, ok_table, LamD.none (by decide)⟩
        rcases f with _ | f
        · have e : d_rows_saying = d := Option.some.inj (show some d_rows_saying = some d from h2); subst e; exact ⟨_, _, _, F14, b14, ok_rows_saying, LamD.none (by decide)⟩
        rcases f with _ | f
        · have e : d_together = d := Option.some.inj (show some d_together = some d from h2); subst e; exact ⟨_, _, _, F15, b15, ok_together, LamD.none (by decide)⟩
        rcases f with _ | f
        · have e : d_pairs_of = d := Option.some.inj (show some d_pairs_of = some d from h2); subst e; exact ⟨_, _, _, F16, b16, ok_pairs_of, LamD.none (by decide)⟩
        rcases f with _ | f
        · have e : d_against_by = d := Option.some.inj (show some d_against_by = some d from h2); subst e; exact ⟨_, _, _, F17, b17, ok_against_by, LamD.none (by decide)⟩
        rcases f with _ | f
        · have e : d_against = d := Option.some.inj (show some d_against = some d from h2); subst e; exact ⟨_, _, _, F18, b18, ok_against, LamD.none (by decide)⟩
        rcases f with _ | f
        · have e : d_is_weighed = d := Option.some.inj (show some d_is_weighed = some d from h2); subst e; exact ⟨_, _, _, F19, b19, ok_is_weighed, LamD.none (by decide)⟩
        rcases f with _ | f
        · have e : d_all_weights = d := Option.some.inj (show some d_all_weights = some d from h2); subst e; exact ⟨_, _, _, F20, b20, ok_all_weights, lm20 _ rfl⟩
        rcases f with _ | f
        · have e : d_nearest_bar = d := Option.some.inj (show some d_nearest_bar = some d from h2); subst e; exact ⟨_, _, _, F21, b21, ok_nearest_bar, LamD.none (by decide)⟩
        rcases f with _ | f
        · have e : d_least_gate = d := Option.some.inj (show some d_least_gate = some d from h2); subst e; exact ⟨_, _, _, F22, b22, ok_least_gate, LamD.none (by decide)⟩
        rcases f with _ | f
        · have e : d_counts_of = d := Option.some.inj (show some d_counts_of = some d from h2); subst e; exact ⟨_, _, _, F23, b23, ok_counts_of, LamD.none (by decide)⟩
        rcases f with _ | f
        · have e : d_counts = d := Option.some.inj (show some d_counts = some d from h2); subst e; exact ⟨_, _, _, F24, b24, ok_counts, LamD.none (by decide)⟩
        rcases f with _ | f
        · have e : d_check_counts = d := Option.some.inj (show some d_check_counts = some d from h2); subst e; exact ⟨_, _, _, F25, b25, ok_check_counts, LamD.none (by decide)⟩
        rcases f with _ | f
        · have e : d_row_counts = d := Option.some.inj (show some d_row_counts = some d from h2); subst e; exact ⟨_, _, _, F26, b26, ok_row_counts, LamD.none (by decide)⟩
        rcases f with _ | f
        · have e : d_plus = d := Option.some.inj (show some d_plus = some d from h2); subst e; exact ⟨_, _, _, F27, b27, ok_plus, LamD.none (by decide)⟩
        rcases f with _ | f
        · have e : d_minus = d := Option.some.inj (show some d_minus = some d from h2); subst e; exact ⟨_, _, _, F28, b28, ok_minus, LamD.none (by decide)⟩
        rcases f with _ | f
        · have e : d_endings = d := Option.some.inj (show some d_endings = some d from h2); subst e; exact ⟨_, _, _, F29, b29, ok_endings, LamD.none (by decide)⟩
        rcases f with _ | f
        · have e : d_many_by = d := Option.some.inj (show some d_many_by = some d from h2); subst e; exact ⟨_, _, _, F30, b30, ok_many_by, LamD.none (by decide)⟩
        rcases f with _ | f
        · have e : d_many = d := Option.some.inj (show some d_many = some d from h2); subst e; exact ⟨_, _, _, F31, b31, ok_many, LamD.none (by decide)⟩
        rcases f with _ | f
        · have e : d_kth_by = d := Option.some.inj (show some d_kth_by = some d from h2); subst e; exact ⟨_, _, _, F32, b32, ok_kth_by, LamD.none (by decide)⟩
        rcases f with _ | f
        · have e : d_kth = d := Option.some.inj (show some d_kth = some d from h2); subst e; exact ⟨_, _, _, F33, b33, ok_kth, LamD.none (by decide)⟩
        rcases f with _ | f
        · have e : d_weighed = d := Option.some.inj (show some d_weighed = some d from h2); subst e; exact ⟨_, _, _, F34, b34, ok_weighed, LamD.none (by decide)⟩
        rcases f with _ | f
        · have e : d_gate_by = d := Option.some.inj (show some d_gate_by = some d from h2); subst e; exact ⟨_, _, _, F35, b35, ok_gate_by, LamD.none (by decide)⟩
        rcases f with _ | f
        · have e : d_alike = d := Option.some.inj (show some d_alike = some d from h2); subst e; exact ⟨_, _, _, F36, b36, ok_alike, LamD.none (by decide)⟩
        rcases f with _ | f
        · have e : d_check_inputs = d := Option.some.inj (show some d_check_inputs = some d from h2); subst e; exact ⟨_, _, _, F37, b37, ok_check_inputs, LamD.none (by decide)⟩
        rcases f with _ | f
        · have e : d_gates = d := Option.some.inj (show some d_gates = some d from h2); subst e; exact ⟨_, _, _, F38, b38, ok_gates, LamD.none (by decide)⟩
        rcases f with _ | f
        · have e : d_nth = d := Option.some.inj (show some d_nth = some d from h2); subst e; exact ⟨_, _, _, F39, b39, ok_nth, LamD.none (by decide)⟩
        rcases f with _ | f
        · have e : d_check_weighed = d := Option.some.inj (show some d_check_weighed = some d from h2); subst e; exact ⟨_, _, _, F40, b40, ok_check_weighed, LamD.none (by decide)⟩
        rcases f with _ | f
        · have e : d_place = d := Option.some.inj (show some d_place = some d from h2); subst e; exact ⟨_, _, _, F41, b41, ok_place, LamD.none (by decide)⟩
        rcases f with _ | f
        · have e : d_next_counts = d := Option.some.inj (show some d_next_counts = some d from h2); subst e; exact ⟨_, _, _, F42, b42, ok_next_counts, LamD.none (by decide)⟩
        rcases f with _ | f
        · have e : d_is_between = d := Option.some.inj (show some d_is_between = some d from h2); subst e; exact ⟨_, _, _, F43, b43, ok_is_between, LamD.none (by decide)⟩
        rcases f with _ | f
        · have e : d_within = d := Option.some.inj (show some d_within = some d from h2); subst e; exact ⟨_, _, _, F44, b44, ok_within, LamD.none (by decide)⟩
        rcases f with _ | f
        · have e : d_is_row = d := Option.some.inj (show some d_is_row = some d from h2); subst e; exact ⟨_, _, _, F45, b45, ok_is_row, LamD.none (by decide)⟩
        rcases f with _ | f
        · have e : d_check_seen = d := Option.some.inj (show some d_check_seen = some d from h2); subst e; exact ⟨_, _, _, F46, b46, ok_check_seen, LamD.none (by decide)⟩
        rcases f with _ | f
        · have e : d_says_so = d := Option.some.inj (show some d_says_so = some d from h2); subst e; exact ⟨_, _, _, F47, b47, ok_says_so, LamD.none (by decide)⟩
        rcases f with _ | f
        · have e : d_fitting_tables = d := Option.some.inj (show some d_fitting_tables = some d from h2); subst e; exact ⟨_, _, _, F48, b48, ok_fitting_tables, LamD.none (by decide)⟩
        rcases f with _ | f
        · have e : d_fitting = d := Option.some.inj (show some d_fitting = some d from h2); subst e; exact ⟨_, _, _, F49, b49, ok_fitting, LamD.none (by decide)⟩
        rcases f with _ | f
        · have e : d_word_by = d := Option.some.inj (show some d_word_by = some d from h2); subst e; exact ⟨_, _, _, F50, b50, ok_word_by, LamD.none (by decide)⟩
        rcases f with _ | f
        · have e : d_word = d := Option.some.inj (show some d_word = some d from h2); subst e; exact ⟨_, _, _, F51, b51, ok_word, LamD.none (by decide)⟩
        rcases f with _ | f
        · have e : d_ask = d := Option.some.inj (show some d_ask = some d from h2); subst e; exact ⟨_, _, _, F52, b52, ok_ask, LamD.none (by decide)⟩
        rcases f with _ | f
        · have e : d_turned = d := Option.some.inj (show some d_turned = some d from h2); subst e; exact ⟨_, _, _, F53, b53, ok_turned, LamD.none (by decide)⟩
        rcases f with _ | f
        · have e : d_telling = d := Option.some.inj (show some d_telling = some d from h2); subst e; exact ⟨_, _, _, F54, b54, ok_telling, LamD.none (by decide)⟩
        rcases f with _ | f
        · have e : d_Panel_init = d := Option.some.inj (show some d_Panel_init = some d from h2); subst e; exact ⟨_, _, _, F55, b55, ok_Panel_init, LamD.none (by decide)⟩
        rcases f with _ | f
        · have e : d_Panel_seen = d := Option.some.inj (show some d_Panel_seen = some d from h2); subst e; exact ⟨_, _, _, F56, b56, ok_Panel_seen, LamD.none (by decide)⟩
        rcases f with _ | f
        · have e : d_Panel_words = d := Option.some.inj (show some d_Panel_words = some d from h2); subst e; exact ⟨_, _, _, F57, b57, ok_Panel_words, LamD.none (by decide)⟩
        rcases f with _ | f
        · have e : d_Panel_note = d := Option.some.inj (show some d_Panel_note = some d from h2); subst e; exact ⟨_, _, _, F58, b58, ok_Panel_note, LamD.none (by decide)⟩
        rcases f with _ | f
        · have e : d_Panel_undo = d := Option.some.inj (show some d_Panel_undo = some d from h2); subst e; exact ⟨_, _, _, F59, b59, ok_Panel_undo, LamD.none (by decide)⟩
        rcases f with _ | f
        · have e : d_Panel_copy = d := Option.some.inj (show some d_Panel_copy = some d from h2); subst e; exact ⟨_, _, _, F60, b60, ok_Panel_copy, LamD.none (by decide)⟩
        rcases f with _ | f
        · have e : d_Panel_len = d := Option.some.inj (show some d_Panel_len = some d from h2); subst e; exact ⟨_, _, _, F61, b61, ok_Panel_len, LamD.none (by decide)⟩
        rcases f with _ | f
        · have e : d_power = d := Option.some.inj (show some d_power = some d from h2); subst e; exact ⟨_, _, _, F62, b62, ok_power, LamD.none (by decide)⟩
        rcases f with _ | f
        · have e : d_powers = d := Option.some.inj (show some d_powers = some d from h2); subst e; exact ⟨_, _, _, F63, b63, ok_powers, LamD.none (by decide)⟩
        rcases f with _ | f
        · have e : d_order = d := Option.some.inj (show some d_order = some d from h2); subst e; exact ⟨_, _, _, F64, b64, ok_order, LamD.none (by decide)⟩
        rcases f with _ | f
        · have e : d_check_tables = d := Option.some.inj (show some d_check_tables = some d from h2); subst e; exact ⟨_, _, _, F65, b65, ok_check_tables, LamD.none (by decide)⟩
        rcases f with _ | f
        · have e : d_both = d := Option.some.inj (show some d_both = some d from h2); subst e; exact ⟨_, _, _, F66, b66, ok_both, LamD.none (by decide)⟩
        rcases f with _ | f
        · have e : d_either = d := Option.some.inj (show some d_either = some d from h2); subst e; exact ⟨_, _, _, F67, b67, ok_either, LamD.none (by decide)⟩
        rcases f with _ | f
        · have e : d_contrary = d := Option.some.inj (show some d_contrary = some d from h2); subst e; exact ⟨_, _, _, F68, b68, ok_contrary, LamD.none (by decide)⟩
        rcases f with _ | f
        · have e : d_fed = d := Option.some.inj (show some d_fed = some d from h2); subst e; exact ⟨_, _, _, F69, b69, ok_fed, LamD.none (by decide)⟩
        rcases f with _ | f
        · have e : d_is_within = d := Option.some.inj (show some d_is_within = some d from h2); subst e; exact ⟨_, _, _, F70, b70, ok_is_within, LamD.none (by decide)⟩
        rcases f with _ | f
        · have e : d_between = d := Option.some.inj (show some d_between = some d from h2); subst e; exact ⟨_, _, _, F71, b71, ok_between, LamD.none (by decide)⟩
        rcases f with _ | f
        · have e : d_write_gate = d := Option.some.inj (show some d_write_gate = some d from h2); subst e; exact ⟨_, _, _, F72, b72, ok_write_gate, LamD.none (by decide)⟩
        rcases f with _ | f
        · have e : d_law_mix = d := Option.some.inj (show some d_law_mix = some d from h2); subst e; exact ⟨_, _, _, F73, b73, ok_law_mix, LamD.none (by decide)⟩
        rcases f with _ | f
        · have e : d_law_next = d := Option.some.inj (show some d_law_next = some d from h2); subst e; exact ⟨_, _, _, F74, b74, ok_law_next, LamD.none (by decide)⟩
        rcases f with _ | f
        · have e : d_law_first = d := Option.some.inj (show some d_law_first = some d from h2); subst e; exact ⟨_, _, _, F75, b75, ok_law_first, LamD.none (by decide)⟩
        rcases f with _ | f
        · have e : d_law_ask = d := Option.some.inj (show some d_law_ask = some d from h2); subst e; exact ⟨_, _, _, F76, b76, ok_law_ask, LamD.none (by decide)⟩
        rcases f with _ | f
        · have e : d_law_told = d := Option.some.inj (show some d_law_told = some d from h2); subst e; exact ⟨_, _, _, F77, b77, ok_law_told, LamD.none (by decide)⟩
        rcases f with _ | f
        · have e : d_law_good_one = d := Option.some.inj (show some d_law_good_one = some d from h2); subst e; exact ⟨_, _, _, F78, b78, ok_law_good_one, LamD.none (by decide)⟩
        rcases f with _ | f
        · have e : d_law_bad_one = d := Option.some.inj (show some d_law_bad_one = some d from h2); subst e; exact ⟨_, _, _, F79, b79, ok_law_bad_one, LamD.none (by decide)⟩
        rcases f with _ | f
        · have e : d_law = d := Option.some.inj (show some d_law = some d from h2); subst e; exact ⟨_, _, _, F80, b80, ok_law, LamD.none (by decide)⟩
        exact (av_no (n := f) (k := 81) h1).elim
    top := fun f d h1 h0 h2 => by
        rcases f with _ | f
        · have e : d_wall = d := Option.some.inj (show some d_wall = some d from h2); subst e; exact PySem.W.mg_of X G a0
        rcases f with _ | f
        · have e : d_is_integer = d := Option.some.inj (show some d_is_integer = some d from h2); subst e; exact PySem.W.mg_of X G a1
        rcases f with _ | f
        · have e : d_is_from = d := Option.some.inj (show some d_is_from = some d from h2); subst e; exact PySem.W.mg_of X G a2
        rcases f with _ | f
        · exact absurd h0 (by decide)
        rcases f with _ | f
        · exact absurd h0 (by decide)
        rcases f with _ | f
        · exact absurd h0 (by decide)
        rcases f with _ | f
        · exact absurd h0 (by decide)
        rcases f with _ | f
        · have e : d_check_gate = d := Option.some.inj (show some d_check_gate = some d from h2); subst e; exact PySem.W.mg_of X G a7
        rcases f with _ | f
        · have e : d_check_table = d := Option.some.inj (show some d_check_table = some d from h2); subst e; exact PySem.W.mg_of X G a8
        rcases f with _ | f
        · have e : d_inputs_of = d := Option.some.inj (show some d_inputs_of = some d from h2); subst e; exact PySem.W.mg_of X G a9
        rcases f with _ | f
        · have e : d_is_on = d := Option.some.inj (show some d_is_on = some d from h2); subst e; exact PySem.W.mg_of X G a10
        rcases f with _ | f
        · have e : d_sums_of = d := Option.some.inj (show some d_sums_of = some d from h2); subst e; exact PySem.W.mg_of X G a11
        rcases f with _ | f
        · have e : d_table_by = d := Option.some.inj (show some d_table_by = some d from h2); subst e; exact PySem.W.mg_of X G a12
        rcases f with _ | f
        · have e : d_table = d := Option.some.inj (show some d_table = some d from h2); subst e; exact PySem.W.mg_of X G a13
        rcases f with _ | f
        · have e : d_rows_saying = d := Option.some.inj (show some d_rows_saying = some d from h2); subst e; exact PySem.W.mg_of X G a14
        rcases f with _ | f
        · have e : d_together = d := Option.some.inj (show some d_together = some d from h2); subst e; exact PySem.W.mg_of X G a15
        rcases f with _ | f
        · have e : d_pairs_of = d := Option.some.inj (show some d_pairs_of = some d from h2); subst e; exact PySem.W.mg_of X G a16
        rcases f with _ | f
        · have e : d_against_by = d := Option.some.inj (show some d_against_by = some d from h2); subst e; exact PySem.W.mg_of X G a17
        rcases f with _ | f
        · have e : d_against = d := Option.some.inj (show some d_against = some d from h2); subst e; exact PySem.W.mg_of X G a18
        rcases f with _ | f
        · have e : d_is_weighed = d := Option.some.inj (show some d_is_weighed = some d from h2); subst e; exact PySem.W.mg_of X G a19
        rcases f with _ | f
        · have e : d_all_weights = d := Option.some.inj (show some d_all_weights = some d from h2); subst e; exact PySem.W.mg_of X G a20
        rcases f with _ | f
        · have e : d_nearest_bar = d := Option.some.inj (show some d_nearest_bar = some d from h2); subst e; exact PySem.W.mg_of X G a21
        rcases f with _ | f
        · have e : d_least_gate = d := Option.some.inj (show some d_least_gate = some d from h2); subst e; exact PySem.W.mg_of X G a22
        rcases f with _ | f
        · have e : d_counts_of = d := Option.some.inj (show some d_counts_of = some d from h2); subst e; exact PySem.W.mg_of X G a23
        rcases f with _ | f
        · have e : d_counts = d := Option.some.inj (show some d_counts = some d from h2); subst e; exact PySem.W.mg_of X G a24
        rcases f with _ | f
        · have e : d_check_counts = d := Option.some.inj (show some d_check_counts = some d from h2); subst e; exact PySem.W.mg_of X G a25
        rcases f with _ | f
        · have e : d_row_counts = d := Option.some.inj (show some d_row_counts = some d from h2); subst e; exact PySem.W.mg_of X G a26
        rcases f with _ | f
        · have e : d_plus = d := Option.some.inj (show some d_plus = some d from h2); subst e; exact PySem.W.mg_of X G a27
        rcases f with _ | f
        · have e : d_minus = d := Option.some.inj (show some d_minus = some d from h2); subst e; exact PySem.W.mg_of X G a28
        rcases f with _ | f
        · have e : d_endings = d := Option.some.inj (show some d_endings = some d from h2); subst e; exact PySem.W.mg_of X G a29
        rcases f with _ | f
        · have e : d_many_by = d := Option.some.inj (show some d_many_by = some d from h2); subst e; exact PySem.W.mg_of X G a30
        rcases f with _ | f
        · have e : d_many = d := Option.some.inj (show some d_many = some d from h2); subst e; exact PySem.W.mg_of X G a31
        rcases f with _ | f
        · have e : d_kth_by = d := Option.some.inj (show some d_kth_by = some d from h2); subst e; exact PySem.W.mg_of X G a32
        rcases f with _ | f
        · have e : d_kth = d := Option.some.inj (show some d_kth = some d from h2); subst e; exact PySem.W.mg_of X G a33
        rcases f with _ | f
        · have e : d_weighed = d := Option.some.inj (show some d_weighed = some d from h2); subst e; exact PySem.W.mg_of X G a34
        rcases f with _ | f
        · have e : d_gate_by = d := Option.some.inj (show some d_gate_by = some d from h2); subst e; exact PySem.W.mg_of X G a35
        rcases f with _ | f
        · have e : d_alike = d := Option.some.inj (show some d_alike = some d from h2); subst e; exact PySem.W.mg_of X G a36
        rcases f with _ | f
        · have e : d_check_inputs = d := Option.some.inj (show some d_check_inputs = some d from h2); subst e; exact PySem.W.mg_of X G a37
        rcases f with _ | f
        · have e : d_gates = d := Option.some.inj (show some d_gates = some d from h2); subst e; exact PySem.W.mg_of X G a38
        rcases f with _ | f
        · have e : d_nth = d := Option.some.inj (show some d_nth = some d from h2); subst e; exact PySem.W.mg_of X G a39
        rcases f with _ | f
        · have e : d_check_weighed = d := Option.some.inj (show some d_check_weighed = some d from h2); subst e; exact PySem.W.mg_of X G a40
        rcases f with _ | f
        · have e : d_place = d := Option.some.inj (show some d_place = some d from h2); subst e; exact PySem.W.mg_of X G a41
        rcases f with _ | f
        · have e : d_next_counts = d := Option.some.inj (show some d_next_counts = some d from h2); subst e; exact PySem.W.mg_of X G a42
        rcases f with _ | f
        · have e : d_is_between = d := Option.some.inj (show some d_is_between = some d from h2); subst e; exact PySem.W.mg_of X G a43
        rcases f with _ | f
        · have e : d_within = d := Option.some.inj (show some d_within = some d from h2); subst e; exact PySem.W.mg_of X G a44
        rcases f with _ | f
        · have e : d_is_row = d := Option.some.inj (show some d_is_row = some d from h2); subst e; exact PySem.W.mg_of X G a45
        rcases f with _ | f
        · have e : d_check_seen = d := Option.some.inj (show some d_check_seen = some d from h2); subst e; exact PySem.W.mg_of X G a46
        rcases f with _ | f
        · have e : d_says_so = d := Option.some.inj (show some d_says_so = some d from h2); subst e; exact PySem.W.mg_of X G a47
        rcases f with _ | f
        · have e : d_fitting_tables = d := Option.some.inj (show some d_fitting_tables = some d from h2); subst e; exact PySem.W.mg_of X G a48
        rcases f with _ | f
        · have e : d_fitting = d := Option.some.inj (show some d_fitting = some d from h2); subst e; exact PySem.W.mg_of X G a49
        rcases f with _ | f
        · have e : d_word_by = d := Option.some.inj (show some d_word_by = some d from h2); subst e; exact PySem.W.mg_of X G a50
        rcases f with _ | f
        · have e : d_word = d := Option.some.inj (show some d_word = some d from h2); subst e; exact PySem.W.mg_of X G a51
        rcases f with _ | f
        · have e : d_ask = d := Option.some.inj (show some d_ask = some d from h2); subst e; exact PySem.W.mg_of X G a52
        rcases f with _ | f
        · have e : d_turned = d := Option.some.inj (show some d_turned = some d from h2); subst e; exact PySem.W.mg_of X G a53
        rcases f with _ | f
        · have e : d_telling = d := Option.some.inj (show some d_telling = some d from h2); subst e; exact PySem.W.mg_of X G a54
        rcases f with _ | f
        · exact absurd h0 (by decide)
        rcases f with _ | f
        · exact absurd h0 (by decide)
        rcases f with _ | f
        · exact absurd h0 (by decide)
        rcases f with _ | f
        · exact absurd h0 (by decide)
        rcases f with _ | f
        · exact absurd h0 (by decide)
        rcases f with _ | f
        · exact absurd h0 (by decide)
        rcases f with _ | f
        · exact absurd h0 (by decide)
        rcases f with _ | f
        · have e : d_power = d := Option.some.inj (show some d_power = some d from h2); subst e; exact PySem.W.mg_of X G a62
        rcases f with _ | f
        · have e : d_powers = d := Option.some.inj (show some d_powers = some d from h2); subst e; exact PySem.W.mg_of X G a63
        rcases f with _ | f
        · have e : d_order = d := Option.some.inj (show some d_order = some d from h2); subst e; exact PySem.W.mg_of X G a64
        rcases f with _ | f
        · have e : d_check_tables = d := Option.some.inj (show some d_check_tables = some d from h2); subst e; exact PySem.W.mg_of X G a65
        rcases f with _ | f
        · have e : d_both = d := Option.some.inj (show some d_both = some d from h2); subst e; exact PySem.W.mg_of X G a66
        rcases f with _ | f
        · have e : d_either = d := Option.some.inj (show some d_either = some d from h2); subst e; exact PySem.W.mg_of X G a67
        rcases f with _ | f
        · have e : d_contrary = d := Option.some.inj (show some d_contrary = some d from h2); subst e; exact PySem.W.mg_of X G a68
        rcases f with _ | f
        · have e : d_fed = d := Option.some.inj (show some d_fed = some d from h2); subst e; exact PySem.W.mg_of X G a69
        rcases f with _ | f
        · have e : d_is_within = d := Option.some.inj (show some d_is_within = some d from h2); subst e; exact PySem.W.mg_of X G a70
        rcases f with _ | f
        · have e : d_between = d := Option.some.inj (show some d_between = some d from h2); subst e; exact PySem.W.mg_of X G a71
        rcases f with _ | f
        · have e : d_write_gate = d := Option.some.inj (show some d_write_gate = some d from h2); subst e; exact PySem.W.mg_of X G a72
        rcases f with _ | f
        · have e : d_law_mix = d := Option.some.inj (show some d_law_mix = some d from h2); subst e; exact PySem.W.mg_of X G a73
        rcases f with _ | f
        · have e : d_law_next = d := Option.some.inj (show some d_law_next = some d from h2); subst e; exact PySem.W.mg_of X G a74
        rcases f with _ | f
        · have e : d_law_first = d := Option.some.inj (show some d_law_first = some d from h2); subst e; exact PySem.W.mg_of X G a75
        rcases f with _ | f
        · have e : d_law_ask = d := Option.some.inj (show some d_law_ask = some d from h2); subst e; exact PySem.W.mg_of X G a76
        rcases f with _ | f
        · have e : d_law_told = d := Option.some.inj (show some d_law_told = some d from h2); subst e; exact PySem.W.mg_of X G a77
        rcases f with _ | f
        · have e : d_law_good_one = d := Option.some.inj (show some d_law_good_one = some d from h2); subst e; exact PySem.W.mg_of X G a78
        rcases f with _ | f
        · have e : d_law_bad_one = d := Option.some.inj (show some d_law_bad_one = some d from h2); subst e; exact PySem.W.mg_of X G a79
        rcases f with _ | f
        · have e : d_law = d := Option.some.inj (show some d_law = some d from h2); subst e; exact PySem.W.mg_of X G a80
        exact (av_no (n := f) (k := 81) h1).elim
    cns := fun x i h => by
        simp only [TT, List.mem_cons, List.not_mem_nil, or_false, Prod.mk.injEq] at h
        rcases h with ⟨rfl, rfl⟩ | ⟨rfl, rfl⟩ | ⟨rfl, rfl⟩ | ⟨rfl, rfl⟩ | ⟨rfl, rfl⟩
        · exact ⟨_, PySem.W.mg_of X G m0⟩
        · exact ⟨_, PySem.W.mg_of X G m1⟩
        · exact ⟨_, PySem.W.mg_of X G m2⟩
        · exact ⟨_, PySem.W.mg_of X G m3⟩
        · exact ⟨_, PySem.W.mg_of X G m4⟩
    blt := fun x h => by
        simp only [TT, List.mem_cons, List.not_mem_nil, or_false, Prod.mk.injEq] at h
        rcases h with rfl | rfl | rfl | rfl | rfl | rfl | rfl | rfl | rfl | rfl | rfl | rfl | rfl | rfl | rfl | rfl | rfl | rfl
        · exact PySem.W.mg_none_of X G z0
        · exact PySem.W.mg_none_of X G z1
        · exact PySem.W.mg_none_of X G z2
        · exact PySem.W.mg_none_of X G z3
        · exact PySem.W.mg_none_of X G z4
        · exact PySem.W.mg_none_of X G z5
        · exact PySem.W.mg_none_of X G z6
        · exact PySem.W.mg_none_of X G z7
        · exact PySem.W.mg_none_of X G z8
        · exact PySem.W.mg_none_of X G z9
        · exact PySem.W.mg_none_of X G z10
        · exact PySem.W.mg_none_of X G z11
        · exact PySem.W.mg_none_of X G z12
        · exact PySem.W.mg_none_of X G z13
        · exact PySem.W.mg_none_of X G z14
        · exact PySem.W.mg_none_of X G z15
        · exact PySem.W.mg_none_of X G z16
        · exact PySem.W.mg_none_of X G z17
    wok := fun c x h => by
        rcases c with _ | c
        · have e : ("Gate" : Str) = x := Option.some.inj (show some ("Gate" : Str) = some x from h); subst e; exact ⟨rfl, PySem.W.mg_of X G aC0⟩
        rcases c with _ | c
        · have e : ("Panel" : Str) = x := Option.some.inj (show some ("Panel" : Str) = some x from h); subst e; exact ⟨rfl, PySem.W.mg_of X G aC1⟩
        cases (show (none : Option Str) = some x from h)
    cls := fun c h => by
        rcases c with _ | c
        · exact cls_of ⟨pg0, hd0, po0, sa0⟩ kc0 ic0 tc0 sNoneType0 sbool0 sint0 sstr0 stuple0 slist0 ha0 hn ht hm0
        rcases c with _ | c
        · exact cls_of ⟨pg1, hd1, po1, sa1⟩ kc1 ic1 tc1 sNoneType1 sbool1 sint1 sstr1 stuple1 slist1 ha1 hn ht hm1
        exact (av_no (n := c) (k := 2) h).elim
    fls := fun c x h hx => by
        rcases c with _ | c
        · simp only [TT, List.mem_cons, List.not_mem_nil, or_false] at hx; rcases hx with rfl | rfl | rfl | rfl
          · exact n0_0
          · exact n0_1
          · exact n0_2
          · exact n0_3
        rcases c with _ | c
        · simp only [TT, List.mem_cons, List.not_mem_nil, or_false] at hx; rcases hx with rfl | rfl | rfl | rfl
          · exact n1_0
          · exact n1_1
          · exact n1_2
          · exact n1_3
        exact (av_no (n := c) (k := 2) h).elim
    ini := fun c f x h h2 => by
        rcases c with _ | c
        · have e : f_Gate_init = f := Option.some.inj (show some f_Gate_init = some f from h2); subst e; exact ⟨mk0, a3, i3, kc0⟩
        rcases c with _ | c
        · have e : f_Panel_init = f := Option.some.inj (show some f_Panel_init = some f from h2); subst e; exact ⟨mk1, a55, i55, kc1⟩
        cases (show (none : Option Nat) = some f from h2)
    prp := fun f c x h => by
        simp only [TT] at h
        split at h
        · rename_i e; obtain ⟨rfl, rfl⟩ := e; cases h; exact ⟨_, a4, q4, t4, _, r4⟩
        split at h
        · rename_i e; obtain ⟨rfl, rfl⟩ := e; cases h; exact ⟨_, a5, q5, t5, _, r5⟩
        split at h
        · rename_i e; obtain ⟨rfl, rfl⟩ := e; cases h; exact ⟨_, a56, q56, t56, _, r56⟩
        split at h
        · rename_i e; obtain ⟨rfl, rfl⟩ := e; cases h; exact ⟨_, a57, q57, t57, _, r57⟩
        cases h
    mth := fun f c x h => by
        simp only [TT] at h
        split at h
        · rename_i e; obtain ⟨rfl, rfl⟩ := e; cases h; exact ⟨a58, i58, k58⟩
        split at h
        · rename_i e; obtain ⟨rfl, rfl⟩ := e; cases h; exact ⟨a59, i59, k59⟩
        split at h
        · rename_i e; obtain ⟨rfl, rfl⟩ := e; cases h; exact ⟨a60, i60, k60⟩
        split at h
        · rename_i e; obtain ⟨rfl, rfl⟩ := e; cases h; exact ⟨a61, i61, k61⟩
        cases h
    eqf := fun c f h h2 => by
        rcases c with _ | c
        · have e : f_Gate_eq = f := Option.some.inj (show some f_Gate_eq = some f from h2); subst e; exact ⟨rfl, a6, i6, stuple0⟩
        rcases c with _ | c
        · cases h2
        cases (show (none : Option Nat) = some f from h2)
    exc := fun c x h => by
        simp only [TT] at h
        split at h
        · cases h; exact ⟨PySem.W.mg_of X G gX100, kX100, bX100, tX100⟩
        · cases h; exact ⟨PySem.W.mg_of X G gX101, kX101, bX101, tX101⟩
        · cases h; exact ⟨PySem.W.mg_of X G gX102, kX102, bX102, tX102⟩
        · cases h; exact ⟨PySem.W.mg_of X G gX103, kX103, bX103, tX103⟩
        · cases h; exact ⟨PySem.W.mg_of X G gX104, kX104, bX104, tX104⟩
        · cases h; exact ⟨PySem.W.mg_of X G gX105, kX105, bX105, tX105⟩
        · cases h; exact ⟨PySem.W.mg_of X G gX106, kX106, bX106, tX106⟩
        · cases h; exact ⟨PySem.W.mg_of X G gX107, kX107, bX107, tX107⟩
        · cases h; exact ⟨PySem.W.mg_of X G gX108, kX108, bX108, tX108⟩
        · cases h; exact ⟨PySem.W.mg_of X G gX109, kX109, bX109, tX109⟩
        · cases h
    exo := fun c x h h2 => by
        simp only [TT] at h2
        split at h2
        · exact xX101
        · exact xX104
        · exact xX102
        · exact xX109
        · exact xX106
        · exact xX105
        · exact xX108
        · exact xX103
        · exact xX100
        · cases h2
    exm := fun c k q h => by
        simp only [PP] at h
        split at h
        · split at h
          · cases h; exact exm_of bX101 iX101 tX101 sX101_101
          · cases h; exact exm_of bX104 iX104 tX104 sX101_104
          · cases h; exact exm_of bX102 iX102 tX102 sX101_102
          · cases h; exact exm_of bX109 iX109 tX109 sX101_109
          · cases h; exact exm_of bX106 iX106 tX106 sX101_106
          · cases h; exact exm_of bX105 iX105 tX105 sX101_105
          · cases h; exact exm_of bX108 iX108 tX108 sX101_108
          · cases h; exact exm_of bX107 iX107 tX107 sX101_107
          · cases h; exact exm_of bX103 iX103 tX103 sX101_103
          · cases h; exact exm_of bX100 iX100 tX100 sX101_100
          · cases h
        · split at h
          · cases h; exact exm_of bX101 iX101 tX101 sX104_101
          · cases h; exact exm_of bX104 iX104 tX104 sX104_104
          · cases h; exact exm_of bX102 iX102 tX102 sX104_102
          · cases h; exact exm_of bX109 iX109 tX109 sX104_109
          · cases h; exact exm_of bX106 iX106 tX106 sX104_106
          · cases h; exact exm_of bX105 iX105 tX105 sX104_105
          · cases h; exact exm_of bX108 iX108 tX108 sX104_108
          · cases h; exact exm_of bX107 iX107 tX107 sX104_107
          · cases h; exact exm_of bX103 iX103 tX103 sX104_103
          · cases h; exact exm_of bX100 iX100 tX100 sX104_100
          · cases h
        · split at h
          · cases h; exact exm_of bX101 iX101 tX101 sX102_101
          · cases h; exact exm_of bX104 iX104 tX104 sX102_104
          · cases h; exact exm_of bX102 iX102 tX102 sX102_102
          · cases h; exact exm_of bX109 iX109 tX109 sX102_109
          · cases h; exact exm_of bX106 iX106 tX106 sX102_106
          · cases h; exact exm_of bX105 iX105 tX105 sX102_105
          · cases h; exact exm_of bX108 iX108 tX108 sX102_108
          · cases h; exact exm_of bX107 iX107 tX107 sX102_107
          · cases h; exact exm_of bX103 iX103 tX103 sX102_103
          · cases h; exact exm_of bX100 iX100 tX100 sX102_100
          · cases h
        · split at h
          · cases h; exact exm_of bX101 iX101 tX101 sX109_101
          · cases h; exact exm_of bX104 iX104 tX104 sX109_104
          · cases h; exact exm_of bX102 iX102 tX102 sX109_102
          · cases h; exact exm_of bX109 iX109 tX109 sX109_109
          · cases h; exact exm_of bX106 iX106 tX106 sX109_106
          · cases h; exact exm_of bX105 iX105 tX105 sX109_105
          · cases h; exact exm_of bX108 iX108 tX108 sX109_108
          · cases h; exact exm_of bX107 iX107 tX107 sX109_107
          · cases h; exact exm_of bX103 iX103 tX103 sX109_103
          · cases h; exact exm_of bX100 iX100 tX100 sX109_100
          · cases h
        · split at h
          · cases h; exact exm_of bX101 iX101 tX101 sX106_101
          · cases h; exact exm_of bX104 iX104 tX104 sX106_104
          · cases h; exact exm_of bX102 iX102 tX102 sX106_102
          · cases h; exact exm_of bX109 iX109 tX109 sX106_109
          · cases h; exact exm_of bX106 iX106 tX106 sX106_106
          · cases h; exact exm_of bX105 iX105 tX105 sX106_105
          · cases h; exact exm_of bX108 iX108 tX108 sX106_108
          · cases h; exact exm_of bX107 iX107 tX107 sX106_107
          · cases h; exact exm_of bX103 iX103 tX103 sX106_103
          · cases h; exact exm_of bX100 iX100 tX100 sX106_100
          · cases h
        · split at h
          · cases h; exact exm_of bX101 iX101 tX101 sX105_101
          · cases h; exact exm_of bX104 iX104 tX104 sX105_104
          · cases h; exact exm_of bX102 iX102 tX102 sX105_102
          · cases h; exact exm_of bX109 iX109 tX109 sX105_109
          · cases h; exact exm_of bX106 iX106 tX106 sX105_106
          · cases h; exact exm_of bX105 iX105 tX105 sX105_105
          · cases h; exact exm_of bX108 iX108 tX108 sX105_108
          · cases h; exact exm_of bX107 iX107 tX107 sX105_107
          · cases h; exact exm_of bX103 iX103 tX103 sX105_103
          · cases h; exact exm_of bX100 iX100 tX100 sX105_100
          · cases h
        · split at h
          · cases h; exact exm_of bX101 iX101 tX101 sX108_101
          · cases h; exact exm_of bX104 iX104 tX104 sX108_104
          · cases h; exact exm_of bX102 iX102 tX102 sX108_102
          · cases h; exact exm_of bX109 iX109 tX109 sX108_109
          · cases h; exact exm_of bX106 iX106 tX106 sX108_106
          · cases h; exact exm_of bX105 iX105 tX105 sX108_105
          · cases h; exact exm_of bX108 iX108 tX108 sX108_108
          · cases h; exact exm_of bX107 iX107 tX107 sX108_107
          · cases h; exact exm_of bX103 iX103 tX103 sX108_103
          · cases h; exact exm_of bX100 iX100 tX100 sX108_100
          · cases h
        · split at h
          · cases h; exact exm_of bX101 iX101 tX101 sX107_101
          · cases h; exact exm_of bX104 iX104 tX104 sX107_104
          · cases h; exact exm_of bX102 iX102 tX102 sX107_102
          · cases h; exact exm_of bX109 iX109 tX109 sX107_109
          · cases h; exact exm_of bX106 iX106 tX106 sX107_106
          · cases h; exact exm_of bX105 iX105 tX105 sX107_105
          · cases h; exact exm_of bX108 iX108 tX108 sX107_108
          · cases h; exact exm_of bX107 iX107 tX107 sX107_107
          · cases h; exact exm_of bX103 iX103 tX103 sX107_103
          · cases h; exact exm_of bX100 iX100 tX100 sX107_100
          · cases h
        · split at h
          · cases h; exact exm_of bX101 iX101 tX101 sX103_101
          · cases h; exact exm_of bX104 iX104 tX104 sX103_104
          · cases h; exact exm_of bX102 iX102 tX102 sX103_102
          · cases h; exact exm_of bX109 iX109 tX109 sX103_109
          · cases h; exact exm_of bX106 iX106 tX106 sX103_106
          · cases h; exact exm_of bX105 iX105 tX105 sX103_105
          · cases h; exact exm_of bX108 iX108 tX108 sX103_108
          · cases h; exact exm_of bX107 iX107 tX107 sX103_107
          · cases h; exact exm_of bX103 iX103 tX103 sX103_103
          · cases h; exact exm_of bX100 iX100 tX100 sX103_100
          · cases h
        · split at h
          · cases h; exact exm_of bX101 iX101 tX101 sX100_101
          · cases h; exact exm_of bX104 iX104 tX104 sX100_104
          · cases h; exact exm_of bX102 iX102 tX102 sX100_102
          · cases h; exact exm_of bX109 iX109 tX109 sX100_109
          · cases h; exact exm_of bX106 iX106 tX106 sX100_106
          · cases h; exact exm_of bX105 iX105 tX105 sX100_105
          · cases h; exact exm_of bX108 iX108 tX108 sX100_108
          · cases h; exact exm_of bX107 iX107 tX107 sX100_107
          · cases h; exact exm_of bX103 iX103 tX103 sX100_103
          · cases h; exact exm_of bX100 iX100 tX100 sX100_100
          · cases h
        · cases h
    sq := fun a ns h => h
    xin := fun c x h h2 => by
        simp only [TT] at h2 ⊢
        split at h2
        · exact ⟨⟨⟨⟨_, _, _, _, _, _, _, _, _, _, _, _, _, _, _, lX107, vX107⟩, saX107, bX107, tX107, kX107⟩, ⟨gI107, _, _, _, _, FI107, bI107, aI107, tI107, ok_init_BadSeen⟩, fun f hf => by simp only [List.mem_cons, List.not_mem_nil, or_false] at hf; rcases hf with rfl <;> first | exact nX107_0⟩, ⟨gaX107, ggX107, bX107, hdX107⟩⟩
        · exact absurd rfl h2
    isx := fun ht2 c k q h => by
        cases ht2
    ern := fun _ => rfl }
  have hTab : ∀ p ∈ (([(T20, P20, ((("all_weights" : Str) ++ ".<locals>.") ++ "<lambda>"))] : List (Addr × Addr × Str)).map fun p => (p.1, p.2.1) : List (Addr × Addr)), h.get? p.2 = some { cls := .none, data := .fields #[] } := fun p hp => by
      have hq : p ∈ ([(T20, P20)] : List (Addr × Addr)) := hp
      simp only [List.mem_cons, List.not_mem_nil, or_false] at hq
      rcases hq with rfl
      · exact own "all_weights" (by simp) g20 ((PySem.W.mg_of X G a20)) _ _ _ _ _ _ _ _ l20 rfl rfl uT20 wT20
  have hNo : ∀ p ∈ (([(T20, P20, ((("all_weights" : Str) ++ ".<locals>.") ++ "<lambda>"))] : List (Addr × Addr × Str)).map fun p => (p.1, p.2.1) : List (Addr × Addr)), K.lookup p.2 = none := fun p hp => by
      have hq : p ∈ ([(T20, P20)] : List (Addr × Addr)) := hp
      simp only [List.mem_cons, List.not_mem_nil, or_false] at hq
      rcases hq with rfl
      · exact nT20
  have hHd : ∀ p ∈ (([(T20, P20, ((("all_weights" : Str) ++ ".<locals>.") ++ "<lambda>"))] : List (Addr × Addr × Str)).map fun p => (p.1, p.2.1) : List (Addr × Addr)), PySem.W.CodeHd h p.1 p.2 := fun p hp => by
      have hq : p ∈ ([(T20, P20)] : List (Addr × Addr)) := hp
      simp only [List.mem_cons, List.not_mem_nil, or_false] at hq
      rcases hq with rfl
      · exact PySem.W.codeHd_of_K X (hd_of uT20 hT20)
  refine ⟨_, ([(T20, P20, ((("all_weights" : Str) ++ ".<locals>.") ++ "<lambda>"))] : List (Addr × Addr × Str)).map fun p => (p.1, p.2.1), spL K W.tbs 63, hTab, hNo, hHd, fun s v => .of_eq rfl, fun H a ns hl _ hO hS => ⟨a, ns, rfl, hl, fun p hp => ?o1, hS, fun _ => rfl⟩, fun base _ _ hT => law_of g (fun _ _ h => h) (show PP.df f_law = some d_law from rfl) F80 ok_law (LamD.none (by decide)) (by decide) law_pure base fun p hp => ?o2⟩
  case o1 =>
      have hq : p ∈ ([(P20, ((("all_weights" : Str) ++ ".<locals>.") ++ "<lambda>"))] : List (Addr × Str)) := hp
      simp only [List.mem_cons, List.not_mem_nil, or_false] at hq
      rcases hq with rfl
      · exact hO (T20, P20) (by simp)
  case o2 =>
      have hq : p ∈ ([(T20, P20, ((("all_weights" : Str) ++ ".<locals>.") ++ "<lambda>"))] : List (Addr × Addr × Str)) := hp
      simp only [List.mem_cons, List.not_mem_nil, or_false] at hq
      rcases hq with rfl
      · exact hT (T20, P20) (by simp)
end Oc
open PySem PySem.W PyProof.Rows
set_option pp.maxSteps 300 in
set_option maxRecDepth 100000 in
set_option maxHeartbeats 0 in
theorem PySem.Challenge.cw_oncounts_k15_questions_refused_holds : PySem.Challenge.rw_oncounts_k15_questions_refused.Holds := by
  w_on; o_law; k_head; (case hw => w_witness2)
  k_fill
  refine Oc.walk_tabs (l := PySem.Challenge.rw_oncounts_k15_questions_refused) (n := 63) (k := 2 * (Oc.dep + 1) + 2) (x := "_law_script") (CX := fun w => L2.CX PySem.Challenge.pw_oncounts_k15_questions_refused w) rfl (by decide) rfl ⟨rfl, by decide, by decide⟩ ["all_weights"] (by first | rfl | decide +kernel) (fun w h Y => PySem.W.km_in_of Y) ?F (fun w H s e s1 z => by obtain ⟨_, _, _, _, _, _, _, _, _, _, _, _, z⟩ := z; exact z)
  case F =>
    intro w mg fa h KX G hmg own
    refine' Oc.all_mk KX G hmg ?gX100 ?kX100 ?bX100 ?tX100 ?iX100 ?xX100 ?gX101 ?kX101 ?bX101 ?tX101 ?iX101 ?xX101 ?gX102 ?kX102 ?bX102 ?tX102 ?iX102 ?xX102 ?gX103 ?kX103 ?bX103 ?tX103 ?iX103 ?xX103 ?gX104 ?kX104 ?bX104 ?tX104 ?iX104 ?xX104 ?gX105 ?kX105 ?bX105 ?tX105 ?iX105 ?xX105 ?gX106 ?kX106 ?bX106 ?tX106 ?iX106 ?xX106 ?gX107 ?kX107 ?bX107 ?tX107 ?iX107 ?gaX107 ?ggX107 ?hdX107 ?lX107 ?vX107 ?saX107 ?aI107 ?tI107 ?lI107 ?cI107 ?kI107 ?nX107_0 ?gX108 ?kX108 ?bX108 ?tX108 ?iX108 ?xX108 ?gX109 ?kX109 ?bX109 ?tX109 ?iX109 ?xX109 ?sX101_101 ?sX101_104 ?sX101_102 ?sX101_109 ?sX101_106 ?sX101_105 ?sX101_108 ?sX101_107 ?sX101_103 ?sX101_100 ?sX104_101 ?sX104_104 ?sX104_102 ?sX104_109 ?sX104_106 ?sX104_105 ?sX104_108 ?sX104_107 ?sX104_103 ?sX104_100 ?sX102_101 ?sX102_104 ?sX102_102 ?sX102_109 ?sX102_106 ?sX102_105 ?sX102_108 ?sX102_107 ?sX102_103 ?sX102_100 ?sX109_101 ?sX109_104 ?sX109_102 ?sX109_109 ?sX109_106 ?sX109_105 ?sX109_108 ?sX109_107 ?sX109_103 ?sX109_100 ?sX106_101 ?sX106_104 ?sX106_102 ?sX106_109 ?sX106_106 ?sX106_105 ?sX106_108 ?sX106_107 ?sX106_103 ?sX106_100 ?sX105_101 ?sX105_104 ?sX105_102 ?sX105_109 ?sX105_106 ?sX105_105 ?sX105_108 ?sX105_107 ?sX105_103 ?sX105_100 ?sX108_101 ?sX108_104 ?sX108_102 ?sX108_109 ?sX108_106 ?sX108_105 ?sX108_108 ?sX108_107 ?sX108_103 ?sX108_100 ?sX107_101 ?sX107_104 ?sX107_102 ?sX107_109 ?sX107_106 ?sX107_105 ?sX107_108 ?sX107_107 ?sX107_103 ?sX107_100 ?sX103_101 ?sX103_104 ?sX103_102 ?sX103_109 ?sX103_106 ?sX103_105 ?sX103_108 ?sX103_107 ?sX103_103 ?sX103_100 ?sX100_101 ?sX100_104 ?sX100_102 ?sX100_109 ?sX100_106 ?sX100_105 ?sX100_108 ?sX100_107 ?sX100_103 ?sX100_100 ?aC0 ?pg0 ?hd0 ?po0 ?sa0 ?mk0 ?kc0 ?ic0 ?tc0 ?sNoneType0 ?sbool0 ?sint0 ?sstr0 ?stuple0 ?slist0 ?ha0 ?hm0 ?n0_0 ?n0_1 ?n0_2 ?n0_3 ?aC1 ?pg1 ?hd1 ?po1 ?sa1 ?mk1 ?kc1 ?ic1 ?tc1 ?sNoneType1 ?sbool1 ?sint1 ?sstr1 ?stuple1 ?slist1 ?ha1 ?hm1 ?n1_0 ?n1_1 ?n1_2 ?n1_3 ?hn ?ht ?a0 ?l0 ?c0 ?k0 ?a1 ?l1 ?c1 ?k1 ?a2 ?l2 ?c2 ?k2 ?a3 ?i3 ?l3 ?c3 ?k3 ?a4 ?q4 ?t4 ?r4 ?l4 ?c4 ?k4 ?a5 ?q5 ?t5 ?r5 ?l5 ?c5 ?k5 ?a6 ?i6 ?l6 ?c6 ?k6 ?a7 ?l7 ?c7 ?k7 ?a8 ?l8 ?c8 ?k8 ?a9 ?l9 ?c9 ?k9 ?a10 ?l10 ?c10 ?k10 ?a11 ?l11 ?c11 ?k11 ?a12 ?l12 ?c12 ?k12 ?a13 ?l13 ?c13 ?k13 ?a14 ?l14 ?c14 ?k14 ?a15 ?l15 ?c15 ?k15 ?a16 ?l16 ?c16 ?k16 ?a17 ?l17 ?c17 ?k17 ?a18 ?l18 ?c18 ?k18 ?a19 ?l19 ?c19 ?k19 ?a20 ?l20 ?c20 ?k20 ?uT20 ?wT20 ?hT20 ?nT20 ?a21 ?l21 ?c21 ?k21 ?a22 ?l22 ?c22 ?k22 ?a23 ?l23 ?c23 ?k23 ?a24 ?l24 ?c24 ?k24 ?a25 ?l25 ?c25 ?k25 ?a26 ?l26 ?c26 ?k26 ?a27 ?l27 ?c27 ?k27 ?a28 ?l28 ?c28 ?k28 ?a29 ?l29 ?c29 ?k29 ?a30 ?l30 ?c30 ?k30 ?a31 ?l31 ?c31 ?k31 ?a32 ?l32 ?c32 ?k32 ?a33 ?l33 ?c33 ?k33 ?a34 ?l34 ?c34 ?k34 ?a35 ?l35 ?c35 ?k35 ?a36 ?l36 ?c36 ?k36 ?a37 ?l37 ?c37 ?k37 ?a38 ?l38 ?c38 ?k38 ?a39 ?l39 ?c39 ?k39 ?a40 ?l40 ?c40 ?k40 ?a41 ?l41 ?c41 ?k41 ?a42 ?l42 ?c42 ?k42 ?a43 ?l43 ?c43 ?k43 ?a44 ?l44 ?c44 ?k44 ?a45 ?l45 ?c45 ?k45 ?a46 ?l46 ?c46 ?k46 ?a47 ?l47 ?c47 ?k47 ?a48 ?l48 ?c48 ?k48 ?a49 ?l49 ?c49 ?k49 ?a50 ?l50 ?c50 ?k50 ?a51 ?l51 ?c51 ?k51 ?a52 ?l52 ?c52 ?k52 ?a53 ?l53 ?c53 ?k53 ?a54 ?l54 ?c54 ?k54 ?a55 ?i55 ?l55 ?c55 ?k55 ?a56 ?q56 ?t56 ?r56 ?l56 ?c56 ?k56 ?a57 ?q57 ?t57 ?r57 ?l57 ?c57 ?k57 ?a58 ?i58 ?l58 ?c58 ?k58 ?a59 ?i59 ?l59 ?c59 ?k59 ?a60 ?i60 ?l60 ?c60 ?k60 ?a61 ?i61 ?l61 ?c61 ?k61 ?a62 ?l62 ?c62 ?k62 ?a63 ?l63 ?c63 ?k63 ?a64 ?l64 ?c64 ?k64 ?a65 ?l65 ?c65 ?k65 ?a66 ?l66 ?c66 ?k66 ?a67 ?l67 ?c67 ?k67 ?a68 ?l68 ?c68 ?k68 ?a69 ?l69 ?c69 ?k69 ?a70 ?l70 ?c70 ?k70 ?a71 ?l71 ?c71 ?k71 ?a72 ?l72 ?c72 ?k72 ?a73 ?l73 ?c73 ?k73 ?a74 ?l74 ?c74 ?k74 ?a75 ?l75 ?c75 ?k75 ?a76 ?l76 ?c76 ?k76 ?a77 ?l77 ?c77 ?k77 ?a78 ?l78 ?c78 ?k78 ?a79 ?l79 ?c79 ?k79 ?a80 ?l80 ?c80 ?k80 ?m0 ?m1 ?m2 ?m3 ?m4 ?z0 ?z1 ?z2 ?z3 ?z4 ?z5 ?z6 ?z7 ?z8 ?z9 ?z10 ?z11 ?z12 ?z13 ?z14 ?z15 ?z16 ?z17 own
    (case gX100 => k_is)
    (case kX100 => k_is)
    (case bX100 => k_is)
    (case tX100 => k_is)
    (case iX100 => k_is)
    (case xX100 => k_exc)
    (case gX101 => k_is)
    (case kX101 => k_is)
    (case bX101 => k_is)
    (case tX101 => k_is)
    (case iX101 => k_is)
    (case xX101 => k_exc)
    (case gX102 => k_is)
    (case kX102 => k_is)
    (case bX102 => k_is)
    (case tX102 => k_is)
    (case iX102 => k_is)
    (case xX102 => k_exc)
    (case gX103 => k_is)
    (case kX103 => k_is)
    (case bX103 => k_is)
    (case tX103 => k_is)
    (case iX103 => k_is)
    (case xX103 => k_exc)
    (case gX104 => k_is)
    (case kX104 => k_is)
    (case bX104 => k_is)
    (case tX104 => k_is)
    (case iX104 => k_is)
    (case xX104 => k_exc)
    (case gX105 => k_is)
    (case kX105 => k_is)
    (case bX105 => k_is)
    (case tX105 => k_is)
    (case iX105 => k_is)
    (case xX105 => k_exc)
    (case gX106 => k_is)
    (case kX106 => k_is)
    (case bX106 => k_is)
    (case tX106 => k_is)
    (case iX106 => k_is)
    (case xX106 => k_exc)
    (case gX107 => k_is)
    (case kX107 => k_is)
    (case bX107 => k_is)
    (case tX107 => k_is)
    (case iX107 => k_is)
    (case gaX107 => k_is)
    (case ggX107 => k_is)
    (case hdX107 => k_is)
    (case lX107 => k_is)
    (case vX107 => decide +kernel)
    (case saX107 => k_is)
    (case aI107 => k_is)
    (case tI107 => k_is)
    (case lI107 => k_is)
    (case cI107 => k_is)
    (case kI107 => k_is)
    (case nX107_0 => k_is)
    (case gX108 => k_is)
    (case kX108 => k_is)
    (case bX108 => k_is)
    (case tX108 => k_is)
    (case iX108 => k_is)
    (case xX108 => k_exc)
    (case gX109 => k_is)
    (case kX109 => k_is)
    (case bX109 => k_is)
    (case tX109 => k_is)
    (case iX109 => k_is)
    (case xX109 => k_exc)
    (case sX101_101 => k_is)
    (case sX101_104 => k_is)
    (case sX101_102 => k_is)
    (case sX101_109 => k_is)
    (case sX101_106 => k_is)
    (case sX101_105 => k_is)
    (case sX101_108 => k_is)
    (case sX101_107 => k_is)
    (case sX101_103 => k_is)
    (case sX101_100 => k_is)
    (case sX104_101 => k_is)
    (case sX104_104 => k_is)
    (case sX104_102 => k_is)
    (case sX104_109 => k_is)
    (case sX104_106 => k_is)
    (case sX104_105 => k_is)
    (case sX104_108 => k_is)
    (case sX104_107 => k_is)
    (case sX104_103 => k_is)
    (case sX104_100 => k_is)
    (case sX102_101 => k_is)
    (case sX102_104 => k_is)
    (case sX102_102 => k_is)
    (case sX102_109 => k_is)
    (case sX102_106 => k_is)
    (case sX102_105 => k_is)
    (case sX102_108 => k_is)
    (case sX102_107 => k_is)
    (case sX102_103 => k_is)
    (case sX102_100 => k_is)
    (case sX109_101 => k_is)
    (case sX109_104 => k_is)
    (case sX109_102 => k_is)
    (case sX109_109 => k_is)
    (case sX109_106 => k_is)
    (case sX109_105 => k_is)
    (case sX109_108 => k_is)
    (case sX109_107 => k_is)
    (case sX109_103 => k_is)
    (case sX109_100 => k_is)
    (case sX106_101 => k_is)
    (case sX106_104 => k_is)
    (case sX106_102 => k_is)
    (case sX106_109 => k_is)
    (case sX106_106 => k_is)
    (case sX106_105 => k_is)
    (case sX106_108 => k_is)
    (case sX106_107 => k_is)
    (case sX106_103 => k_is)
    (case sX106_100 => k_is)
    (case sX105_101 => k_is)
    (case sX105_104 => k_is)
    (case sX105_102 => k_is)
    (case sX105_109 => k_is)
    (case sX105_106 => k_is)
    (case sX105_105 => k_is)
    (case sX105_108 => k_is)
    (case sX105_107 => k_is)
    (case sX105_103 => k_is)
    (case sX105_100 => k_is)
    (case sX108_101 => k_is)
    (case sX108_104 => k_is)
    (case sX108_102 => k_is)
    (case sX108_109 => k_is)
    (case sX108_106 => k_is)
    (case sX108_105 => k_is)
    (case sX108_108 => k_is)
    (case sX108_107 => k_is)
    (case sX108_103 => k_is)
    (case sX108_100 => k_is)
    (case sX107_101 => k_is)
    (case sX107_104 => k_is)
    (case sX107_102 => k_is)
    (case sX107_109 => k_is)
    (case sX107_106 => k_is)
    (case sX107_105 => k_is)
    (case sX107_108 => k_is)
    (case sX107_107 => k_is)
    (case sX107_103 => k_is)
    (case sX107_100 => k_is)
    (case sX103_101 => k_is)
    (case sX103_104 => k_is)
    (case sX103_102 => k_is)
    (case sX103_109 => k_is)
    (case sX103_106 => k_is)
    (case sX103_105 => k_is)
    (case sX103_108 => k_is)
    (case sX103_107 => k_is)
    (case sX103_103 => k_is)
    (case sX103_100 => k_is)
    (case sX100_101 => k_is)
    (case sX100_104 => k_is)
    (case sX100_102 => k_is)
    (case sX100_109 => k_is)
    (case sX100_106 => k_is)
    (case sX100_105 => k_is)
    (case sX100_108 => k_is)
    (case sX100_107 => k_is)
    (case sX100_103 => k_is)
    (case sX100_100 => k_is)
    (case aC0 => k_is)
    (case pg0 => k_is)
    (case hd0 => k_is)
    (case po0 => k_is)
    (case sa0 => k_is)
    (case mk0 => k_is)
    (case kc0 => k_is)
    (case ic0 => k_is)
    (case tc0 => k_is)
    (case sNoneType0 => k_is)
    (case sbool0 => k_is)
    (case sint0 => k_is)
    (case sstr0 => k_is)
    (case stuple0 => k_is)
    (case slist0 => k_is)
    (case ha0 => k_is)
    (case hm0 => k_is)
    (case n0_0 => k_is)
    (case n0_1 => k_is)
    (case n0_2 => k_is)
    (case n0_3 => k_is)
    (case aC1 => k_is)
    (case pg1 => k_is)
    (case hd1 => k_is)
    (case po1 => k_is)
    (case sa1 => k_is)
    (case mk1 => k_is)
    (case kc1 => k_is)
    (case ic1 => k_is)
    (case tc1 => k_is)
    (case sNoneType1 => k_is)
    (case sbool1 => k_is)
    (case sint1 => k_is)
    (case sstr1 => k_is)
    (case stuple1 => k_is)
    (case slist1 => k_is)
    (case ha1 => k_is)
    (case hm1 => k_is)
    (case n1_0 => k_is)
    (case n1_1 => k_is)
    (case n1_2 => k_is)
    (case n1_3 => k_is)
    (case hn => k_is)
    (case ht => k_is)
    (case a0 => k_is)
    (case l0 => k_is)
    (case c0 => k_is)
    (case k0 => k_is)
    (case a1 => k_is)
    (case l1 => k_is)
    (case c1 => k_is)
    (case k1 => k_is)
    (case a2 => k_is)
    (case l2 => k_is)
    (case c2 => k_is)
    (case k2 => k_is)
    (case a3 => k_is)
    (case i3 => k_is)
    (case l3 => k_is)
    (case c3 => k_is)
    (case k3 => k_is)
    (case a4 => k_is)
    (case q4 => k_is)
    (case t4 => k_is)
    (case r4 => k_is)
    (case l4 => k_is)
    (case c4 => k_is)
    (case k4 => k_is)
    (case a5 => k_is)
    (case q5 => k_is)
    (case t5 => k_is)
    (case r5 => k_is)
    (case l5 => k_is)
    (case c5 => k_is)
    (case k5 => k_is)
    (case a6 => k_is)
    (case i6 => k_is)
    (case l6 => k_is)
    (case c6 => k_is)
    (case k6 => k_is)
    (case a7 => k_is)
    (case l7 => k_is)
    (case c7 => k_is)
    (case k7 => k_is)
    (case a8 => k_is)
    (case l8 => k_is)
    (case c8 => k_is)
    (case k8 => k_is)
    (case a9 => k_is)
    (case l9 => k_is)
    (case c9 => k_is)
    (case k9 => k_is)
    (case a10 => k_is)
    (case l10 => k_is)
    (case c10 => k_is)
    (case k10 => k_is)
    (case a11 => k_is)
    (case l11 => k_is)
    (case c11 => k_is)
    (case k11 => k_is)
    (case a12 => k_is)
    (case l12 => k_is)
    (case c12 => k_is)
    (case k12 => k_is)
    (case a13 => k_is)
    (case l13 => k_is)
    (case c13 => k_is)
    (case k13 => k_is)
    (case a14 => k_is)
    (case l14 => k_is)
    (case c14 => k_is)
    (case k14 => k_is)
    (case a15 => k_is)
    (case l15 => k_is)
    (case c15 => k_is)
    (case k15 => k_is)
    (case a16 => k_is)
    (case l16 => k_is)
    (case c16 => k_is)
    (case k16 => k_is)
    (case a17 => k_is)
    (case l17 => k_is)
    (case c17 => k_is)
    (case k17 => k_is)
    (case a18 => k_is)
    (case l18 => k_is)
    (case c18 => k_is)
    (case k18 => k_is)
    (case a19 => k_is)
    (case l19 => k_is)
    (case c19 => k_is)
    (case k19 => k_is)
    (case a20 => k_is)
    (case l20 => k_is)
    (case c20 => k_is)
    (case k20 => k_is)
    (case uT20 => k_is)
    (case wT20 => rfl)
    (case hT20 => rfl)
    (case nT20 => rfl)
    (case a21 => k_is)
    (case l21 => k_is)
    (case c21 => k_is)
    (case k21 => k_is)
    (case a22 => k_is)
    (case l22 => k_is)
    (case c22 => k_is)
    (case k22 => k_is)
    (case a23 => k_is)
    (case l23 => k_is)
    (case c23 => k_is)
    (case k23 => k_is)
    (case a24 => k_is)
    (case l24 => k_is)
    (case c24 => k_is)
    (case k24 => k_is)
    (case a25 => k_is)
    (case l25 => k_is)
    (case c25 => k_is)
    (case k25 => k_is)
    (case a26 => k_is)
    (case l26 => k_is)
    (case c26 => k_is)
    (case k26 => k_is)
    (case a27 => k_is)
    (case l27 => k_is)
    (case c27 => k_is)
    (case k27 => k_is)
    (case a28 => k_is)
    (case l28 => k_is)
    (case c28 => k_is)
    (case k28 => k_is)
    (case a29 => k_is)
    (case l29 => k_is)
    (case c29 => k_is)
    (case k29 => k_is)
    (case a30 => k_is)
    (case l30 => k_is)
    (case c30 => k_is)
    (case k30 => k_is)
    (case a31 => k_is)
    (case l31 => k_is)
    (case c31 => k_is)
    (case k31 => k_is)
    (case a32 => k_is)
    (case l32 => k_is)
    (case c32 => k_is)
    (case k32 => k_is)
    (case a33 => k_is)
    (case l33 => k_is)
    (case c33 => k_is)
    (case k33 => k_is)
    (case a34 => k_is)
    (case l34 => k_is)
    (case c34 => k_is)
    (case k34 => k_is)
    (case a35 => k_is)
    (case l35 => k_is)
    (case c35 => k_is)
    (case k35 => k_is)
    (case a36 => k_is)
    (case l36 => k_is)
    (case c36 => k_is)
    (case k36 => k_is)
    (case a37 => k_is)
    (case l37 => k_is)
    (case c37 => k_is)
    (case k37 => k_is)
    (case a38 => k_is)
    (case l38 => k_is)
    (case c38 => k_is)
    (case k38 => k_is)
    (case a39 => k_is)
    (case l39 => k_is)
    (case c39 => k_is)
    (case k39 => k_is)
    (case a40 => k_is)
    (case l40 => k_is)
    (case c40 => k_is)
    (case k40 => k_is)
    (case a41 => k_is)
    (case l41 => k_is)
    (case c41 => k_is)
    (case k41 => k_is)
    (case a42 => k_is)
    (case l42 => k_is)
    (case c42 => k_is)
    (case k42 => k_is)
    (case a43 => k_is)
    (case l43 => k_is)
    (case c43 => k_is)
    (case k43 => k_is)
    (case a44 => k_is)
    (case l44 => k_is)
    (case c44 => k_is)
    (case k44 => k_is)
    (case a45 => k_is)
    (case l45 => k_is)
    (case c45 => k_is)
    (case k45 => k_is)
    (case a46 => k_is)
    (case l46 => k_is)
    (case c46 => k_is)
    (case k46 => k_is)
    (case a47 => k_is)
    (case l47 => k_is)
    (case c47 => k_is)
    (case k47 => k_is)
    (case a48 => k_is)
    (case l48 => k_is)
    (case c48 => k_is)
    (case k48 => k_is)
    (case a49 => k_is)
    (case l49 => k_is)
    (case c49 => k_is)
    (case k49 => k_is)
    (case a50 => k_is)
    (case l50 => k_is)
    (case c50 => k_is)
    (case k50 => k_is)
    (case a51 => k_is)
    (case l51 => k_is)
    (case c51 => k_is)
    (case k51 => k_is)
    (case a52 => k_is)
    (case l52 => k_is)
    (case c52 => k_is)
    (case k52 => k_is)
    (case a53 => k_is)
    (case l53 => k_is)
    (case c53 => k_is)
    (case k53 => k_is)
    (case a54 => k_is)
    (case l54 => k_is)
    (case c54 => k_is)
    (case k54 => k_is)
    (case a55 => k_is)
    (case i55 => k_is)
    (case l55 => k_is)
    (case c55 => k_is)
    (case k55 => k_is)
    (case a56 => k_is)
    (case q56 => k_is)
    (case t56 => k_is)
    (case r56 => k_is)
    (case l56 => k_is)
    (case c56 => k_is)
    (case k56 => k_is)
    (case a57 => k_is)
    (case q57 => k_is)
    (case t57 => k_is)
    (case r57 => k_is)
    (case l57 => k_is)
    (case c57 => k_is)
    (case k57 => k_is)
    (case a58 => k_is)
    (case i58 => k_is)
    (case l58 => k_is)
    (case c58 => k_is)
    (case k58 => k_is)
    (case a59 => k_is)
    (case i59 => k_is)
    (case l59 => k_is)
    (case c59 => k_is)
    (case k59 => k_is)
    (case a60 => k_is)
    (case i60 => k_is)
    (case l60 => k_is)
    (case c60 => k_is)
    (case k60 => k_is)
    (case a61 => k_is)
    (case i61 => k_is)
    (case l61 => k_is)
    (case c61 => k_is)
    (case k61 => k_is)
    (case a62 => k_is)
    (case l62 => k_is)
    (case c62 => k_is)
    (case k62 => k_is)
    (case a63 => k_is)
    (case l63 => k_is)
    (case c63 => k_is)
    (case k63 => k_is)
    (case a64 => k_is)
    (case l64 => k_is)
    (case c64 => k_is)
    (case k64 => k_is)
    (case a65 => k_is)
    (case l65 => k_is)
    (case c65 => k_is)
    (case k65 => k_is)
    (case a66 => k_is)
    (case l66 => k_is)
    (case c66 => k_is)
    (case k66 => k_is)
    (case a67 => k_is)
    (case l67 => k_is)
    (case c67 => k_is)
    (case k67 => k_is)
    (case a68 => k_is)
    (case l68 => k_is)
    (case c68 => k_is)
    (case k68 => k_is)
    (case a69 => k_is)
    (case l69 => k_is)
    (case c69 => k_is)
    (case k69 => k_is)
    (case a70 => k_is)
    (case l70 => k_is)
    (case c70 => k_is)
    (case k70 => k_is)
    (case a71 => k_is)
    (case l71 => k_is)
    (case c71 => k_is)
    (case k71 => k_is)
    (case a72 => k_is)
    (case l72 => k_is)
    (case c72 => k_is)
    (case k72 => k_is)
    (case a73 => k_is)
    (case l73 => k_is)
    (case c73 => k_is)
    (case k73 => k_is)
    (case a74 => k_is)
    (case l74 => k_is)
    (case c74 => k_is)
    (case k74 => k_is)
    (case a75 => k_is)
    (case l75 => k_is)
    (case c75 => k_is)
    (case k75 => k_is)
    (case a76 => k_is)
    (case l76 => k_is)
    (case c76 => k_is)
    (case k76 => k_is)
    (case a77 => k_is)
    (case l77 => k_is)
    (case c77 => k_is)
    (case k77 => k_is)
    (case a78 => k_is)
    (case l78 => k_is)
    (case c78 => k_is)
    (case k78 => k_is)
    (case a79 => k_is)
    (case l79 => k_is)
    (case c79 => k_is)
    (case k79 => k_is)
    (case a80 => k_is)
    (case l80 => k_is)
    (case c80 => k_is)
    (case k80 => k_is)
    (case m0 => k_is)
    (case m1 => k_is)
    (case m2 => k_is)
    (case m3 => k_is)
    (case m4 => k_is)
    (case z0 => k_is)
    (case z1 => k_is)
    (case z2 => k_is)
    (case z3 => k_is)
    (case z4 => k_is)
    (case z5 => k_is)
    (case z6 => k_is)
    (case z7 => k_is)
    (case z8 => k_is)
    (case z9 => k_is)
    (case z10 => k_is)
    (case z11 => k_is)
    (case z12 => k_is)
    (case z13 => k_is)
    (case z14 => k_is)
    (case z15 => k_is)
    (case z16 => k_is)
    (case z17 => k_is)
