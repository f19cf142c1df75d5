import PyProof.Rows.All
import HandS.Base
import HandS.Call
import HandS.List
import HandS.Comp
import HandS.Ends
import HandS.Dict
import HandS.Iter
import HandS.TupAny
import HandS.TupMul
import HandS.Conv
import HandS.Zip
import KE.GoesEnum
import KE.KDictKeyed
import KE.KDictLaw
import HandS.Words
import HandS.TupLe
import HandS.Wide
import HandS.Deep
import KE.KDictWalk
import HandS.IsInst
import HandS.SortInts
import HandS.Style
import HandS.NoneIn
import PyProof.AutoSeq1
import KE.DataFind
import HandS.More
import HandS.Strs
import HandS.RaiseMore
import HandS.SetFor
import HandS.Sort
import KE.KRevSl
import KE.KDictCopyH
import PyProof.FactsAll.set_1
import PyProof.FactsAll.set_2
import HandS.DictComp
import HandS.TupSets
import HandS.WordsList
import PySem.Challenge.RW_eggboxes_k27_whole_all_maps
section
set_option Elab.async false
set_option linter.all false
set_option maxRecDepth 100000
set_option maxHeartbeats 4000000
/-! Tuples on which no dict hangs: what makes one says so. -/
namespace Z
open PySem PySem.Spec L2
/-- a tuple that bears no dict -/
def TupO (K : PySem.W.Frag) (H : Hp) (a : Addr) (xs : List V) : Prop :=
  (∃ o, H a = some (.frz o (.tup xs)) ∧ o.dict = none) ∨
    ∃ (o : Obj) (its : Array Value) (n : Nat), K.lookup a = some o ∧ o.cls = .type "tuple" ∧ o.dict = none ∧ o.data = .seq its n ∧ its.size ≤ sizeLine ∧ Vals xs its.toList
theorem TupO.sqT {K : PySem.W.Frag} {H : Hp} {a : Addr} {xs : List V} (h : TupO K H a xs) : SqT K H a xs := by
  rcases h with ⟨o, h, _⟩ | ⟨o, its, n, h1, h2, _, h3⟩
  · exact .inl (.inr ⟨o, h⟩)
  · exact .inr ⟨o, its, n, h1, h2, h3⟩
/-- behind the making of a tuple -/
def NewT (H : Hp) (Q : VK) (xs : List V) : Prop := ∀ p o, H p = none → o.dict = none → Q (.ref p) (upd H p (.frz o (.tup xs)))
section
variable {X : Cx} {pins : List (Addr × Obj)} {σ : L2.St} {H : Hp} {s : Shared} {Q : VK} {xs : List V} {its : List Value} {tk : Nat}
theorem TupO.obj {a : Addr} (I : Inv X pins σ H s) (h : TupO X.K H a xs) : s.TypeIs (.ref a) "tuple" ∧ ∀ b, Value.ref a = .ref b → ∃ ob, s.heap.get? b = some ob ∧ ob.dict = none := by
  rcases h with ⟨o, h, hd⟩ | ⟨o, its, n, h1, h2, h3, _⟩
  · obtain ⟨e, _, _, _, o', e', hc, _⟩ := (show ObjOk X.prog X.w H s.heap a (.frz o (.tup xs)) from I.hok a _ h)
    rw [e] at e'
    cases e'
    refine ⟨⟨o, e, hc⟩, fun b z => ?_⟩
    cases z
    exact ⟨o, e, hd⟩
  · refine ⟨⟨o, I.kIn a o h1, h2⟩, fun b z => ?_⟩
    cases z
    exact ⟨o, I.kIn a o h1, h3⟩
theorem laidT (I : Inv X pins σ H s) (r : Vals xs its) (z : xs.length ≤ sizeLine) : Inv X pins σ (upd H s.heap.objs.size (.frz { cls := .type "tuple", data := .seq its.toArray } (.tup xs))) { s with heap := s.heap.push { cls := .type "tuple", data := .seq its.toArray }, toks := tk } :=
  I.laid (fun b ob q => Heap.get?_push_of_some _ q) (Nat.le_refl _) ⟨Heap.get?_push_size _ rfl, z, its, r, PyProof.Rows.IsTup.new _ _⟩
theorem NewT.ep (I : Inv X pins σ H s) (r : Vals xs its) (z : xs.length ≤ sizeLine) (h : NewT H Q xs) : EP X pins σ Q (.ref s.heap.objs.size) { s with heap := s.heap.push { cls := .type "tuple", data := .seq its.toArray }, toks := tk } :=
  ⟨.ref s.heap.objs.size, _, laidT I r z, rfl, h _ _ (I.hok.fresh (Nat.le_refl _)) rfl⟩
end
section
variable {X : Cx} {e a b : Expr} {es : List Expr} {t : TA} {pos p : Pos} {te : TE}
def tTupO (t : TA) : TE := fun σ H Q => t σ H fun xs G => xs.length ≤ sizeLine ∧ NewT G Q xs
theorem pe_tupO {k : Nat} (h : PA X es t) : PE X (.Tuple es k pos) (tTupO t) := by
  refine ⟨fun pins s σ H Q I hq => wpAny_Tuple_spliced (thn (h.run pos pins s σ H _ I hq) fun us s1 ⟨xs, G, J, r, z, q⟩ => ⟨by rw [← r.length]; exact z, ?_⟩)⟩
  exact q.ep (tk := s1.toks) J r z
def rCatO (K : PySem.W.Frag) : R2 := fun x y H Q => ∃ a b xs ys, x = .ref a ∧ y = .ref b ∧ SqT K H a xs ∧ SqT K H b ys ∧ xs.length + ys.length ≤ sizeLine ∧
  (xs = [] → Q (.ref b) H) ∧ (xs ≠ [] → ys = [] → Q (.ref a) H) ∧ (xs ≠ [] → ys ≠ [] → NewT H Q (xs ++ ys))
theorem op_catO : OpR X (binaryOp .Add) (rCatO X.K) := by
  intro pins s σ H x y v u Q I rx ry h
  obtain ⟨a, b, xs, ys, rfl, rfl, ha, hb, hz, q0, q1, q2⟩ := h
  cases rx
  cases ry
  obtain ⟨us, r1, p1, _⟩ := I.tuple ha
  obtain ⟨ws, r2, p2, _⟩ := I.tuple hb
  by_cases hx : xs = []
  · subst hx
    cases r1
    exact cat_tup0 p1 p2 ⟨.ref b, H, I, rfl, q0 rfl⟩
  · refine HT.cat_tup p1 p2 (fun z => hx (r1.nil_iff.mp z)) (fun z => ⟨.ref a, H, I, rfl, q1 hx (r2.nil_iff.mp z)⟩) (fun z => ?_) (by rw [← r1.length, ← r2.length]; exact hz)
    exact (q2 hx fun w => z (r2.nil_iff.mpr w)).ep (tk := s.toks) I (r1.append r2) (by rw [List.length_append]; exact hz)
theorem tuple_mul1 (l : Addr) (items : Array Value) (n : Nat) (dd : Option Addr) (sl : Array (Option Value)) (u : Tok) :
    Meets (Builtin.«tuple.__mul__» ⟨[.ref l, .int 1 u], []⟩) (fun _ R s => s.heap.get? l = some { cls := .type "tuple", dict := dd, data := .seq items n, slots := sl } ∧ R (.ok (.ret (Value.ref l))) s) :=
  .of_wp fun prog w A R s h => by
    obtain ⟨hp, gn, dr, tk, osx⟩ := s
    obtain ⟨hl, h⟩ := h
    have f1 := AutoSeq1.idx_int
    wp_walk using wpAny_loadPart' hl
    repeat (first
      | (refine wpAny_ite_false (decide_eq_false (by decide)) ?_; wp_walk using wpAny_loadPart' hl)
      | (refine wpAny_ite_true (by simp) ?_; wp_walk using wpAny_loadPart' hl))
    exact ⟨_, rfl, h⟩
/-- t * k, k not below 1 -/
def rRepO (K : PySem.W.Frag) : R2 := fun x y H Q => ∃ l k xs, x = .ref l ∧ y = .int k ∧ SqT K H l xs ∧ ((k = 1 ∧ Q (.ref l) H) ∨ (xs ≠ [] ∧ 2 ≤ k ∧ k ≤ 1000 ∧ xs.length ≤ 1000 ∧ NewT H Q (List.replicate k.toNat xs).flatten))
theorem op_repO : OpR X (binaryOp .Mult) (rRepO X.K) := by
  intro pins s σ H x y v u Q I rx ry h
  obtain ⟨l, k, xs, rfl, rfl, hT, h⟩ := h
  cases rx
  obtain ⟨t, rfl⟩ := ry
  obtain ⟨its, r, ⟨⟨cls, dd, data, sl⟩, ho, hc, n, hd⟩, _⟩ := I.tuple hT
  simp only at hc hd
  subst hc hd
  have hlen : its.length = xs.length := r.length.symm
  have go : ∀ {Q' : Value → Shared → Prop}, (∀ A', wpAny (model X.prog X.w) A' (call (.builtin "tuple.__mul__") [.ref l, .int k t]) Q' X.xe s) → wpAny (model X.prog X.w) X.A (binaryOp .Mult (.ref l) (.int k t)) Q' X.xe s := fun {Q'} hm =>
    wpAny_binaryOp_repeat_ref (T := "tuple") (U := "int") (by decide) ⟨_, ho, rfl⟩ (fun s' => typeIs_int s' k t) noFill_tuple_mul F.fills_int_mul F.slot_int_rmul repeat_tuple F.slot_int_index.lookup
      (call_meets F.slot_int_rmul (typeIs_int s k t) F.entry_int_rmul (F.args_int_rmul_2 _ _) (int_rmul_tuple k t l its.toArray n dd sl) ⟨ho, rfl, ⟨_, ho, rfl⟩, hm _⟩)
  rcases h with ⟨rfl, q⟩ | ⟨hne, h1, h2, hz, q⟩
  · exact go fun A' => call_meets F.slot_tuple_mul ⟨_, ho, rfl⟩ F.entry_tuple_mul (F.args_tuple_mul_2 _ _) (tuple_mul1 l its.toArray n dd sl t) ⟨ho, .ref l, H, I, rfl, q⟩
  · have his : its ≠ [] := fun e => hne (r.nil_iff.mp e)
    have emp : its.toArray.isEmpty = false := by cases its <;> first | exact absurd rfl his | rfl
    have esz : its.toArray.size = xs.length := by rw [List.size_toArray, hlen]
    have small : ((its.toArray.size : Nat) : Int) * k ≤ 1000000 := by
      rw [esz]
      have : ((xs.length : Nat) : Int) * k ≤ 1000 * k := Int.mul_le_mul_of_nonneg_right (by omega) (by omega)
      omega
    have flen : k.toNat * xs.length ≤ 1000 * 1000 := Nat.mul_le_mul (by omega) hz
    refine go fun A' => call_meets F.slot_tuple_mul ⟨_, ho, rfl⟩ F.entry_tuple_mul (F.args_tuple_mul_2 _ _) (tuple_mulW l its.toArray n dd sl k t (by rw [decide_eq_false (by omega), decide_eq_false (by omega)]; rfl)
      (by rw [emp, Bool.false_or]; exact beq_eq_false_iff_ne.mpr (by omega)) (by rw [emp, Bool.or_false]; exact decide_eq_false (by omega)) (by omega) (by unfold Builtin.Tuple.tupleTooMany; rw [sizeLine_eq]; exact decide_eq_false (by omega))
      (by rw [size_rep, List.size_toArray, PyProof.Rows.lm_len_rep_flat, hlen, sizeLine_eq]; omega)) ⟨ho, ?_⟩
    rw [size_rep]
    exact q.ep (tk := s.toks) I (r.rep k.toNat) (by rw [PyProof.Rows.lm_len_rep_flat, sizeLine_eq]; omega)
/-- tuple(list), tuple(tuple) -/
def rTupOf (K : PySem.W.Frag) : List V → Hp → VK → Prop := fun xs H Q => ∃ p ys, xs = [.ref p] ∧ ((SqL K H p ys ∧ NewT H Q ys) ∨ (SqT K H p ys ∧ Q (.ref p) H))
theorem cr_tupO : CallR X (.type "tuple") (rTupOf X.K) := by
  intro pins s σ H xs us Q I r h
  obtain ⟨p, ys, rfl, h⟩ := h
  obtain ⟨u, rfl, rx⟩ := vals1 r
  cases rx
  rcases h with ⟨hq, q⟩ | ⟨hq, q⟩
  · obtain ⟨its, rv, pl, hz⟩ := I.list hq
    refine call_tuple_list pl.isList (fun h' kp => ?_) (by rw [List.size_toArray, ← rv.length]; exact hz)
    exact q.ep (tk := s.toks) (I.kept (h' := h') (t' := s.toks) kp) rv hz
  · obtain ⟨its, rv, tp, _⟩ := I.tuple hq
    exact call_tuple_same tp ⟨.ref p, H, I, rfl, q⟩
def tTupRgO (tr : L2.St → Hp → (Int → Int → Hp → Prop) → Prop) : TE := fun σ H Q => tr σ H fun a b G => RgOk a b ∧ NewT G Q (rgV a b)
theorem pe_tupRgO {tr : L2.St → Hp → (Int → Int → Hp → Prop) → Prop} (hc : X.calm = true) (hg : Gl X "tuple") (hm : X.mg "tuple" = none) (he : PRg X e tr) (hs : starEach [e] X.env = (false, eval e X.env) :: starEach [] X.env) :
    PE X (.Call (.Name "tuple" p) [e] [] pos) (tTupRgO tr) := by
  refine ⟨fun pins s σ H Q I h => PyProof.Rows.Call_ (ld_blt I hg hm PyProof.Rows.boot_tuple (PyProof.Rows.callWith_type1 (PyProof.Rows.args_cons (thn (he pins s σ H _ I h) fun x s1 ⟨r, a, b, t, u, v, G, ex, hr, J, ⟨b1, b2, b3, b4, b5⟩, q⟩ => PyProof.Rows.args_nil ?_) hs) hs))⟩
  subst ex
  refine call_tuple_range (n := (b - a).toNat) (J.ok.hd hc) hr (small_one b1 b2 b3 b4) (PyProof.Rows.rangeSize_nat a b) b5 fun h' tk acc hk hi => ?_
  have z := q.ep (tk := tk) (J.kept (h' := h') (t' := tk) hk) (vals_rg hi) (by rw [rgV_length, sizeLine_eq]; omega)
  rw [Array.toArray_toList] at z
  exact z
/-- t[lo:hi] -/
def rSlO (K : PySem.W.Frag) : V → Option Int → Option Int → Hp → VK → Prop := fun x lo hi H Q => ∃ a xs, x = .ref a ∧ SqT K H a xs ∧
  (HT.sIx xs.length 0 lo = 0 ∧ HT.sIx xs.length xs.length hi = xs.length → Q (.ref a) H) ∧ (¬ (HT.sIx xs.length 0 lo = 0 ∧ HT.sIx xs.length xs.length hi = xs.length) → NewT H Q (cutV xs lo hi))
theorem sl_tupO : SlR X (rSlO X.K) := by
  intro pins s σ H x v vl vu lo hi sl Q I rx hs pl pu h
  obtain ⟨a, xs, rfl, hx, q1, q2⟩ := h
  cases rx
  obtain ⟨its, r, ht, hz⟩ := I.tuple hx
  have hlen : its.toArray.size = xs.length := by rw [List.size_toArray]; exact r.length.symm
  refine ⟨"tuple", _, PyProof.Rows.slot_tuple_getitem.lookup, ht.typeIs, ?_⟩
  by_cases hw : HT.sIx xs.length 0 lo = 0 ∧ HT.sIx xs.length xs.length hi = xs.length
  · exact getItem_tuple_whole ht hs pl pu (by rw [hlen]; exact hw) ⟨.ref a, H, I, rfl, q1 hw⟩
  · refine HT.getItem_tuple_cut ht hs pl pu (by rw [hlen]; exact hw) ?_ (by rw [hlen]; exact hz)
    rw [hlen]
    exact (q2 hw).ep (tk := s.toks) I ((r.drop _).take _) (Nat.le_trans (cutV_length xs lo hi) hz)
end
end Z
end
section
set_option Elab.async false
set_option linter.all false
set_option maxRecDepth 100000
/-! Values without addresses, and how the heap bears them. -/
namespace Z
open PySem PySem.Spec L2

abbrev D := PyData
/-- what an expression gives, what a slot holds: data that nobody changes any more; a list or dict of one's own (lck: while a loop walks it); the slot that holds it; the law's draws; nothing known -/
inductive RV where
  | val (d : D) | own (d : D) | lck (d : D) | slot (i : Nat) | lal (i : Nat) (d : D) | deck | scr | junk
abbrev Sto := List (Option RV)
/-- what a slot may hold -/
def RV.inEnv : RV → Bool
  | .slot _ => false
  | .lal _ _ => false
  | .junk => false
  | _ => true

/-- the written part, the world -/
structure Kw where
  K : PySem.W.Frag
  w : World

/-! ### dicts -/
mutual
/-- d as a key: no bool, list, dict within -/
def nk : D → Option NestedKey
  | .none => some .none
  | .int i => some (.num i)
  | .str x => some (.text x)
  | .tuple ds => (nks ds).map .tup
  | _ => none
def nks : List D → Option (List NestedKey)
  | [] => some []
  | d :: ds => match nk d, nks ds with
    | some k, some ks => some (k :: ks)
    | _, _ => none
end
mutual
/-- v is d, tuples all the way down -/
inductive Imm (K : PySem.W.Frag) (H : Hp) : V → D → Prop
  | non : Imm K H .non .none
  | bl (b : Bool) : Imm K H (.bl b) (.bool b)
  | int (i : Int) : Imm K H (.int i) (.int i)
  | str (x : Str) : Imm K H (.str x) (.str x)
  | tup {a : Addr} {xs : List V} {ds : List D} : TupO K H a xs → ImmL K H xs ds → Imm K H (.ref a) (.tuple ds)
inductive ImmL (K : PySem.W.Frag) (H : Hp) : List V → List D → Prop
  | nil : ImmL K H [] []
  | cons {v : V} {vs : List V} {d : D} {ds : List D} : Imm K H v d → ImmL K H vs ds → ImmL K H (v :: vs) (d :: ds)
end
/-- an entry of a dict: its key k, its value v -/
def EntAt (K : Kw) (H : Hp) (e : DictEntry) (p : D × V) : Prop := RelV p.2 e.val ∧ ∃ n x, nk p.1 = some n ∧ n.depth ≤ 8 ∧ e.hash = n.hash K.w ∧ RelV x e.key ∧ Imm K.K H x p.1
/-- a dict's object -/
def dO (a : Addr) (es : Array DictEntry) (ep : Nat) : HO := .ext fun h => (a == sysModules) = false ∧ es.size ≤ sizeLine ∧ h.DictRaw a es ep
/-- a dict's keys and values at a -/
def DicAt (K : Kw) (H : Hp) (a : Addr) (kvs : List (D × V)) : Prop :=
  ∃ es ep, H a = some (dO a es ep) ∧ Paired (EntAt K H) es.toList kvs ∧ (kvs.map (·.1)).Nodup

mutual
/-- v is d; the lists and dicts in it are at addresses of F -/
inductive Rep (K : Kw) (F : Addr → Prop) (H : Hp) : V → D → Prop
  | non : Rep K F H .non .none
  | bl (b : Bool) : Rep K F H (.bl b) (.bool b)
  | int (i : Int) : Rep K F H (.int i) (.int i)
  | str (x : Str) : Rep K F H (.str x) (.str x)
  | tup {a : Addr} {xs : List V} {ds : List D} : TupO K.K H a xs → RepL K F H xs ds → Rep K F H (.ref a) (.tuple ds)
  | lst {a : Addr} {xs : List V} {ds : List D} : F a → H a = some (.lst xs) → RepL K F H xs ds → Rep K F H (.ref a) (.list ds)
  | dic {a : Addr} {ks : List (D × V)} {kvs : List (D × D)} : F a → DicAt K H a ks → RepK K F H ks kvs → Rep K F H (.ref a) (.dict kvs)
inductive RepL (K : Kw) (F : Addr → Prop) (H : Hp) : List V → List D → Prop
  | nil : RepL K F H [] []
  | cons {v : V} {vs : List V} {d : D} {ds : List D} : Rep K F H v d → RepL K F H vs ds → RepL K F H (v :: vs) (d :: ds)
inductive RepK (K : Kw) (F : Addr → Prop) (H : Hp) : List (D × V) → List (D × D) → Prop
  | nil : RepK K F H [] []
  | cons {k : D} {v : V} {d : D} {ks : List (D × V)} {kvs : List (D × D)} : Rep K F H v d → RepK K F H ks kvs → RepK K F H ((k, v) :: ks) ((k, d) :: kvs)
end

/-- what is kept from H to H': what F holds, tuples, what is locked -/
structure Stab (F : Addr → Prop) (H H' : Hp) : Prop where
  f : ∀ a, F a → H' a = H a
  t : ∀ a xs, H a = some (.tup xs) → H' a = some (.tup xs)
  z : ∀ a o u, H a = some (.frz o u) → H' a = some (.frz o u)
theorem Stab.refl {F : Addr → Prop} {H : Hp} : Stab F H H := ⟨fun _ _ => rfl, fun _ _ h => h, fun _ _ _ h => h⟩
theorem Stab.trans {F F' : Addr → Prop} {H H' H'' : Hp} (hF : ∀ a, F a → F' a) (s : Stab F H H') (s' : Stab F' H' H'') : Stab F H H'' :=
  ⟨fun a h => (s'.f a (hF a h)).trans (s.f a h), fun a xs h => s'.t a xs (s.t a xs h), fun a o u h => s'.z a o u (s.z a o u h)⟩
/-- a heap that keeps all that was there -/
theorem Stab.ext {F : Addr → Prop} {H H' : Hp} (hf : ∀ a, F a → (H a).isSome = true) (h : ∀ a o, H a = some o → H' a = some o) : Stab F H H' :=
  ⟨fun a q => by
    obtain ⟨o, e⟩ := Option.isSome_iff_exists.mp (hf a q)
    rw [e]; exact h a o e, fun a xs q => h a _ q, fun a o u q => h a _ q⟩
theorem Stab.upd {F : Addr → Prop} {H : Hp} {a : Addr} {o : HO} (hF : ¬ F a) (ht : ∀ xs, H a ≠ some (.tup xs)) (hz : ∀ o u, H a ≠ some (.frz o u)) : Stab F H (upd H a o) :=
  ⟨fun b h => upd_ne fun e => hF (by rw [← e]; exact h), fun b xs h => (upd_ne fun e => ht xs (by rw [← e]; exact h)).trans h, fun b o' u h => (upd_ne fun e => hz o' u (by rw [← e]; exact h)).trans h⟩

section
variable {K : Kw} {F F' : Addr → Prop} {H H' : Hp}
theorem Stab.tupO (s : Stab F H H') {a : Addr} {xs : List V} (h : TupO K.K H a xs) : TupO K.K H' a xs := by
  rcases h with ⟨o, h, hd⟩ | h
  · exact .inl ⟨o, s.z _ _ _ h, hd⟩
  · exact .inr h
mutual
theorem Imm.mono (s : Stab F H H') : ∀ {v : V} {d : D}, Imm K.K H v d → Imm K.K H' v d
  | _, _, .non => .non
  | _, _, .bl b => .bl b
  | _, _, .int i => .int i
  | _, _, .str x => .str x
  | _, _, .tup h r => .tup (s.tupO h) (r.mono s)
theorem ImmL.mono (s : Stab F H H') : ∀ {v : List V} {d : List D}, ImmL K.K H v d → ImmL K.K H' v d
  | _, _, .nil => .nil
  | _, _, .cons h r => .cons (h.mono s) (r.mono s)
end
theorem EntAt.mono (s : Stab F H H') {e : DictEntry} {p : D × V} (h : EntAt K H e p) : EntAt K H' e p := by
  obtain ⟨h1, n, x, h2, h3, h4, h5, h6⟩ := h
  exact ⟨h1, n, x, h2, h3, h4, h5, h6.mono s⟩
theorem DicAt.mono (s : Stab F H H') {a : Addr} {kvs : List (D × V)} (e : H' a = H a) (h : DicAt K H a kvs) : DicAt K H' a kvs := by
  obtain ⟨es, ep, h1, h2, h3⟩ := h
  exact ⟨es, ep, e.trans h1, L2.Paired.mapP h2 fun _ _ q => q.mono s, h3⟩
mutual
theorem Rep.mono (hF : ∀ a, F a → F' a) (s : Stab F H H') : ∀ {v : V} {d : D}, Rep K F H v d → Rep K F' H' v d
  | _, _, .non => .non
  | _, _, .bl b => .bl b
  | _, _, .int i => .int i
  | _, _, .str x => .str x
  | _, _, .tup h r => .tup (s.tupO h) (r.mono hF s)
  | _, _, .lst f h r => .lst (hF _ f) ((s.f _ f).trans h) (r.mono hF s)
  | _, _, .dic f h r => .dic (hF _ f) (h.mono s (s.f _ f)) (r.mono hF s)
theorem RepL.mono (hF : ∀ a, F a → F' a) (s : Stab F H H') : ∀ {v : List V} {d : List D}, RepL K F H v d → RepL K F' H' v d
  | _, _, .nil => .nil
  | _, _, .cons h r => .cons (h.mono hF s) (r.mono hF s)
theorem RepK.mono (hF : ∀ a, F a → F' a) (s : Stab F H H') : ∀ {v : List (D × V)} {d : List (D × D)}, RepK K F H v d → RepK K F' H' v d
  | _, _, .nil => .nil
  | _, _, .cons h r => .cons (h.mono hF s) (r.mono hF s)
end
theorem RepL.length : ∀ {xs : List V} {ds : List D}, RepL K F H xs ds → xs.length = ds.length
  | _, _, .nil => rfl
  | _, _, .cons _ r => by rw [List.length_cons, List.length_cons, r.length]
theorem RepK.length : ∀ {xs : List (D × V)} {ds : List (D × D)}, RepK K F H xs ds → xs.length = ds.length
  | _, _, .nil => rfl
  | _, _, .cons _ r => by rw [List.length_cons, List.length_cons, r.length]
theorem RepL.append : ∀ {xs ys : List V} {ds es : List D}, RepL K F H xs ds → RepL K F H ys es → RepL K F H (xs ++ ys) (ds ++ es)
  | _, _, _, _, .nil, q => q
  | _, _, _, _, .cons h r, q => .cons h (r.append q)
theorem RepL.get : ∀ {xs : List V} {ds : List D} {i : Nat} {d : D}, RepL K F H xs ds → ds[i]? = some d → ∃ v, xs[i]? = some v ∧ Rep K F H v d
  | _, _, 0, _, .cons h _, e => by
    have e' : _ = _ := Option.some.inj e
    subst e'
    exact ⟨_, rfl, h⟩
  | _, _, i + 1, d, .cons _ r, e => by
    obtain ⟨v, h1, h2⟩ := r.get (i := i) (d := d) e
    exact ⟨v, h1, h2⟩
theorem RepL.getV : ∀ {xs : List V} {ds : List D} {i : Nat} {v : V}, RepL K F H xs ds → xs[i]? = some v → ∃ d, ds[i]? = some d ∧ Rep K F H v d
  | _, _, 0, _, .cons h _, e => by
    have e' : _ = _ := Option.some.inj e
    subst e'
    exact ⟨_, rfl, h⟩
  | _, _, i + 1, d, .cons _ r, e => by
    obtain ⟨v, h1, h2⟩ := r.getV (i := i) (v := d) e
    exact ⟨v, h1, h2⟩
theorem RepL.take : ∀ {xs : List V} {ds : List D} (n : Nat), RepL K F H xs ds → RepL K F H (xs.take n) (ds.take n)
  | _, _, 0, _ => .nil
  | _, _, _ + 1, .nil => .nil
  | _, _, n + 1, .cons h r => .cons h (r.take n)
theorem RepL.drop : ∀ {xs : List V} {ds : List D} (n : Nat), RepL K F H xs ds → RepL K F H (xs.drop n) (ds.drop n)
  | _, _, 0, r => r
  | _, _, _ + 1, .nil => .nil
  | _, _, n + 1, .cons _ r => RepL.drop n r
theorem RepL.set : ∀ {xs : List V} {ds : List D} (n : Nat) {v : V} {d : D}, RepL K F H xs ds → Rep K F H v d → RepL K F H (xs.set n v) (ds.set n d)
  | _, _, _, _, _, .nil, _ => .nil
  | _, _, 0, _, _, .cons _ r, h => .cons h r
  | _, _, n + 1, _, _, .cons q r, h => .cons q (r.set n h)
theorem RepL.eraseIdx : ∀ {xs : List V} {ds : List D} (n : Nat), RepL K F H xs ds → RepL K F H (xs.eraseIdx n) (ds.eraseIdx n)
  | _, _, _, .nil => .nil
  | _, _, 0, .cons _ r => r
  | _, _, n + 1, .cons q r => .cons q (r.eraseIdx n)
theorem RepL.reverse : ∀ {xs : List V} {ds : List D}, RepL K F H xs ds → RepL K F H xs.reverse ds.reverse
  | _, _, .nil => .nil
  | _, _, .cons h r => by
    rw [List.reverse_cons, List.reverse_cons]
    exact r.reverse.append (.cons h .nil)
theorem RepL.mem : ∀ {xs : List V} {ds : List D} {v : V}, RepL K F H xs ds → v ∈ xs → ∃ d, d ∈ ds ∧ Rep K F H v d
  | _, _, _, .cons h r, m => by
    rcases List.mem_cons.mp m with rfl | m
    · exact ⟨_, List.mem_cons_self, h⟩
    · obtain ⟨d, h1, h2⟩ := r.mem m
      exact ⟨d, List.mem_cons_of_mem _ h1, h2⟩
theorem RepL.of_get : ∀ {xs : List V} {ds : List D}, xs.length = ds.length → (∀ (i : Nat) (v : V) (d : D), xs[i]? = some v → ds[i]? = some d → Rep K F H v d) → RepL K F H xs ds
  | [], [], _, _ => .nil
  | [], _ :: _, e, _ => by simp at e
  | _ :: _, [], e, _ => by simp at e
  | x :: xs, d :: ds, e, h => .cons (h 0 x d rfl rfl) (RepL.of_get (by simpa using e) fun i v d' h1 h2 => h (i + 1) v d' h1 h2)
theorem RepL.ints : ∀ (ns : List Int), RepL K F H (ns.map V.int) (ns.map PyData.int)
  | [] => .nil
  | n :: ns => .cons (.int n) (RepL.ints ns)
/-- a list of ints is just so -/
theorem Rep.int_of {v : V} {i : Int} (h : Rep K F H v (.int i)) : v = .int i := by cases h; rfl
theorem Rep.bool_of {v : V} {i : Bool} (h : Rep K F H v (.bool i)) : v = .bl i := by cases h; rfl
theorem Rep.str_of {v : V} {i : Str} (h : Rep K F H v (.str i)) : v = .str i := by cases h; rfl
theorem Rep.none_of {v : V} (h : Rep K F H v .none) : v = .non := by cases h; rfl
theorem Rep.tup_of {v : V} {ds : List D} (h : Rep K F H v (.tuple ds)) : ∃ a xs, v = .ref a ∧ TupO K.K H a xs ∧ RepL K F H xs ds := by
  cases h with
  | tup h r => exact ⟨_, _, rfl, h, r⟩
theorem Rep.lst_of {v : V} {ds : List D} (h : Rep K F H v (.list ds)) : ∃ a xs, v = .ref a ∧ F a ∧ H a = some (.lst xs) ∧ RepL K F H xs ds := by
  cases h with
  | lst f h r => exact ⟨_, _, rfl, f, h, r⟩
theorem Rep.dic_of {v : V} {kvs : List (D × D)} (h : Rep K F H v (.dict kvs)) : ∃ a ks, v = .ref a ∧ F a ∧ DicAt K H a ks ∧ RepK K F H ks kvs := by
  cases h with
  | dic f h r => exact ⟨_, _, rfl, f, h, r⟩
theorem RepL.ints_of : ∀ {ns : List Int} {xs : List V}, RepL K F H xs (ns.map PyData.int) → xs = ns.map V.int
  | [], _, h => by
    rw [List.map_nil] at h; cases h; rfl
  | n :: ns, _, h => by
    rw [List.map_cons] at h
    cases h with
    | cons h r => rw [h.int_of, r.ints_of]; rfl
theorem RepL.bools_of : ∀ {ns : List Bool} {xs : List V}, RepL K F H xs (ns.map PyData.bool) → xs = ns.map V.bl
  | [], _, h => by
    rw [List.map_nil] at h; cases h; rfl
  | n :: ns, _, h => by
    rw [List.map_cons] at h
    cases h with
    | cons h r => rw [h.bool_of, r.bools_of]; rfl
end

/-! ### owners -/
inductive Ow where
  | slot (i : Nat) | tmp (k : Nat) | deck
  deriving DecidableEq
/-- what the law's draws are in the heap: an object at p, its list at q -/
structure DkT where
  P : Hp → Addr → Addr → Prop
  S : ∀ {H H' : Hp} {p q : Addr}, P H p q → H' p = H p → H' q = H q → P H' p q
/-- what does not change in a body: the written part, the heap at the entry, what was given, what the draws are -/
structure Cn where
  K : Kw
  H0 : Hp
  F0 : Addr → Prop
  dk0 : Option (Addr × Addr)
  T : DkT
  scr : Option (Addr × List V)
/-- the script: a list that nobody may change -/
def ScrAt (K : PySem.W.Frag) (H : Hp) (a : Addr) (xs : List V) : Prop :=
  (∃ o, H a = some (.frz o (.lst xs))) ∨
    ∃ (o : Obj) (its : Array Value) (n : Nat), K.lookup a = some o ∧ o.cls = .type "list" ∧ o.dict = none ∧ o.data = .seq its n ∧ its.size ≤ sizeLine ∧ Vals xs its.toList
theorem ScrAt.sqL {K : PySem.W.Frag} {H : Hp} {a : Addr} {xs : List V} (h : ScrAt K H a xs) : SqL K H a xs := h.imp_left .inr
theorem ScrAt.mono {K : PySem.W.Frag} {F : Addr → Prop} {H H' : Hp} {a : Addr} {xs : List V} (s : Stab F H H') (h : ScrAt K H a xs) : ScrAt K H' a xs := h.imp_left fun ⟨o, h⟩ => ⟨o, s.z _ _ _ h⟩
structure Wd where
  F : Addr → Prop
  ow : Addr → Option Ow
  dk : Option (Addr × Addr)

/-- the content of a list or dict of one's own -/
def ObR (K : Kw) (F : Addr → Prop) (H : Hp) (a : Addr) : D → Prop
  | .list ds => ∃ xs, H a = some (.lst xs) ∧ RepL K F H xs ds
  | .dict kvs => ∃ ks, DicAt K H a ks ∧ RepK K F H ks kvs
  | _ => False
def RelR (C : Cn) (W : Wd) (H : Hp) (σ : St) (o : Ow) (v : V) : RV → Prop
  | .val d => Rep C.K W.F H v d
  | .own d => ∃ a, v = .ref a ∧ W.ow a = some o ∧ ObR C.K W.F H a d
  | .slot j => σ[j]? = some (some v)
  | .lal j _ => σ[j]? = some (some v)
  | .lck d => ∃ a, v = .ref a ∧ W.ow a = some o ∧ ObR C.K W.F H a d
  | .junk => True
  | .scr => ∃ a xs, C.scr = some (a, xs) ∧ v = .ref a
  | .deck => ∃ p q, W.dk = some (p, q) ∧ v = .ref p
def TsOk (C : Cn) (W : Wd) (H : Hp) (σ : St) : List V → List RV → Prop
  | [], [] => True
  | v :: tv, r :: τ => RelR C W H σ (.tmp τ.length) v r ∧ TsOk C W H σ tv τ
  | _, _ => False
structure Gd (C : Cn) (W : Wd) (H : Hp) (σ : St) (δ : Sto) (tv : List V) (τ : List RV) : Prop where
  len : σ.length = δ.length
  prot : ∀ a o, C.H0 a = some o → (∃ p q, C.dk0 = some (p, q) ∧ (a = p ∨ a = q)) ∨ (W.ow a = none ∧ H a = some o)
  dk0 : ∀ p q, C.dk0 = some (p, q) → W.dk = some (p, q)
  frz : ∀ a, W.F a → W.ow a = none
  fnew : ∀ a, W.F a → C.F0 a ∨ C.H0 a = none
  live : ∀ a, (W.ow a).isSome = true → (H a).isSome = true
  flive : ∀ a, W.F a → (H a).isSome = true
  slots : ∀ i r, δ[i]? = some (some r) → r.inEnv = true ∧ ∃ v, σ[i]? = some (some v) ∧ RelR C W H σ (.slot i) v r
  temps : TsOk C W H σ tv τ
  lk : ∀ j d, RV.lal j d ∈ τ → δ[j]? = some (some (.lck d))
  deck : ∀ p q, W.dk = some (p, q) → p ≠ q ∧ C.T.P H p q ∧ W.ow p = some .deck ∧ W.ow q = some .deck
  soft : ∀ a, (W.ow a).isSome = true → (∀ xs, H a ≠ some (.tup xs)) ∧ (∀ o u, H a ≠ some (.frz o u))
  scr : ∀ a xs, C.scr = some (a, xs) → ScrAt C.K.K H a xs

theorem TsOk.length {C : Cn} {W : Wd} {H : Hp} {σ : St} : ∀ {tv : List V} {τ : List RV}, TsOk C W H σ tv τ → tv.length = τ.length
  | [], [], _ => rfl
  | _ :: _, _ :: _, h => by rw [List.length_cons, List.length_cons, TsOk.length h.2]
  | [], _ :: _, h => h.elim
  | _ :: _, [], h => h.elim

/-- how the world may go on: what is frozen stays so; each owner's object stays; the draws stay -/
structure Nxt (C : Cn) (W W' : Wd) (H H' : Hp) : Prop where
  F : ∀ a, W.F a → W'.F a
  st : Stab W.F H H'
  ow : ∀ a o, W.ow a = some o → o ≠ .deck → W'.ow a = some o ∧ H' a = H a
  dk : ∀ p q, W.dk = some (p, q) → W'.dk = some (p, q)
theorem ObR.mono {K : Kw} {F F' : Addr → Prop} {H H' : Hp} {a : Addr} {d : D} (hF : ∀ a, F a → F' a) (s : Stab F H H') (e : H' a = H a) (h : ObR K F H a d) : ObR K F' H' a d := by
  cases d with
  | list ds =>
    obtain ⟨xs, h1, h2⟩ := h
    exact ⟨xs, e.trans h1, h2.mono hF s⟩
  | dict kvs =>
    obtain ⟨ks, h1, h2⟩ := h
    exact ⟨ks, h1.mono s e, h2.mono hF s⟩
  | _ => exact (show False from h).elim
theorem RelR.mono {C : Cn} {W W' : Wd} {H H' : Hp} {σ : St} {o : Ow} {v : V} {r : RV} (n : Nxt C W W' H H') (ho : o ≠ .deck) (h : RelR C W H σ o v r) : RelR C W' H' σ o v r := by
  cases r with
  | val d => exact Rep.mono n.F n.st h
  | own d =>
    obtain ⟨a, e, h1, h2⟩ := h
    obtain ⟨h3, h4⟩ := n.ow a o h1 ho
    exact ⟨a, e, h3, h2.mono n.F n.st h4⟩
  | slot j => exact h
  | lal j d => exact h
  | junk => trivial
  | scr => exact h
  | lck d =>
    obtain ⟨a, e, h1, h2⟩ := h
    obtain ⟨h3, h4⟩ := n.ow a o h1 ho
    exact ⟨a, e, h3, h2.mono n.F n.st h4⟩
  | deck =>
    obtain ⟨p, q, e, h⟩ := h
    exact ⟨p, q, n.dk p q e, h⟩
theorem TsOk.mono {C : Cn} {W W' : Wd} {H H' : Hp} {σ : St} (n : Nxt C W W' H H') : ∀ {tv : List V} {τ : List RV}, TsOk C W H σ tv τ → TsOk C W' H' σ tv τ
  | [], [], _ => trivial
  | _ :: _, _ :: _, h => ⟨RelR.mono n (by intro e; cases e) h.1, TsOk.mono n h.2⟩
  | [], _ :: _, h => h.elim
  | _ :: _, [], h => h.elim
/-- the world goes on -/
theorem Gd.go {C : Cn} {W W' : Wd} {H H' : Hp} {σ : St} {δ : Sto} {tv : List V} {τ : List RV} (g : Gd C W H σ δ tv τ) (n : Nxt C W W' H H')
    (prot : ∀ a o, C.H0 a = some o → W.ow a = none → H a = some o → W'.ow a = none ∧ H' a = some o) (frz : ∀ a, W'.F a → W'.ow a = none) (fnew : ∀ a, W'.F a → C.F0 a ∨ C.H0 a = none)
    (live : ∀ a, (W'.ow a).isSome = true → (H' a).isSome = true) (flive : ∀ a, W'.F a → (H' a).isSome = true)
    (deck : ∀ p q, W'.dk = some (p, q) → p ≠ q ∧ C.T.P H' p q ∧ W'.ow p = some .deck ∧ W'.ow q = some .deck)
    (soft : ∀ a, (W'.ow a).isSome = true → (∀ xs, H' a ≠ some (.tup xs)) ∧ (∀ o u, H' a ≠ some (.frz o u))) : Gd C W' H' σ δ tv τ :=
  ⟨g.len, fun a o e => (g.prot a o e).imp_right fun h => prot a o e h.1 h.2, fun p q e => n.dk p q (g.dk0 p q e), frz, fnew, live, flive, fun i r e => by
    obtain ⟨h1, v, h2, h3⟩ := g.slots i r e
    exact ⟨h1, v, h2, RelR.mono n (by intro e; cases e) h3⟩, g.temps.mono n, g.lk, deck, soft, fun a xs e => (g.scr a xs e).mono n.st⟩
end Z
end
section
set_option Elab.async false
set_option linter.all false
set_option maxRecDepth 100000
namespace Z
open PySem PySem.Spec L2

/-- the content of a slot -/
def conS : Option (Option RV) → Option D
  | some (some (.val d)) => some d
  | some (some (.own d)) => some d
  | some (some (.lck d)) => some d
  | _ => none
/-- the data that stands behind what an expression gives -/
def con (δ : Sto) : RV → Option D
  | .val d => some d
  | .own d => some d
  | .lck d => some d
  | .slot j => conS δ[j]?
  | .lal _ d => some d
  | _ => none

/-- v can be read as d -/
def Brs (K : Kw) (F : Addr → Prop) (H : Hp) (v : V) : D → Prop
  | .list ds => ∃ a xs, v = .ref a ∧ H a = some (.lst xs) ∧ RepL K F H xs ds
  | .dict kvs => ∃ a ks, v = .ref a ∧ DicAt K H a ks ∧ RepK K F H ks kvs
  | d => Rep K F H v d
theorem Rep.brs {K : Kw} {F : Addr → Prop} {H : Hp} {v : V} {d : D} (h : Rep K F H v d) : Brs K F H v d := by
  cases h with
  | lst f h r => exact ⟨_, _, rfl, h, r⟩
  | dic f h r => exact ⟨_, _, rfl, h, r⟩
  | non => exact .non
  | bl b => exact .bl b
  | int i => exact .int i
  | str i => exact .str i
  | tup h r => exact .tup h r
theorem ObR.brs {K : Kw} {F : Addr → Prop} {H : Hp} {a : Addr} {d : D} (h : ObR K F H a d) : Brs K F H (.ref a) d := by
  cases d with
  | list ds => obtain ⟨xs, h1, h2⟩ := h; exact ⟨a, xs, rfl, h1, h2⟩
  | dict kvs => obtain ⟨ks, h1, h2⟩ := h; exact ⟨a, ks, rfl, h1, h2⟩
  | _ => exact (show False from h).elim

section
variable {C : Cn} {W : Wd} {H : Hp} {σ : L2.St} {δ : Sto} {tv : List V} {τ : List RV} {v : V} {r : RV} {d : D} {a p : Addr} {i j : Nat}

theorem RelR.brs {o : Ow} (hr : r.inEnv = true ∨ r = .junk) (h : RelR C W H σ o v r) (e : con δ r = some d) : Brs C.K W.F H v d := by
  cases r with
  | val d' => cases e; exact Rep.brs h
  | own d' => cases e; obtain ⟨a, rfl, _, h⟩ := h; exact h.brs
  | lck d' => cases e; obtain ⟨a, rfl, _, h⟩ := h; exact h.brs
  | slot j => rcases hr with hr | hr <;> cases hr
  | lal j d => rcases hr with hr | hr <;> cases hr
  | deck => cases e
  | scr => cases e
  | junk => cases e
theorem Gd.slot (g : Gd C W H σ δ tv τ) (e : δ[j]? = some (some r)) : r.inEnv = true ∧ ∃ v, σ[j]? = some (some v) ∧ RelR C W H σ (.slot j) v r := g.slots j r e
/-- a slot's content -/
theorem Gd.slot_brs (g : Gd C W H σ δ tv τ) (hv : σ[j]? = some (some v)) (e : conS δ[j]? = some d) : Brs C.K W.F H v d := by
  cases h : δ[j]? with
  | none => rw [h] at e; cases e
  | some o =>
    cases o with
    | none => rw [h] at e; cases e
    | some r =>
      obtain ⟨h1, u, h2, h3⟩ := g.slots j r h
      rw [hv] at h2
      have e2 : v = u := Option.some.inj (Option.some.inj h2)
      subst e2
      rw [h] at e
      refine h3.brs (δ := δ) (.inl h1) ?_
      cases r <;> first | exact e | cases e
/-- what the newest value holds -/
theorem Gd.brs (g : Gd C W H σ δ (v :: tv) (r :: τ)) (e : con δ r = some d) : Brs C.K W.F H v d := by
  cases r with
  | slot j => exact g.slot_brs g.temps.1 e
  | lal j d' =>
    cases e
    exact g.slot_brs g.temps.1 (by rw [g.lk j d List.mem_cons_self]; rfl)
  | val d' => exact RelR.brs (δ := δ) (.inl rfl) g.temps.1 e
  | own d' => exact RelR.brs (δ := δ) (.inl rfl) g.temps.1 e
  | lck d' => exact RelR.brs (δ := δ) (.inl rfl) g.temps.1 e
  | deck => cases e
  | scr => cases e
  | junk => cases e
theorem Gd.pop (g : Gd C W H σ δ (v :: tv) (r :: τ)) : Gd C W H σ δ tv τ := ⟨g.len, g.prot, g.dk0, g.frz, g.fnew, g.live, g.flive, g.slots, g.temps.2, fun j d h => g.lk j d (List.mem_cons_of_mem _ h), g.deck, g.soft, g.scr⟩
/-- no locked alias -/
def RV.free : RV → Bool
  | .lal _ _ => false
  | _ => true
theorem Gd.push (g : Gd C W H σ δ tv τ) (h : RelR C W H σ (.tmp τ.length) v r) (hr : r.free = true := by rfl) : Gd C W H σ δ (v :: tv) (r :: τ) :=
  ⟨g.len, g.prot, g.dk0, g.frz, g.fnew, g.live, g.flive, g.slots, ⟨h, g.temps⟩, fun j d m => by
    rcases List.mem_cons.mp m with e | m
    · rw [← e] at hr; cases hr
    · exact g.lk j d m, g.deck, g.soft, g.scr⟩
theorem Gd.pushLal (g : Gd C W H σ δ tv τ) (hv : σ[j]? = some (some v)) (e : δ[j]? = some (some (.lck d))) : Gd C W H σ δ (v :: tv) (.lal j d :: τ) :=
  ⟨g.len, g.prot, g.dk0, g.frz, g.fnew, g.live, g.flive, g.slots, ⟨hv, g.temps⟩, fun j' d' m => by
    rcases List.mem_cons.mp m with e' | m
    · cases e'; exact e
    · exact g.lk j' d' m, g.deck, g.soft, g.scr⟩
theorem Gd.rep (g : Gd C W H σ δ (v :: tv) (.val d :: τ)) : Rep C.K W.F H v d := g.temps.1
theorem Gd.under (g : Gd C W H σ δ (v :: tv) (r :: τ)) {u : V} {r' : RV} (h : RelR C W H σ (.tmp τ.length) u r') (hr : r'.free = true := by rfl) : Gd C W H σ δ (u :: tv) (r' :: τ) := g.pop.push h hr

/-! ### new objects -/
theorem Gd.hF (g : Gd C W H σ δ tv τ) (hp : H p = none) : ¬ W.F p := fun h => by
  have := g.flive p h
  rw [hp] at this; cases this
theorem Gd.how (g : Gd C W H σ δ tv τ) (hp : H p = none) : W.ow p = none := by
  cases e : W.ow p with
  | none => rfl
  | some o =>
    have := g.live p (by rw [e]; rfl)
    rw [hp] at this; cases this
theorem Gd.stab_new (g : Gd C W H σ δ tv τ) {o : HO} (hp : H p = none) : Stab W.F H (upd H p o) :=
  .upd (g.hF hp) (fun xs h => by rw [hp] at h; cases h) fun o u h => by rw [hp] at h; cases h
theorem Gd.h0_new (g : Gd C W H σ δ tv τ) (hp : H p = none) : C.H0 p = none := by
  cases e : C.H0 p with
  | none => rfl
  | some o =>
    rcases g.prot p o e with ⟨p', q', e1, h⟩ | ⟨_, h⟩
    · obtain ⟨_, _, h3, h4⟩ := g.deck p' q' (g.dk0 p' q' e1)
      rcases h with rfl | rfl
      · rw [g.how hp] at h3; cases h3
      · rw [g.how hp] at h4; cases h4
    · rw [hp] at h; cases h
/-- an object of which nothing is told -/
theorem Gd.alloc (g : Gd C W H σ δ tv τ) {o : HO} (hp : H p = none) : Gd C W (upd H p o) σ δ tv τ := by
  have ne : ∀ {b : Addr} {u : HO}, H b = some u → b ≠ p := fun e => ne_of_none e hp
  have nw : ∀ b, (W.ow b).isSome = true → b ≠ p := fun b e z => by rw [z, g.how hp] at e; cases e
  refine g.go ⟨fun _ h => h, g.stab_new hp, fun b o' e _ => ⟨e, upd_ne (nw b (by rw [e]; rfl))⟩, fun _ _ h => h⟩ (fun b u e h1 h2 => ⟨h1, (upd_ne (ne h2)).trans h2⟩) g.frz g.fnew (fun b e => ?_) (fun b e => ?_) (fun p' q' e => ?_) (fun b e => ?_)
  · rw [upd_ne (nw b e)]; exact g.live b e
  · rw [upd_ne (fun z => g.hF hp (by rw [← z]; exact e))]; exact g.flive b e
  · obtain ⟨h1, h2, h3, h4⟩ := g.deck p' q' e
    exact ⟨h1, C.T.S h2 (upd_ne (nw p' (by rw [h3]; rfl))) (upd_ne (nw q' (by rw [h4]; rfl))), h3, h4⟩
  · rw [upd_ne (nw b e)]; exact g.soft b e
def Wd.owns (W : Wd) (p : Addr) (o : Ow) : Wd := { W with ow := fun b => if b = p then some o else W.ow b }
theorem owns_same {W : Wd} {p : Addr} {o : Ow} : (W.owns p o).ow p = some o := if_pos rfl
theorem owns_ne {W : Wd} {p b : Addr} {o : Ow} (h : b ≠ p) : (W.owns p o).ow b = W.ow b := if_neg h
/-- a new object, owned -/
theorem Gd.allocOwn (g : Gd C W H σ δ tv τ) {o : HO} {w : Ow} (hw : w ≠ .deck) (hp : H p = none) (ht : ∀ xs, o ≠ .tup xs) (hz : ∀ o' u, o ≠ .frz o' u) : Gd C (W.owns p w) (upd H p o) σ δ tv τ := by
  have g1 := g.alloc (o := o) hp
  have nw : ∀ b, (W.ow b).isSome = true → b ≠ p := fun b e z => by rw [z, g.how hp] at e; cases e
  refine g1.go ⟨fun _ h => h, Stab.refl, fun b o' e _ => ⟨by rw [owns_ne (nw b (by rw [e]; rfl))]; exact e, rfl⟩, fun _ _ h => h⟩ (fun b u e h1 h2 => ?_) (fun b e => ?_) g1.fnew (fun b e => ?_) g1.flive (fun p' q' e => ?_) (fun b e => ?_)
  · have hb : b ≠ p := fun z => by rw [z, g.h0_new hp] at e; cases e
    rw [owns_ne hb]
    exact ⟨h1, h2⟩
  · rw [owns_ne (fun z => g.hF hp (by rw [← z]; exact e))]; exact g.frz b e
  · by_cases hb : b = p
    · subst hb; rw [upd_same]; rfl
    · rw [owns_ne hb] at e; exact g1.live b e
  · obtain ⟨h1, h2, h3, h4⟩ := g1.deck p' q' e
    exact ⟨h1, h2, by rw [owns_ne (nw p' (by rw [h3]; rfl))]; exact h3, by rw [owns_ne (nw q' (by rw [h4]; rfl))]; exact h4⟩
  · by_cases hb : b = p
    · subst hb; rw [upd_same]; exact ⟨fun xs z => ht xs (Option.some.inj z), fun o' u z => hz o' u (Option.some.inj z)⟩
    · rw [owns_ne hb] at e; exact g1.soft b e
theorem RepL.new {K : Kw} {F : Addr → Prop} {o : HO} {xs : List V} {ds : List D} (s : Stab F H (upd H p o)) (h : RepL K F H xs ds) : RepL K F (upd H p o) xs ds := h.mono (fun _ h => h) s
/-- a new tuple -/
theorem Gd.newTup (g : Gd C W H σ δ tv τ) {xs : List V} {ds : List D} {o : Obj} (hp : H p = none) (ho : o.dict = none) (h : RepL C.K W.F H xs ds) : Gd C W (upd H p (.frz o (.tup xs))) σ δ (.ref p :: tv) (.val (.tuple ds) :: τ) :=
  (g.alloc hp).push (r := .val (.tuple ds)) (show Rep C.K W.F (upd H p (.frz o (.tup xs))) (.ref p) (.tuple ds) from .tup (.inl ⟨o, upd_same, ho⟩) (h.new (g.stab_new hp)))
/-- a new list of one's own -/
theorem Gd.newLst (g : Gd C W H σ δ tv τ) {xs : List V} {ds : List D} (hp : H p = none) (h : RepL C.K W.F H xs ds) : Gd C (W.owns p (.tmp τ.length)) (upd H p (.lst xs)) σ δ (.ref p :: tv) (.own (.list ds) :: τ) :=
  (g.allocOwn (by intro e; cases e) hp (by intro _ e; cases e) (by intro _ _ e; cases e)).push (r := .own (.list ds)) ⟨p, rfl, owns_same, xs, upd_same, h.new (g.stab_new hp)⟩
theorem RepK.new {K : Kw} {F : Addr → Prop} {o : HO} {xs : List (D × V)} {ds : List (D × D)} (s : Stab F H (upd H p o)) (h : RepK K F H xs ds) : RepK K F (upd H p o) xs ds := h.mono (fun _ h => h) s
/-- a new dict of one's own -/
theorem Gd.newDic (g : Gd C W H σ δ tv τ) {es : Array DictEntry} {ep : Nat} {ks : List (D × V)} {kvs : List (D × D)} (hp : H p = none) (hk : Paired (EntAt C.K H) es.toList ks) (nd : (ks.map (·.1)).Nodup) (h : RepK C.K W.F H ks kvs) :
    Gd C (W.owns p (.tmp τ.length)) (upd H p (dO p es ep)) σ δ (.ref p :: tv) (.own (.dict kvs) :: τ) :=
  (g.allocOwn (by intro e; cases e) hp (by intro _ e; cases e) (by intro _ _ e; cases e)).push (r := .own (.dict kvs))
    ⟨p, rfl, owns_same, _, ⟨es, ep, upd_same, L2.Paired.mapP hk fun _ _ q => q.mono (g.stab_new hp), nd⟩, h.new (g.stab_new hp)⟩

/-! ### freezing -/
def Wd.free (W : Wd) (p : Addr) : Wd := { W with F := fun b => b = p ∨ W.F b, ow := fun b => if b = p then none else W.ow b }
theorem free_same {W : Wd} {p : Addr} : (W.free p).ow p = none := if_pos rfl
theorem free_ne {W : Wd} {p b : Addr} (h : b ≠ p) : (W.free p).ow b = W.ow b := if_neg h
theorem ObR.rep {K : Kw} {F F' : Addr → Prop} (hF : ∀ b, F b → F' b) (hp : F' p) (hf : ∀ a, F a → F' a) (h : ObR K F H p d) : Rep K F' H (.ref p) d := by
  cases d with
  | list ds => obtain ⟨xs, h1, h2⟩ := h; exact .lst hp h1 (h2.mono hF Stab.refl)
  | dict kvs => obtain ⟨ks, h1, h2⟩ := h; exact .dic hp h1 (h2.mono hF Stab.refl)
  | _ => exact (show False from h).elim
/-- all temporaries but those of the owner w, all slots but w's, stay when p, owned by w, is frozen -/
theorem Gd.h0_own (g : Gd C W H σ δ tv τ) {w : Ow} (hw : w ≠ .deck) (e : W.ow p = some w) : C.H0 p = none := by
  cases e0 : C.H0 p with
  | none => rfl
  | some o =>
    rcases g.prot p o e0 with ⟨p', q', e1, h⟩ | ⟨h, _⟩
    · obtain ⟨_, _, h3, h4⟩ := g.deck p' q' (g.dk0 p' q' e1)
      rcases h with rfl | rfl
      · rw [e] at h3; exact absurd (Option.some.inj h3) hw
      · rw [e] at h4; exact absurd (Option.some.inj h4) hw
    · rw [e] at h; cases h
theorem RelR.free {o w : Ow} (hw : w ≠ o) (e : W.ow p = some w) (h : RelR C W H σ o v r) : RelR C (W.free p) H σ o v r := by
  have hF : ∀ b, W.F b → (W.free p).F b := fun b h => .inr h
  cases r with
  | val d => exact Rep.mono hF Stab.refl h
  | own d =>
    obtain ⟨a, rfl, h1, h2⟩ := h
    refine ⟨a, rfl, ?_, h2.mono hF Stab.refl rfl⟩
    rw [free_ne (fun z => hw (Option.some.inj (e.symm.trans (by rw [← z]; exact h1))))]; exact h1
  | lck d =>
    obtain ⟨a, rfl, h1, h2⟩ := h
    refine ⟨a, rfl, ?_, h2.mono hF Stab.refl rfl⟩
    rw [free_ne (fun z => hw (Option.some.inj (e.symm.trans (by rw [← z]; exact h1))))]; exact h1
  | slot j => exact h
  | lal j d => exact h
  | deck => exact h
  | scr => exact h
  | junk => trivial
theorem TsOk.free {w : Ow} (e : W.ow p = some w) : ∀ {tv : List V} {τ : List RV}, (∀ k, k < τ.length → w ≠ .tmp k) → TsOk C W H σ tv τ → TsOk C (W.free p) H σ tv τ
  | [], [], _, _ => trivial
  | _ :: _, r :: τ, hw, h => ⟨RelR.free (hw _ (by simp)) e h.1, TsOk.free e (fun k hk => hw k (by rw [List.length_cons]; omega)) h.2⟩
  | [], _ :: _, _, h => h.elim
  | _ :: _, [], _, h => h.elim
theorem Gd.freed_core (g : Gd C W H σ δ tv τ) {w : Ow} (hw : w ≠ .deck) (e : W.ow p = some w) {δ' : Sto} (hl : δ'.length = δ.length)
    (hs : ∀ i r, δ'[i]? = some (some r) → r.inEnv = true ∧ ∃ v, σ[i]? = some (some v) ∧ RelR C (W.free p) H σ (.slot i) v r) (ht : TsOk C (W.free p) H σ tv τ) (hlk : ∀ (j : Nat) (d : D), δ[j]? = some (some (RV.lck d)) → δ'[j]? = some (some (RV.lck d))) : Gd C (W.free p) H σ δ' tv τ := by
  refine ⟨by rw [hl]; exact g.len, fun b o e0 => ?_, g.dk0, fun b h => ?_, fun b h => ?_, fun b h => ?_, fun b h => ?_, hs, ht, fun j d m => hlk j d (g.lk j d m), fun p' q' e0 => ?_, fun b h => ?_, g.scr⟩
  · have hb : b ≠ p := fun z => by rw [z, g.h0_own hw e] at e0; cases e0
    rw [free_ne hb]; exact g.prot b o e0
  · by_cases hb : b = p
    · subst hb; exact free_same
    · rw [free_ne hb]; exact g.frz b (h.resolve_left hb)
  · rcases h with rfl | h
    · exact .inr (g.h0_own hw e)
    · exact g.fnew b h
  · by_cases hb : b = p
    · subst hb; rw [free_same] at h; cases h
    · rw [free_ne hb] at h; exact g.live b h
  · rcases h with rfl | h
    · exact g.live b (by rw [e]; rfl)
    · exact g.flive b h
  · obtain ⟨h1, h2, h3, h4⟩ := g.deck p' q' e0
    refine ⟨h1, h2, ?_, ?_⟩
    · rw [free_ne fun z => hw (Option.some.inj (e.symm.trans (by rw [← z]; exact h3)))]; exact h3
    · rw [free_ne fun z => hw (Option.some.inj (e.symm.trans (by rw [← z]; exact h4)))]; exact h4
  · by_cases hb : b = p
    · subst hb; rw [free_same] at h; cases h
    · rw [free_ne hb] at h; exact g.soft b h
/-- the newest value, one's own, is frozen -/
theorem Gd.freezeTop (g : Gd C W H σ δ (v :: tv) (.own d :: τ)) : ∃ W', Gd C W' H σ δ (v :: tv) (.val d :: τ) := by
  obtain ⟨a, rfl, h1, h2⟩ := g.temps.1
  refine ⟨W.free a, (g.pop.freed_core (w := .tmp τ.length) (by intro e; cases e) h1 rfl (fun i r e => ?_) (g.temps.2.free h1 fun k hk e => ?_) fun _ _ h => h).push (r := .val d) ?_⟩
  · obtain ⟨q1, v, q2, q3⟩ := g.slots i r e
    exact ⟨q1, v, q2, RelR.free (by intro e; cases e) h1 q3⟩
  · cases e; omega
  · exact h2.rep (fun b h => .inr h) (.inl rfl) fun b h => .inr h
/-- a slot's own object is frozen -/
theorem Gd.freezeSlot (g : Gd C W H σ δ tv τ) (e : δ[j]? = some (some (.own d))) : ∃ W', Gd C W' H σ (δ.set j (some (.val d))) tv τ ∧ (∀ b, W.F b → W'.F b) := by
  obtain ⟨_, v, hv, a, rfl, h1, h2⟩ := g.slots j _ e
  refine ⟨W.free a, g.freed_core (w := .slot j) (by intro e; cases e) h1 (by simp) (fun i r e' => ?_) (g.temps.free h1 fun k hk e => by cases e) (fun i d' h => by
    rw [List.getElem?_set_ne (fun z => by rw [← z, e] at h; cases h)]; exact h), fun b h => .inr h⟩
  by_cases hi : j = i
  · subst hi
    have hlt : j < δ.length := (List.getElem?_eq_some_iff.mp e).1
    rw [List.getElem?_set_self hlt] at e'
    cases e'
    exact ⟨rfl, _, hv, h2.rep (fun b h => .inr h) (.inl rfl) fun b h => .inr h⟩
  · rw [List.getElem?_set_ne hi] at e'
    obtain ⟨q1, u, q2, q3⟩ := g.slots i r e'
    exact ⟨q1, u, q2, RelR.free (fun z => hi (Ow.slot.inj z)) h1 q3⟩

/-- handing a value out of one's own hands -/
def zSettle (r : RV) (δ : Sto) (Q : D → Sto → Prop) : Prop :=
  match r with
  | .val d => Q d δ
  | .own d => Q d δ
  | .slot j => match δ[j]? with
    | some (some (.val d)) => Q d δ
    | some (some (.own d)) => Q d (δ.set j (some (.val d)))
    | _ => False
  | _ => False
theorem Gd.settle {Q : D → Sto → Prop} (g : Gd C W H σ δ (v :: tv) (r :: τ)) (h : zSettle r δ Q) : ∃ W' d δ', Gd C W' H σ δ' (v :: tv) (.val d :: τ) ∧ Q d δ' := by
  cases r with
  | val d => exact ⟨W, d, δ, g, h⟩
  | own d =>
    obtain ⟨W', g'⟩ := g.freezeTop
    exact ⟨W', d, δ, g', h⟩
  | slot j =>
    have hv : σ[j]? = some (some v) := g.temps.1
    unfold zSettle at h
    cases e : δ[j]? with
    | none => simp only [e] at h
    | some o =>
      cases o with
      | none => simp only [e] at h
      | some r =>
        cases r with
        | val d =>
          simp only [e] at h
          obtain ⟨_, u, hu, h3⟩ := g.slots j _ e
          rw [hv] at hu
          cases hu
          exact ⟨W, d, δ, g.under h3, h⟩
        | own d =>
          simp only [e] at h
          obtain ⟨W', g', _⟩ := g.pop.freezeSlot e
          obtain ⟨_, u, hu, h3⟩ := g'.slots j (.val d) (by rw [List.getElem?_set_self (List.getElem?_eq_some_iff.mp e).1])
          rw [hv] at hu
          cases hu
          exact ⟨W', d, _, g'.push (r := .val d) h3, h⟩
        | _ => simp only [e] at h
  | _ => exact h.elim
end
end Z
end
section
set_option Elab.async false
set_option linter.all false
set_option maxRecDepth 100000
namespace Z
open PySem PySem.Spec L2
section
variable {C : Cn} {W : Wd} {H : Hp} {σ : L2.St} {δ : Sto} {tv : List V} {τ : List RV} {v : V} {r : RV} {d : D} {a p : Addr} {i j : Nat}

theorem RelR.write {o w : Ow} {u : HO} (st : Stab W.F H (upd H a u)) (ha : W.ow a = some w) (hw : w ≠ o) (h : RelR C W H σ o v r) : RelR C W (upd H a u) σ o v r := by
  cases r with
  | val d => exact Rep.mono (fun _ h => h) st h
  | own d =>
    obtain ⟨b, rfl, h1, h2⟩ := h
    exact ⟨b, rfl, h1, h2.mono (fun _ h => h) st (upd_ne fun z => hw (Option.some.inj (ha.symm.trans (by rw [← z]; exact h1))))⟩
  | lck d =>
    obtain ⟨b, rfl, h1, h2⟩ := h
    exact ⟨b, rfl, h1, h2.mono (fun _ h => h) st (upd_ne fun z => hw (Option.some.inj (ha.symm.trans (by rw [← z]; exact h1))))⟩
  | slot j => exact h
  | lal j d => exact h
  | deck => exact h
  | scr => exact h
  | junk => trivial
theorem TsOk.write {w : Ow} {u : HO} (st : Stab W.F H (upd H a u)) (ha : W.ow a = some w) : ∀ {tv : List V} {τ : List RV}, (∀ k, k < τ.length → w ≠ .tmp k) → TsOk C W H σ tv τ → TsOk C W (upd H a u) σ tv τ
  | [], [], _, _ => trivial
  | _ :: _, r :: τ, hw, h => ⟨RelR.write st ha (hw _ (by simp)) h.1, TsOk.write st ha (fun k hk => hw k (by rw [List.length_cons]; omega)) h.2⟩
  | [], _ :: _, _, h => h.elim
  | _ :: _, [], _, h => h.elim
theorem Gd.stab_own (g : Gd C W H σ δ tv τ) {w : Ow} {u : HO} (ha : W.ow a = some w) : Stab W.F H (upd H a u) :=
  .upd (fun h => by rw [g.frz a h] at ha; cases ha) (g.soft a (by rw [ha]; rfl)).1 (g.soft a (by rw [ha]; rfl)).2
/-- one's own object at a slot is written -/
theorem Gd.wr (g : Gd C W H σ δ tv τ) {u : HO} (e : δ[j]? = some (some (.own d))) (hu : ∀ xs, u ≠ .tup xs) (hz : ∀ o x, u ≠ .frz o x) {d' : D} (ha : W.ow a = some (.slot j)) (hv : σ[j]? = some (some (.ref a)))
    (h : ObR C.K W.F (upd H a u) a d') : Gd C W (upd H a u) σ (δ.set j (some (.own d'))) tv τ := by
  have st := g.stab_own (u := u) ha
  have hne : ∀ b, b ≠ a → upd H a u b = H b := fun b h => upd_ne h
  refine ⟨by simpa using g.len, fun b o e0 => ?_, g.dk0, g.frz, g.fnew, fun b h => ?_, fun b h => ?_, fun i r e' => ?_, g.temps.write st ha (fun k _ z => by cases z), fun j' d0 m => ?_, fun p' q' e0 => ?_, fun b h => ?_, fun b xs e0 => (g.scr b xs e0).mono st⟩
  · refine (g.prot b o e0).imp_right fun h => ⟨h.1, ?_⟩
    rw [hne b (fun z => by rw [z, ha] at h; cases h.1)]; exact h.2
  · by_cases hb : b = a
    · subst hb; rw [upd_same]; rfl
    · rw [hne b hb]; exact g.live b h
  · rw [hne b (fun z => by rw [z] at h; rw [g.frz a h] at ha; cases ha)]; exact g.flive b h
  · by_cases hi : j = i
    · subst hi
      rw [List.getElem?_set_self (List.getElem?_eq_some_iff.mp e).1] at e'
      cases e'
      exact ⟨rfl, _, hv, a, rfl, ha, h⟩
    · rw [List.getElem?_set_ne hi] at e'
      obtain ⟨q1, u', q2, q3⟩ := g.slots i r e'
      exact ⟨q1, u', q2, RelR.write st ha (fun z => hi (Ow.slot.inj z)) q3⟩
  · have h1 := g.lk j' d0 m
    rw [List.getElem?_set_ne (fun z => by rw [← z, e] at h1; cases h1)]; exact h1
  · obtain ⟨h1, h2, h3, h4⟩ := g.deck p' q' e0
    exact ⟨h1, C.T.S h2 (hne _ fun z => by rw [z, ha] at h3; cases h3) (hne _ fun z => by rw [z, ha] at h4; cases h4), h3, h4⟩
  · by_cases hb : b = a
    · subst hb; rw [upd_same]; exact ⟨fun xs z => hu xs (Option.some.inj z), fun o x z => hz o x (Option.some.inj z)⟩
    · rw [hne b hb]; exact g.soft b h
/-- the list of a slot -/
theorem Gd.own_lst {ds : List D} (g : Gd C W H σ δ tv τ) (e : δ[j]? = some (some (.own (.list ds)))) : ∃ a xs, σ[j]? = some (some (.ref a)) ∧ W.ow a = some (.slot j) ∧ H a = some (.lst xs) ∧ RepL C.K W.F H xs ds ∧
    ∀ xs' ds', RepL C.K W.F H xs' ds' → Gd C W (upd H a (.lst xs')) σ (δ.set j (some (.own (.list ds')))) tv τ := by
  obtain ⟨_, v, hv, a, rfl, h1, xs, h2, h3⟩ := g.slots j _ e
  exact ⟨a, xs, hv, h1, h2, h3, fun xs' ds' hr => g.wr e (by intro _ z; cases z) (by intro _ _ z; cases z) h1 hv ⟨xs', upd_same, hr.mono (fun _ h => h) (g.stab_own h1)⟩⟩
theorem Gd.own_dic {kvs : List (D × D)} (g : Gd C W H σ δ tv τ) (e : δ[j]? = some (some (.own (.dict kvs)))) : ∃ a ks, σ[j]? = some (some (.ref a)) ∧ W.ow a = some (.slot j) ∧ DicAt C.K H a ks ∧ RepK C.K W.F H ks kvs ∧
    (∀ es ep ks' kvs', Paired (EntAt C.K H) es.toList ks' → (ks'.map (·.1)).Nodup → RepK C.K W.F H ks' kvs' → Gd C W (upd H a (dO a es ep)) σ (δ.set j (some (.own (.dict kvs')))) tv τ) := by
  obtain ⟨_, v, hv, a, rfl, h1, ks, h2, h3⟩ := g.slots j _ e
  exact ⟨a, ks, hv, h1, h2, h3, fun es ep ks' kvs' hk nd hr => g.wr e (by intro _ z; cases z) (by intro _ _ z; cases z) h1 hv ⟨_, ⟨es, ep, upd_same, L2.Paired.mapP hk fun _ _ q => q.mono (g.stab_own h1), nd⟩, hr.mono (fun _ h => h) (g.stab_own h1)⟩⟩

/-! ### stores -/
/-- what stands ready to be stored -/
def RV.good : RV → Bool
  | .val _ => true
  | .own _ => true
  | .deck => true
  | _ => false
/-- what a statement finds on the pile: no alias that is not locked -/
def RV.calm : RV → Bool
  | .slot _ => false
  | _ => true
def Calm (τ : List RV) : Prop := ∀ r ∈ τ, r.calm = true
/-- no alias of these slots that is not locked -/
def Sfe (vs : List Nat) (τ : List RV) : Prop := ∀ j, RV.slot j ∈ τ → j ∉ vs
theorem Calm.sfe {τ : List RV} (h : Calm τ) (vs : List Nat) : Sfe vs τ := fun j m => by
  have := h _ m
  cases this
def RV.isLck : Option (Option RV) → Bool
  | some (some (.lck _)) => true
  | _ => false
/-- another owner for an object -/
theorem RelR.reown {o w w' : Ow} (ha : W.ow a = some w) (hw : w ≠ o) (hd : w ≠ .deck) (h : RelR C W H σ o v r) : RelR C (W.owns a w') H σ o v r := by
  cases r with
  | val d => exact h
  | own d =>
    obtain ⟨b, rfl, h1, h2⟩ := h
    refine ⟨b, rfl, ?_, h2⟩
    rw [owns_ne (fun z => hw (Option.some.inj (ha.symm.trans (by rw [← z]; exact h1))))]; exact h1
  | lck d =>
    obtain ⟨b, rfl, h1, h2⟩ := h
    refine ⟨b, rfl, ?_, h2⟩
    rw [owns_ne (fun z => hw (Option.some.inj (ha.symm.trans (by rw [← z]; exact h1))))]; exact h1
  | slot j => exact h
  | lal j d => exact h
  | deck => exact h
  | scr => exact h
  | junk => trivial
/-- the slots' values changed at i, where no alias stands -/
theorem RelR.stored {o : Ow} {x : Option V} (hr : ∀ j d, r = .slot j ∨ r = .lal j d → j ≠ i) (h : RelR C W H σ o v r) : RelR C W H (σ.set i x) o v r := by
  cases r with
  | slot j =>
    show (σ.set i x)[j]? = _
    rw [List.getElem?_set_ne (Ne.symm (hr j .none (.inl rfl)))]; exact h
  | lal j d =>
    show (σ.set i x)[j]? = _
    rw [List.getElem?_set_ne (Ne.symm (hr j d (.inr rfl)))]; exact h
  | _ => exact h
theorem TsOk.stored {x : Option V} : ∀ {tv : List V} {τ : List RV}, (∀ r ∈ τ, ∀ j d, r = .slot j ∨ r = .lal j d → j ≠ i) → TsOk C W H σ tv τ → TsOk C W H (σ.set i x) tv τ
  | [], [], _, _ => trivial
  | _ :: _, r :: τ, hr, h => ⟨RelR.stored (hr r List.mem_cons_self) h.1, TsOk.stored (fun r' m => hr r' (List.mem_cons_of_mem _ m)) h.2⟩
  | [], _ :: _, _, h => h.elim
  | _ :: _, [], _, h => h.elim
theorem TsOk.reown_lt {n : Nat} {w' : Ow} (ha : W.ow a = some (.tmp n)) : ∀ {tv : List V} {τ : List RV}, τ.length ≤ n → TsOk C W H σ tv τ → TsOk C (W.owns a w') H σ tv τ
  | [], [], _, _ => trivial
  | _ :: _, r :: τ, hl, h => ⟨RelR.reown ha (fun z => by have := Ow.tmp.inj z; rw [List.length_cons] at hl; omega) (by intro e; cases e) h.1, TsOk.reown_lt ha (by rw [List.length_cons] at hl; omega) h.2⟩
  | [], _ :: _, _, h => h.elim
  | _ :: _, [], _, h => h.elim
theorem TsOk.reown_mid {w' : Ow} (ha : W.ow a = some (.tmp τ.length)) : ∀ {T1v : List V} {T1 : List RV}, TsOk C W H σ (T1v ++ v :: tv) (T1 ++ r :: τ) → T1v.length = T1.length → TsOk C (W.owns a w') H σ (T1v ++ v :: tv) (T1 ++ .junk :: τ)
  | [], [], h, _ => ⟨trivial, TsOk.reown_lt ha (Nat.le_refl _) h.2⟩
  | x :: T1v, y :: T1, h, hl => by
    have h1 : RelR C W H σ (.tmp (T1 ++ r :: τ).length) x y := h.1
    have e1 : (T1 ++ r :: τ).length = (T1 ++ RV.junk :: τ).length := by rw [List.length_append, List.length_append]; rfl
    have e2 : (T1 ++ RV.junk :: τ).length = T1.length + (τ.length + 1) := by rw [List.length_append]; rfl
    rw [e1] at h1
    exact ⟨RelR.reown (w' := w') ha (fun z => by have q : τ.length = (T1 ++ RV.junk :: τ).length := Ow.tmp.inj z; rw [e2] at q; omega) (by intro e; cases e) h1, TsOk.reown_mid ha h.2 (by simpa using hl)⟩
  | [], _ :: _, _, hl => by simp at hl
  | _ :: _, [], _, hl => by simp at hl
theorem TsOk.junk_mid : ∀ {T1v : List V} {T1 : List RV}, TsOk C W H σ (T1v ++ v :: tv) (T1 ++ r :: τ) → T1v.length = T1.length → TsOk C W H σ (T1v ++ v :: tv) (T1 ++ .junk :: τ)
  | [], [], h, _ => ⟨trivial, h.2⟩
  | x :: T1v, y :: T1, h, hl => by
    have h1 : RelR C W H σ (.tmp (T1 ++ r :: τ).length) x y := h.1
    have e1 : (T1 ++ r :: τ).length = (T1 ++ RV.junk :: τ).length := by rw [List.length_append, List.length_append]; rfl
    rw [e1] at h1
    exact ⟨h1, TsOk.junk_mid h.2 (by simpa using hl)⟩
  | [], _ :: _, _, hl => by simp at hl
  | _ :: _, [], _, hl => by simp at hl
theorem TsOk.mid : ∀ {T1v : List V} {T1 : List RV}, TsOk C W H σ (T1v ++ v :: tv) (T1 ++ r :: τ) → T1v.length = T1.length → RelR C W H σ (.tmp τ.length) v r
  | [], [], h, _ => h.1
  | _ :: _, _ :: _, h, hl => TsOk.mid h.2 (by simpa using hl)
  | [], _ :: _, _, hl => by simp at hl
  | _ :: _, [], _, hl => by simp at hl
theorem Gd.alias_ne (g : Gd C W H σ δ tv τ) (hc : ∀ j, RV.slot j ∈ τ → j ≠ i) (hk : RV.isLck δ[i]? = false) : ∀ r ∈ τ, ∀ j d, r = .slot j ∨ r = .lal j d → j ≠ i := fun r hr j d e => by
  rcases e with e | e
  · exact hc j (by rw [← e]; exact hr)
  · intro z
    have := g.lk j d (by rw [← e]; exact hr)
    rw [← z, this] at hk; cases hk
/-- a value of the pile is stored into slot i -/
theorem Gd.storeAt {T1v : List V} {T1 : List RV} (g : Gd C W H σ δ (T1v ++ v :: tv) (T1 ++ r :: τ)) (hl : T1v.length = T1.length) (hr : r.good = true) (hc1 : ∀ j, RV.slot j ∈ T1 → j ≠ i) (hc : ∀ j, RV.slot j ∈ τ → j ≠ i) (hi : i < δ.length) (hk : RV.isLck δ[i]? = false) :
    ∃ W', Gd C W' H (σ.set i (some v)) (δ.set i (some r)) (T1v ++ v :: tv) (T1 ++ .junk :: τ) := by
  have hcj : ∀ j, RV.slot j ∈ T1 ++ r :: τ → j ≠ i := fun j m => by
    rcases List.mem_append.mp m with m | m
    · exact hc1 j m
    · rcases List.mem_cons.mp m with m | m
      · rw [← m] at hr; cases hr
      · exact hc j m
  have hne := g.alias_ne hcj hk
  have hne' : ∀ r' ∈ T1 ++ RV.junk :: τ, ∀ j d, r' = .slot j ∨ r' = .lal j d → j ≠ i := fun r' m j d e => by
    rcases List.mem_append.mp m with m | m
    · exact hne r' (List.mem_append_left _ m) j d e
    · rcases List.mem_cons.mp m with rfl | m
      · rcases e with e | e <;> cases e
      · exact hne r' (List.mem_append_right _ (List.mem_cons_of_mem _ m)) j d e
  have lk' : ∀ (j : Nat) (d : D), RV.lal j d ∈ T1 ++ RV.junk :: τ → (δ.set i (some r))[j]? = some (some (RV.lck d)) := fun j d m => by
    rw [List.getElem?_set_ne (Ne.symm (hne' _ m j d (.inr rfl)))]
    refine g.lk j d ?_
    rcases List.mem_append.mp m with m | m
    · exact List.mem_append_left _ m
    · rcases List.mem_cons.mp m with m | m
      · cases m
      · exact List.mem_append_right _ (List.mem_cons_of_mem _ m)
  have hiσ : i < σ.length := by rw [g.len]; exact hi
  -- all but an own object: the owners stay
  have same : (∀ d, r ≠ .own d) → ∃ W', Gd C W' H (σ.set i (some v)) (δ.set i (some r)) (T1v ++ v :: tv) (T1 ++ .junk :: τ) := fun ho => by
    refine ⟨W, by simpa using g.len, g.prot, g.dk0, g.frz, g.fnew, g.live, g.flive, fun k x e => ?_, (g.temps.junk_mid hl).stored hne', lk', g.deck, g.soft, g.scr⟩
    by_cases hki : i = k
    · subst hki
      rw [List.getElem?_set_self hi] at e
      cases e
      have hm := g.temps.mid hl
      refine ⟨(by cases r <;> first | rfl | cases hr), v, List.getElem?_set_self hiσ, ?_⟩
      cases r with
      | val d => exact hm
      | deck => exact hm
      | own d => exact absurd rfl (ho d)
      | _ => cases hr
    · rw [List.getElem?_set_ne hki] at e
      obtain ⟨q1, u, q2, q3⟩ := g.slots k x e
      refine ⟨q1, u, by rw [List.getElem?_set_ne hki]; exact q2, RelR.stored (fun j d e => ?_) q3⟩
      rcases e with e | e <;> (rw [e] at q1; cases q1)
  cases r with
  | own d =>
    obtain ⟨a, rfl, h1, h2⟩ := g.temps.mid hl
    have nd : ∀ b, W.ow b = some .deck → b ≠ a := fun b e z => by rw [z, h1] at e; cases e
    refine ⟨W.owns a (.slot i), by simpa using g.len, fun b o e0 => ?_, g.dk0, fun b h => ?_, g.fnew, fun b h => ?_, g.flive, fun k x e => ?_, (g.temps.reown_mid h1 hl).stored hne', lk', fun p q e0 => ?_, fun b h => ?_, g.scr⟩
    · refine (g.prot b o e0).imp_right fun h => ⟨?_, h.2⟩
      rw [owns_ne (fun z => by rw [z, h1] at h; cases h.1)]; exact h.1
    · rw [owns_ne (fun z => by rw [z] at h; have := g.frz a h; rw [h1] at this; cases this)]; exact g.frz b h
    · by_cases hb : b = a
      · subst hb; exact g.live b (by rw [h1]; rfl)
      · rw [owns_ne hb] at h; exact g.live b h
    · by_cases hki : i = k
      · subst hki
        rw [List.getElem?_set_self hi] at e
        cases e
        exact ⟨rfl, _, List.getElem?_set_self hiσ, a, rfl, owns_same, h2⟩
      · rw [List.getElem?_set_ne hki] at e
        obtain ⟨q1, u, q2, q3⟩ := g.slots k x e
        refine ⟨q1, u, by rw [List.getElem?_set_ne hki]; exact q2, RelR.stored (fun j d e => ?_) (RelR.reown h1 (by intro z; cases z) (by intro z; cases z) q3)⟩
        rcases e with e | e <;> (rw [e] at q1; cases q1)
    · obtain ⟨k1, k2, k3, k4⟩ := g.deck p q e0
      exact ⟨k1, k2, by rw [owns_ne (nd p k3)]; exact k3, by rw [owns_ne (nd q k4)]; exact k4⟩
    · by_cases hb : b = a
      · subst hb; exact g.soft b (by rw [h1]; rfl)
      · rw [owns_ne hb] at h; exact g.soft b h
  | val d => exact same fun d e => by cases e
  | deck => exact same fun d e => by cases e
  | _ => cases hr
theorem Gd.store (g : Gd C W H σ δ (v :: tv) (r :: τ)) (hr : r.good = true) (hc : ∀ j, RV.slot j ∈ τ → j ≠ i) (hi : i < δ.length) (hk : RV.isLck δ[i]? = false) : ∃ W', Gd C W' H (σ.set i (some v)) (δ.set i (some r)) tv τ := by
  obtain ⟨W', g'⟩ := g.storeAt (T1v := []) (T1 := []) rfl hr (fun _ m => nomatch m) hc hi hk
  exact ⟨W', g'.pop⟩
/-- what is no alias is made so -/
def zUnal (r : RV) (δ : Sto) (Q : RV → Sto → Prop) : Prop :=
  match r with
  | .val d => Q (.val d) δ
  | .own d => Q (.own d) δ
  | .deck => Q .deck δ
  | .slot j => match δ[j]? with
    | some (some (.val d)) => Q (.val d) δ
    | some (some (.own d)) => Q (.val d) (δ.set j (some (.val d)))
    | _ => False
  | _ => False
theorem Gd.unal {Q : RV → Sto → Prop} (g : Gd C W H σ δ (v :: tv) (r :: τ)) (h : zUnal r δ Q) : ∃ W' r' δ', Gd C W' H σ δ' (v :: tv) (r' :: τ) ∧ r'.good = true ∧ Q r' δ' := by
  cases r with
  | val d => exact ⟨W, _, δ, g, rfl, h⟩
  | own d => exact ⟨W, _, δ, g, rfl, h⟩
  | deck => exact ⟨W, _, δ, g, rfl, h⟩
  | slot j =>
    have h2 : zSettle (.slot j) δ fun d δ' => Q (.val d) δ' := by
      unfold zUnal at h
      unfold zSettle
      cases e : δ[j]? with
      | none => simp only [e] at h
      | some o =>
        cases o with
        | none => simp only [e] at h
        | some x => cases x <;> first | (simp only [e] at h ⊢; exact h) | simp only [e] at h
    obtain ⟨W', d, δ', g', q⟩ := g.settle h2
    exact ⟨W', _, δ', g', rfl, q⟩
  | _ => exact h.elim

/-! ### forgetting slots for a comprehension -/
def wipeD (δ : Sto) : List Nat → Sto
  | [] => δ
  | v :: vs => (wipeD δ vs).set v none
def junk1 (vs : List Nat) : RV → RV
  | .slot j => if j ∈ vs then .junk else .slot j
  | r => r
def junkS (vs : List Nat) (τ : List RV) : List RV := τ.map (junk1 vs)
theorem wipeD_length (δ : Sto) : ∀ vs : List Nat, (wipeD δ vs).length = δ.length
  | [] => rfl
  | v :: vs => by unfold wipeD; rw [List.length_set, wipeD_length δ vs]
theorem wipeD_some {i : Nat} {x : RV} : ∀ {vs : List Nat}, (wipeD δ vs)[i]? = some (some x) → δ[i]? = some (some x) ∧ i ∉ vs
  | [], h => ⟨h, by simp⟩
  | v :: vs, h => by
    unfold wipeD at h
    by_cases hi : v = i
    · subst hi
      by_cases hv : v < (wipeD δ vs).length
      · rw [List.getElem?_set_self hv] at h; cases h
      · rw [List.getElem?_eq_none (by simpa using hv)] at h; cases h
    · rw [List.getElem?_set_ne hi] at h
      obtain ⟨h1, h2⟩ := wipeD_some h
      exact ⟨h1, by simp only [List.mem_cons, not_or]; exact ⟨fun e => hi e.symm, h2⟩⟩
theorem wipeD_out {i : Nat} : ∀ {vs : List Nat}, i ∉ vs → (wipeD δ vs)[i]? = δ[i]?
  | [], _ => rfl
  | v :: vs, h => by
    unfold wipeD
    rw [List.getElem?_set_ne (fun e => h (by simp [e])), wipeD_out fun m => h (List.mem_cons_of_mem _ m)]
theorem wipe_outV {σ : L2.St} {i : Nat} : ∀ {vs : List Nat}, i ∉ vs → (wipe σ vs)[i]? = σ[i]?
  | [], _ => rfl
  | v :: vs, h => by
    unfold wipe
    rw [List.getElem?_set_ne (fun e => h (by simp [e])), wipe_outV fun m => h (List.mem_cons_of_mem _ m)]
theorem RelR.sigma {σ' : L2.St} {o : Ow} (h : RelR C W H σ o v r) (hs : ∀ j d, r = .slot j ∨ r = .lal j d → σ'[j]? = σ[j]?) : RelR C W H σ' o v r := by
  cases r with
  | slot j => exact (hs j .none (.inl rfl)).trans h
  | lal j d => exact (hs j d (.inr rfl)).trans h
  | _ => exact h
theorem TsOk.junked {vs : List Nat} : ∀ {tv : List V} {τ : List RV}, (∀ j d, RV.lal j d ∈ τ → j ∉ vs) → TsOk C W H σ tv τ → TsOk C W H (wipe σ vs) tv (junkS vs τ)
  | [], [], _, _ => trivial
  | v :: tv, r :: τ, hl, h => by
    have hlen : (junkS vs τ).length = τ.length := by unfold junkS; simp
    refine ⟨?_, TsOk.junked (fun j d m => hl j d (List.mem_cons_of_mem _ m)) h.2⟩
    show RelR C W H (wipe σ vs) (.tmp (junkS vs τ).length) v (junk1 vs r)
    rw [hlen]
    have h1 := h.1
    cases r with
    | slot j =>
      show RelR C W H (wipe σ vs) _ v (if j ∈ vs then .junk else .slot j)
      split
      · trivial
      · rename_i hj
        exact RelR.sigma h1 fun j' d e => by
          rcases e with e | e
          · cases e; exact wipe_outV hj
          · cases e
    | lal j d =>
      refine RelR.sigma h1 fun j' d' e => ?_
      rcases e with e | e
      · cases e
      · cases e; exact wipe_outV (hl j d List.mem_cons_self)
    | _ => exact RelR.sigma h1 fun j' d e => by rcases e with e | e <;> cases e
  | [], _ :: _, _, h => h.elim
  | _ :: _, [], _, h => h.elim
theorem TsOk.unjunked {vs : List Nat} {W' : Wd} {H' : Hp} : ∀ {tv : List V} {τ : List RV}, (∀ j d, RV.lal j d ∈ τ → j ∉ vs) → TsOk C W H σ tv τ → TsOk C W' H' (wipe σ vs) tv (junkS vs τ) → TsOk C W' H' σ tv τ
  | [], [], _, _, _ => trivial
  | v :: tv, r :: τ, hl, h0, h => by
    have hlen : (junkS vs τ).length = τ.length := by unfold junkS; simp
    refine ⟨?_, TsOk.unjunked (fun j d m => hl j d (List.mem_cons_of_mem _ m)) h0.2 h.2⟩
    have h1 : RelR C W' H' (wipe σ vs) (.tmp (junkS vs τ).length) v (junk1 vs r) := h.1
    rw [hlen] at h1
    cases r with
    | slot j => exact h0.1
    | lal j d => exact h0.1
    | _ => exact RelR.sigma h1 fun j' d e => by rcases e with e | e <;> cases e
  | [], _ :: _, _, h, _ => h.elim
  | _ :: _, [], _, h, _ => h.elim
def noLck (δ : Sto) (vs : List Nat) : Bool := vs.all fun i => !RV.isLck δ[i]?
theorem Gd.lal_out {vs : List Nat} (g : Gd C W H σ δ tv τ) (hk : noLck δ vs = true) (j : Nat) (d : D) (m : RV.lal j d ∈ τ) : j ∉ vs := fun hj => by
  have h1 := g.lk j d m
  have h2 := List.all_eq_true.mp hk j hj
  rw [h1] at h2; cases h2
theorem Gd.wiped {vs : List Nat} (g : Gd C W H σ δ tv τ) (hk : noLck δ vs = true) : Gd C W H (wipe σ vs) (wipeD δ vs) tv (junkS vs τ) := by
  refine ⟨by rw [wipe_length, wipeD_length]; exact g.len, g.prot, g.dk0, g.frz, g.fnew, g.live, g.flive, fun i r e => ?_, g.temps.junked (g.lal_out hk), fun j d m => ?_, g.deck, g.soft, g.scr⟩
  · obtain ⟨e1, hi⟩ := wipeD_some e
    obtain ⟨h1, v, h2, h3⟩ := g.slots i r e1
    exact ⟨h1, v, (wipe_outV hi).trans h2, RelR.sigma h3 fun j d e => by rcases e with e | e <;> (rw [e] at h1; cases h1)⟩
  · have m' : RV.lal j d ∈ τ := by
      obtain ⟨r, hr, e⟩ := List.mem_map.mp m
      cases r with
      | lal j' d' => unfold junk1 at e; cases e; exact hr
      | slot j' =>
        have e' : (if j' ∈ vs then RV.junk else RV.slot j') = RV.lal j d := e
        split at e' <;> cases e'
      | _ => unfold junk1 at e; cases e
    rw [wipeD_out (g.lal_out hk j d m')]
    exact g.lk j d m'
theorem Gd.unwiped {vs : List Nat} {W' : Wd} {H' : Hp} {δ' : Sto} (g0 : Gd C W H σ δ tv τ) (hk : noLck δ vs = true) (g : Gd C W' H' (wipe σ vs) δ' tv (junkS vs τ)) : Gd C W' H' σ (wipeD δ' vs) tv τ := by
  refine ⟨by rw [wipeD_length, ← g.len, wipe_length], g.prot, g.dk0, g.frz, g.fnew, g.live, g.flive, fun i r e => ?_, g0.temps.unjunked (g0.lal_out hk) g.temps, fun j d m => ?_, g.deck, g.soft, g.scr⟩
  · obtain ⟨e1, hi⟩ := wipeD_some e
    obtain ⟨h1, v, h2, h3⟩ := g.slots i r e1
    exact ⟨h1, v, (wipe_outV hi).symm.trans h2, RelR.sigma h3 fun j d e => by rcases e with e | e <;> (rw [e] at h1; cases h1)⟩
  · rw [wipeD_out (g0.lal_out hk j d m)]
    exact g.lk j d (List.mem_map.mpr ⟨_, m, rfl⟩)
theorem Gd.lock (g : Gd C W H σ δ (v :: tv) (.slot j :: τ)) (e : δ[j]? = some (some (.own d))) : Gd C W H σ (δ.set j (some (.lck d))) (v :: tv) (.lal j d :: τ) := by
  have hj : j < δ.length := (List.getElem?_eq_some_iff.mp e).1
  refine ⟨by simpa using g.len, g.prot, g.dk0, g.frz, g.fnew, g.live, g.flive, fun i r e' => ?_, ⟨g.temps.1, g.temps.2⟩, fun j' d' m => ?_, g.deck, g.soft, g.scr⟩
  · by_cases hi : j = i
    · subst hi
      rw [List.getElem?_set_self hj] at e'
      cases e'
      obtain ⟨_, u, q2, q3⟩ := g.slots j _ e
      exact ⟨rfl, u, q2, q3⟩
    · rw [List.getElem?_set_ne hi] at e'
      exact g.slots i r e'
  · rcases List.mem_cons.mp m with m | m
    · cases m
      exact List.getElem?_set_self hj
    · have h1 := g.lk j' d' (List.mem_cons_of_mem _ m)
      rw [List.getElem?_set_ne (fun z => by rw [← z, e] at h1; cases h1)]; exact h1
theorem Gd.unlock (g : Gd C W H σ δ (v :: tv) (.lal j d :: τ)) (hu : ∀ d', RV.lal j d' ∉ τ) : Gd C W H σ (δ.set j (some (.own d))) tv τ := by
  have e := g.lk j d List.mem_cons_self
  have hj : j < δ.length := (List.getElem?_eq_some_iff.mp e).1
  refine ⟨by simpa using g.len, g.prot, g.dk0, g.frz, g.fnew, g.live, g.flive, fun i r e' => ?_, g.temps.2, fun j' d' m => ?_, g.deck, g.soft, g.scr⟩
  · by_cases hi : j = i
    · subst hi
      rw [List.getElem?_set_self hj] at e'
      cases e'
      obtain ⟨_, u, q2, q3⟩ := g.slots j _ e
      exact ⟨rfl, u, q2, q3⟩
    · rw [List.getElem?_set_ne hi] at e'
      exact g.slots i r e'
  · rw [List.getElem?_set_ne (fun z => hu d' (by rw [z]; exact m))]
    exact g.lk j' d' (List.mem_cons_of_mem _ m)
end
end Z
end
section
set_option Elab.async false
set_option linter.all false
set_option maxRecDepth 100000
/-! Calls of the program's defs, by contracts over data. -/
namespace Z
open PySem PySem.Spec L2

/-! ### binding -/
def lookI {α : Type} (xs : List α) (d : α) (i : Nat) : α := (xs[i]?).getD d
/-- where each parameter's value stands among the positional values (m of them) and the keywords' -/
def perm1 (ps ks : List Str) (m : Nat) (i : Nat) (x : Str) : Option Nat := if i < m then (if ks.contains x then none else some i) else (ks.findIdx? (· == x)).map (· + m)
def permOf (ps ks : List Str) (m : Nat) : Option (List Nat) :=
  if m + ks.length = ps.length ∧ ks.all (ps.contains ·) = true ∧ (ps.take m ++ ks).Nodup then (ps.zipIdx.mapM fun p => perm1 ps ks m p.2 p.1) else none
/-- a def without defaults, stars, names that must be written -/
structure Plain (fd : FuncData) (ps : List Str) : Prop where
  p1 : fd.params.posonlyargs = []
  p2 : fd.params.args.map (·.arg) = ps
  p3 : fd.params.vararg = none
  p4 : fd.params.kwonlyargs = []
  p5 : fd.params.kwarg = none
  p6 : fd.defaults = .none

theorem mapM_some {α β : Type} {f : α → Option β} : ∀ {l : List α} {r : List β}, l.mapM f = some r → r.length = l.length ∧ ∀ (i : Nat) (x : α) (y : β), l[i]? = some x → r[i]? = some y → f x = some y
  | [], r, h => by
    simp only [List.mapM_nil] at h
    cases h
    exact ⟨rfl, fun i x y e => by simp at e⟩
  | a :: l, r, h => by
    simp only [List.mapM_cons] at h
    cases e1 : f a with
    | none => rw [e1] at h; cases h
    | some b =>
      rw [e1] at h
      cases e2 : l.mapM f with
      | none => simp [e2] at h
      | some r' =>
        simp [e2] at h
        subst h
        obtain ⟨h1, h2⟩ := mapM_some e2
        refine ⟨by simp [h1], fun i x y ex ey => ?_⟩
        cases i with
        | zero =>
          simp at ex ey
          subst ex ey
          exact e1
        | succ i => exact h2 i x y (by simpa using ex) (by simpa using ey)

theorem lookup_append' {α : Type} (x : Str) : ∀ (l m : List (Str × α)), (l ++ m).lookup x = match l.lookup x with | some v => some v | none => m.lookup x
  | [], _ => rfl
  | (k, v) :: l, m => by
    rw [List.cons_append, List.lookup_cons, List.lookup_cons]
    cases x == k with
    | true => rfl
    | false => exact lookup_append' x l m
theorem lookup_zip_nd {α : Type} : ∀ {ks : List Str} {ws : List α} {i : Nat} {x : Str} {w : α}, (∀ j, j < i → ks[j]? ≠ some x) → ks[i]? = some x → ws[i]? = some w → (ks.zip ws).lookup x = some w
  | [], _, _, _, _, _, h, _ => by simp at h
  | _ :: _, [], _, _, _, _, _, h => by simp at h
  | k :: ks, v :: ws, 0, x, w, _, h1, h2 => by
    simp at h1 h2
    subst h1 h2
    simp
  | k :: ks, v :: ws, i + 1, x, w, h0, h1, h2 => by
    have hk : (x == k) = false := by
      rw [beq_eq_false_iff_ne]
      intro e
      exact h0 0 (Nat.succ_pos i) (by rw [e]; rfl)
    rw [List.zip_cons_cons, List.lookup_cons, hk]
    exact lookup_zip_nd (i := i) (fun j hj e => h0 (j + 1) (by omega) (by simpa using e)) (by simpa using h1) (by simpa using h2)
theorem lookup_zip_none {α : Type} : ∀ {ks : List Str} {ws : List α} {x : Str}, x ∉ ks → (ks.zip ws).lookup x = none
  | [], _, _, _ => by simp
  | _ :: _, [], _, _ => by simp
  | k :: ks, v :: ws, x, h => by
    have hk : (x == k) = false := by
      rw [beq_eq_false_iff_ne]
      intro e
      exact h (by simp [e])
    rw [List.zip_cons_cons, List.lookup_cons, hk]
    exact lookup_zip_none fun m => h (List.mem_cons_of_mem _ m)

/-- the loop over the keywords -/
theorem kw_loop {normal : List Str} (f : Str × Value → List (Str × Value) × List (Str × Value) → Sem (ForInStep (List (Str × Value) × List (Str × Value))))
    (hf : ∀ k v s e, normal.contains k = true → (s.lookup k).isSome = false → f (k, v) (s, e) = pure (.yield (s ++ [(k, v)], e))) :
    ∀ (kw : List (Str × Value)) (s e : List (Str × Value)), (∀ p ∈ kw, normal.contains p.1 = true) → ((s ++ kw).map (·.1)).Nodup → forIn kw (s, e) f = pure (s ++ kw, e)
  | [], s, e, _, _ => by rw [List.forIn_nil, List.append_nil]
  | (k, v) :: kw, s, e, h, nd => by
    have hs : (s.lookup k).isSome = false := by
      cases q : s.lookup k with
      | none => rfl
      | some w =>
        have m := PySem.mem_of_lookup q
        rw [List.map_append, List.map_cons] at nd
        have := (List.nodup_append.mp nd).2.2 k (List.mem_map.mpr ⟨_, m, rfl⟩) k (List.mem_cons_self)
        exact absurd rfl this
    rw [List.forIn_cons, hf k v s e (h _ List.mem_cons_self) hs]
    have ih := kw_loop f hf kw (s ++ [(k, v)]) e (fun p m => h p (List.mem_cons_of_mem _ m)) (by rw [List.append_assoc]; exact nd)
    rw [List.append_assoc] at ih
    exact ih

theorem filterMap_zip {α β : Type} (g : α → Option β) : ∀ (l : List α) (r : List β), r.length = l.length → (∀ (i : Nat) (x : α) (y : β), l[i]? = some x → r[i]? = some y → g x = some y) → (l.filterMap fun n => (g n).map fun v => (n, v)) = l.zip r
  | [], [], _, _ => rfl
  | [], _ :: _, h, _ => by simp at h
  | _ :: _, [], h, _ => by simp at h
  | a :: l, b :: r, h, hg => by
    rw [List.filterMap_cons, hg 0 a b rfl rfl, List.zip_cons_cons]
    show (a, b) :: _ = _
    rw [filterMap_zip g l r (by simpa using h) fun i x y e1 e2 => hg (i + 1) x y (by simpa using e1) (by simpa using e2)]

theorem bindArgs_plain {fd : FuncData} {ps : List Str} (P : Plain fd ps) (us : List Value) (kw : List (Str × Value)) (rs : List Value) (hm : us.length ≤ ps.length)
    (hk : ∀ p ∈ kw, ps.contains p.1 = true) (nd : ((ps.zip us ++ kw).map (·.1)).Nodup) (hl : rs.length = ps.length)
    (hr : ∀ (i : Nat) (x : Str) (y : Value), ps[i]? = some x → rs[i]? = some y → (ps.zip us ++ kw).lookup x = some y) : bindArgs fd ⟨us, kw⟩ = pure (ps.zip rs) := by
  have e1 := P.p1
  have e2 := P.p2
  have e3 := P.p3
  have e4 := P.p4
  have e5 := P.p5
  have e6 := P.p6
  unfold bindArgs
  simp only [e1, e2, e3, e4, e5, e6, List.map_nil, List.nil_append, List.append_nil, List.contains_nil, Bool.or_false]
  rw [kw_loop (normal := ps) _ (fun k v s e h1 h2 => by simp only [h1, h2]; rfl) kw (ps.zip us) [] hk nd]
  simp only [pure_bind]
  have e7 : seqItems? Value.none = pure none := rfl
  rw [e7]
  have e8 : ¬ us.length > ps.length := by omega
  have e9 : (List.filter (fun n => (List.lookup n (ps.zip us ++ kw)).isNone) (List.take ps.length ps)).isEmpty = true := by
    rw [List.take_length, List.isEmpty_iff, List.filter_eq_nil_iff]
    intro x hx
    obtain ⟨i, hi, e⟩ := List.mem_iff_getElem.mp hx
    have q := hr i x (rs[i]'(by omega)) (by rw [List.getElem?_eq_getElem hi, e]) (by rw [List.getElem?_eq_getElem])
    rw [q]
    simp
  simp [e8]
  split
  · rename_i h
    exfalso
    rw [List.drop_nil, List.length_nil, Nat.sub_zero, e9] at h
    cases h
  · refine congrArg pure ?_
    exact filterMap_zip (fun n => List.lookup n (ps.zip us ++ kw)) ps rs hl hr
def arr {α : Type} (d : α) (perm : List Nat) (us ws : List α) : List α := perm.map (lookI (us ++ ws) d)
theorem findIdx_get {ks : List Str} {x : Str} {j : Nat} (h : ks.findIdx? (· == x) = some j) : ks[j]? = some x ∧ ∀ i, i < j → ks[i]? ≠ some x := by
  obtain ⟨h1, h2, h3⟩ := List.findIdx?_eq_some_iff_getElem.mp h
  refine ⟨by rw [List.getElem?_eq_getElem h1, beq_iff_eq.mp h2], fun i hi e => ?_⟩
  have q := h3 i hi
  rw [List.getElem?_eq_getElem (by omega)] at e
  rw [Option.some.inj e] at q
  simp at q
theorem fst_zip {α β : Type} : ∀ (l : List α) (r : List β), (l.zip r).map (·.1) = l.take r.length
  | [], _ => by simp
  | _ :: _, [] => by simp
  | a :: l, b :: r => by
    rw [List.zip_cons_cons, List.map_cons, fst_zip l r]
    rfl
theorem binds_plain {fd : FuncData} {ps ks : List Str} {m : Nat} {perm : List Nat} (P : Plain fd ps) (hp : permOf ps ks m = some perm) (s : Shared) (us ws : List Value) (hu : us.length = m) (hw : ws.length = ks.length) :
    BindsTo s fd ⟨us, ks.zip ws⟩ (ps.zip (arr .none perm us ws)) ∧ (arr Value.none perm us ws).length = ps.length := by
  unfold permOf at hp
  split at hp
  · rename_i hc
    obtain ⟨hl, hall, nd⟩ := hc
    obtain ⟨h1, h2⟩ := mapM_some hp
    have hlen : (arr Value.none perm us ws).length = ps.length := by
      unfold arr
      rw [List.length_map, h1, List.length_zipIdx]
    refine ⟨.of_eq (bindArgs_plain P us (ks.zip ws) _ (by omega) (fun p hp' => ?_) ?_ hlen fun i x y ex ey => ?_), hlen⟩
    · exact List.all_eq_true.mp hall p.1 (List.of_mem_zip hp').1
    · rw [List.map_append, fst_zip, fst_zip, hu, hw, List.take_length]
      exact nd
    · -- the i-th parameter
      have hi : i < ps.length := (List.getElem?_eq_some_iff.mp ex).1
      have ez : (ps.zipIdx)[i]? = some (x, i) := by
        rw [List.getElem?_zipIdx, ex]; simp
      obtain ⟨j, ej⟩ : ∃ j, perm[i]? = some j := ⟨perm[i]'(by rw [h1, List.length_zipIdx]; exact hi), List.getElem?_eq_getElem _⟩
      have q := h2 i (x, i) j ez ej
      unfold arr at ey
      rw [List.getElem?_map, ej] at ey
      have ey' : lookI (us ++ ws) Value.none j = y := Option.some.inj ey
      unfold perm1 at q
      rw [lookup_append']
      by_cases him : i < m
      · rw [if_pos him] at q
        split at q
        · cases q
        · rename_i hnk
          cases q
          have eu : us[i]? = some y := by
            unfold lookI at ey'
            rw [List.getElem?_append_left (by omega)] at ey'
            rw [List.getElem?_eq_getElem (by omega)] at ey' ⊢
            rw [← ey']; rfl
          have ndp : (ps.take m).Nodup := (List.nodup_append.mp nd).1
          rw [lookup_zip_nd (fun j hj e => ?_) ex eu]
          have e1 : (ps.take m)[j]? = some x := by rw [List.getElem?_take_of_lt (by omega)]; exact e
          have e2 : (ps.take m)[i]? = some x := by rw [List.getElem?_take_of_lt him]; exact ex
          have := nodup_ix ndp e1 e2
          omega
      · rw [if_neg him] at q
        obtain ⟨t, ht, rfl⟩ := Option.map_eq_some_iff.mp q
        obtain ⟨g1, g2⟩ := findIdx_get ht
        have ht2 : t < ks.length := (List.getElem?_eq_some_iff.mp g1).1
        have ew : ws[t]? = some y := by
          unfold lookI at ey'
          rw [List.getElem?_append_right (by omega), show t + m - us.length = t by omega] at ey'
          rw [List.getElem?_eq_getElem (by omega)] at ey' ⊢
          rw [← ey']; rfl
        have hn : (ps.zip us).lookup x = none := by
          cases q' : (ps.zip us).lookup x with
          | none => rfl
          | some w =>
            exfalso
            have mm := PySem.mem_of_lookup q'
            obtain ⟨k, hk, ek⟩ := List.mem_iff_getElem.mp mm
            have hk' : k < ps.length ∧ k < us.length := by rw [List.length_zip] at hk; omega
            rw [List.getElem_zip] at ek
            have e1 : ps[k] = x := congrArg Prod.fst ek
            have m1 : x ∈ ps.take m := by
              rw [← e1]
              exact List.mem_iff_getElem.mpr ⟨k, by rw [List.length_take]; omega, List.getElem_take ..⟩
            have m2 : x ∈ ks := List.mem_of_getElem? g1
            exact (List.nodup_append.mp nd).2.2 x m1 x m2 rfl
        rw [hn]
        exact lookup_zip_nd (fun j hj e => g2 j hj e) g1 ew
  · cases hp
end Z
end
section
set_option Elab.async false
set_option linter.all false
set_option maxRecDepth 100000
/-! A def's promise, where no repr is under way around the call; calls with names. -/
namespace Z
open PySem PySem.Spec L2
open PyProof.Rows (envOfC)
section
variable {P : Program} {w : World} {K : PySem.W.Frag} {mg : Str → Option Value} {base : Heap} {CX : CXT} {k j : Nat} {f : Addr} {fd : FuncData} {ps : List Str} {sp : Sp}
structure FnG (P : Program) (w : World) (K : PySem.W.Frag) (mg : Str → Option Value) (base : Heap) (CX : CXT) (k : Nat) (f : Addr) (fd : FuncData) (ps : List Str) (sp : Sp) : Prop where
  len : ∀ vs H Q E, sp vs H Q E → vs.length = ps.length
  run : ∀ (A : Around) (fr : List Env) (s : Shared) (H : Hp) (args : Args) (us : List Value) (vs : List V) (Q : VK) (E : XK),
    Room k A → A.guards = some [] → Env0 P w K mg base A fr s H → BindsTo s fd args (ps.zip us) → Vals vs us → sp vs H Q E →
    codeAny (model P w) A (.call (.ref f) args) (CR CX fr P w H s Q E) s
theorem FnG.of (F : FnOk P w K mg base CX k f fd ps sp) : FnG P w K mg base CX k f fd ps sp :=
  ⟨F.len, fun A fr s H args us vs Q E hr _ => F.run A fr s H args us vs Q E hr⟩
theorem FnG.mono (F : FnG P w K mg base CX j f fd ps sp) (h : j ≤ k) : FnG P w K mg base CX k f fd ps sp :=
  ⟨F.len, fun A fr s H args us vs Q E hr => F.run A fr s H args us vs Q E (hr.mono h)⟩

/-- a def by its body -/
theorem fnG_of {name qual : Str} {params : Arguments} {body : List Stmt} {scope : Scope} {dV kV doc pm cdv ct oc : Value} {an od : Option Addr} {osl : Array (Option Value)} {N : List Str}
    (lk : K.lookup f = some ⟨oc, od, .func (PySem.W.fnOf name qual params body scope dV kV doc pm an cdv ct), osl⟩)
    (hcd : PySem.W.codeIn K cdv qual = true) (S : FnScope N ps scope) (len : ∀ vs H Q E, sp vs H Q E → vs.length = ps.length)
    (hb : ∀ (A : Around) (fr : List Env) (s : Shared) (H : Hp) (vs : List V) (Q : VK) (E : XK),
      Room k (A.deeper (envOfC qual scope s.heap.objs.size f cdv)) → A.guards = some [] → sp vs H Q E →
      ∃ t, PSs (cxOf CX P w K mg base N qual scope f cdv A fr s H E) body t ∧ t { nx := fun _ H' => Q .non H', rt := Q } (start N vs) H) :
    FnG P w K mg base CX (k + 1) f (PySem.W.fnOf name qual params body scope dV kV doc pm an cdv ct) ps sp := by
  constructor
  · exact len
  intro A fr s H args us vs Q E hr hg e0 hbd rv hsp
  -- the frame, then the body
  have there : ∀ b o, base.get? b = some o → s.heap.get? b = some o := fun b o e => (e0.bs b o e).1
  have KX : K.In s.heap := e0.mod.kin.keeps there
  have lim : s.heap.NoLimit := e0.mod.nolimit.keeps there
  have kinds : ∀ y ∈ ps.zip us, scope.names.lookup y.1 = some .local ∨ (scope.names.lookup y.1 = some .cell ∧ ((cellsFrom (s.heap.objs.size + 1) scope.names []).lookup y.1).isSome = true) := by
    rintro ⟨n, v⟩ hy
    cases S.par n (List.of_mem_zip hy).1 with
    | inl q => exact .inl q
    | inr q => exact .inr ⟨q, PySem.W.cellsFrom_some _ _ _ (.inl q)⟩
  have hroom : A.depth < recursionLimit := hr.depth
  refine codeAny_call_function hroom (KX f _ lk) rfl S.co S.gen rfl (PySem.W.codeRec_of KX hcd) (hbd _ _ _ _ ?_)
  refine wpAny_newFunctionEnv_cells S.kind kinds fun env he s1 x => ?_
  cases he
  refine ⟨lim.keeps x.toInCall.keep, codeAny_func ?_⟩
  obtain ⟨t, ht, hq⟩ := hb A fr s H vs Q E (hr.deeper _) hg hsp
  have I := inv_start (CX := CX) (P := P) (w := w) (K := K) (mg := mg) (base := base) (N := N) (qual := qual) (f := f) (cd := cdv) (E := E) S hr.hd e0 (len _ _ _ _ hsp) rv x
  have back : ∀ {σ' : L2.St} {H' : Hp} {v : V} {u : Value} {s' : Shared}, Inv (cxOf CX P w K mg base N qual scope f cdv A fr s H E) [] σ' H' s' → RelV v u → Q v H' → CE fr P w H s Q u s' := by
    intro σ' H' v u s' J r' q
    exact ⟨v, H', J.os, J.bare, J.base, J.hok, r', q⟩
  refine wpAny_mono (ht.run [] s1 (start N vs) H _ I hq) ?_ fun _ _ z => z
  intro fl s' hs
  match fl, hs with
  | .ret u, ⟨v, _, H', J, r', q⟩ => exact back J r' q
  | .next, ⟨_, H', J, q⟩ => exact back (v := V.non) (u := Value.none) J rfl q
  | .brk, ⟨_, _, _, q⟩ => exact q.elim
  | .cont, ⟨_, _, _, q⟩ => exact q.elim
end

/-! ### no star among the arguments -/
def noStar : Expr → Bool
  | .Starred _ _ => false
  | _ => true
theorem star_cons {e : Expr} {es : List Expr} {env : Env} (h : noStar e = true) : starEach (e :: es) env = (false, eval e env) :: starEach es env := by
  cases e <;> first | rfl | cases h
theorem star_any {env : Env} {pos : Pos} : ∀ {es : List Expr}, es.all noStar = true → (backTo pos (starEach es env)).any (·.1) = false
  | [], _ => rfl
  | e :: es, h => by
    rw [List.all_cons, Bool.and_eq_true] at h
    rw [star_cons h.1]
    show (false || (backTo pos (starEach es env)).any (·.1)) = false
    rw [star_any h.2]
    rfl
def kwNames (kws : List Keyword) : List Str := kws.filterMap (·.arg)
theorem kw_all {env : Env} {pos : Pos} : ∀ {kws : List Keyword}, (kws.all fun k => k.arg.isSome) = true →
    (backToKw pos (keywordEach kws env)).all (·.1.isSome) = true ∧ (backToKw pos (keywordEach kws env)).any (·.1.isNone) = false ∧ (backToKw pos (keywordEach kws env)).filterMap (·.1) = kwNames kws
  | [], _ => ⟨rfl, rfl, rfl⟩
  | ⟨none, e, p⟩ :: kws, h => by rw [List.all_cons, Bool.and_eq_true] at h; cases h.1
  | ⟨some n, e, p⟩ :: kws, h => by
    rw [List.all_cons, Bool.and_eq_true] at h
    obtain ⟨h1, h2, h3⟩ := kw_all (env := env) (pos := pos) h.2
    refine ⟨?_, ?_, ?_⟩
    · show (true && (backToKw pos (keywordEach kws env)).all (·.1.isSome)) = true
      rw [h1]; rfl
    · show (false || (backToKw pos (keywordEach kws env)).any (·.1.isNone)) = false
      rw [h2]; rfl
    · show n :: (backToKw pos (keywordEach kws env)).filterMap (·.1) = n :: kwNames kws
      rw [h3]
theorem kwNames_len : ∀ {kws : List Keyword}, (kws.all fun k => k.arg.isSome) = true → (kwNames kws).length = kws.length
  | [], _ => rfl
  | ⟨none, e, p⟩ :: kws, h => by rw [List.all_cons, Bool.and_eq_true] at h; cases h.1
  | ⟨some n, e, p⟩ :: kws, h => by
    rw [List.all_cons, Bool.and_eq_true] at h
    show (n :: kwNames kws).length = _
    rw [List.length_cons, List.length_cons, kwNames_len h.2]

section
variable {X : Cx} {CX : CXT} {k : Nat} {f : Addr} {fd : FuncData} {ps : List Str} {sp : Sp} {E : XK} {x : Str} {p pos : Pos} {es : List Expr} {kws : List Keyword} {t tk : TA} {perm : List Nat}
theorem vals_look {vs : List V} {us : List Value} (r : Vals vs us) (i : Nat) : RelV (lookI vs .non i) (lookI us .none i) := by
  unfold lookI
  cases e : vs[i]? with
  | none => rw [r.none_of e]; exact rfl
  | some v =>
    obtain ⟨u, e2, h⟩ := r.get e
    rw [e2]; exact h
theorem vals_arr {vs zs : List V} {us ws : List Value} (r : Vals vs us) (q : Vals zs ws) : ∀ perm : List Nat, Vals (arr .non perm vs zs) (arr .none perm us ws)
  | [] => .nil
  | i :: perm => .cons (vals_look (r.append q) i) (vals_arr r q perm)
/-- f(e, .., k = v, ..) -/
def tCallP (sp : Sp) (perm : List Nat) (m n : Nat) (E : XK) (t tk : TA) : TE := fun σ H Q => t σ H fun vs H1 => tk σ H1 fun zs H2 => vs.length = m ∧ zs.length = n ∧ sp (arr .non perm vs zs) H2 Q E
theorem run_fnG {pins : List (Addr × Obj)} {σ : L2.St} {H : Hp} {s : Shared} {Q : VK} {us ws : List Value} {vs zs : List V} (F : FnG X.prog X.w X.K X.mg X.base CX k f fd ps sp) (hr : Room k X.A) (hg : X.A.guards = some []) (hx : Passes CX X E)
    (hp : Plain fd ps) {ks : List Str} (hpm : permOf ps ks us.length = some perm) (hw : ws.length = ks.length) (I : Inv X pins σ H s) (r : Vals vs us) (rz : Vals zs ws) (h : sp (arr .non perm vs zs) H Q E) :
    wpAny (model X.prog X.w) X.A (call (.ref f) us (ks.zip ws)) (EP X pins σ Q) X.xe s := by
  have hb := (binds_plain hp hpm s us ws rfl hw).1
  have go := F.run X.A X.stack s H ⟨us, ks.zip ws⟩ _ _ Q E hr hg I.env0 hb (vals_arr r rz perm) h
  refine wpAny_call (codeAny_mono go fun res s' hq => ?_)
  match res, hq with
  | .error e, hq => exact hx pins σ H s e s' I hq
  | .ok (.ret u), hq => exact I.after hq
  | .ok .next, hq => exact hq.elim
  | .ok .brk, hq => exact hq.elim
  | .ok .cont, hq => exact hq.elim
/-- with a positional argument, names or none -/
theorem pe_callG {e : Expr} (F : FnG X.prog X.w X.K X.mg X.base CX k f fd ps sp) (hr : Room k X.A) (hgd : X.A.guards = some []) (hg : Gl X x) (hm : X.mg x = some (.ref f)) (hk : PySem.W.keepIn X.K (.ref f) = true) (hx : Passes CX X E)
    (hp : Plain fd ps) (hpm : permOf ps (kwNames kws) (e :: es).length = some perm) (ha : PA X (e :: es) t) (hkw : PK X kws tk) (hst : (e :: es).all noStar = true) (hks : (kws.all fun k => k.arg.isSome) = true)
    (hdb : (x == ("__debug__" : Str)) = false) : PE X (.Call (.Name x p) (e :: es) kws pos) (tCallP sp perm (e :: es).length kws.length E t tk) := by
  constructor
  intro pins s σ H Q I h
  obtain ⟨k1, k2, k3⟩ := kw_all (env := X.env) (pos := pos) hks
  have hst' := hst
  rw [List.all_cons, Bool.and_eq_true] at hst'
  refine wpAny_Call_Name_kw (ld_glob I hg hm ?_ hdb)
  refine PySem.W.callWith_KW (h₀ := X.base) I.ok.mod.kin hk k1 ?_ (by rw [star_any hst, k2]; rfl) (star_cons hst'.1)
  refine thn (ha.run pos pins s σ H _ I h) fun us s1 ⟨vs, H1, I1, r, q⟩ => ?_
  refine thn (hkw.run pos pins s1 σ H1 _ I1 q) fun ws s2 ⟨zs, H2, I2, rz, q1, q2, q3⟩ => ⟨I2.kIn, ?_⟩
  rw [k3]
  exact run_fnG (us := us) F hr hgd hx hp (by rw [← r.length, q1]; exact hpm) (by rw [kwNames_len hks, ← rz.length, q2]) I2 r rz q3
/-- names alone, or nothing -/
theorem pe_callG0 (F : FnG X.prog X.w X.K X.mg X.base CX k f fd ps sp) (hr : Room k X.A) (hgd : X.A.guards = some []) (hg : Gl X x) (hm : X.mg x = some (.ref f)) (hk : PySem.W.keepIn X.K (.ref f) = true) (hx : Passes CX X E)
    (hp : Plain fd ps) (hpm : permOf ps (kwNames kws) 0 = some perm) (hkw : PK X kws tk) (hks : (kws.all fun k => k.arg.isSome) = true) (hdb : (x == ("__debug__" : Str)) = false) :
    PE X (.Call (.Name x p) [] kws pos) (tCallP sp perm 0 kws.length E tNil tk) := by
  constructor
  intro pins s σ H Q I h
  obtain ⟨k1, k2, k3⟩ := kw_all (env := X.env) (pos := pos) hks
  refine wpAny_Call_Name_kw (ld_glob I hg hm ?_ hdb)
  refine PySem.W.callWith_KW0 (h₀ := X.base) I.ok.mod.kin hk k1 ?_ (by rw [k2]; rfl)
  refine thn (hkw.run pos pins s σ H _ I h) fun ws s2 ⟨zs, H2, I2, rz, q1, q2, q3⟩ => ⟨I2.kIn, ?_⟩
  rw [k3]
  exact run_fnG (us := []) (vs := []) F hr hgd hx hp hpm (by rw [kwNames_len hks, ← rz.length, q2]) I2 .nil rz q3
end
end Z
end
section
set_option Elab.async false
set_option linter.all false
set_option maxRecDepth 100000
namespace Z
open PySem PySem.Spec L2
open PyProof.Rows (envOfC)

/-- an error: its class, what it keeps -/
abbrev Exn := Str × D
/-- what a def does: from the values handed in, what is wanted of its answer, of its error -/
abbrev Ct := List RV → (RV → Prop) → (Exn → Prop) → Prop

section
variable (K : Kw) (T : DkT) (dk : Option (Addr × Addr)) (F : Addr → Prop) (H : Hp)
def ArgOk (v : V) : RV → Prop
  | .val d => Rep K F H v d
  | .deck => ∃ p q, dk = some (p, q) ∧ v = .ref p
  | _ => False
def ArgsOk : List V → List RV → Prop
  | [], [] => True
  | v :: vs, r :: rs => ArgOk K dk F H v r ∧ ArgsOk vs rs
  | _, _ => False
/-- behind the call: what was there stands, but the draws; what came is new -/
def Pst (v : V) (H' : Hp) (r : RV) : Prop :=
  ∃ F' : Addr → Prop, (∀ a, F' a → F a ∨ H a = none) ∧ (∀ a, F' a → (H' a).isSome = true) ∧
    (∀ a o, H a = some o → (∀ p q, dk = some (p, q) → a ≠ p ∧ a ≠ q) → H' a = some o) ∧ (∀ p q, dk = some (p, q) → T.P H' p q ∧ (∀ xs, H' p ≠ some (.tup xs)) ∧ (∀ o u, H' p ≠ some (.frz o u)) ∧ (∀ xs, H' q ≠ some (.tup xs)) ∧ (∀ o u, H' q ≠ some (.frz o u)) ∧ (H' p).isSome = true ∧ (H' q).isSome = true) ∧
    match r with
    | .val d => Rep K F' H' v d
    | .own d => ∃ a, v = .ref a ∧ H a = none ∧ ¬ F' a ∧ ObR K F' H' a d
    | _ => False
end
structure DkOk (T : DkT) (dk : Option (Addr × Addr)) (F : Addr → Prop) (H : Hp) : Prop where
  all : ∀ p q, dk = some (p, q) → p ≠ q ∧ T.P H p q ∧ ¬ F p ∧ ¬ F q ∧ (H p).isSome = true ∧ (H q).isSome = true ∧ (∀ xs, H p ≠ some (.tup xs)) ∧ (∀ o u, H p ≠ some (.frz o u)) ∧ (∀ xs, H q ≠ some (.tup xs)) ∧ (∀ o u, H q ≠ some (.frz o u))
def spZ (K : Kw) (T : DkT) (n : Nat) (c : Ct) : Sp := fun vs H Q _ => vs.length = n ∧ ∃ (F : Addr → Prop) (dk : Option (Addr × Addr)) (rs : List RV) (QQ : RV → Prop),
  (∀ a, F a → (H a).isSome = true) ∧ DkOk T dk F H ∧ ArgsOk K dk F H vs rs ∧ c rs QQ (fun _ => False) ∧ ∀ v H' r, Pst K T dk F H v H' r → QQ r → Q v H'

section
variable {C : Cn} {K : Kw} {W : Wd} {H H' : Hp} {σ : L2.St} {δ : Sto} {tv : List V} {τ : List RV} {v : V} {r : RV} {d : D} {a p : Addr} {i j : Nat}

theorem ObR.soft {F : Addr → Prop} (h : ObR K F H a d) : (H a).isSome = true ∧ (∀ xs, H a ≠ some (.tup xs)) ∧ (∀ o u, H a ≠ some (.frz o u)) := by
  cases d with
  | list ds => obtain ⟨xs, h1, _⟩ := h; rw [h1]; exact ⟨rfl, (by intro _ z; cases z), (by intro _ _ z; cases z)⟩
  | dict kvs =>
    obtain ⟨ks, ⟨es, ep, h1, _⟩, _⟩ := h
    rw [h1]; exact ⟨rfl, (by intro _ z; cases z), (by intro _ _ z; cases z)⟩
  | _ => exact (show False from h).elim
theorem Gd.called (g : Gd C W H σ δ tv τ) (h : Pst C.K C.T W.dk W.F H v H' r) : ∃ W', Gd C W' H' σ δ (v :: tv) (r :: τ) := by
  obtain ⟨F', f1, f2, keep, dk', res⟩ := h
  have notdk : ∀ {b : Addr} {o : Ow}, W.ow b = some o → o ≠ .deck → ∀ p q, W.dk = some (p, q) → b ≠ p ∧ b ≠ q := fun {b o} e ne p q e2 => by
    obtain ⟨_, _, h3, h4⟩ := g.deck p q e2
    refine ⟨fun z => ?_, fun z => ?_⟩
    · rw [z, h3] at e; exact ne (Option.some.inj e).symm
    · rw [z, h4] at e; exact ne (Option.some.inj e).symm
  have nodk : ∀ {b : Addr}, W.ow b = none → ∀ p q, W.dk = some (p, q) → b ≠ p ∧ b ≠ q := fun {b} e p q e2 => by
    obtain ⟨_, _, h3, h4⟩ := g.deck p q e2
    refine ⟨fun z => ?_, fun z => ?_⟩
    · rw [z, h3] at e; cases e
    · rw [z, h4] at e; cases e
  have some_of : ∀ {b : Addr}, (H b).isSome = true → ∃ o, H b = some o := fun h => Option.isSome_iff_exists.mp h
  -- what the pile and the slots hold stays
  have keepO : ∀ b o, W.ow b = some o → o ≠ .deck → H' b = H b := fun b o e ne => by
    obtain ⟨x, hx⟩ := some_of (g.live b (by rw [e]; rfl))
    rw [hx]; exact keep b x hx (notdk e ne)
  have keepN : ∀ b x, W.ow b = none → H b = some x → H' b = some x := fun b x e hx => keep b x hx (nodk e)
  have softOw : ∀ {b : Addr}, (∃ xs, H b = some (.tup xs)) ∨ (∃ o u, H b = some (.frz o u)) → W.ow b = none := fun {b} h => by
    cases e : W.ow b with
    | none => rfl
    | some o =>
      have s := g.soft b (by rw [e]; rfl)
      rcases h with ⟨xs, h⟩ | ⟨o', u, h⟩
      · exact absurd h (s.1 xs)
      · exact absurd h (s.2 o' u)
  have st : Stab W.F H H' := ⟨fun b h => by
      obtain ⟨x, hx⟩ := some_of (g.flive b h)
      rw [hx]; exact keepN b x (g.frz b h) hx, fun b xs h => keepN b _ (softOw (.inl ⟨xs, h⟩)) h, fun b o u h => keepN b _ (softOw (.inr ⟨o, u, h⟩)) h⟩
  have F'ow : ∀ b, F' b → W.ow b = none := fun b h => by
    rcases f1 b h with h | h
    · exact g.frz b h
    · exact g.how h
  -- the world with F' too; x: a new owned object, or none
  have go : ∀ (ow' : Addr → Option Ow), (∀ b, H b ≠ none ∨ F' b → ow' b = W.ow b) → (∀ b, (ow' b).isSome = true → W.ow b = ow' b ∨ ((H' b).isSome = true ∧ (∀ xs, H' b ≠ some (.tup xs)) ∧ ∀ o u, H' b ≠ some (.frz o u))) →
      Gd C ⟨fun b => W.F b ∨ F' b, ow', W.dk⟩ H' σ δ tv τ := fun ow' h1 h2 => by
    have hs : ∀ b, (W.ow b).isSome = true → ow' b = W.ow b := fun b e => h1 b (.inl fun z => by have := g.live b e; rw [z] at this; cases this)
    refine g.go ⟨fun _ h => .inl h, st, fun b o e ne => ⟨by show ow' b = _; rw [hs b (by rw [e]; rfl)]; exact e, keepO b o e ne⟩, fun _ _ h => h⟩ (fun b x e0 e1 e2 => ⟨by show ow' b = _; rw [h1 b (.inl (by rw [e2]; intro z; cases z))]; exact e1, keepN b x e1 e2⟩) (fun b h => ?_) (fun b h => ?_) (fun b h => ?_) (fun b h => ?_) (fun p q e => ?_) (fun b h => ?_)
    · show ow' b = none
      rcases h with h | h
      · rw [h1 b (.inl fun z => by have := g.flive b h; rw [z] at this; cases this)]; exact g.frz b h
      · rw [h1 b (.inr h)]; exact F'ow b h
    · rcases h with h | h
      · exact g.fnew b h
      · rcases f1 b h with h | h
        · exact g.fnew b h
        · exact .inr (g.h0_new h)
    · rcases h2 b h with e | e
      · have hb : (W.ow b).isSome = true := by rw [e]; exact h
        cases e' : W.ow b with
        | none => rw [e'] at hb; cases hb
        | some o =>
          by_cases ho : o = .deck
          · obtain ⟨x, hx⟩ := some_of (g.live b hb)
            by_cases hd : ∀ p q, W.dk = some (p, q) → b ≠ p ∧ b ≠ q
            · rw [keep b x hx hd]; rfl
            · have : ∃ p q, W.dk = some (p, q) ∧ (b = p ∨ b = q) := by
                refine Classical.byContradiction fun z => hd fun p q e3 => ⟨fun e4 => z ⟨p, q, e3, .inl e4⟩, fun e4 => z ⟨p, q, e3, .inr e4⟩⟩
              obtain ⟨p, q, e3, e4⟩ := this
              obtain ⟨_, _, _, _, _, k1, k2⟩ := dk' p q e3
              rcases e4 with rfl | rfl
              · exact k1
              · exact k2
          · rw [keepO b o e' ho]; exact g.live b hb
      · exact e.1
    · rcases h with h | h
      · obtain ⟨x, hx⟩ := some_of (g.flive b h)
        rw [keepN b x (g.frz b h) hx]; rfl
      · exact f2 b h
    · obtain ⟨k1, k2, k3, k4⟩ := g.deck p q e
      exact ⟨k1, (dk' p q e).1, by show ow' p = _; rw [hs p (by rw [k3]; rfl)]; exact k3, by show ow' q = _; rw [hs q (by rw [k4]; rfl)]; exact k4⟩
    · rcases h2 b h with e | e
      · have hb : (W.ow b).isSome = true := by rw [e]; exact h
        cases e' : W.ow b with
        | none => rw [e'] at hb; cases hb
        | some o =>
          by_cases ho : o = .deck
          · obtain ⟨x, hx⟩ := some_of (g.live b hb)
            by_cases hd : ∀ p q, W.dk = some (p, q) → b ≠ p ∧ b ≠ q
            · rw [keep b x hx hd, ← hx]; exact g.soft b hb
            · have : ∃ p q, W.dk = some (p, q) ∧ (b = p ∨ b = q) := by
                refine Classical.byContradiction fun z => hd fun p q e3 => ⟨fun e4 => z ⟨p, q, e3, .inl e4⟩, fun e4 => z ⟨p, q, e3, .inr e4⟩⟩
              obtain ⟨p, q, e3, e4⟩ := this
              obtain ⟨_, k1, k2, k3, k4, _⟩ := dk' p q e3
              rcases e4 with rfl | rfl
              · exact ⟨k1, k2⟩
              · exact ⟨k3, k4⟩
          · rw [keepO b o e' ho]; exact g.soft b hb
      · exact e.2
  have hFF : ∀ b, F' b → W.F b ∨ F' b := fun b h => .inr h
  cases r with
  | val d => exact ⟨_, (go W.ow (fun _ _ => rfl) fun _ _ => .inl rfl).push (r := .val d) (show Rep C.K _ H' v d from Rep.mono hFF Stab.refl res)⟩
  | own d =>
    obtain ⟨a, rfl, ha, hF, ho⟩ := res
    have hs := ho.soft
    refine ⟨_, (go (fun b => if b = a then some (.tmp τ.length) else W.ow b) (fun b h => ?_) fun b h => ?_).push (r := .own d) ⟨a, rfl, if_pos rfl, ho.mono hFF Stab.refl rfl⟩⟩
    · refine if_neg fun z => ?_
      rcases h with h | h
      · exact h (by rw [z]; exact ha)
      · exact hF (by rw [← z]; exact h)
    · by_cases z : b = a
      · subst z; exact .inr hs
      · exact .inl (if_neg z).symm
  | _ => exact res.elim
end
end Z
end
section
set_option Elab.async false
set_option linter.all false
set_option maxRecDepth 100000
/-! Meanings over data, and how a rule of the machine takes them up. -/
namespace Z
open PySem PySem.Spec L2
abbrev ZT := Sto → (RV → Sto → Prop) → Prop
abbrev ZB := Sto → (Bool → Sto → Prop) → Prop
abbrev ZL := Sto → (List RV → Sto → Prop) → Prop
structure Zend where
  nx : Sto → Prop
  rt : RV → Sto → Prop
  bk : Sto → Prop := fun _ => False
  ct : Sto → Prop := fun _ => False
abbrev ZS := Zend → Sto → Prop

def lift (C : Cn) (t : ZT) : TE := fun σ H Q => ∃ W δ tv τ QQ, Gd C W H σ δ tv τ ∧ t δ QQ ∧ ∀ u H' W' r δ', Gd C W' H' σ δ' (u :: tv) (r :: τ) → QQ r δ' → Q u H'
def liftB (C : Cn) (t : ZB) : TT := fun σ H Q => ∃ W δ tv τ QQ, Gd C W H σ δ tv τ ∧ t δ QQ ∧ ∀ b H' W' δ', Gd C W' H' σ δ' tv τ → QQ b δ' → Q b H'
/-- values one after another; the pile has the last one on top -/
def liftL (C : Cn) (t : ZL) : TA := fun σ H Q => ∃ W δ tv τ QQ, Gd C W H σ δ tv τ ∧ t δ QQ ∧ ∀ us H' W' rs δ', Gd C W' H' σ δ' (us.reverse ++ tv) (rs.reverse ++ τ) → us.length = rs.length → (∀ r ∈ rs, r.good = true) → QQ rs δ' → Q us H'
/-- the ends of a statement -/
structure EndsOk (C : Cn) (D : Ends) (E : Zend) (tv : List V) (τ : List RV) : Prop where
  nx : ∀ σ H W δ, Gd C W H σ δ tv τ → E.nx δ → D.nx σ H
  bk : ∀ σ H W δ, Gd C W H σ δ tv τ → E.bk δ → D.bk σ H
  ct : ∀ σ H W δ, Gd C W H σ δ tv τ → E.ct δ → D.ct σ H
  rt : ∀ v σ H W r δ tv' τ', Gd C W H σ δ (v :: tv') (r :: τ') → E.rt r δ → D.rt v H
def liftS (C : Cn) (t : ZS) : TS := fun D σ H => ∃ W δ tv τ E, Gd C W H σ δ tv τ ∧ Calm τ ∧ t E δ ∧ EndsOk C D E tv τ

section
variable {X : Cx} {C : Cn} {e a b c : Expr} {es : List Expr} {pos : Pos} {t ta tb tc : ZT}
theorem PE.weak {t t' : TE} (h : PE X e t) (i : ∀ σ H Q, t' σ H Q → t σ H Q) : PE X e t' := ⟨fun pins s σ H Q I q => h.run pins s σ H Q I (i σ H Q q)⟩
theorem PT.weak {t t' : TT} (h : PT X e t) (i : ∀ σ H Q, t' σ H Q → t σ H Q) : PT X e t' := ⟨fun pins s σ H Q I q => h.run pins s σ H Q I (i σ H Q q)⟩
theorem PW.weak {t t' : TT} (h : PW X e t) (i : ∀ σ H Q, t' σ H Q → t σ H Q) : PW X e t' := ⟨fun wh pins s σ H Q I q => h.run wh pins s σ H Q I (i σ H Q q)⟩
theorem PA.weak {t t' : TA} (h : PA X es t) (i : ∀ σ H Q, t' σ H Q → t σ H Q) : PA X es t' := ⟨fun p pins s σ H Q I q => h.run p pins s σ H Q I (i σ H Q q)⟩
theorem PS.weak {st : Stmt} {t t' : TS} (h : PS X st t) (i : ∀ D σ H, t' D σ H → t D σ H) : PS X st t' := ⟨fun pins s σ H D I q => h.run pins s σ H D I (i D σ H q)⟩
theorem PSs.weak {st : List Stmt} {t t' : TS} (h : PSs X st t) (i : ∀ D σ H, t' D σ H → t D σ H) : PSs X st t' := ⟨fun pins s σ H D I q => h.run pins s σ H D I (i D σ H q)⟩

/-! ### names, constants -/
def zNm (i : Nat) : ZT := fun δ Q => match δ[i]? with
  | some (some (.val d)) => Q (.val d) δ
  | some (some (.own _)) => Q (.slot i) δ
  | some (some (.lck _)) => Q (.slot i) δ
  | some (some .deck) => Q .deck δ
  | some (some .scr) => Q .scr δ
  | _ => False
theorem pz_nm {i : Nat} {x : Str} (hN : X.N[i]? = some x) (hv : Vis X.env.scope x) (hd : (x == ("__debug__" : Str)) = false) (hcd : (x == ("__classdict__" : Str)) = false) : PE X (.Name x pos) (lift C (zNm i)) := by
  refine PE.weak (pe_var hN hv hd hcd) fun σ H Q h => ?_
  obtain ⟨W, δ, tv, τ, QQ, g, h, k⟩ := h
  unfold zNm at h
  cases e : δ[i]? with
  | none => simp only [e] at h
  | some o =>
    cases o with
    | none => simp only [e] at h
    | some r =>
      obtain ⟨_, v, hv, hr⟩ := g.slots i r e
      refine ⟨v, hv, ?_⟩
      cases r with
      | val d => simp only [e] at h; exact k v H W _ δ (g.push (r := .val d) hr) h
      | own d => simp only [e] at h; exact k v H W _ δ (g.push (r := .slot i) hv) h
      | lck d => simp only [e] at h; exact k v H W _ δ (g.push (r := .slot i) hv) h
      | deck => simp only [e] at h; exact k v H W _ δ (g.push (r := .deck) hr) h
      | scr => simp only [e] at h; exact k v H W _ δ (g.push (r := .scr) hr) h
      | _ => simp only [e] at h
def zC (d : D) : ZT := fun δ Q => Q (.val d) δ
theorem pz_const {v : V} {d : D} (h : PE X e (tC v)) (hr : ∀ F H, Rep C.K F H v d) : PE X e (lift C (zC d)) :=
  PE.weak h fun σ H Q ⟨W, δ, tv, τ, QQ, g, h, k⟩ => k v H W _ δ (g.push (r := .val d) (hr _ _)) h
theorem pz_int {i j} : PE X (.Constant (.int i) j pos) (lift C (zC (.int i))) := pz_const pe_int fun _ _ => .int i
theorem pz_bool {i j} : PE X (.Constant (.bool i) j pos) (lift C (zC (.bool i))) := pz_const pe_bl fun _ _ => .bl i
theorem pz_none {j} : PE X (.Constant .none j pos) (lift C (zC .none)) := pz_const pe_non fun _ _ => .non
theorem pz_str {i j} : PE X (.Constant (.str i) j pos) (lift C (zC (.str i))) := pz_const pe_str fun _ _ => .str i

/-! ### two operands -/
/-- data in, a value out -/
abbrev F2 := D → D → (RV → Prop) → Prop
def zD2 (f : F2) (ta tb : ZT) : ZT := fun δ Q => ta δ fun ra δ1 => tb δ1 fun rb δ2 => match con δ2 ra, con δ2 rb with
  | some x, some y => f x y fun r => Q r δ2
  | _, _ => False
/-- how a rule of the machine takes it up -/
def OpD (C : Cn) (r : R2) (f : F2) : Prop := ∀ {W : Wd} {H : Hp} {σ : L2.St} {δ : Sto} {v y : V} {a b : D} {tv : List V} {τ : List RV} {QQ : RV → Prop} {Q : VK}, Gd C W H σ δ tv τ → Brs C.K W.F H v a → Brs C.K W.F H y b → f a b QQ →
  (∀ u H' W' r', Gd C W' H' σ δ (u :: tv) (r' :: τ) → QQ r' → Q u H') → r v y H Q
theorem Gd.brs2 {W : Wd} {H : Hp} {σ : L2.St} {δ : Sto} {v y : V} {ra rb : RV} {tv : List V} {τ : List RV} {d : D} (g : Gd C W H σ δ (y :: v :: tv) (rb :: ra :: τ)) (e : con δ ra = some d) : Brs C.K W.F H v d := g.pop.brs e
theorem lift_op {r : R2} {f : F2} (h : OpD C r f) : ∀ σ H Q, lift C (zD2 f ta tb) σ H Q → tOp r (lift C ta) (lift C tb) σ H Q := fun σ H Q ⟨W, δ, tv, τ, QQ, g, h1, k⟩ => by
  refine ⟨W, δ, tv, τ, _, g, h1, fun v H1 W1 ra δ1 g1 h2 => ⟨W1, δ1, v :: tv, ra :: τ, _, g1, h2, fun y H2 W2 rb δ2 g2 h3 => ?_⟩⟩
  cases ea : con δ2 ra with
  | none => simp only [ea] at h3
  | some x =>
    cases eb : con δ2 rb with
    | none => simp only [ea, eb] at h3
    | some z =>
      simp only [ea, eb] at h3
      exact h g2.pop.pop (g2.brs2 ea) (g2.brs eb) h3 fun u H' W' r' g' q => k u H' W' r' δ2 g' q
theorem pz_bin {op : Operator} {r : R2} {f : F2} (ho : OpR X (binaryOp op) r) (h : OpD C r f) (ha : PE X a (lift C ta)) (hb : PE X b (lift C tb)) : PE X (.BinOp a op b pos) (lift C (zD2 f ta tb)) :=
  PE.weak (pe_op ho ha hb) (lift_op h)
theorem OpD.or {r r' : R2} {f f' : F2} (h : OpD C r f) (h' : OpD C r' f') : OpD C (fun x y H Q => r x y H Q ∨ r' x y H Q) (fun a b Q => f a b Q ∨ f' a b Q) := by
  intro W H σ δ v y a b tv τ QQ Q g ha hb hf k
  rcases hf with hf | hf
  · exact .inl (h g ha hb hf k)
  · exact .inr (h' g ha hb hf k)
theorem OpD.imp {r : R2} {f f' : F2} (h : OpD C r f) (i : ∀ a b Q, f' a b Q → f a b Q) : OpD C r f' := fun g ha hb hf k => h g ha hb (i _ _ _ hf) k

def fInt (P : Int → Int → Prop) (o : Int → Int → D) : F2
  | .int i, .int j, Q => P i j ∧ Q (.val (o i j))
  | _, _, _ => False
def fInt0 (o : Int → Int → D) : F2
  | .int i, .int j, Q => Q (.val (o i j))
  | _, _, _ => False
theorem brs_int {K : Kw} {F : Addr → Prop} {H : Hp} {v : V} {i : Int} (h : Brs K F H v (.int i)) : v = .int i := Rep.int_of h
theorem brs_bool {K : Kw} {F : Addr → Prop} {H : Hp} {v : V} {i : Bool} (h : Brs K F H v (.bool i)) : v = .bl i := Rep.bool_of h
theorem brs_str {K : Kw} {F : Addr → Prop} {H : Hp} {v : V} {i : Str} (h : Brs K F H v (.str i)) : v = .str i := Rep.str_of h
theorem brs_none {K : Kw} {F : Addr → Prop} {H : Hp} {v : V} (h : Brs K F H v .none) : v = .non := Rep.none_of h
theorem od_int {P : Int → Int → Prop} {g : Int → Int → V} {o : Int → Int → D} (hr : ∀ i j K F H, Rep K F H (g i j) (o i j)) : OpD C (rI P g) (fInt P o) := by
  intro W H σ δ v y a b tv τ QQ Q g' ha hb hf k
  cases a <;> cases b <;> try exact hf.elim
  rename_i i j
  exact ⟨i, j, brs_int ha, brs_int hb, hf.1, k _ H W _ (g'.push (r := .val (o i j)) (hr i j _ _ _)) hf.2⟩
theorem od_int0 {g : Int → Int → V} {o : Int → Int → D} (hr : ∀ i j K F H, Rep K F H (g i j) (o i j)) : OpD C (rI0 g) (fInt0 o) := by
  intro W H σ δ v y a b tv τ QQ Q g' ha hb hf k
  cases a <;> cases b <;> try exact hf.elim
  rename_i i j
  exact ⟨i, j, brs_int ha, brs_int hb, k _ H W _ (g'.push (r := .val (o i j)) (hr i j _ _ _)) hf⟩
end
end Z
end
section
set_option Elab.async false
set_option linter.all false
set_option maxRecDepth 100000
/-! Operators, comparisons, truth, displays. -/
namespace Z
open PySem PySem.Spec L2
section
variable {X : Cx} {C : Cn} {e a b c : Expr} {es : List Expr} {pos : Pos} {t ta tb tc : ZT}

/-! ### + - * // % & ^ -/
def lineN : Nat := 16777216
theorem line_eq : sizeLine = lineN := sizeLine_eq
def MulOk (i j : Int) : Prop := CMul i j ∨ CMulW i j
def DivOk (i j : Int) : Prop := 0 < j ∧ j.natAbs.log2 < 9000
def fAdd : F2
  | .int i, .int j, Q => Q (.val (.int (i + j)))
  | .str x, .str y, Q => x.length + y.length ≤ lineN ∧ Q (.val (.str (x ++ y)))
  | .tuple xs, .tuple ys, Q => xs.length + ys.length ≤ lineN ∧ Q (.val (.tuple (xs ++ ys)))
  | .list xs, .list ys, Q => xs.length + ys.length ≤ lineN ∧ Q (.own (.list (xs ++ ys)))
  | _, _, _ => False
def rAddZ (K : PySem.W.Frag) : R2 := fun x y H Q => rI0 (fun i j => .int (i + j)) x y H Q ∨ (∃ i j, x = .str i ∧ y = .str j ∧ i.length + j.length ≤ sizeLine ∧ Q (.str (i ++ j)) H) ∨ rCatO K x y H Q ∨ rCat x y H Q
theorem or_add : OpR X (binaryOp .Add) (rAddZ X.K) := OpR.or op_add (OpR.or op_add_str (OpR.or op_catO op_cat))
theorem od_add : OpD C (rAddZ C.K.K) fAdd := by
  intro W H σ δ v y a b tv τ QQ Q g ha hb hf k
  cases a <;> cases b <;> try exact hf.elim
  · rename_i i j
    exact .inl ⟨i, j, brs_int ha, brs_int hb, k _ H W _ (g.push (r := .val (.int (i + j))) (.int _)) hf⟩
  · rename_i i j
    exact .inr (.inl ⟨i, j, brs_str ha, brs_str hb, by rw [line_eq]; exact hf.1, k _ H W _ (g.push (r := .val (.str (i ++ j))) (.str _)) hf.2⟩)
  · rename_i xs ys
    obtain ⟨l, us, rfl, h1, h2⟩ := ha
    obtain ⟨l', ws, rfl, h3, h4⟩ := hb
    exact .inr (.inr (.inr ⟨l, l', us, ws, rfl, rfl, h1, h3, by rw [line_eq, h2.length, h4.length]; exact hf.1, fun p hp => k _ _ _ _ (g.newLst hp (h2.append h4)) hf.2⟩))
  · rename_i xs ys
    obtain ⟨l, us, rfl, h1, h2⟩ := Rep.tup_of ha
    obtain ⟨l', ws, rfl, h3, h4⟩ := Rep.tup_of hb
    have hz : us.length + ws.length ≤ sizeLine := by rw [line_eq, h2.length, h4.length]; exact hf.1
    refine .inr (.inr (.inl ⟨l, l', us, ws, rfl, rfl, h1.sqT, h3.sqT, hz, fun e => ?_, fun _ e => ?_, fun _ _ p o hp ho => k _ _ W _ (g.newTup hp ho (h2.append h4)) hf.2⟩))
    · subst e
      cases h2
      exact k _ H W (.val (.tuple ys)) (g.push (r := .val (.tuple ys)) (.tup h3 h4)) hf.2
    · subst e
      cases h4
      have e2 : xs ++ [] = xs := List.append_nil xs
      have hf2 := hf.2
      rw [e2] at hf2
      exact k _ H W (.val (.tuple xs)) (g.push (r := .val (.tuple xs)) (.tup h1 h2)) hf2
def fMul : F2
  | .int i, .int j, Q => MulOk i j ∧ Q (.val (.int (i * j)))
  | .list xs, .int k, Q => k ≤ lineN ∧ xs.length * k.toNat ≤ lineN ∧ -lineN ≤ k ∧ Q (.own (.list (List.replicate k.toNat xs).flatten))
  | .tuple xs, .int k, Q => (k = 1 ∨ (xs ≠ [] ∧ 2 ≤ k ∧ k ≤ 1000 ∧ xs.length ≤ 1000)) ∧ Q (.val (.tuple (List.replicate k.toNat xs).flatten))
  | _, _, _ => False
def rMulZ (K : PySem.W.Frag) : R2 := fun x y H Q => rI CMul (fun i j => .int (i * j)) x y H Q ∨ rI CMulW (fun i j => .int (i * j)) x y H Q ∨ rRep x y H Q ∨ rRepO K x y H Q
theorem or_mul : OpR X (binaryOp .Mult) (rMulZ X.K) := OpR.or op_mul (OpR.or op_mulW (OpR.or op_rep op_repO))
theorem RepL.rep {K : Kw} {F : Addr → Prop} {H : Hp} {xs : List V} {ds : List D} (h : RepL K F H xs ds) : ∀ n : Nat, RepL K F H (List.replicate n xs).flatten (List.replicate n ds).flatten
  | 0 => .nil
  | n + 1 => by
    rw [List.replicate_succ, List.replicate_succ, List.flatten_cons, List.flatten_cons]
    exact h.append (h.rep n)
theorem od_mul : OpD C (rMulZ C.K.K) fMul := by
  intro W H σ δ v y a b tv τ QQ Q g ha hb hf k
  cases a <;> cases b <;> try exact hf.elim
  · rename_i i j
    rcases hf.1 with h | h
    · exact .inl ⟨i, j, brs_int ha, brs_int hb, h, k _ H W _ (g.push (r := .val (.int (i * j))) (.int _)) hf.2⟩
    · exact .inr (.inl ⟨i, j, brs_int ha, brs_int hb, h, k _ H W _ (g.push (r := .val (.int (i * j))) (.int _)) hf.2⟩)
  · rename_i xs n
    obtain ⟨l, us, rfl, h1, h2⟩ := ha
    obtain ⟨f1, f2, f3, f4⟩ := hf
    unfold lineN at f1 f3
    exact .inr (.inr (.inl ⟨l, n, us, rfl, brs_int hb, h1, by omega, by omega, by rw [line_eq, h2.length]; exact f2, fun p hp => k _ _ _ _ (g.newLst hp (h2.rep n.toNat)) f4⟩))
  · rename_i xs n
    obtain ⟨l, us, rfl, h1, h2⟩ := Rep.tup_of ha
    refine .inr (.inr (.inr ⟨l, n, us, rfl, brs_int hb, h1.sqT, ?_⟩))
    rcases hf with ⟨rfl | ⟨f0, f1, f2, f3⟩, f4⟩
    · rw [show (List.replicate (1 : Int).toNat xs).flatten = xs by simp] at f4
      exact .inl ⟨rfl, k _ H W (.val (.tuple xs)) (g.push (r := .val (.tuple xs)) (.tup h1 h2)) f4⟩
    · exact .inr ⟨fun e => f0 (by
        subst e
        cases h2
        rfl), f1, f2, by rw [h2.length]; exact f3, fun p o hp ho => k _ _ W _ (g.newTup hp ho (h2.rep n.toNat)) f4⟩
def fSub : F2 := fInt0 fun i j => .int (i - j)
def fDiv : F2 := fInt DivOk fun i j => .int (i / j)
def fMod : F2 := fInt (fun _ j => 0 < j) fun i j => .int (i % j)
def fAnd : F2 := fInt0 fun i j => .int (Builtin.bitAnd i j)
def fXor : F2 := fInt0 fun i j => .int (Builtin.bitXor i j)
def fShl : F2 := fInt CPow fun i j => .int (i * 2 ^ j.toNat)
def fPow : F2 := fInt CPow fun i j => .int (i ^ j.toNat)
def zBin (op : Operator) (ta tb : ZT) : ZT := match op with
  | .Add => zD2 fAdd ta tb
  | .Sub => zD2 fSub ta tb
  | .Mult => zD2 fMul ta tb
  | .FloorDiv => zD2 fDiv ta tb
  | .Mod => zD2 fMod ta tb
  | .BitAnd => zD2 fAnd ta tb
  | .BitXor => zD2 fXor ta tb
  | .LShift => zD2 fShl ta tb
  | .Pow => zD2 fPow ta tb
  | _ => fun _ _ => False
theorem lift_false {t' : TE} : ∀ σ H Q, lift C (fun _ _ => False) σ H Q → t' σ H Q := fun σ H Q ⟨_, _, _, _, _, _, h, _⟩ => h.elim
theorem pz_never : PE X e (lift C fun _ _ => False) := ⟨fun pins s σ H Q I h => by obtain ⟨_, _, _, _, _, _, h, _⟩ := h; exact h.elim⟩
theorem pz_binop (hK : C.K.K = X.K) {op : Operator} (ha : PE X a (lift C ta)) (hb : PE X b (lift C tb)) : PE X (.BinOp a op b pos) (lift C (zBin op ta tb)) := by
  have e1 := @or_add X
  have e2 := @or_mul X
  rw [← hK] at e1 e2
  cases op with
  | Add => exact pz_bin e1 od_add ha hb
  | Mult => exact pz_bin e2 od_mul ha hb
  | Sub => exact pz_bin op_sub (od_int0 fun i j K F H => .int _) ha hb
  | FloorDiv => exact pz_bin op_fdivW (od_int fun i j K F H => .int _) ha hb
  | Mod => exact pz_bin op_mod (od_int fun i j K F H => .int _) ha hb
  | BitAnd => exact pz_bin op_and (od_int0 fun i j K F H => .int _) ha hb
  | BitXor => exact pz_bin op_xor (od_int0 fun i j K F H => .int _) ha hb
  | LShift => exact pz_bin op_shl (od_int fun i j K F H => .int _) ha hb
  | Pow => exact pz_bin op_pow (od_int fun i j K F H => .int _) ha hb
  | _ => exact pz_never
def zUn (f : D → (RV → Prop) → Prop) (ta : ZT) : ZT := fun δ Q => ta δ fun ra δ1 => match con δ1 ra with
  | some x => f x fun r => Q r δ1
  | _ => False
def fNeg : D → (RV → Prop) → Prop
  | .int i, Q => Q (.val (.int (-i)))
  | _, _ => False
theorem pz_neg (ha : PE X a (lift C ta)) : PE X (.UnaryOp .USub a pos) (lift C (zUn fNeg ta)) := by
  refine PE.weak (pe_un un_neg ha) fun σ H Q ⟨W, δ, tv, τ, QQ, g, h1, k⟩ => ?_
  refine ⟨W, δ, tv, τ, _, g, h1, fun v H1 W1 ra δ1 g1 h2 => ?_⟩
  cases e : con δ1 ra with
  | none => simp only [e] at h2
  | some x =>
    simp only [e] at h2
    cases x <;> try exact h2.elim
    rename_i i
    exact ⟨i, brs_int (g1.brs e), k _ H1 W1 _ δ1 (g1.under (r' := .val (.int (-i))) (.int _)) h2⟩

/-! ### comparisons -/
/-- no dict within, not too deep -/
def Eqable (a b : D) : Prop := SeqAt.shaped a = true ∧ SeqAt.shaped b = true
mutual
theorem Rep.dp {K : Kw} {F : Addr → Prop} {H : Hp} : ∀ {v : V} {d : D}, Rep K F H v d → d.canLay0 = true → Dp K.K H v d
  | _, _, .non, _ => .non
  | _, _, .bl b, _ => .bl b
  | _, _, .int i, _ => .int i
  | _, _, .str x, _ => .str x
  | _, _, .tup h r, q => .tup h.sqT (r.dp (by simpa [PyData.canLay0] using q))
  | _, _, .lst _ h r, q => .lst (.inl (.inl h)) (r.dp (by simpa [PyData.canLay0] using q))
  | _, _, .dic _ h r, q => by simp [PyData.canLay0] at q
theorem RepL.dp {K : Kw} {F : Addr → Prop} {H : Hp} : ∀ {v : List V} {d : List D}, RepL K F H v d → PyData.canLayAll0 d = true → DpAll K.K H v d
  | _, _, .nil, _ => .nil
  | _, _, .cons h r, q => by
    simp only [PyData.canLayAll0, Bool.and_eq_true] at q
    exact .cons (h.dp q.1) (r.dp q.2)
end
theorem brs_dp {K : Kw} {F : Addr → Prop} {H : Hp} {v : V} {d : D} (h : Brs K F H v d) (q : SeqAt.shaped d = true) : Dp K.K H v d := by
  have q' : d.canLay0 = true := (Bool.and_eq_true_iff.mp q).1
  cases d with
  | list ds =>
    obtain ⟨a, xs, rfl, h1, h2⟩ := h
    exact .lst (.inl (.inl h1)) (h2.dp (by simpa [PyData.canLay0] using q'))
  | dict kvs => simp [PyData.canLay0] at q'
  | _ => exact Rep.dp h q'
def fEq : F2 := fun a b Q => match a, b with
  | .str x, .str y => Q (.val (.bool (decide (x = y))))
  | _, _ => Eqable a b ∧ Q (.val (.bool (PyData.eqv a b)))
def fNe : F2 := fun a b Q => match a, b with
  | .str x, .str y => Q (.val (.bool (!decide (x = y))))
  | _, _ => Eqable a b ∧ Q (.val (.bool (!PyData.eqv a b)))
def rEqZ (K : PySem.W.Frag) : R2 := fun x y H Q => rEq x y H Q ∨ rEqD K x y H Q
def rNeZ (K : PySem.W.Frag) : R2 := fun x y H Q => rNe x y H Q ∨ rNeD K x y H Q
theorem or_eq (hu : X.A.units + 64 < cLine) : OpR X (compareOp .Eq) (rEqZ X.K) := OpR.or op_eq (op_eqD hu)
theorem or_ne (hu : X.A.units + 64 < cLine) : OpR X (compareOp .NotEq) (rNeZ X.K) := OpR.or op_ne (op_neD hu)
theorem dec_strV {x y : Str} : decide (V.str x = V.str y) = decide (x = y) := by
  rw [Bool.eq_iff_iff]; simp
theorem od_eq : OpD C (rEqZ C.K.K) fEq := by
  intro W H σ δ v y a b tv τ QQ Q g ha hb hf k
  unfold fEq at hf
  split at hf
  · cases brs_str ha
    cases brs_str hb
    refine .inl ⟨rfl, ?_⟩
    rw [dec_strV]
    exact k _ H W _ (g.push (r := .val (.bool _)) (.bl _)) hf
  · exact .inr ⟨_, _, brs_dp ha hf.1.1, brs_dp hb hf.1.2, hf.1.1, hf.1.2, k _ H W _ (g.push (r := .val (.bool _)) (.bl _)) hf.2⟩
theorem od_ne : OpD C (rNeZ C.K.K) fNe := by
  intro W H σ δ v y a b tv τ QQ Q g ha hb hf k
  unfold fNe at hf
  split at hf
  · cases brs_str ha
    cases brs_str hb
    refine .inl ⟨rfl, ?_⟩
    rw [dec_strV]
    exact k _ H W _ (g.push (r := .val (.bool _)) (.bl _)) hf
  · exact .inr ⟨_, _, brs_dp ha hf.1.1, brs_dp hb hf.1.2, hf.1.1, hf.1.2, k _ H W _ (g.push (r := .val (.bool _)) (.bl _)) hf.2⟩
def fLt : F2
  | .int i, .int j, Q => Q (.val (.bool (decide (i < j))))
  | .tuple xs, .tuple ys, Q => ∃ ns ms : List Int, xs = ns.map PyData.int ∧ ys = ms.map PyData.int ∧ Q (.val (.bool (HT.lexLt ns ms)))
  | _, _, _ => False
def rLtZ (K : PySem.W.Frag) : R2 := fun x y H Q => rI0 (fun i j => .bl (decide (i < j))) x y H Q ∨ rLtT K x y H Q
theorem or_lt (hu : X.A.units < cLine) : OpR X (compareOp .Lt) (rLtZ X.K) := OpR.or op_lt (op_ltT hu)
theorem od_lt : OpD C (rLtZ C.K.K) fLt := by
  intro W H σ δ v y a b tv τ QQ Q g ha hb hf k
  unfold fLt at hf
  split at hf
  · cases brs_int ha
    cases brs_int hb
    exact .inl ⟨_, _, rfl, rfl, k _ H W _ (g.push (r := .val (.bool _)) (.bl _)) hf⟩
  · obtain ⟨ns, ms, rfl, rfl, q⟩ := hf
    obtain ⟨p, xs, rfl, q1, q2⟩ := Rep.tup_of ha
    obtain ⟨p2, ys, rfl, q3, q4⟩ := Rep.tup_of hb
    refine .inr ⟨p, p2, ns, ms, rfl, rfl, by rw [← q2.ints_of]; exact q1.sqT, by rw [← q4.ints_of]; exact q3.sqT, ?_⟩
    exact k _ H W _ (g.push (r := .val (.bool _)) (.bl _)) q
  · exact hf.elim
def fLe : F2 := fInt0 fun i j => .bool (decide (i ≤ j))
def fGt : F2 := fInt0 fun i j => .bool (decide (j < i))
def fGe : F2 := fInt0 fun i j => .bool (decide (j ≤ i))
def isN : D → Bool
  | .none => true
  | _ => false
def fIs : F2
  | a, .none, Q => Q (.val (.bool (isN a)))
  | .bool a, .bool b, Q => Q (.val (.bool (decide (a = b))))
  | _, _, _ => False
def fIsNot : F2
  | a, .none, Q => Q (.val (.bool (!isN a)))
  | .bool a, .bool b, Q => Q (.val (.bool (!decide (a = b))))
  | _, _, _ => False
def rIsZ : R2 := fun x y H Q => (y = .non ∧ Q (.bl (decide (x = .non))) H) ∨ ∃ a b, x = .bl a ∧ y = .bl b ∧ Q (.bl (decide (a = b))) H
def rIsNotZ : R2 := fun x y H Q => (y = .non ∧ Q (.bl (!decide (x = .non))) H) ∨ ∃ a b, x = .bl a ∧ y = .bl b ∧ Q (.bl (!decide (a = b))) H
theorem or_is : OpR X (compareOp .Is) rIsZ := OpR.or op_isN op_is_bl
theorem or_isnot : OpR X (compareOp .IsNot) rIsNotZ := OpR.or op_notN op_isnot_bl
theorem isN_iff {d : D} (h : isN d = true) : d = .none := by
  cases d <;> first | rfl | cases h
theorem brs_none_iff {K : Kw} {F : Addr → Prop} {H : Hp} {v : V} {d : D} (h : Brs K F H v d) : decide (v = .non) = isN d := by
  cases d with
  | none => cases brs_none h; rfl
  | bool b => cases brs_bool h; rfl
  | int b => cases brs_int h; rfl
  | str b => cases brs_str h; rfl
  | list ds => obtain ⟨a, xs, rfl, _⟩ := h; rfl
  | tuple ds => obtain ⟨a, xs, rfl, _⟩ := Rep.tup_of h; rfl
  | dict ds => obtain ⟨a, xs, rfl, _⟩ := h; rfl
theorem od_is : OpD C rIsZ fIs := by
  intro W H σ δ v y a b tv τ QQ Q g ha hb hf k
  cases b with
  | none =>
    have hf : QQ (.val (.bool (isN a))) := by cases a <;> exact hf
    cases brs_none hb
    refine .inl ⟨rfl, ?_⟩
    rw [brs_none_iff ha]
    exact k _ H W _ (g.push (r := .val (.bool _)) (.bl _)) hf
  | bool b =>
    cases a with
    | bool a =>
      cases brs_bool ha
      cases brs_bool hb
      exact .inr ⟨a, b, rfl, rfl, k _ H W _ (g.push (r := .val (.bool _)) (.bl _)) hf⟩
    | _ => exact hf.elim
  | _ => cases a <;> exact hf.elim
theorem od_isnot : OpD C rIsNotZ fIsNot := by
  intro W H σ δ v y a b tv τ QQ Q g ha hb hf k
  cases b with
  | none =>
    have hf : QQ (.val (.bool (!isN a))) := by cases a <;> exact hf
    cases brs_none hb
    refine .inl ⟨rfl, ?_⟩
    rw [brs_none_iff ha]
    exact k _ H W _ (g.push (r := .val (.bool _)) (.bl _)) hf
  | bool b =>
    cases a with
    | bool a =>
      cases brs_bool ha
      cases brs_bool hb
      exact .inr ⟨a, b, rfl, rfl, k _ H W _ (g.push (r := .val (.bool _)) (.bl _)) hf⟩
    | _ => exact hf.elim
  | _ => cases a <;> exact hf.elim
end
end Z
end
section
set_option Elab.async false
set_option linter.all false
set_option maxRecDepth 100000
/-! in, tests, displays, arguments. -/
namespace Z
open PySem PySem.Spec L2
section
variable {X : Cx} {C : Cn} {e a b c : Expr} {es : List Expr} {pos : Pos} {t ta tb tc : ZT}

/-! ### in, not in -/
mutual
def eqD : D → D → Bool
  | .none, .none => true
  | .bool a, .bool b => decide (a = b)
  | .int a, .int b => decide (a = b)
  | .str a, .str b => decide (a = b)
  | .list a, .list b => eqDs a b
  | .tuple a, .tuple b => eqDs a b
  | .dict a, .dict b => eqDk a b
  | _, _ => false
def eqDs : List D → List D → Bool
  | [], [] => true
  | a :: as, b :: bs => eqD a b && eqDs as bs
  | _, _ => false
def eqDk : List (D × D) → List (D × D) → Bool
  | [], [] => true
  | (a, x) :: as, (b, y) :: bs => eqD a b && eqD x y && eqDk as bs
  | _, _ => false
end
mutual
theorem eqD_self : ∀ a : D, eqD a a = true
  | .none => by simp [eqD]
  | .bool _ => by simp [eqD]
  | .int _ => by simp [eqD]
  | .str _ => by simp [eqD]
  | .list a => by rw [eqD]; exact eqDs_self a
  | .tuple a => by rw [eqD]; exact eqDs_self a
  | .dict a => by rw [eqD]; exact eqDk_self a
theorem eqDs_self : ∀ a : List D, eqDs a a = true
  | [] => by simp [eqDs]
  | a :: as => by rw [eqDs, eqD_self a, eqDs_self as]; rfl
theorem eqDk_self : ∀ a : List (D × D), eqDk a a = true
  | [] => by simp [eqDk]
  | (a, x) :: as => by rw [eqDk, eqD_self a, eqD_self x, eqDk_self as]; rfl
end
mutual
theorem eqD_eq : ∀ a b : D, eqD a b = true → a = b := by
  intro a b h
  cases a <;> cases b <;> first
    | rfl
    | (simp [eqD] at h; done)
    | (simp [eqD] at h; rw [h]; done)
    | skip
  · rename_i x y; rw [eqD] at h; rw [eqDs_eq x y h]
  · rename_i x y; rw [eqD] at h; rw [eqDs_eq x y h]
  · rename_i x y; rw [eqD] at h; rw [eqDk_eq x y h]
theorem eqDs_eq : ∀ a b : List D, eqDs a b = true → a = b
  | [], [], _ => rfl
  | [], _ :: _, h => by simp [eqDs] at h
  | _ :: _, [], h => by simp [eqDs] at h
  | a :: as, b :: bs, h => by
    rw [eqDs, Bool.and_eq_true] at h
    rw [eqD_eq a b h.1, eqDs_eq as bs h.2]
theorem eqDk_eq : ∀ a b : List (D × D), eqDk a b = true → a = b
  | [], [], _ => rfl
  | [], _ :: _, h => by simp [eqDk] at h
  | _ :: _, [], h => by simp [eqDk] at h
  | (a, x) :: as, (b, y) :: bs, h => by
    rw [eqDk, Bool.and_eq_true, Bool.and_eq_true] at h
    rw [eqD_eq a b h.1.1, eqD_eq x y h.1.2, eqDk_eq as bs h.2]
end
instance : DecidableEq PyData := fun a b => if h : eqD a b = true then .isTrue (eqD_eq a b h) else .isFalse fun e => h (e ▸ eqD_self a)

def rInS (K : PySem.W.Frag) (neg : Bool) : R2 := fun x y H Q => ∃ d e ds, Dp K H x d ∧ Dp K H y e ∧ (e = .list ds ∨ e = .tuple ds) ∧ SeqAt.shaped d = true ∧ SeqAt.shaped e = true ∧ Q (.bl (neg ^^ ds.any fun z => PyData.eqv z d)) H
theorem or_inS (hu : X.A.units + 65 < cLine) : OpR X (compareOp .In) (rInS X.K false) := by
  intro pins s σ H x y v u Q I rx ry h
  obtain ⟨d, e, ds, hd, he, hc, sd, se, q⟩ := h
  obtain ⟨as, r1⟩ := Dp.reads I d x v hd rx
  obtain ⟨bs, r2⟩ := Dp.reads I e y u he ry
  rw [Bool.false_xor] at q
  rcases hc with rfl | rfl
  · exact SeqAt.in_list_reads r2 r1 (SeqAt.canLay_of_shaped se) (SeqAt.canLay_of_shaped sd) (PyProof.Rows.room_in_shaped sd hu) ⟨.bl _, H, I, rfl, q⟩
  · exact SeqAt.in_tuple_reads r2 r1 (SeqAt.canLay_of_shaped se) (SeqAt.canLay_of_shaped sd) (PyProof.Rows.room_in_shaped sd hu) ⟨.bl _, H, I, rfl, q⟩
theorem or_notInS (hu : X.A.units + 65 < cLine) : OpR X (compareOp .NotIn) (rInS X.K true) := by
  intro pins s σ H x y v u Q I rx ry h
  obtain ⟨d, e, ds, hd, he, hc, sd, se, q⟩ := h
  obtain ⟨as, r1⟩ := Dp.reads I d x v hd rx
  obtain ⟨bs, r2⟩ := Dp.reads I e y u he ry
  rw [Bool.true_xor] at q
  rcases hc with rfl | rfl
  · exact SeqAt.notIn_list_reads r2 r1 (SeqAt.canLay_of_shaped se) (SeqAt.canLay_of_shaped sd) (PyProof.Rows.room_in_shaped sd hu) ⟨.bl _, H, I, rfl, q⟩
  · exact SeqAt.notIn_tuple_reads r2 r1 (SeqAt.canLay_of_shaped se) (SeqAt.canLay_of_shaped sd) (PyProof.Rows.room_in_shaped sd hu) ⟨.bl _, H, I, rfl, q⟩
/-- an item of a sequence -/
def isIn (a : D) (ds : List D) : Bool := ds.any fun z => PyData.eqv z a
/-! ### comparisons, written and as tests -/
theorem pz_cmp {op : CmpOp} {r : R2} {f : F2} (ho : OpR X (compareOp op) r) (h : OpD C r f) (ha : PE X a (lift C ta)) (hb : PE X b (lift C tb)) (hm : behindInMarks op b = false) : PE X (.Compare a [op] [b] pos) (lift C (zD2 f ta tb)) :=
  PE.weak (pe_cmpR ho ha hb hm) (lift_op h)
/-- a value that is a bool, as a test -/
def zB (t : ZT) : ZB := fun δ Q => t δ fun r δ1 => match con δ1 r with
  | some (.bool b) => Q b δ1
  | _ => False
theorem lift_test {t : ZT} {t' : TE} (h : ∀ σ H Q, lift C t σ H Q → t' σ H Q) : ∀ σ H Q, liftB C (zB t) σ H Q → tTest t' σ H Q := fun σ H Q ⟨W, δ, tv, τ, QQ, g, h1, k⟩ => by
  refine h σ H _ ⟨W, δ, tv, τ, _, g, h1, fun u H1 W1 r δ1 g1 h2 => ?_⟩
  cases e : con δ1 r with
  | none => simp only [e] at h2
  | some d =>
    simp only [e] at h2
    cases d <;> try exact h2.elim
    rename_i b
    exact ⟨b, brs_bool (g1.brs e), k b H1 W1 δ1 g1.pop h2⟩
theorem pt_cmpZ {op : CmpOp} {r : R2} {f : F2} (ho : OpR X (compareOp op) r) (h : OpD C r f) (ha : PE X a (lift C ta)) (hb : PE X b (lift C tb)) (hm : behindInMarks op b = false) : PT X (.Compare a [op] [b] pos) (liftB C (zB (zD2 f ta tb))) :=
  PT.weak (pt_cmpR ho ha hb hm) (lift_test (lift_op h))
/-- a op1 b op2 c -/
def zChain (f g : F2) (ta tb tc : ZT) : ZT := fun δ Q => ta δ fun ra δ1 => tb δ1 fun rb δ2 => match con δ2 ra, con δ2 rb with
  | some x, some y => f x y fun r => match r with
    | .val (.bool true) => tc δ2 fun rc δ3 => match con δ3 rb, con δ3 rc with
      | some y', some z => g y' z fun r' => Q r' δ3
      | _, _ => False
    | .val (.bool false) => Q (.val (.bool false)) δ2
    | _ => False
  | _, _ => False
theorem lift_chain {r r' : R2} {f g : F2} (h : OpD C r f) (h' : OpD C r' g) : ∀ σ H Q, lift C (zChain f g ta tb tc) σ H Q → tChain r r' (lift C ta) (lift C tb) (lift C tc) σ H Q := fun σ H Q ⟨W, δ, tv, τ, QQ, g0, h1, k⟩ => by
  refine ⟨W, δ, tv, τ, _, g0, h1, fun v H1 W1 ra δ1 g1 h2 => ⟨W1, δ1, v :: tv, ra :: τ, _, g1, h2, fun y H2 W2 rb δ2 g2 h3 => ?_⟩⟩
  cases ea : con δ2 ra with
  | none => simp only [ea] at h3
  | some x =>
    cases eb : con δ2 rb with
    | none => simp only [ea, eb] at h3
    | some z =>
      simp only [ea, eb] at h3
      -- the first comparison: the pile keeps both
      refine h (tv := y :: v :: tv) (τ := rb :: ra :: τ) g2 (g2.brs2 ea) (g2.brs eb) h3 fun u H3 W3 r3 g3 q3 => ?_
      cases r3 <;> try exact q3.elim
      rename_i d3
      cases d3 <;> try exact q3.elim
      rename_i b3
      cases b3 with
      | false => exact ⟨false, g3.temps.1.bool_of, k _ H3 W3 _ δ2 (g3.pop.pop.pop.push (r := .val (.bool false)) (.bl false)) q3⟩
      | true =>
        refine ⟨true, g3.temps.1.bool_of, ?_⟩
        refine ⟨W3, δ2, y :: v :: tv, rb :: ra :: τ, _, g3.pop, q3, fun w' H4 W4 rc δ4 g4 q4 => ?_⟩
        cases eb' : con δ4 rb with
        | none => simp only [eb'] at q4
        | some y' =>
          cases ec : con δ4 rc with
          | none => simp only [eb', ec] at q4
          | some z' =>
            simp only [eb', ec] at q4
            exact h' g4.pop.pop.pop (g4.brs2 eb') (g4.brs ec) q4 fun u H' W' r' g' q => k u H' W' r' δ4 g' q
theorem pz_chain {op op' : CmpOp} {r r' : R2} {f g : F2} (ho : OpR X (compareOp op) r) (ho' : OpR X (compareOp op') r') (h : OpD C r f) (h' : OpD C r' g) (ha : PE X a (lift C ta)) (hb : PE X b (lift C tb)) (hc : PE X c (lift C tc))
    (hm : lastMarks [op, op'] [b, c] = false) : PE X (.Compare a [op, op'] [b, c] pos) (lift C (zChain f g ta tb tc)) := PE.weak (pe_chain ho ho' ha hb hc hm) (lift_chain h h')
theorem pt_chainZ {op op' : CmpOp} {r r' : R2} {f g : F2} (ho : OpR X (compareOp op) r) (ho' : OpR X (compareOp op') r') (h : OpD C r f) (h' : OpD C r' g) (ha : PE X a (lift C ta)) (hb : PE X b (lift C tb)) (hc : PE X c (lift C tc))
    (hm : lastMarks [op, op'] [b, c] = false) : PT X (.Compare a [op, op'] [b, c] pos) (liftB C (zB (zChain f g ta tb tc))) := PT.weak (pt_chain ho ho' ha hb hc hm) (lift_test (lift_chain h h'))

/-! ### truth -/
def tru : D → (Bool → Prop) → Prop
  | .none, Q => Q false
  | .bool b, Q => Q b
  | .int i, Q => Q (i != 0)
  | .str x, Q => x.length ≤ lineN ∧ Q ((x.length : Int) != 0)
  | .list xs, Q => Q (!xs.isEmpty)
  | .tuple xs, Q => Q (!xs.isEmpty)
  | .dict _, _ => False
def zTru (t : ZT) : ZB := fun δ Q => t δ fun r δ1 => match con δ1 r with
  | some d => tru d fun b => Q b δ1
  | _ => False
theorem emp_of {K : Kw} {F : Addr → Prop} {H : Hp} {xs : List V} {ds : List D} (h : RepL K F H xs ds) : (!ds.isEmpty) = !xs.isEmpty := by cases h <;> rfl
theorem pt_tru (hK : C.K.K = X.K) (ha : PE X a (lift C ta)) (he : ∀ whole, isTrue a X.env whole = (do let v ← whole; standAt a.pos; holding [v] (truthy v))) : PT X a (liftB C (zTru ta)) := by
  refine PT.weak (pt_truth ha he) fun σ H Q ⟨W, δ, tv, τ, QQ, g, h1, k⟩ => ?_
  refine ⟨W, δ, tv, τ, _, g, h1, fun u H1 W1 r δ1 g1 h2 => ?_⟩
  cases e : con δ1 r with
  | none => simp only [e] at h2
  | some d =>
    simp only [e] at h2
    have hb := g1.brs e
    have fin : ∀ b, QQ b δ1 → Q b H1 := fun b q => k b H1 W1 δ1 g1.pop q
    cases d with
    | none => cases brs_none hb; exact ⟨false, rfl, fin _ h2⟩
    | bool b => cases brs_bool hb; exact ⟨b, rfl, fin _ h2⟩
    | int i => cases brs_int hb; exact ⟨_, rfl, fin _ h2⟩
    | str x => cases brs_str hb; exact ⟨_, ⟨by rw [line_eq]; exact h2.1, rfl⟩, fin _ h2.2⟩
    | list ds =>
      obtain ⟨p, xs, rfl, q1, q2⟩ := hb
      exact ⟨_, .inl ⟨xs, .inl (.inl q1), emp_of q2⟩, fin _ h2⟩
    | tuple ds =>
      obtain ⟨p, xs, rfl, q1, q2⟩ := Rep.tup_of hb
      rw [hK] at q1
      exact ⟨_, .inr (.inl ⟨xs, q1.sqT, emp_of q2⟩), fin _ h2⟩
    | dict kvs => exact h2.elim
/-- expressions whose test is the truth of their value -/
def plainT : Expr → Bool
  | .Compare .. => false
  | .BoolOp .. => false
  | .UnaryOp .Not _ _ => false
  | .NamedExpr .. => false
  | .IfExp .. => false
  | .Constant .. => false
  | _ => true
end
example (a : Expr) (env : PySem.Env) (h : plainT a = true) : ∀ whole, isTrue a env whole = (do let v ← whole; standAt a.pos; holding [v] (truthy v)) := by
  intro whole
  cases a <;> first | rfl | cases h | skip
  all_goals (rename_i op _ _; cases op <;> first | rfl | cases h)
end Z
end
section
set_option Elab.async false
set_option linter.all false
set_option maxRecDepth 100000
set_option maxHeartbeats 1000000
/-! Dicts of one's own whose keys are tuples. -/
namespace Z
open PySem PySem.Spec L2
mutual
theorem nk_inj : ∀ (a b : D) (n : NestedKey), nk a = some n → nk b = some n → a = b
  | .none, b, n, h1, h2 => by
    rw [nk] at h1
    cases h1
    cases b <;> simp [nk] at h2 ⊢
  | .bool _, b, n, h1, h2 => by simp [nk] at h1
  | .int i, b, n, h1, h2 => by
    rw [nk] at h1
    cases h1
    cases b <;> simp [nk] at h2 ⊢
    exact h2.symm
  | .str i, b, n, h1, h2 => by
    rw [nk] at h1
    cases h1
    cases b <;> simp [nk] at h2 ⊢
    exact h2.symm
  | .list _, b, n, h1, h2 => by simp [nk] at h1
  | .dict _, b, n, h1, h2 => by simp [nk] at h1
  | .tuple as, b, n, h1, h2 => by
    rw [nk] at h1
    obtain ⟨ns, e1, rfl⟩ := Option.map_eq_some_iff.mp h1
    cases b with
    | tuple bs =>
      rw [nk] at h2
      obtain ⟨ms, e2, e3⟩ := Option.map_eq_some_iff.mp h2
      cases e3
      rw [nks_inj as bs ns e1 e2]
    | _ => simp [nk] at h2
theorem nks_inj : ∀ (as bs : List D) (ns : List NestedKey), nks as = some ns → nks bs = some ns → as = bs
  | [], bs, ns, h1, h2 => by
    rw [nks] at h1
    cases h1
    cases bs with
    | nil => rfl
    | cons b bs =>
      rw [nks] at h2
      split at h2 <;> cases h2
  | a :: as, bs, ns, h1, h2 => by
    rw [nks] at h1
    split at h1
    · rename_i k ks e1 e2
      cases h1
      cases bs with
      | nil => rw [nks] at h2; cases h2
      | cons b bs =>
        rw [nks] at h2
        split at h2
        · rename_i k' ks' e3 e4
          cases h2
          rw [nk_inj a b _ e1 e3, nks_inj as bs _ e2 e4]
        · cases h2
    · cases h1
end
section
variable {X : Cx} {pins : List (Addr × Obj)} {σ : L2.St} {H : Hp} {s : Shared}
mutual
theorem imm_nested (I : Inv X pins σ H s) : ∀ (d : D) (x : V) (u : Value) (n : NestedKey), Imm X.K H x d → RelV x u → nk d = some n → NestedIs s.heap n u
  | .none, x, u, n, h, r, e => by
    rw [nk] at e; cases e; cases h
    cases (show u = Value.none from r)
    exact .none
  | .bool _, x, u, n, h, r, e => by simp [nk] at e
  | .int i, x, u, n, h, r, e => by
    rw [nk] at e; cases e; cases h
    obtain ⟨t, rfl⟩ := (show ∃ t, u = Value.int i t from r)
    exact .int i t
  | .str i, x, u, n, h, r, e => by
    rw [nk] at e; cases e; cases h
    obtain ⟨t, rfl⟩ := (show ∃ t, u = Value.str i t from r)
    exact .text i t
  | .list _, x, u, n, h, r, e => by simp [nk] at e
  | .dict _, x, u, n, h, r, e => by simp [nk] at e
  | .tuple ds, x, u, n, h, r, e => by
    rw [nk] at e
    obtain ⟨ns, e1, rfl⟩ := Option.map_eq_some_iff.mp e
    cases h with
    | @tup a xs _ hT hL =>
      cases (show u = Value.ref a from r)
      obtain ⟨its, rv, ⟨o, h1, h2, m, h3⟩, _⟩ := I.tuple hT.sqT
      exact .tup h1 h2 h3 (by simpa using immL_nested I ds xs its ns hL rv e1)
theorem immL_nested (I : Inv X pins σ H s) : ∀ (ds : List D) (xs : List V) (us : List Value) (ns : List NestedKey), ImmL X.K H xs ds → Vals xs us → nks ds = some ns → NestedAll s.heap ns us
  | [], xs, us, ns, h, r, e => by
    rw [nks] at e; cases e; cases h; cases r
    exact .nil
  | d :: ds, xs, us, ns, h, r, e => by
    rw [nks] at e
    split at e
    · rename_i k ks e1 e2
      cases e
      cases h with
      | cons h1 h2 =>
        cases r with
        | cons r1 r2 => exact .cons (imm_nested I d _ _ _ h1 r1 e1) (immL_nested I ds _ _ _ h2 r2 e2)
    · cases e
end
end
mutual
theorem rep_imm {K : Kw} {F : Addr → Prop} {H : Hp} : ∀ (d : D) (v : V) (n : NestedKey), Rep K F H v d → nk d = some n → Imm K.K H v d
  | .none, v, n, h, e => by cases h; exact .non
  | .bool _, v, n, h, e => by simp [nk] at e
  | .int i, v, n, h, e => by cases h; exact .int i
  | .str i, v, n, h, e => by cases h; exact .str i
  | .list _, v, n, h, e => by simp [nk] at e
  | .dict _, v, n, h, e => by simp [nk] at e
  | .tuple ds, v, n, h, e => by
    rw [nk] at e
    obtain ⟨ns, e1, rfl⟩ := Option.map_eq_some_iff.mp e
    cases h with
    | tup hT hL => exact .tup hT (repL_imm ds _ ns hL e1)
theorem repL_imm {K : Kw} {F : Addr → Prop} {H : Hp} : ∀ (ds : List D) (vs : List V) (ns : List NestedKey), RepL K F H vs ds → nks ds = some ns → ImmL K.K H vs ds
  | [], vs, ns, h, e => by cases h; exact .nil
  | d :: ds, vs, ns, h, e => by
    rw [nks] at e
    split at e
    · rename_i k ks e1 e2
      cases e
      cases h with
      | cons h1 h2 => exact .cons (rep_imm d _ _ h1 e1) (repL_imm ds _ _ h2 e2)
    · cases e
end
def isTu : D → Bool
  | .tuple _ => true
  | _ => false
/-- a tuple that may be a key -/
structure KeyT (d : D) : Prop where
  tu : isTu d = true
  ex : ∃ n, nk d = some n ∧ n.depth ≤ 8
def look {α : Type} (ks : List (D × α)) (d : D) : Option α := (ks.find? fun p => decide (p.1 = d)).map (·.2)
def dput {α : Type} (ks : List (D × α)) (d : D) (v : α) : List (D × α) := if (look ks d).isSome then ks.map fun p => if p.1 = d then (p.1, v) else p else ks ++ [(d, v)]
def CorT (K : Kw) (H : Hp) : List (D × V) → List (NestedKey × Addr × Value) → Prop := Paired fun p x => nk p.1 = some x.1 ∧ x.1.depth ≤ 8 ∧ RelV p.2 x.2.2 ∧ Imm K.K H (.ref x.2.1) p.1
section
variable {P : Program} {K : Kw} {H : Hp} {a : Addr} {ks : List (D × V)} {xs : List (NestedKey × Addr × Value)} {d : D} {n : NestedKey}
theorem ents_tup : ∀ {es : List DictEntry} {ks : List (D × V)}, Paired (EntAt K H) es ks → (∀ p ∈ ks, isTu p.1 = true) → ∃ xs, es = xs.map (entryOfKey (nestedKind P K.w)) ∧ CorT K H ks xs
  | [], [], _, _ => ⟨[], rfl, .nil⟩
  | e :: es, (d, v) :: ks, h, ht => by
    cases h with
    | cons h1 h2 =>
      obtain ⟨xs, q1, q2⟩ := ents_tup h2 fun p m => ht p (.tail _ m)
      obtain ⟨rv, n, x, e1, e2, e3, e4, e5⟩ := h1
      have hd : isTu d = true := ht _ (.head _)
      obtain ⟨eh, ek, ev⟩ := e
      simp only at e3 e4 e5 rv e1
      cases e5 with
      | @tup a ys ds hT hL =>
        have e4 : ek = Value.ref a := e4
        refine ⟨(n, a, ev) :: xs, ?_, .cons ⟨e1, e2, rv, .tup hT hL⟩ q2⟩
        rw [List.map_cons, ← q1]
        congr 1
        show DictEntry.mk eh ek ev = ⟨n.hash K.w, .ref a, ev⟩
        rw [e3, e4]
      | _ => cases hd
  | [], _ :: _, h, _ => nomatch h
  | _ :: _, [], h, _ => nomatch h
theorem cor_mem : ∀ {ks : List (D × V)} {xs : List (NestedKey × Addr × Value)}, CorT K H ks xs → ∀ x ∈ xs, ∃ p ∈ ks, nk p.1 = some x.1 ∧ x.1.depth ≤ 8 ∧ Imm K.K H (.ref x.2.1) p.1
  | [], [], _, x, m => nomatch m
  | _ :: _, _ :: _, .cons h1 h2, x, m => by
    rcases List.mem_cons.mp m with rfl | m
    · exact ⟨_, .head _, h1.1, h1.2.1, h1.2.2.2⟩
    · obtain ⟨p, q1, q2⟩ := cor_mem h2 x m
      exact ⟨p, .tail _ q1, q2⟩
theorem cor_nodup : ∀ {ks : List (D × V)} {xs : List (NestedKey × Addr × Value)}, CorT K H ks xs → (ks.map (·.1)).Nodup → (xs.map (·.1)).Nodup
  | [], [], _, _ => .nil
  | p :: ks, x :: xs, .cons h1 h2, hn => by
    rw [List.map_cons, List.nodup_cons] at hn ⊢
    refine ⟨fun m => ?_, cor_nodup h2 hn.2⟩
    obtain ⟨y, hy, e⟩ := List.mem_map.mp m
    obtain ⟨q, q1, q2, _⟩ := cor_mem h2 y hy
    have e2 : q.1 = p.1 := nk_inj _ _ _ q2 (by rw [e]; exact h1.1)
    exact hn.1 (List.mem_map.mpr ⟨q, q1, e2⟩)
theorem cor_look (hn : nk d = some n) : ∀ {ks : List (D × V)} {xs : List (NestedKey × Addr × Value)}, CorT K H ks xs → RelO (look ks d) ((atKey xs n).map (·.2))
  | [], [], _ => trivial
  | p :: ks, x :: xs, .cons h1 h2 => by
    have ih := cor_look hn h2
    unfold look atKey at ih ⊢
    rw [List.find?_cons, List.find?_cons]
    by_cases e : p.1 = d
    · have e2 : x.1 = n := Option.some.inj (by rw [← h1.1, e, hn])
      rw [decide_eq_true e, decide_eq_true e2]
      exact h1.2.2.1
    · have e2 : ¬ x.1 = n := fun z => e (nk_inj _ _ _ h1.1 (by rw [z]; exact hn))
      rw [decide_eq_false e, decide_eq_false e2]
      exact ih
theorem cor_len : ∀ {ks : List (D × V)} {xs : List (NestedKey × Addr × Value)}, CorT K H ks xs → ks.length = xs.length
  | [], [], _ => rfl
  | _ :: _, _ :: _, .cons _ h2 => by rw [List.length_cons, List.length_cons, cor_len h2]
theorem cor_map (hn : nk d = some n) {y : V} {v : Value} (rv : RelV y v) : ∀ {ks : List (D × V)} {xs : List (NestedKey × Addr × Value)}, CorT K H ks xs → CorT K H (ks.map fun p => if p.1 = d then (p.1, y) else p) (xs.map (putAt n v))
  | [], [], _ => .nil
  | p :: ks, x :: xs, .cons h1 h2 => by
    refine .cons ?_ (cor_map hn rv h2)
    unfold putAt
    by_cases e : p.1 = d
    · have e2 : x.1 = n := Option.some.inj (by rw [← h1.1, e, hn])
      simp only [if_pos e, if_pos e2]
      exact ⟨h1.1, h1.2.1, rv, h1.2.2.2⟩
    · have e2 : ¬ x.1 = n := fun z => e (nk_inj _ _ _ h1.1 (by rw [z]; exact hn))
      simp only [if_neg e, if_neg e2]
      exact h1
theorem cor_snoc {y : V} {v : Value} {t : Addr} (h1 : nk d = some n ∧ n.depth ≤ 8 ∧ RelV y v ∧ Imm K.K H (.ref t) d) : ∀ {ks : List (D × V)} {xs : List (NestedKey × Addr × Value)}, CorT K H ks xs → CorT K H (ks ++ [(d, y)]) (xs ++ [(n, t, v)])
  | [], [], _ => .cons h1 .nil
  | _ :: _, _ :: _, .cons h2 h3 => .cons h2 (cor_snoc h1 h3)
theorem cor_put {y : V} {v : Value} {t : Addr} (hn : nk d = some n) (hd : n.depth ≤ 8) (rv : RelV y v) (im : Imm K.K H (.ref t) d) {ks : List (D × V)} {xs : List (NestedKey × Addr × Value)} (h : CorT K H ks xs) : CorT K H (dput ks d y) (storedH xs n t v) := by
  have q := cor_look hn h
  have e : (look ks d).isSome = (atKey xs n).isSome := by
    cases h1 : look ks d <;> cases h2 : atKey xs n <;> rw [h1, h2] at q <;> first | rfl | exact q.elim
  unfold dput storedH
  rw [e]
  by_cases c : (atKey xs n).isSome = true
  · rw [if_pos c, if_pos c]; exact cor_map hn rv h
  · rw [if_neg c, if_neg c]; exact cor_snoc ⟨hn, hd, rv, im⟩ h
theorem look_none {α : Type} {ks : List (D × α)} {d : D} : look ks d = none ↔ d ∉ ks.map (·.1) := by
  unfold look
  rw [Option.map_eq_none_iff, List.find?_eq_none]
  constructor
  · intro h m
    obtain ⟨p, hp, e⟩ := List.mem_map.mp m
    exact h p hp (decide_eq_true e)
  · intro h p hp e
    exact h (List.mem_map.mpr ⟨p, hp, of_decide_eq_true e⟩)
theorem dput_keys {α : Type} {ks : List (D × α)} {d : D} {v : α} : (dput ks d v).map (·.1) = if (look ks d).isSome then ks.map (·.1) else ks.map (·.1) ++ [d] := by
  unfold dput
  by_cases c : (look ks d).isSome = true
  · rw [if_pos c, if_pos c, List.map_map]
    refine List.map_congr_left fun p _ => ?_
    show (if p.1 = d then (p.1, v) else p).1 = p.1
    split <;> rfl
  · rw [if_neg c, if_neg c, List.map_append]; rfl
theorem dput_nodup {α : Type} {ks : List (D × α)} {d : D} {v : α} (h : (ks.map (·.1)).Nodup) : ((dput ks d v).map (·.1)).Nodup := by
  rw [dput_keys]
  by_cases c : (look ks d).isSome = true
  · rw [if_pos c]; exact h
  · rw [if_neg c]
    have hn : d ∉ ks.map (·.1) := look_none.mp (by simpa using c)
    exact List.nodup_append.mpr ⟨h, by simp, fun x hx y hy e => by rw [List.mem_singleton] at hy; subst hy; subst e; exact hn hx⟩
theorem dput_len {α : Type} {ks : List (D × α)} {d : D} {v : α} : (dput ks d v).length ≤ ks.length + 1 := by
  unfold dput
  split
  · rw [List.length_map]; omega
  · rw [List.length_append]; exact Nat.le_refl _
theorem cor_ents : ∀ {ks : List (D × V)} {xs : List (NestedKey × Addr × Value)}, CorT K H ks xs → Paired (EntAt K H) (xs.map (entryOfKey (nestedKind P K.w))) ks
  | [], [], _ => .nil
  | (d, v) :: _, (n, a, u) :: _, .cons h1 h2 => .cons ⟨h1.2.2.1, n, .ref a, h1.1, h1.2.1, rfl, rfl, h1.2.2.2⟩ (cor_ents h2)
end
section
variable {X : Cx} {pins : List (Addr × Obj)} {σ : L2.St} {H : Hp} {s : Shared} {K : Kw} {a : Addr} {ks : List (D × V)}
theorem dic_tup (I : Inv X pins σ H s) (hk : K.K = X.K) (hw : K.w = X.w) (h : DicAt K H a ks) (ht : ∀ p ∈ ks, isTu p.1 = true) :
    (a == sysModules) = false ∧ ∃ xs, s.heap.DictOfH (nestedKind X.prog X.w) a xs ∧ CorT K H ks xs ∧ xs.length ≤ sizeLine := by
  obtain ⟨es, ep, ho, hp, hn⟩ := h
  have ok : (a == sysModules) = false ∧ es.size ≤ sizeLine ∧ s.heap.DictRaw a es ep := (I.hok a _ ho).1
  obtain ⟨h1, h2, o, h3, h4, h5⟩ := ok
  obtain ⟨xs, e1, e2⟩ := ents_tup (P := X.prog) hp ht
  rw [hw] at e1
  refine ⟨h1, xs, ⟨o, es, ep, h3, h4, h5, e1, fun x m => ?_, cor_nodup e2 hn⟩, e2, ?_⟩
  · obtain ⟨p, _, q1, q2, q3⟩ := cor_mem e2 x m
    rw [hk] at q3
    exact ⟨imm_nested I _ _ _ _ q3 rfl q1, q2⟩
  · have := congrArg List.length e1
    rw [Array.length_toList, List.length_map] at this
    omega
end
/-! ### plain keys: ints, texts -/
def isPl : D → Bool
  | .int _ => true
  | .str _ => true
  | _ => false
def dk : L2.Key → D
  | .inl i => .int i
  | .inr x => .str x
theorem dk_pl : ∀ {d : D}, isPl d = true → ∃ k, dk k = d
  | .int i, _ => ⟨.inl i, rfl⟩
  | .str x, _ => ⟨.inr x, rfl⟩
theorem dk_inj : ∀ {a b : L2.Key}, dk a = dk b → a = b
  | .inl i, .inl j, e => by cases e; rfl
  | .inr i, .inr j, e => by cases e; rfl
  | .inl i, .inr j, e => nomatch e
  | .inr i, .inl j, e => nomatch e
def nkK : L2.Key → NestedKey
  | .inl i => .num i
  | .inr x => .text x
theorem nk_dk : ∀ k : L2.Key, nk (dk k) = some (nkK k)
  | .inl i => by unfold dk nkK; rw [nk]
  | .inr i => by unfold dk nkK; rw [nk]
theorem imm_dk {K : PySem.W.Frag} {H : Hp} {x : V} : ∀ {k : L2.Key}, Imm K H x (dk k) → x = kV k
  | .inl i, h => by cases h; rfl
  | .inr i, h => by cases h; rfl
theorem dk_imm {K : PySem.W.Frag} {H : Hp} : ∀ {k : L2.Key}, Imm K H (kV k) (dk k)
  | .inl i => .int i
  | .inr i => .str i
theorem hash_dk (P : Program) (w : World) : ∀ k : L2.Key, (nkK k).hash w = (mixKind P w).hash k
  | .inl i => rfl
  | .inr i => rfl
theorem dep_dk : ∀ k : L2.Key, (nkK k).depth ≤ 8
  | .inl i => Nat.zero_le _
  | .inr i => Nat.zero_le _
def CorP : List (D × V) → List (L2.Key × Value) → Prop := Paired fun p q => p.1 = dk q.1 ∧ RelV p.2 q.2
section
variable {P : Program} {K : Kw} {H : Hp} {d : D} {k : L2.Key}
theorem ents_pl : ∀ {es : List DictEntry} {ks : List (D × V)}, Paired (EntAt K H) es ks → (∀ p ∈ ks, isPl p.1 = true) → ∃ qs : List (L2.Key × Value), Pairs (mixKind P K.w) es qs ∧ CorP ks qs ∧ ∀ e ∈ es, ∃ k, (mixKind P K.w).is k e.key = true ∧ e.hash = (mixKind P K.w).hash k
  | [], [], _, _ => ⟨[], .nil, .nil, fun _ m => nomatch m⟩
  | e :: es, (d, v) :: ks, h, ht => by
    cases h with
    | cons h1 h2 =>
      obtain ⟨qs, q1, q2, q3⟩ := ents_pl h2 fun p m => ht p (.tail _ m)
      obtain ⟨rv, n, x, e1, e2, e3, e4, e5⟩ := h1
      obtain ⟨k, hk⟩ := dk_pl (ht _ (.head _))
      simp only at e1 e5 rv hk
      subst hk
      have ex := imm_dk e5
      subst ex
      rw [nk_dk] at e1
      cases e1
      have i1 := kV_is (P := P) (w := K.w) e4
      refine ⟨(k, e.val) :: qs, .cons i1 rfl q1, .cons ⟨rfl, rv⟩ q2, fun e' m => ?_⟩
      rcases List.mem_cons.mp m with rfl | m
      · exact ⟨k, i1, by rw [e3]; exact hash_dk P K.w k⟩
      · exact q3 e' m
  | [], _ :: _, h, _ => nomatch h
  | _ :: _, [], h, _ => nomatch h
theorem corP_keys : ∀ {ks : List (D × V)} {qs : List (L2.Key × Value)}, CorP ks qs → ks.map (·.1) = (qs.map (·.1)).map dk
  | [], [], _ => rfl
  | _ :: _, _ :: _, .cons h1 h2 => by rw [List.map_cons, List.map_cons, List.map_cons, corP_keys h2, h1.1]
theorem nodup_dk {l : List L2.Key} (h : (l.map dk).Nodup) : l.Nodup := by
  refine List.Pairwise.imp (fun {a b} z e => ?_) (List.pairwise_map.mp h)
  exact z (by rw [e])
theorem corP_look : ∀ {ks : List (D × V)} {qs : List (L2.Key × Value)}, CorP ks qs → RelO (look ks (dk k)) (valueAt qs k)
  | [], [], _ => trivial
  | p :: ks, q :: qs, .cons h1 h2 => by
    have ih := corP_look h2
    unfold look valueAt at ih ⊢
    rw [List.find?_cons, List.find?_cons]
    by_cases e : q.1 = k
    · have e2 : p.1 = dk k := by rw [h1.1, e]
      rw [decide_eq_true e, decide_eq_true e2]
      exact h1.2
    · have e2 : ¬ p.1 = dk k := fun z => e (dk_inj (by rw [← h1.1, z]))
      rw [decide_eq_false e, decide_eq_false e2]
      exact ih
theorem corP_len : ∀ {ks : List (D × V)} {qs : List (L2.Key × Value)}, CorP ks qs → ks.length = qs.length
  | [], [], _ => rfl
  | _ :: _, _ :: _, .cons _ h2 => by rw [List.length_cons, List.length_cons, corP_len h2]
theorem corP_map {y : V} {v : Value} (rv : RelV y v) : ∀ {ks : List (D × V)} {qs : List (L2.Key × Value)}, CorP ks qs → CorP (ks.map fun p => if p.1 = dk k then (p.1, y) else p) (qs.map fun q => if q.1 = k then (q.1, v) else q)
  | [], [], _ => .nil
  | p :: ks, q :: qs, .cons h1 h2 => by
    refine .cons ?_ (corP_map rv h2)
    by_cases e : q.1 = k
    · have e2 : p.1 = dk k := by rw [h1.1, e]
      simp only [if_pos e, if_pos e2]
      exact ⟨h1.1, rv⟩
    · have e2 : ¬ p.1 = dk k := fun z => e (dk_inj (by rw [← h1.1, z]))
      simp only [if_neg e, if_neg e2]
      exact h1
theorem corP_snoc {y : V} {v : Value} (rv : RelV y v) : ∀ {ks : List (D × V)} {qs : List (L2.Key × Value)}, CorP ks qs → CorP (ks ++ [(dk k, y)]) (qs ++ [(k, v)])
  | [], [], _ => .cons ⟨rfl, rv⟩ .nil
  | _ :: _, _ :: _, .cons h2 h3 => .cons h2 (corP_snoc rv h3)
theorem any_valueAt (k : L2.Key) : ∀ qs : List (L2.Key × Value), (qs.any fun q => decide (q.1 = k)) = (valueAt qs k).isSome
  | [] => rfl
  | q :: qs => by
    have ih := any_valueAt k qs
    unfold valueAt at ih ⊢
    rw [List.any_cons, List.find?_cons]
    by_cases e : q.1 = k
    · rw [decide_eq_true e]; rfl
    · rw [decide_eq_false e]; simpa using ih
theorem corP_put {y : V} {v : Value} (rv : RelV y v) {ks : List (D × V)} {qs : List (L2.Key × Value)} (h : CorP ks qs) : CorP (dput ks (dk k) y) (stored qs k v) := by
  have q := corP_look (k := k) h
  have e : (look ks (dk k)).isSome = (valueAt qs k).isSome := by
    cases h1 : look ks (dk k) <;> cases h2 : valueAt qs k <;> rw [h1, h2] at q <;> first | rfl | exact q.elim
  unfold dput stored
  rw [e, any_valueAt]
  by_cases c : (valueAt qs k).isSome = true
  · rw [if_pos c, if_pos c]; exact corP_map rv h
  · rw [if_neg c, if_neg c]; exact corP_snoc rv h
theorem keyIs_rel {k : L2.Key} {u : Value} (h : (mixKind P K.w).is k u = true) : RelV (kV k) u := by
  rcases keyIs_shape h with ⟨i, t, rfl, rfl⟩ | ⟨x, t, rfl, rfl⟩
  · exact ⟨t, rfl⟩
  · exact ⟨t, rfl⟩
theorem corP_ents : ∀ {es : List DictEntry} {ks : List (D × V)} {qs : List (L2.Key × Value)}, Pairs (mixKind P K.w) es qs → CorP ks qs → (∀ e ∈ es, ∃ k, (mixKind P K.w).is k e.key = true ∧ e.hash = (mixKind P K.w).hash k) → Paired (EntAt K H) es ks
  | _, _, _, .nil, .nil, _ => .nil
  | _, _, _, .cons (e := e) (kv := q) i1 i2 i3, .cons c1 c2, h => by
    refine .cons ?_ (corP_ents i3 c2 fun e m => h e (.tail _ m))
    obtain ⟨k, j1, j2⟩ := h e (.head _)
    have ek : k = q.1 := (mixKind P K.w).inj _ _ _ j1 i1
    subst ek
    refine ⟨by rw [i2]; exact c1.2, nkK q.1, kV q.1, by rw [c1.1]; exact nk_dk _, dep_dk _, by rw [j2]; exact (hash_dk P K.w q.1).symm, keyIs_rel (P := P) i1, by rw [c1.1]; exact dk_imm⟩
end
section
variable {X : Cx} {pins : List (Addr × Obj)} {σ : L2.St} {H : Hp} {s : Shared} {K : Kw} {a : Addr} {ks : List (D × V)}
theorem pairs_len {P : Program} {w : World} : ∀ {es : List DictEntry} {qs : List (L2.Key × Value)}, Pairs (mixKind P w) es qs → es.length = qs.length
  | _, _, .nil => rfl
  | _, _, .cons _ _ h => by rw [List.length_cons, List.length_cons, pairs_len h]
theorem dic_pl (I : Inv X pins σ H s) (hw : K.w = X.w) (h : DicAt K H a ks) (ht : ∀ p ∈ ks, isPl p.1 = true) :
    (a == sysModules) = false ∧ ∃ qs, s.heap.DictOf (mixKind X.prog X.w) a qs ∧ CorP ks qs ∧ qs.length ≤ sizeLine := by
  obtain ⟨es, ep, ho, hp, hn⟩ := h
  have ok : (a == sysModules) = false ∧ es.size ≤ sizeLine ∧ s.heap.DictRaw a es ep := (I.hok a _ ho).1
  obtain ⟨h1, h2, o, h3, h4, h5⟩ := ok
  obtain ⟨qs, e1, e2, e3⟩ := ents_pl (P := X.prog) hp ht
  rw [hw] at e1 e3
  refine ⟨h1, qs, ⟨o, es, ep, h3, h4, h5, fun e m => e3 e (by simpa using m), e1, nodup_dk (by rw [← corP_keys e2]; exact hn)⟩, e2, ?_⟩
  have := pairs_len e1
  rw [Array.length_toList] at this
  omega
end
/-- a may be looked up in a dict of these keys -/
def DKey {α : Type} (a : D) (kvs : List (D × α)) : Prop := (KeyT a ∧ ∀ p ∈ kvs, isTu p.1 = true) ∨ (isPl a = true ∧ ∀ p ∈ kvs, isPl p.1 = true)
/-! ### the rules -/
def rInT (K : Kw) (neg : Bool) : R2 := fun x y H Q => ∃ a ks d, y = .ref a ∧ DicAt K H a ks ∧ DKey d ks ∧ Imm K.K H x d ∧ Q (.bl (neg ^^ (look ks d).isSome)) H
def rIxD (K : Kw) : R2 := fun x y H Q => ∃ a ks d v, x = .ref a ∧ DicAt K H a ks ∧ DKey d ks ∧ Imm K.K H y d ∧ look ks d = some v ∧ Q v H
def rSetD (K : Kw) : TSet := fun o i v H Q => ∃ a ks d, o = .ref a ∧ DicAt K H a ks ∧ DKey d ks ∧ Imm K.K H i d ∧ ks.length < lineN ∧
  ∀ es ep, Paired (EntAt K H) es.toList (dput ks d v) → ((dput ks d v).map (·.1)).Nodup → Q (upd H a (dO a es ep))
def tDic0 (K : Kw) : TE := fun _ H Q => ∀ p, H p = none → Q (.ref p) (upd H p (dO p #[] 0))
section
variable {X : Cx}
theorem imm_ref {K : PySem.W.Frag} {H : Hp} {x : V} {d : D} (h : Imm K H x d) (ht : isTu d = true) : ∃ t, x = .ref t := by
  cases h <;> first | exact ⟨_, rfl⟩ | cases ht
theorem relO_isSome {o : Option V} {u : Option Value} (r : RelO o u) : o.isSome = u.isSome := by
  cases o <;> cases u <;> first | rfl | exact r.elim
theorem or_inT (hu : X.A.units + 65 < cLine) : OpR X (compareOp .In) (rInT ⟨X.K, X.w⟩ false) := by
  intro pins s σ H x y v u Q I rx ry h
  obtain ⟨a, ks, d, rfl, hd, hdk, im, q⟩ := h
  cases ry
  rw [Bool.false_xor] at q
  rcases hdk with ⟨⟨k1, n, k2, k3⟩, ht⟩ | ⟨k1, ht⟩
  · obtain ⟨t, rfl⟩ := imm_ref im k1
    cases rx
    obtain ⟨h1, xs, h2, h3, h4⟩ := dic_tup I rfl rfl hd ht
    refine wpAny_in_heap (knd := nestedKind X.prog X.w) (k := n) (by show X.A.units + 1 + 8 < cLine; omega) ⟨imm_nested I _ _ _ _ im rfl k2, k3⟩ h1 h2 ?_
    have e := relO_isSome (cor_look k2 h3)
    rw [Option.isSome_map] at e
    rw [e] at q
    exact ⟨.bl (atKey xs n).isSome, H, I.tok _, rfl, q⟩
  · obtain ⟨k, rfl⟩ := dk_pl k1
    have ex := imm_dk im
    subst ex
    obtain ⟨h1, qs, h2, h3, h4⟩ := dic_pl I rfl hd ht
    refine wpAny_in_of (kV_is rx) h1 h2.mapOf ?_
    have e := relO_isSome (corP_look (k := k) h3)
    rw [e] at q
    exact ⟨.bl (valueAt qs k).isSome, H, I.tok _, rfl, q⟩
theorem or_notInT (hu : X.A.units + 65 < cLine) : OpR X (compareOp .NotIn) (rInT ⟨X.K, X.w⟩ true) := by
  intro pins s σ H x y v u Q I rx ry h
  obtain ⟨a, ks, d, rfl, hd, hdk, im, q⟩ := h
  cases ry
  rw [Bool.true_xor] at q
  rcases hdk with ⟨⟨k1, n, k2, k3⟩, ht⟩ | ⟨k1, ht⟩
  · obtain ⟨t, rfl⟩ := imm_ref im k1
    cases rx
    obtain ⟨h1, xs, h2, h3, h4⟩ := dic_tup I rfl rfl hd ht
    refine notIn_keyed (knd := nestedKind X.prog X.w) (k := n) (by show X.A.units + 1 + 8 < cLine; omega) ⟨imm_nested I _ _ _ _ im rfl k2, k3⟩ h1 ⟨xs, h2, rfl⟩ ?_
    have e := relO_isSome (cor_look k2 h3)
    rw [Option.isSome_map] at e
    rw [e] at q
    rw [valueAt_pairsH, Option.isSome_map]
    exact ⟨.bl (!(atKey xs n).isSome), H, I.tok _, rfl, q⟩
  · obtain ⟨k, rfl⟩ := dk_pl k1
    have ex := imm_dk im
    subst ex
    obtain ⟨h1, qs, h2, h3, h4⟩ := dic_pl I rfl hd ht
    refine wpAny_notIn_of (kV_is rx) h1 h2.mapOf ?_
    have e := relO_isSome (corP_look (k := k) h3)
    rw [e] at q
    exact ⟨.bl (!(valueAt qs k).isSome), H, I.tok _, rfl, q⟩
theorem ix_dicT (hu : X.A.units + 65 < cLine) : IxR X (rIxD ⟨X.K, X.w⟩) := by
  intro value slice pins s σ H x y v u Q I rx ry h hs
  obtain ⟨a, ks, d, z, rfl, hd, hdk, im, hl, q⟩ := h
  cases rx
  rcases hdk with ⟨⟨k1, n, k2, k3⟩, ht⟩ | ⟨k1, ht⟩
  · obtain ⟨t, rfl⟩ := imm_ref im k1
    cases ry
    obtain ⟨h1, xs, h2, h3, h4⟩ := dic_tup I rfl rfl hd ht
    have e := cor_look k2 h3
    rw [hl] at e
    cases ek : atKey xs n with
    | none => rw [ek] at e; exact e.elim
    | some p =>
      rw [ek] at e
      have e : RelV z p.2 := e
      exact PyProof.Rows.subscriptTail_builtinR (x := p.2) h2.typeIs slot_dict_getitem.lookup
        (wpAny_getItem_heap (Q := fun r s' => r = p.2 ∧ EP X pins σ Q r s') (knd := nestedKind X.prog X.w) (k := n) (by show X.A.units + 1 + 8 < cLine; omega) ⟨imm_nested I _ _ _ _ im rfl k2, k3⟩ h2 ek ⟨rfl, z, H, I.tok _, e, q⟩) hs
  · obtain ⟨k, rfl⟩ := dk_pl k1
    have ex := imm_dk im
    subst ex
    obtain ⟨h1, qs, h2, h3, h4⟩ := dic_pl I rfl hd ht
    have e := corP_look (k := k) h3
    rw [hl] at e
    cases ek : valueAt qs k with
    | none => rw [ek] at e; exact e.elim
    | some p =>
      rw [ek] at e
      have e : RelV z p := e
      exact PyProof.Rows.subscriptTail_builtinR (x := p) h2.typeIs slot_dict_getitem.lookup
        (wpAny_getItem_of (Q := fun r s' => r = p ∧ EP X pins σ Q r s') (kV_is ry) h2.mapOf ek ⟨rfl, z, H, I.tok _, e, q⟩) hs
theorem set_dicT (hu : X.A.units + 65 < cLine) : PSet X (rSetD ⟨X.K, X.w⟩) := by
  intro pins s σ H o i v ov iv u Q I ro ri rv h
  obtain ⟨a, ks, d, rfl, hd, hdk, im, hlen, q⟩ := h
  cases ro
  have hd0 := hd
  obtain ⟨es0, ep0, ho, _, hnd⟩ := hd0
  rcases hdk with ⟨⟨k1, n, k2, k3⟩, ht⟩ | ⟨k1, ht⟩
  · obtain ⟨t, rfl⟩ := imm_ref im k1
    cases ri
    obtain ⟨h1, xs, h2, h3, h4⟩ := dic_tup I rfl rfl hd ht
    refine wpAny_setItem_heap (knd := nestedKind X.prog X.w) (k := n) (hsz := h4) (by show X.A.units + 1 + 8 < cLine; omega) ⟨imm_nested I _ _ _ _ im rfl k2, k3⟩ h2 fun h' dd' hs => ?_
    obtain ⟨ob, es, ep, g1, g2, g3, g4, g5, g6⟩ := dd'
    have cp := cor_put k2 k3 rv im h3
    have he : es.size ≤ sizeLine := by
      have l1 := congrArg List.length g4
      rw [Array.length_toList, List.length_map, ← cor_len cp] at l1
      have := dput_len (ks := ks) (d := d) (v := v)
      rw [line_eq]
      omega
    refine ⟨_, d_write I (ob := dO a es ep) (by rw [ho]; exact True.intro) hs ⟨ob, g1⟩ ?_, q es ep (by rw [g4]; exact cor_ents (P := X.prog) cp) (dput_nodup hnd)⟩
    exact ⟨⟨h1, he, ob, g1, g2, g3⟩, ⟨ob, g1⟩, fun h1' h2' p k => ⟨p.1, p.2.1, p.2.2.at k⟩⟩
  · obtain ⟨k, rfl⟩ := dk_pl k1
    have ex := imm_dk im
    subst ex
    obtain ⟨h1, qs, h2, h3, h4⟩ := dic_pl I rfl hd ht
    refine wpAny_setItem_pairs (hsz := h4) (kV_is ri) h2 fun h' dd' hs => ?_
    obtain ⟨ob, es, ep, g1, g2, g3, g4, g5, g6⟩ := dd'
    have cp := corP_put (k := k) rv h3
    have he : es.size ≤ sizeLine := by
      have l1 := pairs_len g5
      rw [Array.length_toList, ← corP_len cp] at l1
      have := dput_len (ks := ks) (d := dk k) (v := v)
      rw [line_eq]
      omega
    refine ⟨_, d_write I (ob := dO a es ep) (by rw [ho]; exact True.intro) hs ⟨ob, g1⟩ ?_, q es ep (corP_ents (P := X.prog) g5 cp fun e m => g4 e (by simpa using m)) (dput_nodup hnd)⟩
    exact ⟨⟨h1, he, ob, g1, g2, g3⟩, ⟨ob, g1⟩, fun h1' h2' p k => ⟨p.1, p.2.1, p.2.2.at k⟩⟩
theorem pe_dic0 {pos : Pos} {K : Kw} : PE X (.Dict [] [] pos) (tDic0 K) := ⟨fun pins s σ H Q I h =>
  wpAny_Dict_empty ⟨.ref s.heap.objs.size, _, I.laid (a := s.heap.objs.size) (o := dO s.heap.objs.size #[] 0) (t' := s.toks) (fun _ _ q => Heap.get?_push_of_some _ q) (Nat.le_refl _)
    ⟨⟨beq_eq_false_iff_ne.mpr (Ne.symm (Nat.ne_of_lt I.big)), Nat.zero_le _, _, Heap.get?_push_size _ rfl, ⟨rfl, rfl, rfl⟩, rfl⟩, ⟨_, Heap.get?_push_size _ rfl⟩, fun h1' h2' p k => ⟨p.1, p.2.1, p.2.2.at k⟩⟩, rfl, h _ (I.hok.fresh (Nat.le_refl _))⟩⟩
end
/-! ### as data -/
theorem repK_look {K : Kw} {F : Addr → Prop} {H : Hp} {d : D} : ∀ {ks : List (D × V)} {kvs : List (D × D)}, RepK K F H ks kvs → ∀ e, look kvs d = some e → ∃ v, look ks d = some v ∧ Rep K F H v e
  | [], [], _, e, h => by cases h
  | (k, v) :: ks, (_, c) :: kvs, .cons h1 h2, e, h => by
    unfold look at h ⊢
    rw [List.find?_cons] at h ⊢
    by_cases q : k = d
    · rw [decide_eq_true q] at h ⊢
      cases h
      exact ⟨v, rfl, h1⟩
    · rw [decide_eq_false q] at h ⊢
      exact repK_look h2 e h
theorem repK_some {K : Kw} {F : Addr → Prop} {H : Hp} {d : D} : ∀ {ks : List (D × V)} {kvs : List (D × D)}, RepK K F H ks kvs → (look ks d).isSome = (look kvs d).isSome
  | [], [], _ => rfl
  | (k, v) :: ks, (_, c) :: kvs, .cons h1 h2 => by
    have ih := repK_some (d := d) h2
    unfold look at ih ⊢
    rw [List.find?_cons, List.find?_cons]
    by_cases q : k = d
    · rw [decide_eq_true q]; rfl
    · rw [decide_eq_false q]; exact ih
theorem repK_map {K : Kw} {F : Addr → Prop} {H : Hp} {d e : D} {v : V} (hv : Rep K F H v e) : ∀ {ks : List (D × V)} {kvs : List (D × D)}, RepK K F H ks kvs → RepK K F H (ks.map fun p => if p.1 = d then (p.1, v) else p) (kvs.map fun p => if p.1 = d then (p.1, e) else p)
  | [], [], _ => .nil
  | (k, u) :: ks, (_, c) :: kvs, .cons h1 h2 => by
    rw [List.map_cons, List.map_cons]
    by_cases q : k = d
    · simp only [if_pos q]; exact .cons hv (repK_map hv h2)
    · simp only [if_neg q]; exact .cons h1 (repK_map hv h2)
theorem repK_snoc {K : Kw} {F : Addr → Prop} {H : Hp} {d e : D} {v : V} (hv : Rep K F H v e) : ∀ {ks : List (D × V)} {kvs : List (D × D)}, RepK K F H ks kvs → RepK K F H (ks ++ [(d, v)]) (kvs ++ [(d, e)])
  | [], [], _ => .cons hv .nil
  | _ :: _, _ :: _, .cons h1 h2 => .cons h1 (repK_snoc hv h2)
theorem repK_put {K : Kw} {F : Addr → Prop} {H : Hp} {d e : D} {v : V} (hv : Rep K F H v e) {ks : List (D × V)} {kvs : List (D × D)} (h : RepK K F H ks kvs) : RepK K F H (dput ks d v) (dput kvs d e) := by
  unfold dput
  rw [repK_some (d := d) h]
  by_cases c : (look kvs d).isSome = true
  · rw [if_pos c, if_pos c]; exact repK_map hv h
  · rw [if_neg c, if_neg c]; exact repK_snoc hv h
theorem repK_keys {K : Kw} {F : Addr → Prop} {H : Hp} : ∀ {ks : List (D × V)} {kvs : List (D × D)}, RepK K F H ks kvs → ks.map (·.1) = kvs.map (·.1)
  | [], [], _ => rfl
  | _ :: _, _ :: _, .cons _ h2 => by rw [List.map_cons, List.map_cons, repK_keys h2]
theorem repK_all {K : Kw} {F : Addr → Prop} {H : Hp} {ks : List (D × V)} {kvs : List (D × D)} {f : D → Bool} (h : RepK K F H ks kvs) (ht : ∀ p ∈ kvs, f p.1 = true) : ∀ p ∈ ks, f p.1 = true := fun p m => by
  have : p.1 ∈ kvs.map (·.1) := by rw [← repK_keys h]; exact List.mem_map.mpr ⟨p, m, rfl⟩
  obtain ⟨q, hq, e⟩ := List.mem_map.mp this
  rw [← e]; exact ht q hq
theorem repK_tu {K : Kw} {F : Addr → Prop} {H : Hp} {ks : List (D × V)} {kvs : List (D × D)} {d : D} (h : RepK K F H ks kvs) (ht : DKey d kvs) : DKey d ks := by
  rcases ht with ⟨h1, h2⟩ | ⟨h1, h2⟩
  · exact .inl ⟨h1, repK_all (f := isTu) h h2⟩
  · exact .inr ⟨h1, repK_all (f := isPl) h h2⟩
theorem brs_key {α : Type} {K : Kw} {F : Addr → Prop} {H : Hp} {v : V} {d : D} {kvs : List (D × α)} (h : Brs K F H v d) (hk : DKey d kvs) : Imm K.K H v d := by
  rcases hk with ⟨⟨h1, n, h2, _⟩, _⟩ | ⟨h1, _⟩
  · cases d <;> first | exact rep_imm _ _ _ h h2 | exact nomatch h1
  obtain ⟨k, rfl⟩ := dk_pl h1
  have h2 := nk_dk k
  generalize dk k = d at h h1 h2
  cases d <;> first | exact rep_imm _ _ _ h h2 | exact nomatch h1
/-- an item of a sequence, a key of a dict -/
def fInS (neg : Bool) : F2
  | a, .list ds, Q => Eqable a (.list ds) ∧ Q (.val (.bool (neg ^^ isIn a ds)))
  | a, .tuple ds, Q => Eqable a (.tuple ds) ∧ Q (.val (.bool (neg ^^ isIn a ds)))
  | a, .dict kvs, Q => DKey a kvs ∧ Q (.val (.bool (neg ^^ (look kvs a).isSome)))
  | _, _, _ => False
def rInZ (K : Kw) (neg : Bool) : R2 := fun x y H Q => rInS K.K neg x y H Q ∨ rInT K neg x y H Q
section
variable {X : Cx} {C : Cn}
theorem or_inZ (hu : X.A.units + 65 < cLine) : OpR X (compareOp .In) (rInZ ⟨X.K, X.w⟩ false) := OpR.or (or_inS hu) (or_inT hu)
theorem or_notInZ (hu : X.A.units + 65 < cLine) : OpR X (compareOp .NotIn) (rInZ ⟨X.K, X.w⟩ true) := OpR.or (or_notInS hu) (or_notInT hu)
theorem od_inS {neg : Bool} : OpD C (rInZ C.K neg) (fInS neg) := by
  intro W H σ δ v y a b tv τ QQ Q g ha hb hf k
  cases b <;> try exact hf.elim
  · rename_i ds
    exact .inl ⟨a, _, ds, brs_dp ha hf.1.1, brs_dp hb hf.1.2, .inl rfl, hf.1.1, hf.1.2, k _ H W _ (g.push (r := .val (.bool _)) (.bl _)) hf.2⟩
  · rename_i ds
    exact .inl ⟨a, _, ds, brs_dp ha hf.1.1, brs_dp hb hf.1.2, .inr rfl, hf.1.1, hf.1.2, k _ H W _ (g.push (r := .val (.bool _)) (.bl _)) hf.2⟩
  · rename_i kvs
    obtain ⟨p, ks, rfl, h1, h2⟩ := hb
    obtain ⟨h3, h5⟩ := hf
    refine .inr ⟨p, ks, a, rfl, h1, repK_tu h2 h3, brs_key ha h3, ?_⟩
    rw [repK_some h2]
    exact k _ H W _ (g.push (r := .val (.bool _)) (.bl _)) h5
end
def zDic0 : ZT := fun δ Q => Q (.own (.dict [])) δ
theorem pz_dic0 {X : Cx} {C : Cn} {pos : Pos} : PE X (.Dict [] [] pos) (lift C zDic0) := PE.weak (pe_dic0 (K := C.K)) fun σ H Q ⟨W, δ, tv, τ, QQ, g, h, k⟩ => fun p hp =>
  k _ _ _ _ δ (g.newDic hp .nil .nil .nil) h
end Z
end
section
set_option Elab.async false
set_option linter.all false
set_option maxRecDepth 100000
/-! and, or, not, if; arguments, displays, calls of the program's defs. -/
namespace Z
open PySem PySem.Spec L2
section
variable {X : Cx} {C : Cn} {e a b c : Expr} {es : List Expr} {pos : Pos} {t ta tb tc : ZT} {ua ub : ZB}
theorem plain_test {env : PySem.Env} (h : plainT a = true) : ∀ whole, isTrue a env whole = (do let v ← whole; standAt a.pos; holding [v] (truthy v)) := by
  intro whole
  cases a <;> first | rfl | cases h | skip
  all_goals (rename_i op _ _; cases op <;> first | rfl | cases h)
def zAnd (ua ub : ZB) : ZB := fun δ Q => ua δ fun x δ1 => if x = true then ub δ1 Q else Q false δ1
def zOr (ua ub : ZB) : ZB := fun δ Q => ua δ fun x δ1 => if x = true then Q true δ1 else ub δ1 Q
def zNot (ua : ZB) : ZB := fun δ Q => ua δ fun x δ1 => Q (!x) δ1
theorem pw_and1Z (ha : PT X a (liftB C ua)) : PW X (.BoolOp .And [a] pos) (liftB C ua) := pw_and1 ha
theorem pw_or1Z (ha : PT X a (liftB C ua)) : PW X (.BoolOp .Or [a] pos) (liftB C ua) := pw_or1 ha
theorem pw_andZ {rest : List Expr} (ha : PT X a (liftB C ua)) (hb : PW X (.BoolOp .And (b :: rest) pos) (liftB C ub)) : PW X (.BoolOp .And (a :: b :: rest) pos) (liftB C (zAnd ua ub)) := by
  refine PW.weak (pw_and ha hb) fun σ H Q ⟨W, δ, tv, τ, QQ, g, h1, k⟩ => ⟨W, δ, tv, τ, _, g, h1, fun x H1 W1 δ1 g1 h2 => ?_⟩
  cases x with
  | true => exact ⟨W1, δ1, tv, τ, QQ, g1, h2, k⟩
  | false => exact k false H1 W1 δ1 g1 h2
theorem pw_orZ {rest : List Expr} (ha : PT X a (liftB C ua)) (hb : PW X (.BoolOp .Or (b :: rest) pos) (liftB C ub)) : PW X (.BoolOp .Or (a :: b :: rest) pos) (liftB C (zOr ua ub)) := by
  refine PW.weak (pw_or ha hb) fun σ H Q ⟨W, δ, tv, τ, QQ, g, h1, k⟩ => ⟨W, δ, tv, τ, _, g, h1, fun x H1 W1 δ1 g1 h2 => ?_⟩
  cases x with
  | false => exact ⟨W1, δ1, tv, τ, QQ, g1, h2, k⟩
  | true => exact k true H1 W1 δ1 g1 h2
theorem pt_notZ (ha : PT X a (liftB C ua)) : PT X (.UnaryOp .Not a pos) (liftB C (zNot ua)) :=
  PT.weak (pt_not ha) fun σ H Q ⟨W, δ, tv, τ, QQ, g, h1, k⟩ => ⟨W, δ, tv, τ, _, g, h1, fun x H1 W1 δ1 g1 h2 => k (!x) H1 W1 δ1 g1 h2⟩
/-- .. as values: all but the last are bools -/
def zAndV (ta tb : ZT) : ZT := fun δ Q => ta δ fun r δ1 => match con δ1 r with
  | some (.bool true) => tb δ1 Q
  | some (.bool false) => Q (.val (.bool false)) δ1
  | _ => False
def zOrV (ta tb : ZT) : ZT := fun δ Q => ta δ fun r δ1 => match con δ1 r with
  | some (.bool true) => Q (.val (.bool true)) δ1
  | some (.bool false) => tb δ1 Q
  | _ => False
def zNotV (ta : ZT) : ZT := fun δ Q => ta δ fun r δ1 => match con δ1 r with
  | some (.bool x) => Q (.val (.bool (!x))) δ1
  | _ => False
theorem pz_and {rest : List Expr} (ha : PE X a (lift C ta)) (hb : PE X (.BoolOp .And (b :: rest) pos) (lift C tb)) : PE X (.BoolOp .And (a :: b :: rest) pos) (lift C (zAndV ta tb)) := by
  refine PE.weak (pe_and ha hb) fun σ H Q ⟨W, δ, tv, τ, QQ, g, h1, k⟩ => ⟨W, δ, tv, τ, _, g, h1, fun u H1 W1 r δ1 g1 h2 => ?_⟩
  cases e : con δ1 r with
  | none => simp only [e] at h2
  | some d =>
    simp only [e] at h2
    cases d <;> try exact h2.elim
    rename_i x
    refine ⟨x, brs_bool (g1.brs e), ?_⟩
    cases x with
    | true => exact ⟨W1, δ1, tv, τ, QQ, g1.pop, h2, k⟩
    | false => exact k _ H1 W1 _ δ1 (g1.under (r' := .val (.bool false)) (.bl _)) h2
theorem pz_or {rest : List Expr} (ha : PE X a (lift C ta)) (hb : PE X (.BoolOp .Or (b :: rest) pos) (lift C tb)) : PE X (.BoolOp .Or (a :: b :: rest) pos) (lift C (zOrV ta tb)) := by
  refine PE.weak (pe_or ha hb) fun σ H Q ⟨W, δ, tv, τ, QQ, g, h1, k⟩ => ⟨W, δ, tv, τ, _, g, h1, fun u H1 W1 r δ1 g1 h2 => ?_⟩
  cases e : con δ1 r with
  | none => simp only [e] at h2
  | some d =>
    simp only [e] at h2
    cases d <;> try exact h2.elim
    rename_i x
    refine ⟨x, brs_bool (g1.brs e), ?_⟩
    cases x with
    | false => exact ⟨W1, δ1, tv, τ, QQ, g1.pop, h2, k⟩
    | true => exact k _ H1 W1 _ δ1 (g1.under (r' := .val (.bool true)) (.bl _)) h2
theorem pz_not (ha : PE X a (lift C ta)) : PE X (.UnaryOp .Not a pos) (lift C (zNotV ta)) := by
  refine PE.weak (pe_not ha) fun σ H Q ⟨W, δ, tv, τ, QQ, g, h1, k⟩ => ⟨W, δ, tv, τ, _, g, h1, fun u H1 W1 r δ1 g1 h2 => ?_⟩
  cases e : con δ1 r with
  | none => simp only [e] at h2
  | some d =>
    simp only [e] at h2
    cases d <;> try exact h2.elim
    rename_i x
    exact ⟨x, brs_bool (g1.brs e), k _ H1 W1 _ δ1 (g1.under (r' := .val (.bool _)) (.bl _)) h2⟩
def zIf (u : ZB) (ta tb : ZT) : ZT := fun δ Q => u δ fun x δ1 => if x = true then ta δ1 Q else tb δ1 Q
theorem pz_if {u : ZB} (hc : PT X c (liftB C u)) (ha : PE X a (lift C ta)) (hb : PE X b (lift C tb)) : PE X (.IfExp c a b pos) (lift C (zIf u ta tb)) := by
  refine PE.weak (pe_ifExp hc ha hb) fun σ H Q ⟨W, δ, tv, τ, QQ, g, h1, k⟩ => ⟨W, δ, tv, τ, _, g, h1, fun x H1 W1 δ1 g1 h2 => ?_⟩
  cases x with
  | true => exact ⟨W1, δ1, tv, τ, QQ, g1, h2, k⟩
  | false => exact ⟨W1, δ1, tv, τ, QQ, g1, h2, k⟩

/-! ### several values -/
/-- what is done to each value once it has come -/
abbrev Hand := RV → Sto → (RV → Sto → Prop) → Prop
structure HandOk (C : Cn) (h : Hand) (P : RV → Prop) : Prop where
  ok : ∀ {W : Wd} {H : Hp} {σ : L2.St} {δ : Sto} {v : V} {r : RV} {tv : List V} {τ : List RV} {Q : RV → Sto → Prop}, Gd C W H σ δ (v :: tv) (r :: τ) → h r δ Q → ∃ W' r' δ', Gd C W' H σ δ' (v :: tv) (r' :: τ) ∧ P r' ∧ Q r' δ'
/-- handed to a def -/
def zPass : Hand := fun r δ Q => match r with
  | .deck => Q .deck δ
  | r => zSettle r δ fun d δ' => Q (.val d) δ'
def RV.passed : RV → Prop
  | .val _ => True
  | .deck => True
  | _ => False
theorem hand_pass : HandOk C zPass RV.passed where
  ok := by
    intro W H σ δ v r tv τ Q g h
    have go : ∀ (_ : zSettle r δ fun d δ' => Q (.val d) δ'), ∃ W' r' δ', Gd C W' H σ δ' (v :: tv) (r' :: τ) ∧ r'.passed ∧ Q r' δ' := fun h => by
      obtain ⟨W', d, δ', g', q⟩ := g.settle h
      exact ⟨W', _, δ', g', trivial, q⟩
    cases r with
    | deck => exact ⟨W, _, δ, g, trivial, h⟩
    | _ => exact go h
theorem hand_unal : HandOk C (fun r δ Q => zUnal r δ Q) (fun r => r.good = true) := ⟨fun g h => g.unal h⟩
def zArgs (h : Hand) : List ZT → ZL
  | [] => fun δ Q => Q [] δ
  | t :: ts => fun δ Q => t δ fun r δ1 => h r δ1 fun r' δ2 => zArgs h ts δ2 fun rs δ3 => Q (r' :: rs) δ3
/-- .. with what is known of each -/
def liftA (C : Cn) (P : RV → Prop) (n : Nat) (t : ZL) : TA := fun σ H Q => ∃ W δ tv τ QQ, Gd C W H σ δ tv τ ∧ t δ QQ ∧ ∀ us H' W' rs δ', Gd C W' H' σ δ' (us.reverse ++ tv) (rs.reverse ++ τ) → us.length = rs.length → us.length = n → (∀ r ∈ rs, P r) → QQ rs δ' → Q us H'
theorem pa_argsNil {h : Hand} {P : RV → Prop} : PA X [] (liftA C P 0 (zArgs h [])) :=
  PA.weak pa_nil fun σ H Q ⟨W, δ, tv, τ, QQ, g, h1, k⟩ => k [] H W [] δ g rfl rfl (fun _ m => nomatch m) h1
theorem lift_cons {h : Hand} {P : RV → Prop} {ts : List ZT} {n : Nat} (hh : HandOk C h P) : ∀ σ H Q, liftA C P (n + 1) (zArgs h (t :: ts)) σ H Q → tCons (lift C t) (liftA C P n (zArgs h ts)) σ H Q := fun σ H Q ⟨W, δ, tv, τ, QQ, g, h1, k⟩ => by
  refine ⟨W, δ, tv, τ, _, g, h1, fun u H1 W1 r δ1 g1 h2 => ?_⟩
  obtain ⟨W2, r', δ2, g2, hP, h3⟩ := hh.ok g1 h2
  refine ⟨W2, δ2, u :: tv, r' :: τ, _, g2, h3, fun us H3 W3 rs δ3 g3 hl hn hP3 h4 => ?_⟩
  refine k (u :: us) H3 W3 (r' :: rs) δ3 ?_ (by simp [hl]) (by simp [hn]) (fun x m => ?_) h4
  · rw [List.reverse_cons, List.reverse_cons, List.append_assoc, List.append_assoc]
    exact g3
  · rcases List.mem_cons.mp m with rfl | m
    · exact hP
    · exact hP3 x m
theorem pa_args {h : Hand} {P : RV → Prop} (hh : HandOk C h P) {ev : Expr → ZT} : ∀ {es : List Expr}, (∀ e ∈ es, PE X e (lift C (ev e))) → es.all noStar = true → PA X es (liftA C P es.length (zArgs h (es.map ev)))
  | [], _, _ => pa_argsNil
  | e :: es, he, hs => by
    rw [List.all_cons, Bool.and_eq_true] at hs
    exact PA.weak (pa_cons (he e List.mem_cons_self) (pa_args hh (fun x m => he x (List.mem_cons_of_mem _ m)) hs.2) (star_cons hs.1)) (lift_cons hh)
theorem pk_args {h : Hand} {P : RV → Prop} (hh : HandOk C h P) {ev : Expr → ZT} : ∀ {kws : List Keyword}, (∀ k ∈ kws, PE X k.value (lift C (ev k.value))) → PK X kws (liftA C P kws.length (zArgs h (kws.map fun k => ev k.value)))
  | [], _ => by
    have q := @pk_nil X
    exact ⟨fun p pins s σ H Q I ⟨W, δ, tv, τ, QQ, g, h1, k⟩ => q.run p pins s σ H Q I (k [] H W [] δ g rfl rfl (fun _ m => nomatch m) h1)⟩
  | ⟨nm, e, kp⟩ :: kws, he => by
    have q := pk_cons (nm := nm) (kpos := kp) (he ⟨nm, e, kp⟩ List.mem_cons_self) (pk_args hh (kws := kws) fun x m => he x (List.mem_cons_of_mem _ m))
    exact ⟨fun p pins s σ H Q I z => q.run p pins s σ H Q I (lift_cons hh σ H Q z)⟩

/-- the pile's top rows, all data -/
theorem TsOk.split {C : Cn} {W : Wd} {H : Hp} {σ : L2.St} : ∀ {us : List V} {rs : List RV} {tv : List V} {τ : List RV}, us.length = rs.length → TsOk C W H σ (us ++ tv) (rs ++ τ) → TsOk C W H σ tv τ
  | [], [], _, _, _, h => h
  | _ :: us, _ :: rs, _, _, hl, h => TsOk.split (us := us) (rs := rs) (by simpa using hl) h.2
  | [], _ :: _, _, _, hl, _ => by simp at hl
  | _ :: _, [], _, _, hl, _ => by simp at hl
theorem Gd.popN {W : Wd} {H : Hp} {σ : L2.St} {δ : Sto} : ∀ {us : List V} {rs : List RV} {tv : List V} {τ : List RV}, us.length = rs.length → Gd C W H σ δ (us ++ tv) (rs ++ τ) → Gd C W H σ δ tv τ
  | [], [], _, _, _, g => g
  | _ :: us, _ :: rs, _, _, hl, g => Gd.popN (us := us) (rs := rs) (by simpa using hl) g.pop
  | [], _ :: _, _, _, hl, _ => by simp at hl
  | _ :: _, [], _, _, hl, _ => by simp at hl
def datas : List RV → Option (List D)
  | [] => some []
  | .val d :: rs => (datas rs).map (d :: ·)
  | _ :: _ => none
theorem datas_append : ∀ {rs qs : List RV} {ds es : List D}, datas rs = some ds → datas qs = some es → datas (rs ++ qs) = some (ds ++ es)
  | [], _, _, _, h, h' => by cases h; exact h'
  | .val d :: rs, qs, ds, es, h, h' => by
    unfold datas at h
    obtain ⟨x, hx, rfl⟩ := Option.map_eq_some_iff.mp h
    rw [List.cons_append, datas, datas_append hx h']
    rfl
  | .own _ :: _, _, _, _, h, _ => by cases h
  | .lck _ :: _, _, _, _, h, _ => by cases h
  | .slot _ :: _, _, _, _, h, _ => by cases h
  | .lal _ _ :: _, _, _, _, h, _ => by cases h
  | .deck :: _, _, _, _, h, _ => by cases h
  | .scr :: _, _, _, _, h, _ => by cases h
  | .junk :: _, _, _, _, h, _ => by cases h
theorem datas_reverse : ∀ {rs : List RV} {ds : List D}, datas rs = some ds → datas rs.reverse = some ds.reverse
  | [], _, h => by cases h; rfl
  | r :: rs, ds, h => by
    cases r with
    | val d =>
      unfold datas at h
      obtain ⟨x, hx, rfl⟩ := Option.map_eq_some_iff.mp h
      rw [List.reverse_cons, List.reverse_cons]
      exact datas_append (datas_reverse hx) rfl
    | _ => cases h
theorem TsOk.repL {W : Wd} {H : Hp} {σ : L2.St} : ∀ {us : List V} {rs : List RV} {ds : List D} {tv : List V} {τ : List RV}, us.length = rs.length → datas rs = some ds → TsOk C W H σ (us ++ tv) (rs ++ τ) → RepL C.K W.F H us ds
  | [], [], _, _, _, _, e, _ => by cases e; exact .nil
  | u :: us, r :: rs, ds, _, _, hl, e, h => by
    cases r with
    | val d =>
      unfold datas at e
      obtain ⟨x, hx, rfl⟩ := Option.map_eq_some_iff.mp e
      exact .cons h.1 (TsOk.repL (us := us) (rs := rs) (by simpa using hl) hx h.2)
    | _ => cases e
  | [], _ :: _, _, _, _, hl, _, _ => by simp at hl
  | _ :: _, [], _, _, _, hl, _, _ => by simp at hl
theorem Gd.repL {W : Wd} {H : Hp} {σ : L2.St} {δ : Sto} {us : List V} {rs : List RV} {ds : List D} {tv : List V} {τ : List RV} (g : Gd C W H σ δ (us.reverse ++ tv) (rs.reverse ++ τ)) (hl : us.length = rs.length) (e : datas rs = some ds) : RepL C.K W.F H us ds := by
  have q := TsOk.repL (us := us.reverse) (rs := rs.reverse) (by simpa using hl) (datas_reverse e) g.temps
  have q2 := q.reverse
  rwa [List.reverse_reverse, List.reverse_reverse] at q2
/-- (a, b, ..), [a, b, ..] -/
def zTup (l : ZL) : ZT := fun δ Q => l δ fun rs δ1 => match datas rs with
  | some ds => ds.length ≤ lineN ∧ Q (.val (.tuple ds)) δ1
  | none => False
def zLst (l : ZL) : ZT := fun δ Q => l δ fun rs δ1 => match datas rs with
  | some ds => ds.length ≤ lineN ∧ Q (.own (.list ds)) δ1
  | none => False
theorem pz_tup {P : RV → Prop} {l : ZL} {k n : Nat} (h : PA X es (liftA C P n l)) : PE X (.Tuple es k pos) (lift C (zTup l)) := by
  refine PE.weak (pe_tupO h) fun σ H Q ⟨W, δ, tv, τ, QQ, g, h1, k⟩ => ⟨W, δ, tv, τ, _, g, h1, fun us H1 W1 rs δ1 g1 hl hn hP h2 => ?_⟩
  cases e : datas rs with
  | none => simp only [e] at h2
  | some ds =>
    simp only [e] at h2
    have r := g1.repL hl e
    exact ⟨by rw [line_eq, r.length]; exact h2.1, fun p o hp ho => k _ _ W1 _ δ1 ((g1.popN (by simpa using hl)).newTup hp ho r) h2.2⟩
theorem pz_lst {P : RV → Prop} {l : ZL} {n : Nat} (h : PA X es (liftA C P n l)) : PE X (.List es pos) (lift C (zLst l)) := by
  refine PE.weak (pe_lst h) fun σ H Q ⟨W, δ, tv, τ, QQ, g, h1, k⟩ => ⟨W, δ, tv, τ, _, g, h1, fun us H1 W1 rs δ1 g1 hl hn hP h2 => ?_⟩
  cases e : datas rs with
  | none => simp only [e] at h2
  | some ds =>
    simp only [e] at h2
    have r := g1.repL hl e
    exact ⟨by rw [line_eq, r.length]; exact h2.1, fun p hp => k _ _ _ _ δ1 ((g1.popN (by simpa using hl)).newLst hp r) h2.2⟩
end
end Z
end
section
set_option Elab.async false
set_option linter.all false
set_option maxRecDepth 100000
/-! Calls of the program's defs; of built-ins. -/
namespace Z
open PySem PySem.Spec L2
/-- a def of the program, as its callers see it -/
structure FnI where
  name : Str
  ps : List Str
  c : Ct
structure Callee (P : Program) (w : World) (K : Kw) (mg : Str → Option Value) (base : Heap) (T : DkT) (k : Nat) (fi : FnI) : Prop where
  ex : ∃ f fd, FnG P w K.K mg base CX0 k f fd fi.ps (spZ K T fi.ps.length fi.c) ∧ mg fi.name = some (.ref f) ∧ PySem.W.keepIn K.K (.ref f) = true ∧ Plain fd fi.ps
section
variable {X : Cx} {C : Cn} {e a b c : Expr} {es : List Expr} {pos p : Pos} {t ta tb tc : ZT} {kws : List Keyword} {x : Str} {perm : List Nat}
def zCall (c : Ct) (perm : List Nat) (la lk : ZL) : ZT := fun δ Q => la δ fun rs δ1 => lk δ1 fun qs δ2 => c (arr .junk perm rs qs) (fun r => Q r δ2) (fun _ => False)

theorem Gd.dkOk {W : Wd} {H : Hp} {σ : L2.St} {δ : Sto} {tv : List V} {τ : List RV} (g : Gd C W H σ δ tv τ) : DkOk C.T W.dk W.F H := ⟨fun p q e => by
  obtain ⟨h1, h2, h3, h4⟩ := g.deck p q e
  have s1 := g.soft p (by rw [h3]; rfl)
  have s2 := g.soft q (by rw [h4]; rfl)
  refine ⟨h1, h2, fun z => ?_, fun z => ?_, g.live p (by rw [h3]; rfl), g.live q (by rw [h4]; rfl), s1.1, s1.2, s2.1, s2.2⟩
  · have := g.frz p z; rw [h3] at this; cases this
  · have := g.frz q z; rw [h4] at this; cases this⟩
theorem TsOk.args {W : Wd} {H : Hp} {σ : L2.St} {F : Addr → Prop} (hF : F = W.F) : ∀ {us : List V} {rs : List RV} {tv : List V} {τ : List RV}, us.length = rs.length → (∀ r ∈ rs, r.passed) → TsOk C W H σ (us ++ tv) (rs ++ τ) → ∀ (i : Nat) (v : V) (r : RV), us[i]? = some v → rs[i]? = some r → ArgOk C.K W.dk F H v r
  | [], [], _, _, _, _, _, i, v, r, e, _ => by simp at e
  | u :: us, q :: rs, tv, τ, hl, hP, h, 0, v, r, e1, e2 => by
    simp at e1 e2
    subst e1 e2
    have h1 := h.1
    have hp := hP q List.mem_cons_self
    subst hF
    cases q with
    | val d => exact h1
    | deck => exact h1
    | _ => exact hp.elim
  | u :: us, q :: rs, tv, τ, hl, hP, h, i + 1, v, r, e1, e2 => TsOk.args hF (us := us) (rs := rs) (by simpa using hl) (fun r m => hP r (List.mem_cons_of_mem _ m)) h.2 i v r (by simpa using e1) (by simpa using e2)
  | [], _ :: _, _, _, hl, _, _, _, _, _, _, _ => by simp at hl
  | _ :: _, [], _, _, hl, _, _, _, _, _, _, _ => by simp at hl
theorem perm_lt {ps ks : List Str} {m : Nat} (h : permOf ps ks m = some perm) : ∀ j ∈ perm, j < m + ks.length := by
  unfold permOf at h
  split at h
  · obtain ⟨h1, h2⟩ := mapM_some h
    intro j hj
    obtain ⟨i, hi, e⟩ := List.mem_iff_getElem.mp hj
    have hi' : i < ps.zipIdx.length := by omega
    have q := h2 i _ j (List.getElem?_eq_getElem hi') (by rw [List.getElem?_eq_getElem hi, e])
    unfold perm1 at q
    split at q
    · split at q
      · cases q
      · cases q; omega
    · obtain ⟨t, ht, rfl⟩ := Option.map_eq_some_iff.mp q
      have := (List.findIdx?_eq_some_iff_getElem.mp ht).1
      omega
  · cases h
theorem perm_len {ps ks : List Str} {m : Nat} (h : permOf ps ks m = some perm) : perm.length = ps.length := by
  unfold permOf at h
  split at h
  · rw [(mapM_some h).1, List.length_zipIdx]
  · cases h
theorem argsOk_of {K : Kw} {dk : Option (Addr × Addr)} {F : Addr → Prop} {H : Hp} {us : List V} {rs : List RV} (hl : us.length = rs.length) (h : ∀ (i : Nat) (v : V) (r : RV), us[i]? = some v → rs[i]? = some r → ArgOk K dk F H v r) :
    ∀ {perm : List Nat}, (∀ j ∈ perm, j < us.length) → ArgsOk K dk F H (perm.map (lookI us .non)) (perm.map (lookI rs .junk))
  | [], _ => trivial
  | j :: perm, hp => by
    have hj := hp j List.mem_cons_self
    refine ⟨?_, argsOk_of hl h fun i m => hp i (List.mem_cons_of_mem _ m)⟩
    have e1 : us[j]? = some us[j] := List.getElem?_eq_getElem hj
    have e2 : rs[j]? = some (rs[j]'(by omega)) := List.getElem?_eq_getElem (by omega)
    unfold lookI
    rw [e1, e2]
    exact h j _ _ e1 e2
theorem Gd.regroup {W : Wd} {H : Hp} {σ : L2.St} {δ : Sto} {vs zs tv : List V} {rs qs τ : List RV} (g : Gd C W H σ δ (zs.reverse ++ (vs.reverse ++ tv)) (qs.reverse ++ (rs.reverse ++ τ))) : Gd C W H σ δ ((vs ++ zs).reverse ++ tv) ((rs ++ qs).reverse ++ τ) := by
  rw [List.reverse_append, List.reverse_append, List.append_assoc, List.append_assoc]; exact g
theorem lift_call {T : DkT} (hT : C.T = T) {n : Nat} {ct : Ct} {m l : Nat} {la lk : ZL} (hn : perm.length = n) (hp : ∀ j ∈ perm, j < m + l) :
    ∀ σ H Q, lift C (zCall ct perm la lk) σ H Q → tCallP (spZ C.K T n ct) perm m l E0 (liftA C RV.passed m la) (liftA C RV.passed l lk) σ H Q := fun σ H Q ⟨W, δ, tv, τ, QQ, g, h1, k⟩ => by
  subst hT
  refine ⟨W, δ, tv, τ, _, g, h1, fun vs H1 W1 rs δ1 g1 hl1 em hP1 h2 => ⟨W1, δ1, _, _, _, g1, h2, fun zs H2 W2 qs δ2 g2 hl2 el hP2 h3 => ⟨em, el, ?_⟩⟩⟩
  have g3 := g2.regroup
  have hl3 : (vs ++ zs).length = (rs ++ qs).length := by simp [hl1, hl2]
  have hl4 : (vs ++ zs).reverse.length = (rs ++ qs).reverse.length := by rw [List.length_reverse, List.length_reverse]; exact hl3
  have g4 := g3.popN hl4
  have harg : ∀ (i : Nat) (v : V) (r : RV), (vs ++ zs)[i]? = some v → (rs ++ qs)[i]? = some r → ArgOk C.K W2.dk W2.F H2 v r := fun i v r e1 e2 => by
    have hi : i < (vs ++ zs).length := (List.getElem?_eq_some_iff.mp e1).1
    have q := TsOk.args (C := C) (W := W2) (H := H2) (σ := σ) rfl (us := (vs ++ zs).reverse) (rs := (rs ++ qs).reverse) hl4 (fun r m => by
      rw [List.mem_reverse] at m
      rcases List.mem_append.mp m with m | m
      · exact hP1 r m
      · exact hP2 r m) g3.temps ((vs ++ zs).length - 1 - i) v r
    refine q ?_ ?_
    · rw [List.getElem?_reverse (by omega)]
      rw [show (vs ++ zs).length - 1 - ((vs ++ zs).length - 1 - i) = i by omega]; exact e1
    · rw [List.getElem?_reverse (by omega), ← hl3]
      rw [show (vs ++ zs).length - 1 - ((vs ++ zs).length - 1 - i) = i by omega]; exact e2
  refine ⟨by unfold arr; rw [List.length_map]; exact hn, W2.F, W2.dk, arr .junk perm rs qs, _, g4.flive, g4.dkOk, argsOk_of hl3 harg fun j hj => by rw [List.length_append, em, el]; exact hp j hj, h3, fun v H' r hpst hq => ?_⟩
  obtain ⟨W5, g5⟩ := g4.called hpst
  exact k v H' W5 r δ2 g5 hq
theorem pz_call {T : DkT} {k k' : Nat} {fi : FnI} {ev : Expr → ZT} (hT : C.T = T) (hK : C.K.K = X.K) (F : Callee X.prog X.w C.K X.mg X.base T k fi) (hk : k ≤ k') (hr : Room k' X.A) (hgd : X.A.guards = some []) (hg : Gl X fi.name)
    (hdb : (fi.name == ("__debug__" : Str)) = false) (hpm : permOf fi.ps (kwNames kws) es.length = some perm) (ha : ∀ e ∈ es, PE X e (lift C (ev e))) (hkw : ∀ k ∈ kws, PE X k.value (lift C (ev k.value)))
    (hst : es.all noStar = true) (hks : (kws.all fun k => k.arg.isSome) = true) : PE X (.Call (.Name fi.name p) es kws pos) (lift C (zCall fi.c perm (zArgs zPass (es.map ev)) (zArgs zPass (kws.map fun k => ev k.value)))) := by
  obtain ⟨f, fd, hF, hm, hkp, hpl⟩ := F.ex
  have hlt := perm_lt hpm
  rw [kwNames_len hks] at hlt
  have hl := lift_call (C := C) (la := zArgs zPass (es.map ev)) (lk := zArgs zPass (kws.map fun k => ev k.value)) (ct := fi.c) hT (perm_len hpm) hlt
  rw [hK] at hF hkp
  have pk := pk_args hand_pass hkw
  cases es with
  | nil =>
    refine PE.weak (pe_callG0 hF (hr.mono hk) hgd hg hm hkp pass0 hpl hpm pk hks hdb) fun σ H Q h => ?_
    obtain ⟨W, δ, tv, τ, QQ, g, h1, k0⟩ := hl σ H Q h
    exact k0 [] H W [] δ g rfl rfl (fun _ m => nomatch m) h1
  | cons e es =>
    exact PE.weak (pe_callG hF (hr.mono hk) hgd hg hm hkp pass0 hpl hpm (pa_args hand_pass ha hst) pk hst hks hdb) hl
end
end Z
end
section
set_option Elab.async false
set_option linter.all false
set_option maxRecDepth 100000
/-! Built-ins. -/
namespace Z
open PySem PySem.Spec L2
abbrev FN := List D → (RV → Prop) → Prop
def zKeep : Hand := fun r δ Q => Q r δ
def cons (δ : Sto) : List RV → Option (List D)
  | [] => some []
  | r :: rs => match con δ r, cons δ rs with
    | some d, some ds => some (d :: ds)
    | _, _ => none
def zBlt (f : FN) (l : ZL) : ZT := fun δ Q => l δ fun rs δ1 => match cons δ1 rs with
  | some ds => f ds fun r => Q r δ1
  | none => False
inductive BrsL (K : Kw) (F : Addr → Prop) (H : Hp) : List V → List D → Prop
  | nil : BrsL K F H [] []
  | cons {v : V} {vs : List V} {d : D} {ds : List D} : Brs K F H v d → BrsL K F H vs ds → BrsL K F H (v :: vs) (d :: ds)
theorem BrsL.append {K : Kw} {F : Addr → Prop} {H : Hp} : ∀ {xs ys : List V} {ds es : List D}, BrsL K F H xs ds → BrsL K F H ys es → BrsL K F H (xs ++ ys) (ds ++ es)
  | _, _, _, _, .nil, q => q
  | _, _, _, _, .cons h r, q => .cons h (r.append q)
theorem BrsL.reverse {K : Kw} {F : Addr → Prop} {H : Hp} : ∀ {xs : List V} {ds : List D}, BrsL K F H xs ds → BrsL K F H xs.reverse ds.reverse
  | _, _, .nil => .nil
  | _, _, .cons h r => by
    rw [List.reverse_cons, List.reverse_cons]
    exact r.reverse.append (.cons h .nil)
section
variable {X : Cx} {C : Cn} {e a b c : Expr} {es : List Expr} {pos p : Pos} {t ta tb tc : ZT} {x : Str}
theorem hand_keep : HandOk C zKeep fun _ => True := ⟨fun g h => ⟨_, _, _, g, trivial, h⟩⟩
theorem cons_append {δ : Sto} : ∀ {rs qs : List RV} {ds es : List D}, cons δ rs = some ds → cons δ qs = some es → cons δ (rs ++ qs) = some (ds ++ es)
  | [], _, _, _, h, h' => by cases h; exact h'
  | r :: rs, qs, ds, es, h, h' => by
    unfold cons at h
    cases e1 : con δ r with
    | none => simp only [e1] at h; cases h
    | some d =>
      cases e2 : cons δ rs with
      | none => simp only [e1, e2] at h; cases h
      | some ds' =>
        simp only [e1, e2] at h
        cases h
        rw [List.cons_append, cons, e1, cons_append e2 h']
        rfl
theorem cons_reverse {δ : Sto} : ∀ {rs : List RV} {ds : List D}, cons δ rs = some ds → cons δ rs.reverse = some ds.reverse
  | [], _, h => by cases h; rfl
  | r :: rs, ds, h => by
    unfold cons at h
    cases e1 : con δ r with
    | none => simp only [e1] at h; cases h
    | some d =>
      cases e2 : cons δ rs with
      | none => simp only [e1, e2] at h; cases h
      | some ds' =>
        simp only [e1, e2] at h
        cases h
        rw [List.reverse_cons, List.reverse_cons]
        refine cons_append (cons_reverse e2) ?_
        unfold cons
        rw [e1]
        rfl
theorem Gd.brsL {W : Wd} {H : Hp} {σ : L2.St} {δ : Sto} : ∀ {us : List V} {rs : List RV} {ds : List D} {tv : List V} {τ : List RV}, us.length = rs.length → cons δ rs = some ds → Gd C W H σ δ (us ++ tv) (rs ++ τ) → BrsL C.K W.F H us ds
  | [], [], _, _, _, _, e, _ => by cases e; exact .nil
  | u :: us, r :: rs, ds, tv, τ, hl, e, g => by
    unfold cons at e
    cases e1 : con δ r with
    | none => simp only [e1] at e; cases e
    | some d =>
      cases e2 : cons δ rs with
      | none => simp only [e1, e2] at e; cases e
      | some ds' =>
        simp only [e1, e2] at e
        cases e
        exact .cons (Gd.brs (tv := us ++ tv) (τ := rs ++ τ) g e1) (Gd.brsL (us := us) (rs := rs) (by simpa using hl) e2 (Gd.pop (tv := us ++ tv) (τ := rs ++ τ) g))
  | [], _ :: _, _, _, _, hl, _, _ => by simp at hl
  | _ :: _, [], _, _, _, hl, _, _ => by simp at hl
theorem Gd.brsR {W : Wd} {H : Hp} {σ : L2.St} {δ : Sto} {us : List V} {rs : List RV} {ds : List D} {tv : List V} {τ : List RV} (g : Gd C W H σ δ (us.reverse ++ tv) (rs.reverse ++ τ)) (hl : us.length = rs.length) (e : cons δ rs = some ds) : BrsL C.K W.F H us ds := by
  have q := Gd.brsL (us := us.reverse) (rs := rs.reverse) (by simpa using hl) (cons_reverse e) g
  have q2 := q.reverse
  rwa [List.reverse_reverse, List.reverse_reverse] at q2
/-- how a built-in's rule takes data -/
def CallD (C : Cn) (r : List V → Hp → VK → Prop) (f : FN) : Prop := ∀ {W : Wd} {H : Hp} {σ : L2.St} {δ : Sto} {vs : List V} {ds : List D} {tv : List V} {τ : List RV} {QQ : RV → Prop} {Q : VK}, Gd C W H σ δ tv τ → BrsL C.K W.F H vs ds → f ds QQ →
  (∀ u H' W' r', Gd C W' H' σ δ (u :: tv) (r' :: τ) → QQ r' → Q u H') → r vs H Q
theorem lift_blt {r : List V → Hp → VK → Prop} {f : FN} {l : ZL} {P : RV → Prop} {n : Nat} (h : CallD C r f) : ∀ σ H Q, lift C (zBlt f l) σ H Q → tCB r (liftA C P n l) σ H Q := fun σ H Q ⟨W, δ, tv, τ, QQ, g, h1, k⟩ => by
  refine ⟨W, δ, tv, τ, _, g, h1, fun us H1 W1 rs δ1 g1 hl hn hP h2 => ?_⟩
  cases e : cons δ1 rs with
  | none => simp only [e] at h2
  | some ds =>
    simp only [e] at h2
    exact h (g1.popN (by simpa using hl)) (g1.brsR hl e) h2 fun u H' W' r' g' q => k u H' W' r' δ1 g' q
theorem pz_bltB {id : String} {r : List V → Hp → VK → Prop} {f : FN} {ev : Expr → ZT} (hc : CallR X (.builtin id) r) (h : CallD C r f) (hg : Gl X x) (hm : X.mg x = none) (hv : bootBuiltins x = some (.builtin id)) (hn : x ≠ "__name__") (hdb : (x == ("__debug__" : Str)) = false)
    (ha : ∀ y ∈ e :: es, PE X y (lift C (ev y))) (hst : (e :: es).all noStar = true) : PE X (.Call (.Name x p) (e :: es) [] pos) (lift C (zBlt f (zArgs zKeep ((e :: es).map ev)))) := by
  have hs := hst
  rw [List.all_cons, Bool.and_eq_true] at hs
  exact PE.weak (pe_callB hc hg hm hv (pa_args hand_keep ha hst) hn hdb (star_cons hs.1) (star_any hs.2)) (lift_blt h)
theorem pz_bltT {T : String} {r : List V → Hp → VK → Prop} {f : FN} {ev : Expr → ZT} (hc : CallR X (.type T) r) (h : CallD C r f) (hg : Gl X x) (hm : X.mg x = none) (hv : bootBuiltins x = some (.type T)) (hn : x ≠ "__name__") (hdb : (x == ("__debug__" : Str)) = false)
    (ha : ∀ y ∈ e :: es, PE X y (lift C (ev y))) (hst : (e :: es).all noStar = true) : PE X (.Call (.Name x p) (e :: es) [] pos) (lift C (zBlt f (zArgs zKeep ((e :: es).map ev)))) := by
  have hs := hst
  rw [List.all_cons, Bool.and_eq_true] at hs
  exact PE.weak (pe_callTy hc hg hm hv (pa_args hand_keep ha hst) hn hdb (star_cons hs.1) (star_any hs.2)) (lift_blt h)

/-! ### the functions -/
def fLen0 : FN
  | [.str x], Q => x.length ≤ lineN ∧ Q (.val (.int x.length))
  | [.list xs], Q => Q (.val (.int xs.length))
  | [.tuple xs], Q => Q (.val (.int xs.length))
  | _, _ => False
/-- .. or a dict -/
def fLen : FN
  | [.dict kvs], Q => Q (.val (.int kvs.length))
  | ds, Q => fLen0 ds Q
theorem cd_len (hK : C.K.K = X.K) : CallD C (fun xs H Q => ∃ x n, xs = [x] ∧ LenV X.K x H n ∧ Q (.int n) H) fLen0 := by
  intro W H σ δ vs ds tv τ QQ Q g hb hf k
  have fin : ∀ n : Nat, QQ (.val (.int n)) → Q (.int n) H := fun n q => k _ H W _ (g.push (r := .val (.int n)) (.int _)) q
  cases hb with
  | nil => exact hf.elim
  | cons h1 h2 =>
    rename_i v vs d ds
    cases h2 with
    | cons _ _ => cases d <;> exact hf.elim
    | nil =>
      cases d <;> try exact hf.elim
      · cases brs_str h1
        exact ⟨_, _, rfl, ⟨by rw [line_eq]; exact hf.1, rfl⟩, fin _ hf.2⟩
      · obtain ⟨a, xs, rfl, q1, q2⟩ := h1
        exact ⟨_, _, rfl, .inl ⟨xs, .inl (.inl q1), q2.length.symm⟩, fin _ hf⟩
      · obtain ⟨a, xs, rfl, q1, q2⟩ := Rep.tup_of h1
        rw [hK] at q1
        exact ⟨_, _, rfl, .inr ⟨xs, q1.sqT, q2.length.symm⟩, fin _ hf⟩
def fInt1 : FN
  | [.int i], Q => Q (.val (.int i))
  | [.bool b], Q => Q (.val (.int (if b then 1 else 0)))
  | _, _ => False
theorem cd_int : CallD C (fun xs H Q => (∃ i, xs = [.int i] ∧ Q (.int i) H) ∨ ∃ k, xs = [.bl k] ∧ Q (.int (if k then 1 else 0)) H) fInt1 := by
  intro W H σ δ vs ds tv τ QQ Q g hb hf k
  cases hb with
  | nil => exact hf.elim
  | cons h1 h2 =>
    rename_i v vs d ds
    cases h2 with
    | cons _ _ => cases d <;> exact hf.elim
    | nil =>
      cases d <;> try exact hf.elim
      · cases brs_bool h1
        exact .inr ⟨_, rfl, k _ H W _ (g.push (r := .val (.int _)) (.int _)) hf⟩
      · cases brs_int h1
        exact .inl ⟨_, rfl, k _ H W _ (g.push (r := .val (.int _)) (.int _)) hf⟩
def fAbs : FN
  | [.int i], Q => Q (.val (.int (if i < 0 then -i else i)))
  | _, _ => False
theorem cd_abs : CallD C (fun xs H Q => ∃ i, xs = [.int i] ∧ Q (.int (if i < 0 then -i else i)) H) fAbs := by
  intro W H σ δ vs ds tv τ QQ Q g hb hf k
  cases hb with
  | nil => exact hf.elim
  | cons h1 h2 =>
    rename_i v vs d ds
    cases h2 with
    | cons _ _ => cases d <;> exact hf.elim
    | nil =>
      cases d <;> try exact hf.elim
      cases brs_int h1
      exact ⟨_, rfl, k _ H W _ (g.push (r := .val (.int _)) (.int _)) hf⟩
def fTuple : FN
  | [.list xs], Q => Q (.val (.tuple xs))
  | [.tuple xs], Q => Q (.val (.tuple xs))
  | _, _ => False
theorem cd_tuple (hK : C.K.K = X.K) : CallD C (rTupOf X.K) fTuple := by
  intro W H σ δ vs ds tv τ QQ Q g hb hf k
  cases hb with
  | nil => exact hf.elim
  | cons h1 h2 =>
    rename_i v vs d ds
    cases h2 with
    | cons _ _ => cases d <;> exact hf.elim
    | nil =>
      cases d <;> try exact hf.elim
      · obtain ⟨a, xs, rfl, q1, q2⟩ := h1
        exact ⟨_, _, rfl, .inl ⟨.inl (.inl q1), fun l o hl ho => k _ _ W _ (g.newTup hl ho q2) hf⟩⟩
      · obtain ⟨a, xs, rfl, q1, q2⟩ := Rep.tup_of h1
        have q1' := q1
        rw [hK] at q1
        exact ⟨_, _, rfl, .inr ⟨q1.sqT, k _ H W (.val (.tuple _)) (g.push (r := .val (.tuple _)) (.tup q1' q2)) hf⟩⟩
def fList : FN
  | [.list xs], Q => Q (.own (.list xs))
  | [.tuple xs], Q => Q (.own (.list xs))
  | _, _ => False
theorem cd_list (hK : C.K.K = X.K) : CallD C (fun xs H Q => ∃ p ys, xs = [.ref p] ∧ (SqL X.K H p ys ∨ SqT X.K H p ys) ∧ ∀ l, H l = none → Q (.ref l) (upd H l (.lst ys))) fList := by
  intro W H σ δ vs ds tv τ QQ Q g hb hf k
  cases hb with
  | nil => exact hf.elim
  | cons h1 h2 =>
    rename_i v vs d ds
    cases h2 with
    | cons _ _ => cases d <;> exact hf.elim
    | nil =>
      cases d <;> try exact hf.elim
      · obtain ⟨a, xs, rfl, q1, q2⟩ := h1
        exact ⟨_, _, rfl, .inl (.inl (.inl q1)), fun l hl => k _ _ _ _ (g.newLst hl q2) hf⟩
      · obtain ⟨a, xs, rfl, q1, q2⟩ := Rep.tup_of h1
        rw [hK] at q1
        exact ⟨_, _, rfl, .inr q1.sqT, fun l hl => k _ _ _ _ (g.newLst hl q2) hf⟩
/-- a list of ints -/
def fInts (f : List Int → (RV → Prop) → Prop) : FN
  | [.list ds], Q => ∃ ns : List Int, ds = ns.map PyData.int ∧ f ns Q
  | _, _ => False
def fSum : FN := fInts fun ns Q => Q (.val (.int ns.sum))
theorem cd_sum (hK : C.K.K = X.K) : CallD C (rSum X.K) fSum := by
  intro W H σ δ vs ds tv τ QQ Q g hb hf k
  cases hb with
  | nil => exact hf.elim
  | cons h1 h2 =>
    rename_i v vs d ds
    cases h2 with
    | cons _ _ => cases d <;> exact hf.elim
    | nil =>
      cases d <;> try exact hf.elim
      obtain ⟨a, xs, rfl, q1, q2⟩ := h1
      obtain ⟨ns, rfl, q3⟩ := hf
      exact ⟨a, ns, rfl, .inl (.inl (by rw [← q2.ints_of]; exact q1)), k _ H W _ (g.push (r := .val (.int _)) (.int _)) q3⟩
/-- the greatest, the least of a list of ints -/
def fMaxL : FN := fInts fun ns Q => ns ≠ [] ∧ ∀ m ∈ ns, (∀ y ∈ ns, y ≤ m) → Q (.val (.int m))
def fMinL : FN := fInts fun ns Q => ns ≠ [] ∧ ∀ m ∈ ns, (∀ y ∈ ns, m ≤ y) → Q (.val (.int m))
theorem cd_max (hK : C.K.K = X.K) : CallD C (rMax X.K) fMaxL := by
  intro W H σ δ vs ds tv τ QQ Q g hb hf k
  cases hb with
  | nil => exact hf.elim
  | cons h1 h2 =>
    rename_i v vs d ds
    cases h2 with
    | cons _ _ => cases d <;> exact hf.elim
    | nil =>
      cases d <;> try exact hf.elim
      obtain ⟨a, xs, rfl, q1, q2⟩ := h1
      obtain ⟨ns, rfl, q3, q4⟩ := hf
      exact ⟨a, ns, rfl, .inl (.inl (by rw [← q2.ints_of]; exact q1)), List.length_pos_iff.mpr q3, fun m hm hle => k _ H W _ (g.push (r := .val (.int _)) (.int _)) (q4 m hm hle)⟩
theorem cd_min (hK : C.K.K = X.K) : CallD C (rMin X.K) fMinL := by
  intro W H σ δ vs ds tv τ QQ Q g hb hf k
  cases hb with
  | nil => exact hf.elim
  | cons h1 h2 =>
    rename_i v vs d ds
    cases h2 with
    | cons _ _ => cases d <;> exact hf.elim
    | nil =>
      cases d <;> try exact hf.elim
      obtain ⟨a, xs, rfl, q1, q2⟩ := h1
      obtain ⟨ns, rfl, q3, q4⟩ := hf
      exact ⟨a, ns, rfl, .inl (.inl (by rw [← q2.ints_of]; exact q1)), List.length_pos_iff.mpr q3, fun m hm hle => k _ H W _ (g.push (r := .val (.int _)) (.int _)) (q4 m hm hle)⟩
def fMax2 : FN
  | [.int i, .int j], Q => Q (.val (.int (if j > i then j else i)))
  | _, _ => False
def fMin2 : FN
  | [.int i, .int j], Q => Q (.val (.int (if j < i then j else i)))
  | _, _ => False
theorem cd_max2 : CallD C (fun xs H Q => ∃ i j, xs = [.int i, .int j] ∧ Q (.int (if j > i then j else i)) H) fMax2 := by
  intro W H σ δ vs ds tv τ QQ Q g hb hf k
  unfold fMax2 at hf
  split at hf
  · cases hb with
    | cons h1 h2 => cases h2 with
      | cons h2 h3 => cases h3; exact ⟨_, _, by rw [brs_int h1, brs_int h2], k _ H W _ (g.push (r := .val (.int _)) (.int _)) hf⟩
  · exact hf.elim
theorem cd_min2 : CallD C (fun xs H Q => ∃ i j, xs = [.int i, .int j] ∧ Q (.int (if j < i then j else i)) H) fMin2 := by
  intro W H σ δ vs ds tv τ QQ Q g hb hf k
  unfold fMin2 at hf
  split at hf
  · cases hb with
    | cons h1 h2 => cases h2 with
      | cons h2 h3 => cases h3; exact ⟨_, _, by rw [brs_int h1, brs_int h2], k _ H W _ (g.push (r := .val (.int _)) (.int _)) hf⟩
  · exact hf.elim
def fBools (f : List Bool → (RV → Prop) → Prop) : FN
  | [.list ds], Q => ∃ ns : List Bool, ds = ns.map PyData.bool ∧ f ns Q
  | _, _ => False
def fAll : FN := fBools fun bs Q => Q (.val (.bool (bs.all id)))
def fAny : FN := fBools fun bs Q => Q (.val (.bool (bs.any id)))
theorem cd_all : CallD C (rAll X.K) fAll := by
  intro W H σ δ vs ds tv τ QQ Q g hb hf k
  cases hb with
  | nil => exact hf.elim
  | cons h1 h2 =>
    rename_i v vs d ds
    cases h2 with
    | cons _ _ => cases d <;> exact hf.elim
    | nil =>
      cases d <;> try exact hf.elim
      obtain ⟨a, xs, rfl, q1, q2⟩ := h1
      obtain ⟨ns, rfl, q3⟩ := hf
      exact ⟨a, ns, rfl, .inl (.inl (by rw [← q2.bools_of]; exact q1)), k _ H W _ (g.push (r := .val (.bool _)) (.bl _)) q3⟩
theorem cd_any : CallD C (rAny X.K) fAny := by
  intro W H σ δ vs ds tv τ QQ Q g hb hf k
  cases hb with
  | nil => exact hf.elim
  | cons h1 h2 =>
    rename_i v vs d ds
    cases h2 with
    | cons _ _ => cases d <;> exact hf.elim
    | nil =>
      cases d <;> try exact hf.elim
      obtain ⟨a, xs, rfl, q1, q2⟩ := h1
      obtain ⟨ns, rfl, q3⟩ := hf
      exact ⟨a, ns, rfl, .inl (.inl (by rw [← q2.bools_of]; exact q1)), k _ H W _ (g.push (r := .val (.bool _)) (.bl _)) q3⟩
end
end Z
end
section
set_option Elab.async false
set_option linter.all false
set_option maxRecDepth 100000
/-! Statements, targets. -/
namespace Z
open PySem PySem.Spec L2
/-- settled to data -/
def zVal : Hand := fun r δ Q => zSettle r δ fun d δ' => Q (.val d) δ'
def RV.isVal : RV → Prop
  | .val _ => True
  | _ => False
section
variable {X : Cx} {C : Cn} {e a b c : Expr} {es : List Expr} {pos p : Pos} {t ta tb tc : ZT} {x : Str} {st : Stmt} {rest : List Stmt} {s u : ZS}
theorem hand_val : HandOk C zVal RV.isVal := ⟨fun g h => by
  obtain ⟨W', d, δ', g', q⟩ := g.settle h
  exact ⟨W', _, δ', g', trivial, q⟩⟩
def zNext : ZS := fun E δ => E.nx δ
def zSeq (s u : ZS) : ZS := fun E δ => s { E with nx := u E } δ
theorem zs_nil : PSs X [] (liftS C zNext) := PSs.weak pss_nil fun D σ H ⟨W, δ, tv, τ, E, g, hc, h, k⟩ => k.nx σ H W δ g h
theorem EndsOk.seq {D : Ends} {E : Zend} {tv : List V} {τ : List RV} (k : EndsOk C D E tv τ) (hc : Calm τ) : EndsOk C { D with nx := liftS C u D } { E with nx := u E } tv τ :=
  ⟨fun σ H W δ g h => ⟨W, δ, tv, τ, E, g, hc, h, k⟩, k.bk, k.ct, k.rt⟩
theorem zs_cons (h1 : PS X st (liftS C s)) (h2 : PSs X rest (liftS C u)) : PSs X (st :: rest) (liftS C (zSeq s u)) :=
  PSs.weak (pss_cons h1 h2) fun D σ H ⟨W, δ, tv, τ, E, g, hc, h, k⟩ => ⟨W, δ, tv, τ, _, g, hc, h, k.seq hc⟩
theorem zs_pass : PS X (.Pass pos) (liftS C zNext) := PS.weak ps_pass fun D σ H ⟨W, δ, tv, τ, E, g, hc, h, k⟩ => k.nx σ H W δ g h
def zBrk : ZS := fun E δ => E.bk δ
def zCnt : ZS := fun E δ => E.ct δ
theorem zs_break : PS X (.Break pos) (liftS C zBrk) := PS.weak ps_break fun D σ H ⟨W, δ, tv, τ, E, g, hc, h, k⟩ => k.bk σ H W δ g h
theorem zs_continue : PS X (.Continue pos) (liftS C zCnt) := PS.weak ps_continue fun D σ H ⟨W, δ, tv, τ, E, g, hc, h, k⟩ => k.ct σ H W δ g h
def zDrop (t : ZT) : ZS := fun E δ => t δ fun _ δ1 => E.nx δ1
theorem zs_expr (he : PE X e (lift C t)) (hs : swapsWith e none pos.line X.env = pure false) : PS X (.Expr e pos) (liftS C (zDrop t)) :=
  PS.weak (ps_expr he hs) fun D σ H ⟨W, δ, tv, τ, E, g, hc, h, k⟩ => ⟨W, δ, tv, τ, _, g, h, fun v H1 W1 r δ1 g1 h1 => k.nx σ H1 W1 δ1 g1.pop h1⟩
def zRet (t : ZT) : ZS := fun E δ => t δ E.rt
theorem zs_ret (he : PE X e (lift C t)) : PS X (.Return (some e) pos) (liftS C (zRet t)) :=
  PS.weak (ps_ret he) fun D σ H ⟨W, δ, tv, τ, E, g, hc, h, k⟩ => ⟨W, δ, tv, τ, _, g, h, fun v H1 W1 r δ1 g1 h1 => k.rt v σ H1 W1 r δ1 tv τ g1 h1⟩
def zRetN : ZS := fun E δ => E.rt (.val .none) δ
theorem zs_retN : PS X (.Return none pos) (liftS C zRetN) :=
  PS.weak ps_retN fun D σ H ⟨W, δ, tv, τ, E, g, hc, h, k⟩ => k.rt .non σ H W _ δ tv τ (g.push (r := .val .none) .non) h
def zIfS (c : ZB) (s u : ZS) : ZS := fun E δ => c δ fun b δ1 => if b = true then s E δ1 else u E δ1
theorem zs_if {z : ZB} {p q : List Stmt} (hc : PT X c (liftB C z)) (ha : PSs X p (liftS C s)) (hb : PSs X q (liftS C u)) : PS X (.If c p q pos) (liftS C (zIfS z s u)) :=
  PS.weak (ps_if hc ha hb) fun D σ H ⟨W, δ, tv, τ, E, g, hc, h, k⟩ => ⟨W, δ, tv, τ, _, g, h, fun x H1 W1 δ1 g1 h1 => by
    cases x with
    | true => exact ⟨W1, δ1, tv, τ, E, g1, hc, h1, k⟩
    | false => exact ⟨W1, δ1, tv, τ, E, g1, hc, h1, k⟩⟩

/-! ### name = value -/
def zPut (i : Nat) (r : RV) (δ : Sto) (Q : Sto → Prop) : Prop := i < δ.length ∧ RV.isLck δ[i]? = false ∧ Q (δ.set i (some r))
def zSet (i : Nat) (t : ZT) : ZS := fun E δ => t δ fun r δ1 => zUnal r δ1 fun r' δ2 => zPut i r' δ2 E.nx
theorem lift_set {i : Nat} : ∀ D σ H, liftS C (zSet i t) D σ H → tAsg (lift C t) (gName i) D σ H := fun D σ H ⟨W, δ, tv, τ, E, g, hc, h, k⟩ => by
  refine ⟨W, δ, tv, τ, _, g, h, fun v H1 W1 r δ1 g1 h1 => ?_⟩
  obtain ⟨W2, r', δ2, g2, hr, hi, hk, q⟩ := g1.unal h1
  obtain ⟨W3, g3⟩ := g2.store hr (fun j m => fun z => hc.sfe [i] j m (by rw [z]; exact List.mem_cons_self)) hi hk
  exact k.nx _ H1 W3 _ g3 q
theorem zs_set {i : Nat} {pos' : Pos} (hN : X.N.Nodup) (hi : X.N[i]? = some x) (hx : Loc X.env.scope x) (he : PE X e (lift C t)) (hs : swapsWith e (some (.Name x pos')) pos.line X.env = pure false) (hf : X.fn x = true ∨ X.env.scope.names.lookup x = some .local) :
    PS X (.Assign [.Name x pos'] e pos) (liftS C (zSet i t)) := PS.weak (ps_set hN hi hx he hs hf) lift_set

/-! ### several names at once -/
def zStores : List Nat → List RV → Sto → (Sto → Prop) → Prop
  | [], [], δ, Q => Q δ
  | i :: is, r :: rs, δ, Q => zPut i r δ fun δ1 => zStores is rs δ1 Q
  | _, _, _, _ => False
def zPar (is : List Nat) (l : ZL) : ZS := fun E δ => l δ fun rs δ1 => zStores is rs δ1 E.nx
def setAll (σ : L2.St) : List Nat → List V → L2.St
  | i :: is, v :: vs => setAll (σ.set i (some v)) is vs
  | _, _ => σ
theorem Gd.stores : ∀ {is : List Nat} {us : List V} {rs : List RV} {W : Wd} {H : Hp} {σ : L2.St} {δ : Sto} {tv : List V} {τ : List RV} {Q : Sto → Prop}, us.length = rs.length → (∀ r ∈ rs, r.good = true) → Gd C W H σ δ (us.reverse ++ tv) (rs.reverse ++ τ) → Calm τ → zStores is rs δ Q →
    us.length = is.length ∧ ∃ W' δ', Gd C W' H (setAll σ is us) δ' tv τ ∧ Q δ'
  | [], [], [], W, H, σ, δ, tv, τ, Q, _, _, g, _, h => ⟨rfl, W, δ, g, h⟩
  | i :: is, u :: us, r :: rs, W, H, σ, δ, tv, τ, Q, hl, hr, g, hc, ⟨hi, hk, h⟩ => by
    rw [List.reverse_cons, List.reverse_cons, List.append_assoc, List.append_assoc] at g
    have hl' : us.length = rs.length := by simpa using hl
    have no : ∀ j, RV.slot j ∈ rs.reverse → j ≠ i := fun j m => by
      have := hr _ (List.mem_cons_of_mem _ (List.mem_reverse.mp m))
      cases this
    obtain ⟨W1, g1⟩ := g.storeAt (by rw [List.length_reverse, List.length_reverse]; exact hl') (hr r List.mem_cons_self) no (fun j m => fun z => hc.sfe [i] j m (by rw [z]; exact List.mem_cons_self)) hi hk
    obtain ⟨e, W2, δ2, g2, q⟩ := Gd.stores (tv := u :: tv) (τ := .junk :: τ) hl' (fun x m => hr x (List.mem_cons_of_mem _ m)) g1 (fun x m => by
      rcases List.mem_cons.mp m with rfl | m
      · rfl
      · exact hc x m) h
    exact ⟨by simp [e], W2, δ2, g2.pop, q⟩
  | [], _ :: _, [], _, _, _, _, _, _, _, hl, _, _, _, _ => by simp at hl
  | [], [], _ :: _, _, _, _, _, _, _, _, hl, _, _, _, _ => by simp at hl
  | _ :: _, [], _ :: _, _, _, _, _, _, _, _, hl, _, _, _, _ => by simp at hl
  | _ :: _, _ :: _, [], _, _, _, _, _, _, _, hl, _, _, _, _ => by simp at hl
  | [], _ :: _, _ :: _, _, _, _, _, _, _, _, _, _, _, _, h => h.elim
  | _ :: _, [], [], _, _, _, _, _, _, _, _, _, _, _, h => h.elim
abbrev zGood : Hand := fun r δ Q => zUnal r δ Q
def IsGood (r : RV) : Prop := r.good = true
theorem zs_par2 {i j : Nat} {x y : Str} {px py pt : Pos} {kt k2 pt2} {l : ZL} {n : Nat} (hc : X.calm = true) (hN : X.N.Nodup) (hi : X.N[i]? = some x) (hj : X.N[j]? = some y) (hij : i ≠ j)
    (hx : X.env.scope.names.lookup x = some .local) (hy : X.env.scope.names.lookup y = some .local) (ha : PA X [a, b] (liftA C IsGood n l))
    (hw : swappedStores [.Tuple [.Name x px, .Name y py] kt pt] (.Tuple [a, b] k2 pt2) X.env = pure (some [x, y])) (hs : swapsWithSole [.Tuple [.Name x px, .Name y py] kt pt] (.Tuple [a, b] k2 pt2) pos.line X.env = pure false) :
    PS X (.Assign [.Tuple [.Name x px, .Name y py] kt pt] (.Tuple [a, b] k2 pt2) pos) (liftS C (zPar [i, j] l)) :=
  PS.weak (ps_par hc hN hi hj hij hx hy ha hw hs) fun D σ H ⟨W, δ, tv, τ, E, g, hc, h, k⟩ => ⟨W, δ, tv, τ, _, g, h, fun us H1 W1 rs δ1 g1 hl hn hP h1 => by
    obtain ⟨e, W2, δ2, g2, q⟩ := Gd.stores (C := C) hl hP g1 hc h1
    match us, e with
    | [v, w], _ => exact ⟨v, w, rfl, k.nx _ H1 W2 δ2 g2 q⟩⟩
theorem zs_par3 {i j m : Nat} {x y z : Str} {px py pz pt : Pos} {kt k2 pt2} {l : ZL} {n : Nat} (hc : X.calm = true) (hN : X.N.Nodup) (hi : X.N[i]? = some x) (hj : X.N[j]? = some y) (hl : X.N[m]? = some z) (hij : i ≠ j) (hil : i ≠ m) (hjl : j ≠ m)
    (hx : X.env.scope.names.lookup x = some .local) (hy : X.env.scope.names.lookup y = some .local) (hz : X.env.scope.names.lookup z = some .local) (ha : PA X [a, b, c] (liftA C IsGood n l))
    (hw : swappedStores [.Tuple [.Name x px, .Name y py, .Name z pz] kt pt] (.Tuple [a, b, c] k2 pt2) X.env = pure (some [x, y, z])) (hs : swapsWithSole [.Tuple [.Name x px, .Name y py, .Name z pz] kt pt] (.Tuple [a, b, c] k2 pt2) pos.line X.env = pure false) :
    PS X (.Assign [.Tuple [.Name x px, .Name y py, .Name z pz] kt pt] (.Tuple [a, b, c] k2 pt2) pos) (liftS C (zPar [i, j, m] l)) :=
  PS.weak (ps_par3 hc hN hi hj hl hij hil hjl hx hy hz ha hw hs) fun D σ H ⟨W, δ, tv, τ, E, g, hc, h, k⟩ => ⟨W, δ, tv, τ, _, g, h, fun us H1 W1 rs δ1 g1 hl hn hP h1 => by
    obtain ⟨e, W2, δ2, g2, q⟩ := Gd.stores (C := C) hl hP g1 hc h1
    match us, e with
    | [v, w, u], _ => exact ⟨v, w, u, rfl, k.nx _ H1 W2 δ2 g2 q⟩⟩
/-- the names of a tuple of targets -/
def namesOf : List Expr → Option (List Str)
  | [] => some []
  | .Name x _ :: es => (namesOf es).map (x :: ·)
  | _ :: _ => none
def gNames (is : List Nat) : TGs := fun vs σ H Q => vs.length = is.length ∧ Q (setAll σ is vs) H
inductive AllNm (X : Cx) : List Expr → List Nat → Prop
  | nil : AllNm X [] []
  | cons {i : Nat} {x : Str} {p : Pos} {es : List Expr} {is : List Nat} : X.N[i]? = some x → Loc X.env.scope x → (X.fn x = true ∨ X.env.scope.names.lookup x = some .local) → AllNm X es is → AllNm X (.Name x p :: es) (i :: is)
theorem pgs_names (hN : X.N.Nodup) : ∀ {es : List Expr} {is : List Nat}, AllNm X es is → PGs X es (gNames is)
  | _, _, .nil => ⟨fun pins s σ H vs us Q I r ⟨e, q⟩ => pgs_nil.run pins s σ H vs us Q I r (by
      match vs, e with
      | [], _ => exact ⟨rfl, q⟩)⟩
  | _, _, .cons hi hx hf r => ⟨fun pins s σ H vs us Q I rv ⟨e, q⟩ => (pgs_cons (pg_name hN hi hx hf) (pgs_names hN r) rfl).run pins s σ H vs us Q I rv (by
      match vs, e, q with
      | v :: vs, e, q => exact ⟨v, vs, rfl, by simpa using e, q⟩)⟩
theorem allNm_len {env : Env} : ∀ {es : List Expr} {is : List Nat}, AllNm X es is → (assignEach es env).length = is.length ∧ (assignEach es env).findIdx? (·.1) = none
  | _, _, .nil => ⟨rfl, rfl⟩
  | _, _, .cons (x := x) (p := p) (es := es) _ _ _ r => by
    obtain ⟨h1, h2⟩ := allNm_len (env := env) r
    have e : assignEach (.Name x p :: es) env = (false, assign (.Name x p) env) :: assignEach es env := rfl
    rw [e]
    exact ⟨by simp [h1], by rw [List.findIdx?_cons, h2]; rfl⟩
theorem zs_parN {ts : List Expr} {is : List Nat} {kt k2 : Nat} {pt pt2 : Pos} {l : ZL} {n : Nat} (hc : X.calm = true) (hN : X.N.Nodup) (hn : AllNm X ts is) (hz : n ≤ lineN) (ha : PA X es (liftA C IsGood n l))
    (hw : swappedStores [.Tuple ts kt pt] (.Tuple es k2 pt2) X.env = pure none) (hs : swapsWithSole [.Tuple ts kt pt] (.Tuple es k2 pt2) pos.line X.env = pure false) :
    PS X (.Assign [.Tuple ts kt pt] (.Tuple es k2 pt2) pos) (liftS C (zPar is l)) := by
  obtain ⟨q1, q2⟩ := allNm_len (env := X.env) hn
  refine PS.weak (ps_asg (pe_tup ha) (pg_tup hc (pgs_names hN hn) q1 q2) hs hw rfl) fun D σ H ⟨W, δ, tv, τ, E, g, hc, h, k⟩ => ⟨W, δ, tv, τ, _, g, h, fun us H1 W1 rs δ1 g1 hl hn hP h1 => ⟨by rw [line_eq, hn]; exact hz, fun p hp => ?_⟩⟩
  obtain ⟨e, W2, δ2, g2, q⟩ := Gd.stores (C := C) hl hP (g1.alloc (o := .tup us) hp) hc h1
  exact ⟨p, us, rfl, .inl (.inl upd_same), e, e, k.nx _ _ W2 δ2 g2 q⟩

/-! ### targets of any form, for data -/
abbrev ZG := D → Sto → (Sto → Prop) → Prop
def liftG (C : Cn) (vs : List Nat) (z : ZG) : TG := fun v σ H Q => ∃ W δ tv τ d QQ, Gd C W H σ δ (v :: tv) (.val d :: τ) ∧ Sfe vs τ ∧ z d δ QQ ∧ ∀ σ' H' W' δ', Gd C W' H' σ' δ' tv τ → wipe σ' vs = wipe σ vs → QQ δ' → Q σ' H'
def liftGs (C : Cn) (vs : List Nat) (z : List D → Sto → (Sto → Prop) → Prop) : TGs := fun us σ H Q => ∃ W δ tv τ ds QQ, Gd C W H σ δ (us ++ tv) (ds.map RV.val ++ τ) ∧ us.length = ds.length ∧ Sfe vs τ ∧ z ds δ QQ ∧ ∀ σ' H' W' δ', Gd C W' H' σ' δ' tv τ → wipe σ' vs = wipe σ vs → QQ δ' → Q σ' H'
def zTn (i : Nat) : ZG := fun d δ Q => zPut i (.val d) δ Q
def zTs : List ZG → List D → Sto → (Sto → Prop) → Prop
  | [], [], δ, Q => Q δ
  | t :: ts, d :: ds, δ, Q => t d δ fun δ1 => zTs ts ds δ1 Q
  | _, _, _, _ => False
def zTt (ts : List ZG) : ZG
  | .tuple ds, δ, Q => ds.length = ts.length ∧ zTs ts ds δ Q
  | .list ds, δ, Q => ds.length = ts.length ∧ zTs ts ds δ Q
  | _, _, _ => False
theorem wipe_set {σ : L2.St} {i : Nat} {x : Option V} : ∀ {vs : List Nat}, i ∈ vs → wipe (σ.set i x) vs = wipe σ vs
  | v :: vs, m => by
    unfold wipe
    by_cases hm : i ∈ vs
    · rw [wipe_set hm]
    · have e : i = v := (List.mem_cons.mp m).resolve_right hm
      subst e
      apply List.ext_getElem?
      intro k
      by_cases hk : i = k
      · subst hk
        rw [List.getElem?_set_self', List.getElem?_set_self', wipe_outV hm, wipe_outV hm, List.getElem?_set_self']
        cases σ[i]? <;> rfl
      · rw [List.getElem?_set_ne hk, List.getElem?_set_ne hk]
        by_cases hv : k ∈ vs
        · have h1 : ∀ {σ : L2.St} {vs : List Nat}, k ∈ vs → (wipe σ vs)[k]? = (σ[k]?).map fun _ => none := by
            intro σ vs
            induction vs with
            | nil => intro h; cases h
            | cons w ws ih =>
              intro h
              unfold wipe
              by_cases hw : w = k
              · subst hw
                rw [List.getElem?_set_self']
                have : (wipe σ ws).length = σ.length := wipe_length σ ws
                by_cases hlt : w < σ.length
                · rw [List.getElem?_eq_getElem hlt, List.getElem?_eq_getElem (by omega)]; rfl
                · rw [List.getElem?_eq_none (by omega), List.getElem?_eq_none (by omega)]; rfl
              · rw [List.getElem?_set_ne hw, ih ((List.mem_cons.mp h).resolve_left fun z => hw z.symm)]
          rw [h1 hv, h1 hv, List.getElem?_set_ne hk]
        · rw [wipe_outV hv, wipe_outV hv, List.getElem?_set_ne hk]
theorem zg_name {i : Nat} {vs : List Nat} (hN : X.N.Nodup) (hi : X.N[i]? = some x) (hx : Loc X.env.scope x) (hf : X.fn x = true ∨ X.env.scope.names.lookup x = some .local) (hv : i ∈ vs) : PG X (.Name x pos) (liftG C vs (zTn i)) :=
  ⟨fun pins s σ H v u Q I r ⟨W, δ, tv, τ, d, QQ, g, hs, ⟨h1, h2, h3⟩, k⟩ => (pg_name hN hi hx hf).run pins s σ H v u Q I r (by
    obtain ⟨W', g'⟩ := g.store rfl (fun j m z => hs j m (by rw [z]; exact hv)) h1 h2
    exact k _ H W' _ g' (wipe_set hv) h3)⟩
theorem zgs_nil {vs : List Nat} : PGs X [] (liftGs C vs (zTs [])) :=
  ⟨fun pins s σ H us ws Q I r ⟨W, δ, tv, τ, ds, QQ, g, hl, hs, h, k⟩ => pgs_nil.run pins s σ H us ws Q I r (by
    match ds, h with
    | [], h =>
      match us, hl with
      | [], _ => exact ⟨rfl, k σ H W δ g rfl h⟩)⟩
theorem zgs_cons {vs : List Nat} {z : ZG} {zs : List ZG} (h1 : PG X e (liftG C vs z)) (h2 : PGs X es (liftGs C vs (zTs zs))) (hs : (assignEach (e :: es) X.env).map (·.2) = assign e X.env :: (assignEach es X.env).map (·.2)) : PGs X (e :: es) (liftGs C vs (zTs (z :: zs))) :=
  ⟨fun pins s σ H us ws Q I r ⟨W, δ, tv, τ, ds, QQ, g, hl, hs', h, k⟩ => (pgs_cons h1 h2 hs).run pins s σ H us ws Q I r (by
    match ds, h with
    | d :: ds, h =>
      match us, hl with
      | u :: us, hl =>
        refine ⟨u, us, rfl, W, δ, us ++ tv, ds.map RV.val ++ τ, d, _, g, fun j m => ?_, h, fun σ1 H1 W1 δ1 g1 hw h1 => ⟨W1, δ1, tv, τ, ds, _, g1, by simpa using hl, hs', h1, fun σ2 H2 W2 δ2 g2 hw2 h2 => k σ2 H2 W2 δ2 g2 (hw2.trans hw) h2⟩⟩
        rcases List.mem_append.mp m with m | m
        · obtain ⟨_, _, e⟩ := List.mem_map.mp m; cases e
        · exact hs' j m)⟩
/-- the items of a tuple or list on the pile -/
theorem Gd.items {W : Wd} {H : Hp} {σ : L2.St} {δ : Sto} {tv : List V} {τ : List RV} (g : Gd C W H σ δ tv τ) : ∀ {us : List V} {ds : List D}, RepL C.K W.F H us ds → Gd C W H σ δ (us ++ tv) (ds.map RV.val ++ τ)
  | _, _, .nil => g
  | _, _, .cons h r => (g.items r).push (r := .val _) h
theorem zg_tup {vs : List Nat} {ts : List Expr} {zs : List ZG} {k : Nat} (hK : C.K.K = X.K) (hc : X.calm = true) (h : PGs X ts (liftGs C vs (zTs zs))) (hn : (assignEach ts X.env).length = zs.length) (hst : (assignEach ts X.env).findIdx? (·.1) = none) : PG X (.Tuple ts k pos) (liftG C vs (zTt zs)) :=
  ⟨fun pins s σ H v u Q I r ⟨W, δ, tv, τ, d, QQ, g, hs, hz, kk⟩ => by
    have go : ∀ {ds : List D} {us : List V}, RepL C.K W.F H us ds → ds.length = zs.length ∧ zTs zs ds δ QQ → us.length = zs.length ∧ liftGs C vs (zTs zs) us σ H Q := fun {ds us} q ⟨q1, q2⟩ =>
      ⟨by rw [q.length]; exact q1, W, δ, tv, τ, ds, QQ, g.pop.items q, q.length, hs, q2, kk⟩
    cases d with
    | tuple ds =>
      obtain ⟨a, xs, rfl, h1, h2⟩ := Rep.tup_of g.temps.1
      rw [hK] at h1
      obtain ⟨l1, l2⟩ := go h2 hz
      exact (pg_tup hc h hn hst).run pins s σ H _ u Q I r ⟨a, xs, rfl, h1.sqT, l1, l2⟩
    | list ds =>
      obtain ⟨a, xs, rfl, hF, h1, h2⟩ := Rep.lst_of g.temps.1
      obtain ⟨l1, l2⟩ := go h2 hz
      exact (pg_unl hc h hn hst).run pins s σ H _ u Q I r ⟨a, xs, rfl, .inl (.inl h1), l1, l2⟩
    | _ => exact hz.elim⟩
/-- target = value, the value settled -/
def zAsg (z : ZG) (t : ZT) : ZS := fun E δ => t δ fun r δ1 => zSettle r δ1 fun d δ2 => z d δ2 E.nx
theorem zs_asg {vs : List Nat} {tg : Expr} {z : ZG} (he : PE X e (lift C t)) (hg : PG X tg (liftG C vs z)) (hs : swapsWithSole [tg] e pos.line X.env = pure false) (hw : swappedStores [tg] e X.env = pure none) (h1 : (assignEach [tg] X.env).map (·.2) = [assign tg X.env]) :
    PS X (.Assign [tg] e pos) (liftS C (zAsg z t)) :=
  PS.weak (ps_asg he hg hs hw h1) fun D σ H ⟨W, δ, tv, τ, E, g, hc, h, k⟩ => ⟨W, δ, tv, τ, _, g, h, fun v H1 W1 r δ1 g1 q1 => by
    obtain ⟨W2, d, δ2, g2, q2⟩ := g1.settle q1
    exact ⟨W2, δ2, tv, τ, d, _, g2, hc.sfe vs, q2, fun σ' H' W' δ' g' _ q => k.nx σ' H' W' δ' g' q⟩⟩
end
end Z
end
section
set_option Elab.async false
set_option linter.all false
set_option maxRecDepth 100000
/-! What a loop walks. -/
namespace Z
open PySem PySem.Spec L2
/-- what is held while it is walked -/
def con0 : RV → Option D
  | .val d => some d
  | .own d => some d
  | .lal _ d => some d
  | _ => none
def RV.held : RV → Prop
  | .val _ => True
  | .own _ => True
  | .lal _ _ => True
  | _ => False
def zHold (r : RV) (δ : Sto) (Q : RV → (Sto → Sto) → Sto → Prop) : Prop :=
  match r with
  | .val d => Q (.val d) id δ
  | .own d => Q (.own d) id δ
  | .slot j => match δ[j]? with
    | some (some (.val d)) => Q (.val d) id δ
    | some (some (.own d)) => Q (.lal j d) (fun δ' => δ'.set j (some (.own d))) (δ.set j (some (.lck d)))
    | some (some (.lck d)) => Q (.lal j d) id δ
    | _ => False
  | _ => False
/-- the held ones are put away -/
def UnOk (C : Cn) (hv : List V) (hr : List RV) (tv : List V) (τ : List RV) (un : Sto → Sto) : Prop := ∀ {W : Wd} {H : Hp} {σ : L2.St} {δ : Sto}, Gd C W H σ δ (hv ++ tv) (hr ++ τ) → Gd C W H σ (un δ) tv τ
section
variable {C : Cn} {W : Wd} {H : Hp} {σ : L2.St} {δ : Sto} {tv : List V} {τ : List RV} {v : V} {r : RV} {d : D}
theorem Gd.hold {Q : RV → (Sto → Sto) → Sto → Prop} (g : Gd C W H σ δ (v :: tv) (r :: τ)) (h : zHold r δ Q) : ∃ r' un δ', Gd C W H σ δ' (v :: tv) (r' :: τ) ∧ r'.held ∧ UnOk C [v] [r'] tv τ un ∧ Q r' un δ' := by
  have pop : ∀ r', UnOk C [v] [r'] tv τ id := fun r' {W H σ δ} g => Gd.pop (v := v) (r := r') g
  cases r with
  | val d => exact ⟨_, _, _, g, trivial, pop _, h⟩
  | own d => exact ⟨_, _, _, g, trivial, pop _, h⟩
  | slot j =>
    have hv : σ[j]? = some (some v) := g.temps.1
    unfold zHold at h
    cases e : δ[j]? with
    | none => simp only [e] at h
    | some o =>
      cases o with
      | none => simp only [e] at h
      | some x =>
        cases x with
        | val d =>
          simp only [e] at h
          obtain ⟨_, u, hu, h3⟩ := g.slots j _ e
          rw [hv] at hu
          cases hu
          exact ⟨_, _, _, g.under (r' := .val d) h3, trivial, pop _, h⟩
        | own d =>
          simp only [e] at h
          refine ⟨_, _, _, g.lock e, trivial, fun {W' H' σ' δ'} g' => Gd.unlock (v := v) (d := d) g' fun d' m => ?_, h⟩
          have := g.lk j d' (List.mem_cons_of_mem _ m)
          rw [e] at this; cases this
        | lck d =>
          simp only [e] at h
          exact ⟨_, _, _, g.pop.pushLal hv e, trivial, pop _, h⟩
        | _ => simp only [e] at h
  | _ => exact h.elim
theorem Gd.held_brs (g : Gd C W H σ δ (v :: tv) (r :: τ)) (e : con0 r = some d) : Brs C.K W.F H v d := by
  refine g.brs ?_
  cases r <;> first | exact e | cases e

/-- an iterator walks these data -/
structure Wlk (C : Cn) (J : It) (hv : List V) (hr : List RV) (ds : List D) : Prop where
  go : ∀ {W : Wd} {H : Hp} {σ : L2.St} {δ : Sto} {av tv : List V} {ar τ : List RV} {i : Nat} {d : D}, av.length = ar.length → Gd C W H σ δ (av ++ (hv ++ tv)) (ar ++ (hr ++ τ)) → ds[i]? = some d →
    J.go i H ∧ ∀ x H', J.yld i H x H' → Gd C W H' σ δ (x :: (av ++ (hv ++ tv))) (.val d :: (ar ++ (hr ++ τ)))
  stop : ∀ {W : Wd} {H : Hp} {σ : L2.St} {δ : Sto} {av tv : List V} {ar τ : List RV}, av.length = ar.length → Gd C W H σ δ (av ++ (hv ++ tv)) (ar ++ (hr ++ τ)) → J.stop ds.length H
theorem wlk_list {a : Addr} {ds : List D} (e : con0 r = some (.list ds)) : Wlk C (Itl C.K.K a) [.ref a] [r] ds := by
  have rd : ∀ {W : Wd} {H : Hp} {σ : L2.St} {δ : Sto} {av tv : List V} {ar τ : List RV}, av.length = ar.length → Gd C W H σ δ (av ++ ([.ref a] ++ tv)) (ar ++ ([r] ++ τ)) → ∃ xs, H a = some (.lst xs) ∧ RepL C.K W.F H xs ds := fun {W H σ δ av tv ar τ} hl g => by
    obtain ⟨a', xs, e1, h1, h2⟩ := Gd.held_brs (v := .ref a) (r := r) (g.popN hl) e
    cases e1
    exact ⟨xs, h1, h2⟩
  have uq : ∀ {H : Hp} {xs ys : List V}, H a = some (.lst xs) → SqL C.K.K H a ys → ys = xs ∨ ∃ o : Obj, C.K.K.lookup a = some o := fun {H xs ys} h1 h2 => by
    rcases h2 with (h2 | ⟨o, h2⟩) | ⟨o, h2⟩
    · rw [h1] at h2; cases h2; exact .inl rfl
    · rw [h1] at h2; cases h2
    · obtain ⟨_, _, h2, _⟩ := h2; exact .inr ⟨_, h2⟩
  refine ⟨fun {W H σ δ av tv ar τ i d} hl g hd => ?_, fun {W H σ δ av tv ar τ} hl g => ?_⟩
  · obtain ⟨xs, h1, h2⟩ := rd hl g
    obtain ⟨x, hx, hr⟩ := h2.get hd
    refine ⟨⟨xs, x, .inl (.inl h1), hx⟩, fun y H' ⟨e1, hy⟩ => ?_⟩
    subst e1
    have q := hy xs (.inl (.inl h1))
    rw [hx] at q
    cases q
    exact g.push (r := .val d) hr
  · obtain ⟨xs, h1, h2⟩ := rd hl g
    exact ⟨xs, .inl (.inl h1), Nat.le_of_eq h2.length⟩
theorem wlk_tup {a : Addr} {ds : List D} (e : con0 r = some (.tuple ds)) : Wlk C (Itt C.K.K a) [.ref a] [r] ds := by
  have rd : ∀ {W : Wd} {H : Hp} {σ : L2.St} {δ : Sto} {av tv : List V} {ar τ : List RV}, av.length = ar.length → Gd C W H σ δ (av ++ ([.ref a] ++ tv)) (ar ++ ([r] ++ τ)) → ∃ xs, SqT C.K.K H a xs ∧ RepL C.K W.F H xs ds := fun {W H σ δ av tv ar τ} hl g => by
    obtain ⟨a', xs, e1, h1, h2⟩ := Rep.tup_of (Gd.held_brs (v := .ref a) (r := r) (g.popN hl) e)
    cases e1
    exact ⟨xs, h1.sqT, h2⟩
  refine ⟨fun {W H σ δ av tv ar τ i d} hl g hd => ?_, fun {W H σ δ av tv ar τ} hl g => ?_⟩
  · obtain ⟨xs, h1, h2⟩ := rd hl g
    obtain ⟨x, hx, hr⟩ := h2.get hd
    refine ⟨⟨xs, x, h1, hx⟩, fun y H' ⟨e1, hy⟩ => ?_⟩
    subst e1
    have q := hy xs h1
    rw [hx] at q
    cases q
    exact g.push (r := .val d) hr
  · obtain ⟨xs, h1, h2⟩ := rd hl g
    exact ⟨xs, h1, Nat.le_of_eq h2.length⟩
def rgD (lo : Int) (c : Int) (n : Nat) : List D := (List.range n).map fun (k : Nat) => .int (lo + (k : Int) * c)
theorem rgD_get {lo c : Int} {n i : Nat} {d : D} (h : (rgD lo c n)[i]? = some d) : i < n ∧ d = .int (lo + i * c) := by
  unfold rgD at h
  rw [List.getElem?_map] at h
  obtain ⟨k, hk, rfl⟩ := Option.map_eq_some_iff.mp h
  obtain ⟨h1, h2⟩ := List.getElem?_eq_some_iff.mp hk
  rw [List.getElem_range] at h2
  rw [List.length_range] at h1
  subst h2
  exact ⟨h1, rfl⟩
theorem wlk_rg {lo : Int} {n : Nat} : Wlk C (Itr lo n) [] [] (rgD lo 1 n) := by
  refine ⟨fun {W H σ δ av tv ar τ i d} hl g hd => ?_, fun {W H σ δ av tv ar τ} hl g => ?_⟩
  · obtain ⟨hi, rfl⟩ := rgD_get hd
    refine ⟨hi, fun x H' ⟨e1, e2⟩ => ?_⟩
    subst e1 e2
    rw [Int.mul_one]
    exact g.push (r := .val (.int _)) (.int _)
  · show n ≤ (rgD lo 1 n).length
    unfold rgD; simp
theorem wlk_rg3 {lo c : Int} {n : Nat} : Wlk C (Itc lo c n) [] [] (rgD lo c n) := by
  refine ⟨fun {W H σ δ av tv ar τ i d} hl g hd => ?_, fun {W H σ δ av tv ar τ} hl g => ?_⟩
  · obtain ⟨hi, rfl⟩ := rgD_get hd
    refine ⟨hi, fun x H' ⟨e1, e2⟩ => ?_⟩
    subst e1 e2
    exact g.push (r := .val (.int _)) (.int _)
  · show n ≤ (rgD lo c n).length
    unfold rgD; simp
end

/-! ### enumerate over a tuple -/
def ItE (K : PySem.W.Frag) (a : Addr) : It where
  go := fun k G => ∃ (ys : List V) (y : V), SqT K G a ys ∧ ys[k]? = some y
  yld := fun k G z G' => ∃ B y o, z = .ref B ∧ G B = none ∧ o.dict = none ∧ G' = upd G B (.frz o (.tup [.int (k : Nat), y])) ∧ ∀ ys, SqT K G a ys → ys[k]? = some y
  stop := fun k G => ∃ ys : List V, SqT K G a ys ∧ ys.length ≤ k
theorem tupOf {X : Cx} {pins : List (Addr × Obj)} {σ : L2.St} {H : Hp} {s : Shared} {a : Addr} {xs : List V} (I : Inv X pins σ H s) (h : SqT X.K H a xs) : ∃ its : List Value, Vals xs its ∧ s.heap.IsTuple a its.toArray := by
  obtain ⟨its, rv, p, _⟩ := I.tuple h
  exact ⟨its, rv, p⟩
theorem turn_enumE {P : Program} {w : World} {K : PySem.W.Frag} {elts : List Expr} {kk : Nat} {tpos : Pos} (a e it : Addr) :
    Turn P w K (.Tuple elts kk tpos) (ItE K a) [e, it] e (fun k h => (∃ old, IsEnum h e it ((k : Nat) : Int) old) ∧ h.IsTupleIter it a k ∧ e ≠ it) where
  mem := List.mem_cons_self
  obj := fun k h st b hb => by
    obtain ⟨⟨old, he⟩, ⟨o, ho, hc, hd⟩, _⟩ := st
    rcases List.mem_cons.mp hb with rfl | hb
    · exact ⟨_, he, fun v q => nomatch q⟩
    · rw [List.mem_singleton.mp hb]; exact ⟨o, ho, fun v q => by rw [hd] at q; cases q⟩
  keep := fun k h h' st kp => by
    obtain ⟨⟨old, he⟩, hi, hne⟩ := st
    exact ⟨⟨old, kp e List.mem_cons_self _ he⟩, hi.at fun o q => kp it (List.mem_cons_of_mem _ List.mem_cons_self) o q, hne⟩
  item := by
    intro X hP hw hK hc k pins s σ H E I hf st hg
    subst hP hw hK
    obtain ⟨⟨old, he⟩, hit, hne⟩ := st
    obtain ⟨xs, x, hq, hx⟩ := hg
    obtain ⟨its, rv, tp⟩ := tupOf I hq
    obtain ⟨u, hu, ru⟩ := rv.get hx
    have hlt : k < its.toArray.size := by
      have := (List.getElem?_eq_some_iff.mp hu).1
      simpa using this
    have hei : e < s.heap.objs.size := Heap.lt_size he
    have hil : it < s.heap.objs.size := by obtain ⟨_, q, _⟩ := hit; exact Heap.lt_size q
    have hat : a ≠ it := fun z => by
      obtain ⟨o, ho, hco, _⟩ := hit
      obtain ⟨o', ho', hco', _⟩ := tp
      rw [z, ho] at ho'; cases ho'
      rw [hco] at hco'; exact absurd hco' (by decide)
    have hea : e ∉ [it, a] := fun z => by
      rcases List.mem_cons.mp z with z | z
      · exact hne z
      · rw [List.mem_singleton.mp z] at he
        obtain ⟨o', ho', hco', _⟩ := tp
        rw [he] at ho'; cases ho'
        exact absurd (Value.type.inj hco') (by decide)
    refine wpAny_pyNext_enum_itemD (Draws.tuple (A := X.A.in1) (I.ok.hd hc) it a hat its.toArray) he ⟨hit, tp⟩ hlt hne hea fun y h' tk hP ho hst hT hsz hk => ?_
    have hy : y = u := by
      have hP' : its.toArray[k]? = some y := hP
      have : its[k]? = some y := by simpa using hP'
      rw [hu] at this; exact (Option.some.inj this).symm
    subst hy
    refine ⟨_, rfl, wpAny_letOwnedTupleGo_enum (s := { s with heap := h', toks := tk + 1 }) ho fun h'' he' sb => ?_⟩
    have hT2 := (sb.2 _ (Nat.ne_of_gt hei)).trans hT
    have I1 : Inv X pins σ (upd H s.heap.objs.size (.frz { cls := .type "tuple", data := .seq #[.int k tk, y] } (.tup [.int (k : Nat), x]))) { s with heap := h'', toks := tk + 1 } := by
      refine I.turnedNew (ch := [e, it]) (fun b ob hb q => ?_) hf (Nat.le_refl _) ⟨hT2, by show 2 ≤ sizeLine; decide, [.int k tk, y], .cons ⟨_, rfl⟩ (.cons ru .nil), ⟨_, hT2, rfl, _, rfl⟩⟩
      have n1 : b ≠ e := fun z => hb (by rw [z]; exact List.mem_cons_self)
      have n2 : b ≠ it := fun z => hb (by rw [z]; exact List.mem_cons_of_mem _ List.mem_cons_self)
      exact (sb.2 b n1).trans (hk b ob n1 n2 q)
    refine ⟨.ref s.heap.objs.size, _, I1, rfl, ⟨_, x, _, rfl, I.hok.fresh (Nat.le_refl _), rfl, rfl, fun ys hy => by rw [I.tuple_inj hy hq]; exact hx⟩, ⟨⟨y, ?_⟩, hst.1.at fun o q => (sb.2 it (Ne.symm hne)).trans q, hne⟩, fun b hb => ?_⟩
    · rw [show (((k + 1 : Nat)) : Int) = (k : Int) + 1 by omega]; exact he'
    · have : b < s.heap.objs.size := by
        rcases List.mem_cons.mp hb with z | z
        · rw [z]; exact hei
        · rw [List.mem_singleton.mp z]; exact hil
      rw [upd_ne (Nat.ne_of_lt this)]
      exact (hf b hb).1
  done := by
    intro X hP hw hK hc k pins s σ H E I hf st hg
    subst hP hw hK
    obtain ⟨⟨old, he⟩, hit, hne⟩ := st
    obtain ⟨xs, hq, hx⟩ := hg
    obtain ⟨its, rv, tp⟩ := tupOf I hq
    have hf2 := hf it (List.mem_cons_of_mem _ List.mem_cons_self)
    have hT : s.TypeIs (.ref e) "enumerate" := ⟨_, he, rfl⟩
    unfold pyNext
    refine wpAny_bind (wpAny_attempt (wpAny_callSpecial?_slot (name := Str.ofString "__next__") hT F.slot_enumerate_next
      (wpAny_call_entry F.slot_enumerate_next hT F.entry_enumerate_next ?_ (F.args_enumerate_next_1 _))))
    show wpAny _ _ (field (.ref e) 2 >>= _) _ _ _
    refine wpAny_bind (wpAny_field he rfl (x := .ref it) rfl ?_)
    refine wpAny_bind (wpAny_nextOf_tuple_end (I.ok.hd hc) hit tp (by simp; have := rv.length; omega) fun h' x he' hx' => ?_)
    obtain ⟨o, ho, hco⟩ := hx'
    refine wpAny_bind (wpAny_isInstance (T := "StopIteration") (b := true) ⟨o, ho, hco⟩ isSubtype_stop ?_)
    exact wpAny_pure ⟨rfl, I.turned (t' := s.toks) (fun b o hb q => he' b o hb q) hf2.1 hf2.2.1 hf2.2.2.2.1 hf2.2.2.2.2.1 hf2.2.2.2.2.2⟩
  self := fun A i s Q E st h => by
    obtain ⟨⟨_, he⟩, _⟩ := st
    exact wpAny_pyIter_enum he h
def ItL (K : PySem.W.Frag) (a : Addr) : It where
  go := fun k G => ∃ (ys : List V) (y : V), SqL K G a ys ∧ ys[k]? = some y
  yld := fun k G z G' => ∃ B y o, z = .ref B ∧ G B = none ∧ o.dict = none ∧ G' = upd G B (.frz o (.tup [.int (k : Nat), y])) ∧ ∀ ys, SqL K G a ys → ys[k]? = some y
  stop := fun k G => ∃ ys : List V, SqL K G a ys ∧ ys.length ≤ k
theorem lstOf {X : Cx} {pins : List (Addr × Obj)} {σ : L2.St} {H : Hp} {s : Shared} {a : Addr} {xs : List V} (I : Inv X pins σ H s) (h : SqL X.K H a xs) : ∃ its : List Value, Vals xs its ∧ s.heap.IsList a its.toArray := by
  obtain ⟨its, rv, p, _⟩ := I.list h
  exact ⟨its, rv, p.isList⟩
theorem turn_enumL {P : Program} {w : World} {K : PySem.W.Frag} {elts : List Expr} {kk : Nat} {tpos : Pos} (a e it : Addr) :
    Turn P w K (.Tuple elts kk tpos) (ItL K a) [e, it] e (fun k h => (∃ old, IsEnum h e it ((k : Nat) : Int) old) ∧ h.IsListIter it a k ∧ e ≠ it) where
  mem := List.mem_cons_self
  obj := fun k h st b hb => by
    obtain ⟨⟨old, he⟩, ⟨o, ho, hc, hd⟩, _⟩ := st
    rcases List.mem_cons.mp hb with rfl | hb
    · exact ⟨_, he, fun v q => nomatch q⟩
    · rw [List.mem_singleton.mp hb]; exact ⟨o, ho, fun v q => by rw [hd] at q; cases q⟩
  keep := fun k h h' st kp => by
    obtain ⟨⟨old, he⟩, hi, hne⟩ := st
    exact ⟨⟨old, kp e List.mem_cons_self _ he⟩, hi.at fun o q => kp it (List.mem_cons_of_mem _ List.mem_cons_self) o q, hne⟩
  item := by
    intro X hP hw hK hc k pins s σ H E I hf st hg
    subst hP hw hK
    obtain ⟨⟨old, he⟩, hit, hne⟩ := st
    obtain ⟨xs, x, hq, hx⟩ := hg
    obtain ⟨its, rv, tp⟩ := lstOf I hq
    obtain ⟨u, hu, ru⟩ := rv.get hx
    have hlt : k < its.toArray.size := by
      have := (List.getElem?_eq_some_iff.mp hu).1
      simpa using this
    have hei : e < s.heap.objs.size := Heap.lt_size he
    have hil : it < s.heap.objs.size := by obtain ⟨_, q, _⟩ := hit; exact Heap.lt_size q
    have hat : a ≠ it := fun z => by
      obtain ⟨o, ho, hco, _⟩ := hit
      obtain ⟨o', ho', hco', _⟩ := tp
      rw [z, ho] at ho'; cases ho'
      rw [hco] at hco'; exact absurd hco' (by decide)
    have hea : e ∉ [it, a] := fun z => by
      rcases List.mem_cons.mp z with z | z
      · exact hne z
      · rw [List.mem_singleton.mp z] at he
        obtain ⟨o', ho', hco', _⟩ := tp
        rw [he] at ho'; cases ho'
        exact absurd (Value.type.inj hco') (by decide)
    refine wpAny_pyNext_enum_itemD (Draws.list (A := X.A.in1) (I.ok.hd hc) it a hat its.toArray) he ⟨hit, tp⟩ hlt hne hea fun y h' tk hP ho hst hT hsz hk => ?_
    have hy : y = u := by
      have hP' : its.toArray[k]? = some y := hP
      have : its[k]? = some y := by simpa using hP'
      rw [hu] at this; exact (Option.some.inj this).symm
    subst hy
    refine ⟨_, rfl, wpAny_letOwnedTupleGo_enum (s := { s with heap := h', toks := tk + 1 }) ho fun h'' he' sb => ?_⟩
    have hT2 := (sb.2 _ (Nat.ne_of_gt hei)).trans hT
    have I1 : Inv X pins σ (upd H s.heap.objs.size (.frz { cls := .type "tuple", data := .seq #[.int k tk, y] } (.tup [.int (k : Nat), x]))) { s with heap := h'', toks := tk + 1 } := by
      refine I.turnedNew (ch := [e, it]) (fun b ob hb q => ?_) hf (Nat.le_refl _) ⟨hT2, by show 2 ≤ sizeLine; decide, [.int k tk, y], .cons ⟨_, rfl⟩ (.cons ru .nil), ⟨_, hT2, rfl, _, rfl⟩⟩
      have n1 : b ≠ e := fun z => hb (by rw [z]; exact List.mem_cons_self)
      have n2 : b ≠ it := fun z => hb (by rw [z]; exact List.mem_cons_of_mem _ List.mem_cons_self)
      exact (sb.2 b n1).trans (hk b ob n1 n2 q)
    refine ⟨.ref s.heap.objs.size, _, I1, rfl, ⟨_, x, _, rfl, I.hok.fresh (Nat.le_refl _), rfl, rfl, fun ys hy => by rw [I.list_inj hy hq]; exact hx⟩, ⟨⟨y, ?_⟩, hst.1.at fun o q => (sb.2 it (Ne.symm hne)).trans q, hne⟩, fun b hb => ?_⟩
    · rw [show (((k + 1 : Nat)) : Int) = (k : Int) + 1 by omega]; exact he'
    · have : b < s.heap.objs.size := by
        rcases List.mem_cons.mp hb with z | z
        · rw [z]; exact hei
        · rw [List.mem_singleton.mp z]; exact hil
      rw [upd_ne (Nat.ne_of_lt this)]
      exact (hf b hb).1
  done := by
    intro X hP hw hK hc k pins s σ H E I hf st hg
    subst hP hw hK
    obtain ⟨⟨old, he⟩, hit, hne⟩ := st
    obtain ⟨xs, hq, hx⟩ := hg
    obtain ⟨its, rv, tp⟩ := lstOf I hq
    have hf2 := hf it (List.mem_cons_of_mem _ List.mem_cons_self)
    have hT : s.TypeIs (.ref e) "enumerate" := ⟨_, he, rfl⟩
    unfold pyNext
    refine wpAny_bind (wpAny_attempt (wpAny_callSpecial?_slot (name := Str.ofString "__next__") hT F.slot_enumerate_next
      (wpAny_call_entry F.slot_enumerate_next hT F.entry_enumerate_next ?_ (F.args_enumerate_next_1 _))))
    show wpAny _ _ (field (.ref e) 2 >>= _) _ _ _
    refine wpAny_bind (wpAny_field he rfl (x := .ref it) rfl ?_)
    refine wpAny_bind (wpAny_nextOf_list_end (I.ok.hd hc) hit tp (by simp; have := rv.length; omega) fun h' x he' hx' => ?_)
    obtain ⟨o, ho, hco⟩ := hx'
    refine wpAny_bind (wpAny_isInstance (T := "StopIteration") (b := true) ⟨o, ho, hco⟩ isSubtype_stop ?_)
    exact wpAny_pure ⟨rfl, I.turned (t' := s.toks) (fun b o hb q => he' b o hb q) hf2.1 hf2.2.1 hf2.2.2.2.1 hf2.2.2.2.2.1 hf2.2.2.2.2.2⟩
  self := fun A i s Q E st h => by
    obtain ⟨⟨_, he⟩, _⟩ := st
    exact wpAny_pyIter_enum he h
set_option maxHeartbeats 1000000 in
theorem meets_enumOf {v : Value} {o : Obj} {G : Heap → Prop} (B : Begins v o G) :
    Meets (Builtin.«enumerate.__new__» ⟨[.type "enumerate", v], []⟩) (fun _ R s => G s.heap ∧
      R (.ok (.ret (.ref (s.heap.push o).objs.size))) { s with heap := (s.heap.push o).push { cls := .type "enumerate", data := .fields #[.none, .bool false, .ref s.heap.objs.size, rawInt 0, .none, .none] } }) :=
  .of_wp fun prog w A R s h => by
    obtain ⟨hp, gn, dr, tk, osx⟩ := s; obtain ⟨h1, h⟩ := h
    have hsub := sub_enumerate
    have begun : ∀ {A' : Around} {E : Value → Shared → Prop} {Q : Value → Shared → Prop}, Q (.ref hp.objs.size) ⟨hp.push o, gn, dr, tk, osx⟩ → wpAny (model prog w) A' (pyIter v) Q E ⟨hp, gn, dr, tk, osx⟩ :=
      fun q => B.iter prog w _ _ ⟨hp, gn, dr, tk, osx⟩ _ h1 q
    wp_walk using begun
    refine wpAny_stack_any fun st => wpAny_pure ?_
    split
    · rename_i c _ _ _ _ _
      cases (c == Value.type "enumerate")
      · wp_walk using begun
        exact ⟨_, rfl, h⟩
      · wp_walk using begun
        exact ⟨_, rfl, h⟩
    · wp_walk using begun
      exact ⟨_, rfl, h⟩
theorem enumOf {prog : Program} {w : World} {A : Around} {E : Value → Shared → Prop} {s : Shared} {v : Value} {o : Obj} {G : Heap → Prop} {Q : Value → Shared → Prop} (B : Begins v o G) (h1 : G s.heap)
    (h : ∀ h', IsEnum h' (s.heap.objs.size + 1) s.heap.objs.size 0 .none → h'.get? s.heap.objs.size = some o → h'.objs.size = s.heap.objs.size + 2 →
      (∀ b o, s.heap.get? b = some o → h'.get? b = some o) → Q (.ref (s.heap.objs.size + 1)) { s with heap := h' }) :
    wpAny (model prog w) A (call (.type "enumerate") [v]) Q E s := by
  refine callType_new F.called_enumerate (by decide) (F.typeCall_enumerate_1 _) (F.newCall_enumerate_1 _) (fun obj => F.args_object_init_2 obj _) F.entry_enumerate_new
    (meets_enumOf B) ⟨h1, ?_⟩
  have sz : (s.heap.push o).objs.size = s.heap.objs.size + 1 := Heap.size_push ..
  show _ ∧ _
  rw [sz]
  have he : IsEnum ((s.heap.push o).push { cls := .type "enumerate", data := .fields #[.none, .bool false, .ref s.heap.objs.size, rawInt 0, .none, .none] }) (s.heap.objs.size + 1) s.heap.objs.size 0 .none := by
    have q := Heap.get?_push_size (s.heap.push o) (o := { cls := .type "enumerate", data := .fields #[.none, .bool false, .ref s.heap.objs.size, rawInt 0, .none, .none] }) rfl
    rw [sz] at q; exact q
  refine ⟨⟨_, he, rfl⟩, h _ he (Heap.get?_push_of_some _ (Heap.get?_push_size _ B.free)) (by rw [Heap.size_push, sz]) fun b o x => Heap.get?_push_of_some _ (Heap.get?_push_of_some _ x)⟩
end Z
end
section
set_option Elab.async false
set_option linter.all false
set_option maxRecDepth 100000
/-! Loops, comprehensions. -/
namespace Z
open PySem PySem.Spec L2
section
variable {C : Cn} {r : RV}
def enD (ds : List D) : List D := ds.zipIdx.map fun p => .tuple [.int (p.2 : Int), p.1]
theorem enD_get {ds : List D} {i : Nat} {d : D} (h : (enD ds)[i]? = some d) : ∃ d0, ds[i]? = some d0 ∧ d = .tuple [.int (i : Int), d0] := by
  unfold enD at h
  rw [List.getElem?_map, List.getElem?_zipIdx] at h
  cases e : ds[i]? with
  | none => rw [e] at h; cases h
  | some d0 => rw [e] at h; cases h; exact ⟨d0, rfl, by simp⟩
theorem enD_len {ds : List D} : (enD ds).length = ds.length := by unfold enD; simp
theorem wlk_enl {a : Addr} {ds : List D} (e : con0 r = some (.list ds)) : Wlk C (ItL C.K.K a) [.ref a] [r] (enD ds) := by
  have rd : ∀ {W : Wd} {H : Hp} {σ : L2.St} {δ : Sto} {av tv : List V} {ar τ : List RV}, av.length = ar.length → Gd C W H σ δ (av ++ ([.ref a] ++ tv)) (ar ++ ([r] ++ τ)) → ∃ xs, H a = some (.lst xs) ∧ RepL C.K W.F H xs ds := fun {W H σ δ av tv ar τ} hl g => by
    obtain ⟨a', xs, e1, h1, h2⟩ := Gd.held_brs (v := .ref a) (r := r) (g.popN hl) e
    cases e1
    exact ⟨xs, h1, h2⟩
  refine ⟨fun {W H σ δ av tv ar τ i d} hl g hd => ?_, fun {W H σ δ av tv ar τ} hl g => ?_⟩
  · obtain ⟨xs, h1, h2⟩ := rd hl g
    obtain ⟨d0, hd0, rfl⟩ := enD_get hd
    obtain ⟨x, hx, hr⟩ := h2.get hd0
    refine ⟨⟨xs, x, .inl (.inl h1), hx⟩, fun y H' ⟨T, x', o, e1, hT, ho, e2, hy⟩ => ?_⟩
    subst e1 e2
    have q := hy xs (.inl (.inl h1))
    rw [hx] at q
    cases q
    exact g.newTup hT ho (.cons (.int _) (.cons hr .nil))
  · obtain ⟨xs, h1, h2⟩ := rd hl g
    exact ⟨xs, .inl (.inl h1), by rw [enD_len, h2.length]; exact Nat.le_refl _⟩
theorem wlk_ent {a : Addr} {ds : List D} (e : con0 r = some (.tuple ds)) : Wlk C (ItE C.K.K a) [.ref a] [r] (enD ds) := by
  have rd : ∀ {W : Wd} {H : Hp} {σ : L2.St} {δ : Sto} {av tv : List V} {ar τ : List RV}, av.length = ar.length → Gd C W H σ δ (av ++ ([.ref a] ++ tv)) (ar ++ ([r] ++ τ)) → ∃ xs, SqT C.K.K H a xs ∧ RepL C.K W.F H xs ds := fun {W H σ δ av tv ar τ} hl g => by
    obtain ⟨a', xs, e1, h1, h2⟩ := Rep.tup_of (Gd.held_brs (v := .ref a) (r := r) (g.popN hl) e)
    cases e1
    exact ⟨xs, h1.sqT, h2⟩
  refine ⟨fun {W H σ δ av tv ar τ i d} hl g hd => ?_, fun {W H σ δ av tv ar τ} hl g => ?_⟩
  · obtain ⟨xs, h1, h2⟩ := rd hl g
    obtain ⟨d0, hd0, rfl⟩ := enD_get hd
    obtain ⟨x, hx, hr⟩ := h2.get hd0
    refine ⟨⟨xs, x, h1, hx⟩, fun y H' ⟨T, x', o, e1, hT, ho, e2, hy⟩ => ?_⟩
    subst e1 e2
    have q := hy xs h1
    rw [hx] at q
    cases q
    exact g.newTup hT ho (.cons (.int _) (.cons hr .nil))
  · obtain ⟨xs, h1, h2⟩ := rd hl g
    exact ⟨xs, h1, by rw [enD_len, h2.length]; exact Nat.le_refl _⟩
end

/-! ### the walked expression -/
abbrev ZI := Sto → (List D → (Sto → Sto) → Sto → Prop) → Prop
def liftI (C : Cn) (z : ZI) : TI := fun σ H R => ∃ W δ tv τ QQ, Gd C W H σ δ tv τ ∧ z δ QQ ∧
  ∀ J H' W' δ' hv hr ds un, Gd C W' H' σ δ' (hv ++ tv) (hr ++ τ) → hv.length = hr.length → (∀ r ∈ hr, r.held) → Wlk C J hv hr ds → UnOk C hv hr tv τ un → QQ ds un δ' → R J H'
section
variable {X : Cx} {C : Cn} {e a b c tg : Expr} {es : List Expr} {pos p : Pos} {t ta tb tc : ZT} {x : Str}
theorem PI.weak {w w' : TI} (h : PI X tg e w) (i : ∀ σ H R, w' σ H R → w σ H R) : PI X tg e w' := ⟨fun pins s σ H R I q => h.run pins s σ H R I (i σ H R q)⟩
def iSq (K : PySem.W.Frag) (tl : TE) : TI := fun σ H R => tl σ H fun x G => ∃ a, x = .ref a ∧ (((∃ ys, SqL K G a ys) ∧ R (Itl K a) G) ∨ ((∃ ys, SqT K G a ys) ∧ R (Itt K a) G))
theorem pi_sq {l : Expr} {tl : TE} (hl : PE X l tl) : PI X tg l (iSq X.K tl) := by
  refine ⟨fun pins s σ H R I h => thn (hl.run pins s σ H _ I h) fun v s1 ⟨y, G, J, rv, a, ea, q⟩ => ?_⟩
  subst ea
  cases rv
  have new : ∀ (o : Obj) b, b ∈ [s1.heap.objs.size] → FpOk X pins G b := fun o b m => by
    rw [List.mem_singleton.mp m]
    exact J.fpOk (Nat.le_refl _) (J.hok.fresh (Nat.le_refl _))
  have keepJ : ∀ o : Obj, Inv X pins σ G { s1 with heap := s1.heap.push o } := fun o => J.kept (t' := s1.toks) fun b o' h => Heap.get?_push_of_some _ h
  rcases q with ⟨⟨ys, hq⟩, q⟩ | ⟨⟨ys, hq⟩, q⟩
  · obtain ⟨its, rl, pl, _⟩ := J.list hq
    exact wpAny_pyIter_list pl.isList ⟨_, [s1.heap.objs.size], _, _, G, rfl, keepJ _, turn_list a _, ⟨_, Heap.get?_push_size _ rfl, rfl, rfl⟩, new { cls := .none }, q⟩
  · obtain ⟨its, rl, tp⟩ := tupOf J hq
    exact wpAny_pyIter_tuple tp ⟨_, [s1.heap.objs.size], _, _, G, rfl, keepJ _, turn_tuple a _, ⟨_, Heap.get?_push_size _ rfl, rfl, rfl⟩, new { cls := .none }, q⟩
def zIt (t : ZT) : ZI := fun δ Q => t δ fun r δ1 => zHold r δ1 fun r' un δ2 => match con0 r' with
  | some (.list ds) => Q ds un δ2
  | some (.tuple ds) => Q ds un δ2
  | _ => False
theorem zi_it (hK : C.K.K = X.K) (he : PE X e (lift C t)) : PI X tg e (liftI C (zIt t)) := by
  refine PI.weak (pi_sq he) fun σ H R ⟨W, δ, tv, τ, QQ, g, h, k⟩ => ⟨W, δ, tv, τ, _, g, h, fun v H1 W1 r δ1 g1 h1 => ?_⟩
  obtain ⟨r', un, δ2, g2, hh, hu, q⟩ := g1.hold h1
  cases e0 : con0 r' with
  | none => simp only [e0] at q
  | some d =>
    have hb := g2.held_brs e0
    cases d <;> simp only [e0] at q
    · rename_i ds
      obtain ⟨a, xs, rfl, q1, q2⟩ := hb
      exact ⟨a, rfl, .inl ⟨⟨xs, .inl (.inl q1)⟩, k _ H1 W1 δ2 [.ref a] [r'] ds un g2 rfl (fun x m => by rw [List.mem_singleton.mp m]; exact hh) (by rw [← hK]; exact wlk_list e0) hu q⟩⟩
    · rename_i ds
      obtain ⟨a, xs, rfl, q1, q2⟩ := Rep.tup_of hb
      exact ⟨a, rfl, .inr ⟨⟨xs, by rw [← hK]; exact q1.sqT⟩, k _ H1 W1 δ2 [.ref a] [r'] ds un g2 rfl (fun x m => by rw [List.mem_singleton.mp m]; exact hh) (by rw [← hK]; exact wlk_tup e0) hu q⟩⟩
theorem unOk_nil {tv : List V} {τ : List RV} : UnOk C [] [] tv τ id := fun g => g
def rgB (n : Int) : Prop := -4611686018427387904 ≤ n ∧ n < 4611686018427387904
def zRg1 (l : ZL) : ZI := fun δ Q => l δ fun rs δ1 => match rs with
  | [.val (.int n)] => rgB n ∧ Q (rgD 0 1 n.toNat) id δ1
  | _ => False
def zRg2 (l : ZL) : ZI := fun δ Q => l δ fun rs δ1 => match rs with
  | [.val (.int m), .val (.int n)] => (rgB m ∧ rgB n) ∧ Q (rgD m 1 (n - m).toNat) id δ1
  | _ => False
theorem zi_rg1 {l : ZL} {n : Nat} (hg : Gl X "range") (hm : X.mg "range" = none) (ha : PA X [a] (liftA C RV.isVal n l)) (hs : noStar a = true) : PI X tg (.Call (.Name "range" p) [a] [] pos) (liftI C (zRg1 l)) := by
  refine PI.weak (pi_range1 hg hm ha (star_cons hs)) fun σ H R ⟨W, δ, tv, τ, QQ, g, h, k⟩ => ⟨W, δ, tv, τ, _, g, h, fun us H1 W1 rs δ1 g1 hl hn hP h1 => ?_⟩
  split at h1
  · rename_i m
    match us, hl with
    | [u], _ =>
      obtain ⟨⟨b1, b2⟩, q⟩ := h1
      have e := g1.temps.1.int_of
      subst e
      exact ⟨m, rfl, b1, b2, k _ H1 W1 δ1 [] [] _ id g1.pop rfl (fun _ m => nomatch m) wlk_rg unOk_nil q⟩
  · exact h1.elim
theorem zi_rg2 {l : ZL} {n : Nat} (hg : Gl X "range") (hm : X.mg "range" = none) (ha : PA X [a, b] (liftA C RV.isVal n l)) (hs : noStar a = true) (hs2 : noStar b = true) : PI X tg (.Call (.Name "range" p) [a, b] [] pos) (liftI C (zRg2 l)) := by
  have e2 : starEach [b] X.env = [(false, eval b X.env)] := star_cons hs2
  have e1 : starEach [a, b] X.env = [(false, eval a X.env), (false, eval b X.env)] := (star_cons hs).trans (by rw [e2])
  refine PI.weak (pi_range2 hg hm ha e1 e2) fun σ H R ⟨W, δ, tv, τ, QQ, g, h, k⟩ => ⟨W, δ, tv, τ, _, g, h, fun us H1 W1 rs δ1 g1 hl hn hP h1 => ?_⟩
  split at h1
  · rename_i m1 m2
    match us, hl with
    | [u, v], _ =>
      obtain ⟨⟨⟨b1, b2⟩, b3, b4⟩, q⟩ := h1
      have g1' : Gd C W1 H1 σ δ1 (v :: u :: tv) (.val (.int m2) :: .val (.int m1) :: τ) := g1
      have e := g1'.temps.1.int_of
      have e' := g1'.pop.temps.1.int_of
      subst e e'
      exact ⟨m1, m2, rfl, ⟨b1, b2, b3, b4⟩, k _ H1 W1 δ1 [] [] _ id g1'.pop.pop rfl (fun _ m => nomatch m) wlk_rg unOk_nil q⟩
  · exact h1.elim
/-- range(i, j, -1) -/
def zRg3 (l : ZL) : ZI := fun δ Q => l δ fun rs δ1 => match rs with
  | [.val (.int m), .val (.int n), .val (.int c)] => (c = -1 ∧ rgB m ∧ rgB n) ∧ Q (rgD m (-1) (m - n).toNat) id δ1
  | _ => False
theorem zi_rg3 {l : ZL} {n : Nat} (hg : Gl X "range") (hm : X.mg "range" = none) (ha : PA X [a, b, c] (liftA C RV.isVal n l)) (hst : [a, b, c].all noStar = true) : PI X tg (.Call (.Name "range" p) [a, b, c] [] pos) (liftI C (zRg3 l)) := by
  have hs := hst
  rw [List.all_cons, Bool.and_eq_true] at hs
  refine PI.weak (pi_range3 hg hm ha (star_cons hs.1) (star_any hs.2)) fun σ H R ⟨W, δ, tv, τ, QQ, g, h, k⟩ => ⟨W, δ, tv, τ, _, g, h, fun us H1 W1 rs δ1 g1 hl hn hP h1 => ?_⟩
  split at h1
  · rename_i m1 m2 m3
    match us, hl with
    | [u, v, w], _ =>
      obtain ⟨⟨rfl, ⟨b1, b2⟩, b3, b4⟩, q⟩ := h1
      have g1' : Gd C W1 H1 σ δ1 (w :: v :: u :: tv) (.val (.int (-1)) :: .val (.int m2) :: .val (.int m1) :: τ) := g1
      have e := g1'.temps.1.int_of
      have e' := g1'.pop.temps.1.int_of
      have e'' := g1'.pop.pop.temps.1.int_of
      subst e e' e''
      exact ⟨m1, m2, -1, _, rfl, RgC.neg b1 b2 b3 b4, k _ H1 W1 δ1 [] [] _ id g1'.pop.pop.pop rfl (fun _ m => nomatch m) wlk_rg3 unOk_nil q⟩
  · exact h1.elim
/-- enumerate(e) -/
def iEn (K : PySem.W.Frag) (te : TE) : TI := fun σ H R => te σ H fun v G => ∃ a ys, v = .ref a ∧ ((SqL K G a ys ∧ R (ItL K a) G) ∨ (SqT K G a ys ∧ R (ItE K a) G))
theorem pi_en {te : TE} {tpos : Pos} {elts : List Expr} {kk : Nat} (hg : Gl X "enumerate") (hm : X.mg "enumerate" = none) (he : PE X e te) (hs : noStar e = true) :
    PI X (.Tuple elts kk tpos) (.Call (.Name "enumerate" p) [e] [] pos) (iEn X.K te) := by
  refine ⟨fun pins s σ H R I h => ?_⟩
  have ha : PA X [e] (tCons te tNil) := pa_cons he pa_nil (star_cons hs)
  refine PyProof.Rows.Call_ (ld_blt I hg hm PyProof.Rows.boot_enumerate (PyProof.Rows.callWith_type1 (thn (ha.run pos pins s σ H (fun vs G => match vs with
    | [v] => ∃ a ys, v = .ref a ∧ ((SqL X.K G a ys ∧ R (ItL X.K a) G) ∨ (SqT X.K G a ys ∧ R (ItE X.K a) G))
    | _ => False) I h) fun us s1 ⟨vs, G, J, rv, q⟩ => ?_) (star_cons hs) rfl))
  match vs, q with
  | [_], ⟨a, ys, rfl, q⟩ =>
  cases rv with
  | cons r0 rr =>
    cases rr
    cases r0
    have new : ∀ b, b ∈ [s1.heap.objs.size + 1, s1.heap.objs.size] → FpOk X pins G b := fun b m => by
      have hle : s1.heap.objs.size ≤ b := by
        rcases List.mem_cons.mp m with z | z
        · rw [z]; exact Nat.le_add_right _ _
        · rw [List.mem_singleton.mp z]; exact Nat.le_refl _
      exact J.fpOk hle (J.hok.fresh hle)
    rcases q with ⟨hq, q⟩ | ⟨hq, q⟩
    · obtain ⟨its, rl, pl, _⟩ := J.list hq
      refine call_enumerate_list pl.isList fun h' hen hit hsz hk => wpAny_pyIter_enum hen ?_
      exact ⟨_, _, _, _, G, rfl, J.kept (t' := s1.toks) hk, turn_enumL a (s1.heap.objs.size + 1) s1.heap.objs.size, ⟨⟨.none, hen⟩, hit, Nat.succ_ne_self _⟩, new, q⟩
    · obtain ⟨its, rl, tp⟩ := tupOf J hq
      refine enumOf (begins_tuple a _) tp fun h' hen hit hsz hk => wpAny_pyIter_enum hen ?_
      exact ⟨_, _, _, _, G, rfl, J.kept (t' := s1.toks) hk, turn_enumE a (s1.heap.objs.size + 1) s1.heap.objs.size, ⟨⟨.none, hen⟩, ⟨_, hit, rfl, rfl⟩, Nat.succ_ne_self _⟩, new, q⟩
def zEn (t : ZT) : ZI := fun δ Q => t δ fun r δ1 => zHold r δ1 fun r' un δ2 => match con0 r' with
  | some (.list ds) => Q (enD ds) un δ2
  | some (.tuple ds) => Q (enD ds) un δ2
  | _ => False
theorem zi_en {tpos : Pos} {elts : List Expr} {kk : Nat} (hK : C.K.K = X.K) (hg : Gl X "enumerate") (hm : X.mg "enumerate" = none) (he : PE X e (lift C t)) (hs : noStar e = true) :
    PI X (.Tuple elts kk tpos) (.Call (.Name "enumerate" p) [e] [] pos) (liftI C (zEn t)) := by
  refine PI.weak (pi_en hg hm he hs) fun σ H R ⟨W, δ, tv, τ, QQ, g, h, k⟩ => ⟨W, δ, tv, τ, _, g, h, fun v H1 W1 r δ1 g1 h1 => ?_⟩
  obtain ⟨r', un, δ2, g2, hh, hu, q⟩ := g1.hold h1
  cases e0 : con0 r' with
  | none => simp only [e0] at q
  | some d =>
    have hb := g2.held_brs e0
    cases d <;> simp only [e0] at q
    · rename_i ds
      obtain ⟨a, xs, rfl, q1, q2⟩ := hb
      exact ⟨a, xs, rfl, .inl ⟨.inl (.inl q1), k _ H1 W1 δ2 [.ref a] [r'] _ un g2 rfl (fun x m => by rw [List.mem_singleton.mp m]; exact hh) (by rw [← hK]; exact wlk_enl e0) hu q⟩⟩
    · rename_i ds
      obtain ⟨a, xs, rfl, q1, q2⟩ := Rep.tup_of hb
      exact ⟨a, xs, rfl, .inr ⟨by rw [← hK]; exact q1.sqT, k _ H1 W1 δ2 [.ref a] [r'] _ un g2 rfl (fun x m => by rw [List.mem_singleton.mp m]; exact hh) (by rw [← hK]; exact wlk_ent e0) hu q⟩⟩
/-! ### for, while -/
def zLoop (zt : ZG) (b : ZS) (E : Zend) : List D → Sto → Prop
  | [], δ => E.nx δ
  | d :: ds, δ => zt d δ fun δ1 => b { nx := zLoop zt b E ds, ct := zLoop zt b E ds, bk := E.nx, rt := E.rt } δ1
def zFor (zi : ZI) (zt : ZG) (b : ZS) : ZS := fun E δ => zi δ fun ds un δ1 => zLoop zt b { nx := fun δ' => E.nx (un δ'), rt := E.rt } ds δ1
theorem held_calm {hr : List RV} {τ : List RV} (h : ∀ r ∈ hr, r.held) (hc : Calm τ) : Calm (hr ++ τ) := fun r m => by
  rcases List.mem_append.mp m with m | m
  · have := h r m
    cases r <;> first | rfl | exact this.elim
  · exact hc r m
theorem zs_for {iter : Expr} {body : List Stmt} {zi : ZI} {zt : ZG} {zb : ZS} {vs : List Nat} (hp : PassesOwn (model X.prog X.w) X.A X.env X.xe) (hc : X.calm = true) (hi : PI X tg iter (liftI C zi)) (hg : PG X tg (liftG C vs zt)) (hb : PSs X body (liftS C zb))
    (hs : ∀ x, foldedSetIterable iter X.env x = pure x) : PS X (.For tg iter body [] pos) (liftS C (zFor zi zt zb)) := by
  refine PS.weak (ps_for hp hc hi hg hb hs) fun D σ H ⟨W, δ, tv, τ, E, g, hcal, h, k⟩ => ⟨W, δ, tv, τ, _, g, h, fun J H1 W1 δ1 hv hr ds un g1 hlen hheld hw hun h1 => ?_⟩
  have hcal' := held_calm hheld hcal
  generalize hE : ({ nx := fun δ' => E.nx (un δ'), rt := E.rt } : Zend) = E' at h1
  have hnx : ∀ δ, E'.nx δ = E.nx (un δ) := fun δ => by rw [← hE]
  have hrt : E'.rt = E.rt := by rw [← hE]
  refine ⟨fun i m σ' H' => m = ds.length - i ∧ i ≤ ds.length ∧ ∃ W' δ', Gd C W' H' σ' δ' (hv ++ tv) (hr ++ τ) ∧ zLoop zt zb E' (ds.drop i) δ', ⟨_, rfl, Nat.zero_le _, W1, δ1, g1, h1⟩, ?_⟩
  rintro i m σ' H' ⟨rfl, hi, W', δ', g', h'⟩
  by_cases hlt : i < ds.length
  · have e : ds[i]? = some ds[i] := List.getElem?_eq_getElem hlt
    obtain ⟨go, yl⟩ := hw.go (av := []) (ar := []) rfl g' e
    rw [List.drop_eq_getElem_cons hlt] at h'
    refine .inr ⟨go, fun σ2 H2 => ∃ W2 δ2, Gd C W2 H2 σ2 δ2 (hv ++ tv) (hr ++ τ) ∧ zLoop zt zb E' (ds.drop (i + 1)) δ2, fun σ2 H2 ⟨W2, δ2, g2, h2⟩ => ⟨ds.length - (i + 1), by omega, rfl, hlt, W2, δ2, g2, h2⟩, fun x H2 hy => ?_⟩
    refine ⟨W', δ', hv ++ tv, hr ++ τ, ds[i], _, yl x H2 hy, hcal'.sfe vs, h', fun σ3 H3 W3 δ3 g3 _ h3 => ⟨W3, δ3, hv ++ tv, hr ++ τ, _, g3, hcal', h3, ?_⟩⟩
    exact ⟨fun σ4 H4 W4 δ4 g4 h4 => ⟨W4, δ4, g4, h4⟩, fun σ4 H4 W4 δ4 g4 h4 => k.nx σ4 H4 W4 _ (hun g4) (by rw [← hnx]; exact h4), fun σ4 H4 W4 δ4 g4 h4 => ⟨W4, δ4, g4, h4⟩, fun v σ4 H4 W4 r δ4 tv' τ' g4 h4 => k.rt v σ4 H4 W4 r δ4 tv' τ' g4 (by rw [← hrt]; exact h4)⟩
  · have e : i = ds.length := by omega
    subst e
    rw [List.drop_length] at h'
    exact .inl ⟨hw.stop (av := []) (ar := []) rfl g', k.nx σ' H' W' _ (hun g') (by rw [← hnx]; exact h')⟩
def zWhl (u : ZB) (b : ZS) (E : Zend) : Nat → Sto → Prop
  | 0, _ => False
  | n + 1, δ => u δ fun x δ1 => if x = true then b { nx := zWhl u b E n, ct := zWhl u b E n, bk := E.nx, rt := E.rt } δ1 else E.nx δ1
def zWhile (u : ZB) (b : ZS) : ZS := fun E δ => ∃ n, zWhl u b E n δ
theorem zs_while {body : List Stmt} {u : ZB} {zb : ZS} (hp : PassesOwn (model X.prog X.w) X.A X.env X.xe) (hc : PT X c (liftB C u)) (hb : PSs X body (liftS C zb)) : PS X (.While c body [] pos) (liftS C (zWhile u zb)) := by
  refine PS.weak (ps_while hp hc hb) fun D σ H ⟨W, δ, tv, τ, E, g, hcal, ⟨n, h⟩, k⟩ => ?_
  refine ⟨fun m σ' H' => ∃ W' δ', Gd C W' H' σ' δ' tv τ ∧ zWhl u zb E m δ', ⟨n, W, δ, g, h⟩, ?_⟩
  rintro m σ' H' ⟨W', δ', g', h'⟩
  cases m with
  | zero => exact h'.elim
  | succ m =>
    refine ⟨W', δ', tv, τ, _, g', h', fun x H2 W2 δ2 g2 h2 => ?_⟩
    cases x with
    | false => exact k.nx σ' H2 W2 δ2 g2 h2
    | true =>
      refine ⟨fun σ3 H3 => ∃ W3 δ3, Gd C W3 H3 σ3 δ3 tv τ ∧ zWhl u zb E m δ3, fun σ3 H3 h3 => ⟨m, Nat.lt_succ_self m, h3⟩, W2, δ2, tv, τ, _, g2, hcal, h2, ?_⟩
      exact ⟨fun σ4 H4 W4 δ4 g4 h4 => ⟨W4, δ4, g4, h4⟩, fun σ4 H4 W4 δ4 g4 h4 => k.nx σ4 H4 W4 δ4 g4 h4, fun σ4 H4 W4 δ4 g4 h4 => ⟨W4, δ4, g4, h4⟩, k.rt⟩
end
end Z
end
section
set_option Elab.async false
set_option linter.all false
set_option maxRecDepth 100000
/-! Comprehensions. -/
namespace Z
open PySem PySem.Spec L2
section
variable {C : Cn} {W : Wd} {H : Hp} {σ : L2.St} {δ : Sto} {tv : List V} {τ : List RV} {v y : V} {r : RV} {d : D} {a : Addr} {ds : List D}
/-- the list on the pile grows -/
theorem Gd.appTmp (g : Gd C W H σ δ (y :: .ref a :: tv) (.val d :: .own (.list ds) :: τ)) : ∃ xs, H a = some (.lst xs) ∧ xs.length = ds.length ∧ Gd C W (upd H a (.lst (xs ++ [y]))) σ δ (.ref a :: tv) (.own (.list (ds ++ [d])) :: τ) := by
  obtain ⟨a', e, ha, xs, h1, h2⟩ := g.temps.2.1
  cases e
  have hy : Rep C.K W.F H y d := g.temps.1
  have g1 := g.pop
  have st := g1.stab_own (u := .lst (xs ++ [y])) ha
  have hne : ∀ b, b ≠ a → upd H a (.lst (xs ++ [y])) b = H b := fun b h => upd_ne h
  refine ⟨xs, h1, h2.length, g1.len, fun b o e0 => ?_, g1.dk0, g1.frz, g1.fnew, fun b h => ?_, fun b h => ?_, fun i r e' => ?_, ⟨⟨a, rfl, ha, xs ++ [y], upd_same, (h2.append (.cons hy .nil)).mono (fun _ h => h) st⟩, g1.temps.2.write st ha fun k hk z => by have := Ow.tmp.inj z; omega⟩, fun j d' m => ?_, fun p q e0 => ?_, fun b h => ?_, fun b ys e0 => (g1.scr b ys e0).mono st⟩
  · refine (g1.prot b o e0).imp_right fun h => ⟨h.1, ?_⟩
    rw [hne b (fun z => by rw [z, ha] at h; cases h.1)]; exact h.2
  · by_cases hb : b = a
    · subst hb; rw [upd_same]; rfl
    · rw [hne b hb]; exact g1.live b h
  · rw [hne b (fun z => by rw [z] at h; rw [g1.frz a h] at ha; cases ha)]; exact g1.flive b h
  · obtain ⟨q1, u', q2, q3⟩ := g1.slots i r e'
    exact ⟨q1, u', q2, RelR.write st ha (fun z => by cases z) q3⟩
  · rcases List.mem_cons.mp m with m | m
    · cases m
    · exact g1.lk j d' (List.mem_cons_of_mem _ m)
  · obtain ⟨k1, k2, k3, k4⟩ := g1.deck p q e0
    exact ⟨k1, C.T.S k2 (hne _ fun z => by rw [z, ha] at k3; cases k3) (hne _ fun z => by rw [z, ha] at k4; cases k4), k3, k4⟩
  · by_cases hb : b = a
    · subst hb; rw [upd_same]; exact ⟨(by intro _ z; cases z), (by intro _ _ z; cases z)⟩
    · rw [hne b hb]; exact g1.soft b h
/-- an object, owned by nobody below, put on the pile -/
theorem Gd.reownTop {n : Nat} (g : Gd C W H σ δ tv τ) (ha : W.ow a = some (.tmp n)) (hn : τ.length ≤ n) (ho : ObR C.K W.F H a d) : Gd C (W.owns a (.tmp τ.length)) H σ δ (.ref a :: tv) (.own d :: τ) := by
  have nd : ∀ b, W.ow b = some .deck → b ≠ a := fun b e z => by rw [z, ha] at e; cases e
  refine ⟨g.len, fun b o e0 => ?_, g.dk0, fun b h => ?_, g.fnew, fun b h => ?_, g.flive, fun k x e => ?_, ⟨⟨a, rfl, owns_same, ho⟩, g.temps.reown_lt ha hn⟩, fun j d' m => ?_, fun p q e0 => ?_, fun b h => ?_, g.scr⟩
  · refine (g.prot b o e0).imp_right fun h => ⟨?_, h.2⟩
    rw [owns_ne (fun z => by rw [z, ha] at h; cases h.1)]; exact h.1
  · rw [owns_ne (fun z => by rw [z] at h; have := g.frz a h; rw [ha] at this; cases this)]; exact g.frz b h
  · by_cases hb : b = a
    · subst hb; exact g.live b (by rw [ha]; rfl)
    · rw [owns_ne hb] at h; exact g.live b h
  · obtain ⟨q1, u, q2, q3⟩ := g.slots k x e
    exact ⟨q1, u, q2, RelR.reown ha (by intro z; cases z) (by intro z; cases z) q3⟩
  · rcases List.mem_cons.mp m with m | m
    · cases m
    · exact g.lk j d' m
  · obtain ⟨k1, k2, k3, k4⟩ := g.deck p q e0
    exact ⟨k1, k2, by rw [owns_ne (nd p k3)]; exact k3, by rw [owns_ne (nd q k4)]; exact k4⟩
  · by_cases hb : b = a
    · subst hb; exact g.soft b (by rw [ha]; rfl)
    · rw [owns_ne hb] at h; exact g.soft b h
theorem junk_held {vs : List Nat} : ∀ {hr : List RV}, (∀ r ∈ hr, r.held) → junkS vs hr = hr
  | [], _ => rfl
  | r :: hr, h => by
    have h1 := h r List.mem_cons_self
    have e : junk1 vs r = r := by cases r <;> first | rfl | exact h1.elim
    show junk1 vs r :: junkS vs hr = _
    rw [e, junk_held fun x m => h x (List.mem_cons_of_mem _ m)]
theorem junk_append {vs : List Nat} {a b : List RV} : junkS vs (a ++ b) = junkS vs a ++ junkS vs b := List.map_append
theorem junk_idem {vs : List Nat} {τ : List RV} : junkS vs (junkS vs τ) = junkS vs τ := by
  unfold junkS
  rw [List.map_map]
  congr 1
  funext r
  show junk1 vs (junk1 vs r) = junk1 vs r
  cases r with
  | slot j =>
    by_cases h : j ∈ vs
    · show junk1 vs (if j ∈ vs then .junk else .slot j) = if j ∈ vs then .junk else .slot j
      rw [if_pos h]; rfl
    · show junk1 vs (if j ∈ vs then .junk else .slot j) = if j ∈ vs then .junk else .slot j
      rw [if_neg h]
      show (if j ∈ vs then RV.junk else .slot j) = _
      rw [if_neg h]
  | _ => rfl
theorem junk_sfe {vs : List Nat} {τ : List RV} : Sfe vs (junkS vs τ) := fun j m hj => by
  obtain ⟨r, _, e⟩ := List.mem_map.mp m
  cases r with
  | slot i =>
    have e : (if i ∈ vs then RV.junk else .slot i) = .slot j := e
    split at e
    · cases e
    · cases e; contradiction
  | _ => unfold junk1 at e; cases e
theorem wipe_get {σ : L2.St} {k : Nat} : ∀ {vs : List Nat}, k ∈ vs → (wipe σ vs)[k]? = (σ[k]?).map fun _ => none
  | w :: ws, h => by
    unfold wipe
    by_cases hw : w = k
    · subst hw
      rw [List.getElem?_set_self']
      have : (wipe σ ws).length = σ.length := wipe_length σ ws
      by_cases hlt : w < σ.length
      · rw [List.getElem?_eq_getElem hlt, List.getElem?_eq_getElem (by omega)]; rfl
      · rw [List.getElem?_eq_none (by omega), List.getElem?_eq_none (by omega)]; rfl
    · rw [List.getElem?_set_ne hw, wipe_get ((List.mem_cons.mp h).resolve_left fun z => hw z.symm)]
theorem wipe_idem {σ : L2.St} {vs : List Nat} : wipe (wipe σ vs) vs = wipe σ vs := by
  apply List.ext_getElem?
  intro k
  by_cases h : k ∈ vs
  · rw [wipe_get h, wipe_get h]
    cases σ[k]? <;> rfl
  · rw [wipe_outV h]
end
def zLcL (vs : List Nat) (zt : ZG) (tt : ZB) (te : ZT) : List D → List D → Sto → (List D → Sto → Prop) → Prop
  | [], acc, δ, Q => Q acc δ
  | d :: ds, acc, δ, Q => zt d δ fun δ1 => tt δ1 fun b δ2 => if b = true then te δ2 fun r δ3 => zSettle r δ3 fun y δ4 => acc.length < lineN ∧ noLck δ4 vs = true ∧ zLcL vs zt tt te ds (acc ++ [y]) (wipeD δ4 vs) Q
    else noLck δ2 vs = true ∧ zLcL vs zt tt te ds acc (wipeD δ2 vs) Q
def zLc (zi : ZI) (vs : List Nat) (zt : ZG) (tt : ZB) (te : ZT) : ZT := fun δ Q => zi δ fun ds un δ1 => noLck δ1 vs = true ∧ zLcL vs zt tt te ds [] (wipeD δ1 vs) fun acc δ2 => Q (.own (.list acc)) (un (wipeD δ2 vs))
def zYes : ZB := fun δ Q => Q true δ
section
variable {X : Cx} {C : Cn} {e elt tg iter : Expr} {pos : Pos} {zi : ZI} {zt : ZG} {tt : ZB} {te : ZT} {vs : List Nat} {c : Expr}
theorem PTs.weak {ifs : List Expr} {t t' : TT} (h : PTs X ifs t) (i : ∀ σ H Q, t' σ H Q → t σ H Q) : PTs X ifs t' := ⟨fun pins s σ H Q I q => h.run pins s σ H Q I (i σ H Q q)⟩
theorem zts_nil : PTs X [] (liftB C zYes) := PTs.weak pts_nil fun σ H Q ⟨W, δ, tv, τ, QQ, g, h, k⟩ => k true H W δ g h
theorem zts_one (h : PT X c (liftB C tt)) : PTs X [c] (liftB C tt) := pts_one h
theorem lift_lc : ∀ σ H Q, lift C (zLc zi vs zt tt te) σ H Q → tLc (liftI C zi) (liftG C vs zt) (liftB C tt) (lift C te) vs σ H Q := fun σ H Q ⟨W, δ, tv, τ, QQ, g, h, k⟩ => by
  refine ⟨W, δ, tv, τ, _, g, h, fun J H1 W1 δ1 hv hr ds un g1 hlen hheld hw hun ⟨hk, h1⟩ D hD => ?_⟩
  have hj : junkS vs (hr ++ τ) = hr ++ junkS vs τ := by rw [junk_append, junk_held hheld]
  have sfe : Sfe vs (hr ++ junkS vs τ) := by rw [← hj]; exact junk_sfe
  have g2 := (g1.newLst (xs := []) (ds := []) hD .nil).wiped hk
  have g2 : Gd C (W1.owns D (.tmp (hr ++ τ).length)) (upd H1 D (.lst [])) (wipe σ vs) (wipeD δ1 vs) (.ref D :: (hv ++ tv)) (.own (.list []) :: junkS vs (hr ++ τ)) := g2
  rw [hj] at g2
  generalize hQQ : (fun acc δ2 => QQ (.own (.list acc)) (un (wipeD δ2 vs))) = QL at h1
  refine ⟨fun i m H' => m = ds.length - i ∧ i ≤ ds.length ∧ ∃ W' δ' acc, Gd C W' H' (wipe σ vs) δ' (.ref D :: (hv ++ tv)) (.own (.list acc) :: (hr ++ junkS vs τ)) ∧ zLcL vs zt tt te (ds.drop i) acc δ' QL, ⟨_, rfl, Nat.zero_le _, _, _, [], g2, h1⟩, ?_⟩
  rintro i m H' ⟨rfl, hi, W', δ', acc, g', h'⟩
  by_cases hlt : i < ds.length
  · have e : ds[i]? = some ds[i] := List.getElem?_eq_getElem hlt
    obtain ⟨go, yl⟩ := hw.go (av := [.ref D]) (ar := [.own (.list acc)]) rfl g' e
    rw [List.drop_eq_getElem_cons hlt] at h'
    refine .inr ⟨go, fun H2 => ∃ W2 δ2 acc, Gd C W2 H2 (wipe σ vs) δ2 (.ref D :: (hv ++ tv)) (.own (.list acc) :: (hr ++ junkS vs τ)) ∧ zLcL vs zt tt te (ds.drop (i + 1)) acc δ2 QL, fun H2 h2 => ⟨ds.length - (i + 1), by omega, rfl, hlt, h2⟩, fun x H2 hy => ?_⟩
    have back : ∀ {W3 : Wd} {H3 : Hp} {σ3 : L2.St} {δ3 : Sto} {acc : List Z.D}, wipe σ3 vs = wipe σ vs → noLck δ3 vs = true → Gd C W3 H3 σ3 δ3 (.ref D :: (hv ++ tv)) (.own (.list acc) :: (hr ++ junkS vs τ)) → Gd C W3 H3 (wipe σ vs) (wipeD δ3 vs) (.ref D :: (hv ++ tv)) (.own (.list acc) :: (hr ++ junkS vs τ)) := fun {W3 H3 σ3 δ3 acc} ew hk3 g3 => by
      have g4 := g3.wiped hk3
      have e : junkS vs (.own (.list acc) :: (hr ++ junkS vs τ)) = .own (.list acc) :: (hr ++ junkS vs τ) := by
        show RV.own (.list acc) :: junkS vs (hr ++ junkS vs τ) = _
        rw [junk_append, junk_held hheld, junk_idem]
      rw [e, ew] at g4
      exact g4
    refine ⟨W', δ', .ref D :: (hv ++ tv), .own (.list acc) :: (hr ++ junkS vs τ), ds[i], _, yl x H2 hy, fun j m => ?_, h', fun σ3 H3 W3 δ3 g3 ew h3 => ?_⟩
    · rcases List.mem_cons.mp m with m | m
      · cases m
      · exact sfe j m
    have ew : wipe σ3 vs = wipe σ vs := by rw [ew, wipe_idem]
    refine ⟨ew, W3, δ3, _, _, _, g3, h3, fun b H4 W4 δ4 g4 h4 => ?_⟩
    cases b with
    | false =>
      obtain ⟨hk4, h4⟩ := h4
      exact ⟨W4, _, acc, back ew hk4 g4, h4⟩
    | true =>
      refine ⟨W4, δ4, _, _, _, g4, h4, fun y H5 W5 r δ5 g5 h5 => ?_⟩
      obtain ⟨W6, d, δ6, g6, hlen6, hk6, h6⟩ := g5.settle h5
      obtain ⟨xs, q1, q2, g7⟩ := g6.appTmp
      exact ⟨xs, q1, by rw [line_eq, q2]; exact hlen6, W6, _, acc ++ [d], back ew hk6 g7, h6⟩
  · have e : i = ds.length := by omega
    subst e
    rw [List.drop_length] at h'
    refine .inl ⟨hw.stop (av := [.ref D]) (ar := [.own (.list acc)]) rfl g', ?_⟩
    have h' : QL acc δ' := h'
    rw [← hQQ] at h'
    obtain ⟨a', ea, ha, ho⟩ := g'.temps.1
    cases ea
    have g3 := g'.pop
    rw [← hj] at g3
    have g4 := hun (g1.unwiped hk g3)
    exact k _ H' _ _ _ (g4.reownTop ha (by simp [junkS]) ho) h'
theorem pz_lc {ifs : List Expr} {scope : Scope} {own : List (Str × Nat)} (hc : X.calm = true) (hN : X.N.Nodup) (hi : PI X tg iter (liftI C zi)) (ok : BlkOk X.N X.env.scope scope own)
    (hg : ∀ (s : Shared) (H : Hp) (A : Addr) (cl : List (Str × Addr)) (fp : List Addr), PG (X.blk s H scope (compEnvC scope cl A X.env) fp) tg (liftG C (own.map (·.2)) zt)) (ht : ∀ (s : Shared) (H : Hp) (A : Addr) (cl : List (Str × Addr)) (fp : List Addr), PTs (X.blk s H scope (compEnvC scope cl A X.env) fp) ifs (liftB C tt))
    (he : ∀ (s : Shared) (H : Hp) (A : Addr) (cl : List (Str × Addr)) (fp : List Addr), PE (X.blk s H scope (compEnvC scope cl A X.env) fp) elt (lift C te)) (hs : ∀ x, foldedSetIterable iter X.env x = pure x) :
    PE X (.ListComp elt [⟨tg, iter, ifs, 0⟩] scope pos) (lift C (zLc zi (own.map (·.2)) zt tt te)) := PE.weak (pe_lc hc hN hi ok hg ht he hs) lift_lc
theorem zs_setLc {i : Nat} {y : Str} {py spos : Pos} {ifs : List Expr} {scope : Scope} {own : List (Str × Nat)} (hc : X.calm = true) (hN : X.N.Nodup) (hy : X.N[i]? = some y) (hyl : X.env.scope.names.lookup y = some .local)
    (hsw : swapsWith (.ListComp elt [⟨tg, iter, ifs, 0⟩] scope pos) (some (.Name y py)) spos.line X.env = pure true) (hi : PI X tg iter (liftI C zi)) (ok : BlkOk X.N X.env.scope scope own)
    (hg : ∀ (s : Shared) (H : Hp) (A : Addr) (cl : List (Str × Addr)) (fp : List Addr), PG (X.blk s H scope (compEnvC scope cl A X.env) fp) tg (liftG C (own.map (·.2)) zt)) (ht : ∀ (s : Shared) (H : Hp) (A : Addr) (cl : List (Str × Addr)) (fp : List Addr), PTs (X.blk s H scope (compEnvC scope cl A X.env) fp) ifs (liftB C tt))
    (he : ∀ (s : Shared) (H : Hp) (A : Addr) (cl : List (Str × Addr)) (fp : List Addr), PE (X.blk s H scope (compEnvC scope cl A X.env) fp) elt (lift C te)) (hs : ∀ x, foldedSetIterable iter X.env x = pure x) :
    PS X (.Assign [.Name y py] (.ListComp elt [⟨tg, iter, ifs, 0⟩] scope pos) spos) (liftS C (zSet i (zLc zi (own.map (·.2)) zt tt te))) :=
  PS.weak (ps_setLc hc hN hy hyl hsw hi ok hg ht he hs) fun D σ H ⟨W, δ, tv, τ, E, g, hcal, h, k⟩ => by
    refine lift_lc σ H _ ⟨W, δ, tv, τ, _, g, h, fun v H1 W1 r δ1 g1 h1 => ?_⟩
    obtain ⟨W2, r', δ2, g2, hr, hi', hk, q⟩ := g1.unal h1
    obtain ⟨W3, g3⟩ := g2.store hr (fun j m => fun z => hcal.sfe [i] j m (by rw [z]; exact List.mem_cons_self)) hi' hk
    exact k.nx _ H1 W3 _ g3 q
end
end Z
end
section
set_option Elab.async false
set_option linter.all false
set_option maxRecDepth 100000
/-! Subscripts, slices, methods, ranges as values. -/
namespace Z
open PySem PySem.Spec L2
section
variable {X : Cx} {C : Cn} {e a b c o : Expr} {es : List Expr} {pos p : Pos} {t ta tb tc : ZT} {x : Str}

/-! ### a[i] -/
def fIx : F2
  | .list ds, .int i, Q => ∃ d, atI ds i = some d ∧ Q (.val d)
  | .tuple ds, .int i, Q => ∃ d, atI ds i = some d ∧ Q (.val d)
  | .str z, .int i, Q => z.length ≤ lineN ∧ ∃ ch, atI z.cps.toList i = some ch ∧ Q (.val (.str ⟨#[ch]⟩))
  | .dict kvs, d, Q => DKey d kvs ∧ ∃ e, look kvs d = some e ∧ Q (.val e)
  | _, _, _ => False
theorem RepL.at {K : Kw} {F : Addr → Prop} {H : Hp} {xs : List V} {ds : List D} {i : Int} {d : D} (h : RepL K F H xs ds) (e : atI ds i = some d) : ∃ v, atI xs i = some v ∧ Rep K F H v d := by
  unfold atI at e ⊢
  rw [h.length]
  cases q : ixN ds.length i with
  | none => rw [q] at e; cases e
  | some j =>
    rw [q] at e
    exact h.get e
def rIxZ (K : Kw) : R2 := fun x y H Q => rIx K.K x y H Q ∨ rIxD K x y H Q
theorem od_ix : OpD C (rIxZ C.K) fIx := by
  intro W H σ δ v y a b tv τ QQ Q g ha hb hf k
  cases a with
  | str z =>
    cases b with
    | int i =>
      obtain ⟨h1, ch, h2, h3⟩ := hf
      exact .inl (.inr (.inr ⟨z, i, ch, brs_str ha, brs_int hb, by rw [line_eq]; exact h1, h2, k _ H W _ (g.push (r := .val (.str _)) (.str _)) h3⟩))
    | _ => exact hf.elim
  | list ds =>
    cases b with
    | int i =>
      obtain ⟨p, xs, rfl, h1, h2⟩ := ha
      obtain ⟨d, h3, h4⟩ := hf
      obtain ⟨u, h5, h6⟩ := h2.at h3
      exact .inl (.inl ⟨p, xs, i, u, rfl, brs_int hb, .inl (.inl h1), h5, k _ H W (.val d) (g.push (r := .val d) h6) h4⟩)
    | _ => exact hf.elim
  | tuple ds =>
    cases b with
    | int i =>
      obtain ⟨p, xs, rfl, h1, h2⟩ := Rep.tup_of ha
      obtain ⟨d, h3, h4⟩ := hf
      obtain ⟨u, h5, h6⟩ := h2.at h3
      exact .inl (.inr (.inl ⟨p, xs, i, u, rfl, brs_int hb, h1.sqT, h5, k _ H W (.val d) (g.push (r := .val d) h6) h4⟩))
    | _ => exact hf.elim
  | dict kvs =>
    obtain ⟨h1, e, h3, h4⟩ := hf
    obtain ⟨p, ks, rfl, h5, h6⟩ := ha
    obtain ⟨u, h7, h8⟩ := repK_look h6 e h3
    exact .inr ⟨p, ks, b, u, rfl, h5, repK_tu h6 h1, brs_key hb h1, h7, k _ H W (.val e) (g.push (r := .val e) h8) h4⟩
  | _ => exact hf.elim
theorem ix_all (hu : X.A.units + 65 < cLine) : IxR X (rIxZ ⟨X.K, X.w⟩) := ix_seq.or (ix_dicT hu)
theorem pz_ix (hK : (⟨X.K, X.w⟩ : Kw) = C.K) (hu : X.A.units + 65 < cLine) (ha : PE X a (lift C ta)) (hb : PE X b (lift C tb)) (hs : PlainIx b) : PE X (.Subscript a b pos) (lift C (zD2 fIx ta tb)) := by
  have h := ix_all (X := X) hu
  rw [hK] at h
  exact PE.weak (pe_ix h ha hb hs) (lift_op od_ix)

/-! ### a[lo:hi] -/
abbrev ZO := Sto → (Option Int → Sto → Prop) → Prop
def liftO (C : Cn) (z : ZO) : TO := fun σ H Q => ∃ W δ tv τ QQ, Gd C W H σ δ tv τ ∧ z δ QQ ∧ ∀ i H' W' δ', Gd C W' H' σ δ' tv τ → QQ i δ' → Q i H'
def zO0 : ZO := fun δ Q => Q none δ
def zO1 (t : ZT) : ZO := fun δ Q => t δ fun r δ1 => match con δ1 r with
  | some (.int i) => Q (some i) δ1
  | _ => False
theorem PO.weak {e : Option Expr} {t t' : TO} (h : PO X e t) (i : ∀ σ H Q, t' σ H Q → t σ H Q) : PO X e t' := ⟨fun pins s σ H Q I q => h.run pins s σ H Q I (i σ H Q q)⟩
theorem zo_none : PO X none (liftO C zO0) := PO.weak po_none fun σ H Q ⟨W, δ, tv, τ, QQ, g, h, k⟩ => k none H W δ g h
theorem zo_some (h : PE X e (lift C t)) : PO X (some e) (liftO C (zO1 t)) := PO.weak (po_some h) fun σ H Q ⟨W, δ, tv, τ, QQ, g, h, k⟩ => ⟨W, δ, tv, τ, _, g, h, fun v H1 W1 r δ1 g1 h1 => by
  cases e : con δ1 r with
  | none => simp only [e] at h1
  | some d =>
    simp only [e] at h1
    cases d <;> try exact h1.elim
    rename_i i
    exact ⟨i, brs_int (g1.brs e), k (some i) H1 W1 δ1 g1.pop h1⟩⟩
def cutD (ds : List D) (lo hi : Option Int) : List D := (ds.drop (HT.sIx ds.length 0 lo)).take (HT.sIx ds.length ds.length hi - HT.sIx ds.length 0 lo)
theorem RepL.cut {K : Kw} {F : Addr → Prop} {H : Hp} {xs : List V} {ds : List D} (h : RepL K F H xs ds) (lo hi : Option Int) : RepL K F H (cutV xs lo hi) (cutD ds lo hi) := by
  unfold cutV cutD
  rw [h.length]
  exact (h.drop _).take _
def fSl (d : D) (lo hi : Option Int) (Q : RV → Prop) : Prop := match d with
  | .list ds => Q (.own (.list (cutD ds lo hi)))
  | .tuple ds => Q (.val (.tuple (cutD ds lo hi)))
  | _ => False
def zSl (t : ZT) (l h : ZO) : ZT := fun δ Q => t δ fun r δ1 => l δ1 fun lo δ2 => h δ2 fun hi δ3 => match con δ3 r with
  | some d => fSl d lo hi fun r' => Q r' δ3
  | none => False
theorem cut_whole {α : Type} {xs : List α} {lo hi : Option Int} (h : HT.sIx xs.length 0 lo = 0 ∧ HT.sIx xs.length xs.length hi = xs.length) : (xs.drop (HT.sIx xs.length 0 lo)).take (HT.sIx xs.length xs.length hi - HT.sIx xs.length 0 lo) = xs := by
  rw [h.1, h.2, List.drop_zero, Nat.sub_zero, List.take_length]
theorem pz_sl {lo hi : Option Expr} {zl zh : ZO} {p2 : Pos} (hK : C.K.K = X.K) (he : PE X e (lift C t)) (hl : PO X lo (liftO C zl)) (hh : PO X hi (liftO C zh)) : PE X (.Subscript e (.Slice lo hi none p2) pos) (lift C (zSl t zl zh)) := by
  refine PE.weak (pe_slice (sl_list.or sl_tupO) he hl hh) fun σ H Q ⟨W, δ, tv, τ, QQ, g, h, k⟩ => ⟨W, δ, tv, τ, _, g, h, fun v H1 W1 r δ1 g1 h1 => ⟨W1, δ1, v :: tv, r :: τ, _, g1, h1, fun i H2 W2 δ2 g2 h2 => ⟨W2, δ2, v :: tv, r :: τ, _, g2, h2, fun j H3 W3 δ3 g3 h3 => ?_⟩⟩⟩
  cases ec : con δ3 r with
  | none => simp only [ec] at h3
  | some d =>
    simp only [ec] at h3
    have hb := g3.brs ec
    cases d <;> try exact h3.elim
    · rename_i ds
      obtain ⟨q, xs, rfl, q1, q2⟩ := hb
      exact .inl ⟨q, xs, rfl, .inl (.inl q1), fun p hp => k _ _ _ _ δ3 (g3.pop.newLst hp (q2.cut i j)) h3⟩
    · rename_i ds
      obtain ⟨q, xs, rfl, q1, q2⟩ := Rep.tup_of hb
      have q1' := q1
      rw [hK] at q1'
      refine .inr ⟨q, xs, rfl, q1'.sqT, fun hw => ?_, fun _ p ob hp ho => k _ _ _ _ δ3 (g3.pop.newTup hp ho (q2.cut i j)) h3⟩
      have e : cutD ds i j = ds := by
        unfold cutD
        rw [← q2.length]
        rw [q2.length] at hw ⊢
        exact cut_whole hw
      refine k _ H3 W3 (.val (.tuple ds)) δ3 (g3.under (r' := .val (.tuple ds)) (.tup q1 q2)) ?_
      have h4 : QQ (.val (.tuple (cutD ds i j))) δ3 := h3
      rw [e] at h4
      exact h4

/-! ### list(range(..)), tuple(range(..)) -/
def liftR (C : Cn) (z : Sto → (Int → Int → Sto → Prop) → Prop) : L2.St → Hp → (Int → Int → Hp → Prop) → Prop := fun σ H Q => ∃ W δ tv τ QQ, Gd C W H σ δ tv τ ∧ z δ QQ ∧ ∀ i j H' W' δ', Gd C W' H' σ δ' tv τ → QQ i j δ' → Q i j H'
theorem PRg.weak {t t' : L2.St → Hp → (Int → Int → Hp → Prop) → Prop} (h : PRg X e t) (i : ∀ σ H Q, t' σ H Q → t σ H Q) : PRg X e t' := fun pins s σ H Q I q => h pins s σ H Q I (i σ H Q q)
def zR1 (t : ZT) : Sto → (Int → Int → Sto → Prop) → Prop := fun δ Q => t δ fun r δ1 => match con δ1 r with
  | some (.int n) => Q 0 n δ1
  | _ => False
def zR2 (ta tb : ZT) : Sto → (Int → Int → Sto → Prop) → Prop := fun δ Q => ta δ fun ra δ1 => match con δ1 ra with
  | some (.int m) => tb δ1 fun rb δ2 => match con δ2 rb with
    | some (.int n) => Q m n δ2
    | _ => False
  | _ => False
theorem zr_1 (hg : Gl X "range") (hm : X.mg "range" = none) (ha : PE X a (lift C ta)) (hs : noStar a = true) : PRg X (.Call (.Name "range" p) [a] [] pos) (liftR C (zR1 ta)) :=
  PRg.weak (prg_1 hg hm ha (star_cons hs)) fun σ H Q ⟨W, δ, tv, τ, QQ, g, h, k⟩ => ⟨W, δ, tv, τ, _, g, h, fun v H1 W1 r δ1 g1 h1 => by
    cases e : con δ1 r with
    | none => simp only [e] at h1
    | some d =>
      simp only [e] at h1
      cases d <;> try exact h1.elim
      rename_i i
      exact ⟨i, brs_int (g1.brs e), k 0 i H1 W1 δ1 g1.pop h1⟩⟩
theorem zr_2 (hg : Gl X "range") (hm : X.mg "range" = none) (ha : PE X a (lift C ta)) (hb : PE X b (lift C tb)) (hst : [a, b].all noStar = true) : PRg X (.Call (.Name "range" p) [a, b] [] pos) (liftR C (zR2 ta tb)) := by
  have hs := hst
  rw [List.all_cons, Bool.and_eq_true] at hs
  have hs2 := hs.2
  rw [List.all_cons, Bool.and_eq_true] at hs2
  refine PRg.weak (prg_2 hg hm ha hb (star_cons hs.1) (star_cons hs2.1) (star_any hs.2)) fun σ H Q ⟨W, δ, tv, τ, QQ, g, h, k⟩ => ⟨W, δ, tv, τ, _, g, h, fun v H1 W1 r δ1 g1 h1 => ?_⟩
  cases e : con δ1 r with
  | none => simp only [e] at h1
  | some d =>
    simp only [e] at h1
    cases d <;> try exact h1.elim
    rename_i i
    have hv := brs_int (g1.brs e)
    refine ⟨W1, δ1, tv, τ, _, g1.pop, h1, fun u H2 W2 r2 δ2 g2 h2 => ?_⟩
    cases e2 : con δ2 r2 with
    | none => simp only [e2] at h2
    | some d2 =>
      simp only [e2] at h2
      cases d2 <;> try exact h2.elim
      rename_i j
      exact ⟨i, j, hv, brs_int (g2.brs e2), k i j H2 W2 δ2 g2.pop h2⟩
def rgDs (a b : Int) : List D := (List.range (b - a).toNat).map fun (i : Nat) => .int (a + (i : Int))
theorem rgDs_rep {K : Kw} {F : Addr → Prop} {H : Hp} {a b : Int} : RepL K F H (rgV a b) (rgDs a b) := by
  unfold rgV rgDs
  generalize List.range (b - a).toNat = l
  induction l with
  | nil => exact .nil
  | cons i l ih => exact .cons (.int _) ih
def RgS (a b : Int) : Prop := rgB a ∧ rgB b ∧ (b - a).toNat ≤ lineN
theorem RgS.ok {a b : Int} (h : RgS a b) : RgOk a b := ⟨h.1.1, h.1.2, h.2.1.1, h.2.1.2, h.2.2⟩
def zLstR (z : Sto → (Int → Int → Sto → Prop) → Prop) : ZT := fun δ Q => z δ fun a b δ1 => RgS a b ∧ Q (.own (.list (rgDs a b))) δ1
def zTupR (z : Sto → (Int → Int → Sto → Prop) → Prop) : ZT := fun δ Q => z δ fun a b δ1 => RgS a b ∧ Q (.val (.tuple (rgDs a b))) δ1
theorem pz_lstR {z : Sto → (Int → Int → Sto → Prop) → Prop} (hc : X.calm = true) (hg : Gl X "list") (hm : X.mg "list" = none) (he : PRg X e (liftR C z)) (hs : noStar e = true) : PE X (.Call (.Name "list" p) [e] [] pos) (lift C (zLstR z)) :=
  PE.weak (pe_listRg hc hg hm he (star_cons hs)) fun σ H Q ⟨W, δ, tv, τ, QQ, g, h, k⟩ => ⟨W, δ, tv, τ, _, g, h, fun i j H1 W1 δ1 g1 h1 => ⟨h1.1.ok, fun q hq => k _ _ _ _ δ1 (g1.newLst hq rgDs_rep) h1.2⟩⟩
theorem pz_tupR {z : Sto → (Int → Int → Sto → Prop) → Prop} (hc : X.calm = true) (hg : Gl X "tuple") (hm : X.mg "tuple" = none) (he : PRg X e (liftR C z)) (hs : noStar e = true) : PE X (.Call (.Name "tuple" p) [e] [] pos) (lift C (zTupR z)) :=
  PE.weak (pe_tupRgO hc hg hm he (star_cons hs)) fun σ H Q ⟨W, δ, tv, τ, QQ, g, h, k⟩ => ⟨W, δ, tv, τ, _, g, h, fun i j H1 W1 δ1 g1 h1 => ⟨h1.1.ok, fun q o hq ho => k _ _ _ _ δ1 (g1.newTup hq ho rgDs_rep) h1.2⟩⟩

/-! ### a[i] = v, in a slot's own list -/
def zSub (te to ti : ZT) : ZS := fun E δ => te δ fun r δ1 => zSettle r δ1 fun d δ2 => to δ2 fun ro δ3 => ti δ3 fun ri δ4 => match ro, con δ4 ri with
  | .slot j, some x => (match δ4[j]?, x with
    | some (some (.own (.list ds))), .int i => ∃ n, ixN ds.length i = some n ∧ E.nx (δ4.set j (some (.own (.list (ds.set n d)))))
    | some (some (.own (.dict kvs))), x => DKey x kvs ∧ kvs.length < lineN ∧ E.nx (δ4.set j (some (.own (.dict (dput kvs x d)))))
    | _, _ => False)
  | _, _ => False
theorem PSet.or {t t' : TSet} (h : PSet X t) (h' : PSet X t') : PSet X (fun o i v H Q => t o i v H Q ∨ t' o i v H Q) := by
  intro pins s σ H o i v ov iv u Q I ro ri rv q
  rcases q with q | q
  · exact h pins s σ H o i v ov iv u Q I ro ri rv q
  · exact h' pins s σ H o i v ov iv u Q I ro ri rv q
def rSetZ (K : Kw) : TSet := fun o i v H Q => rSetL o i v H Q ∨ rSetD K o i v H Q
theorem set_all (hu : X.A.units + 65 < cLine) : PSet X (rSetZ ⟨X.K, X.w⟩) := PSet.or set_list (set_dicT hu)
theorem zs_sub {p2 : Pos} (hK : (⟨X.K, X.w⟩ : Kw) = C.K) (hu : X.A.units + 65 < cLine) (he : PE X e (lift C t)) (ho : PE X o (lift C ta)) (hi : PE X a (lift C tb)) (hs : swapsWithSole [.Subscript o a p2] e pos.line X.env = pure false) (hw : swappedStores [.Subscript o a p2] e X.env = pure none) (h1 : (assignEach [.Subscript o a p2] X.env).map (·.2) = [assign (.Subscript o a p2) X.env])
    (ha : ∀ v, assign (.Subscript o a p2) X.env v = (do
      let ov ← holding [v] (eval o X.env)
      let iv ← holding [v, ov] (eval a X.env)
      standAt p2
      holding [v, ov, iv] (setItem ov iv v)
      release [v, ov, iv] [])) :
    PS X (.Assign [.Subscript o a p2] e pos) (liftS C (zSub t ta tb)) := by
  have hset := set_all (X := X) hu
  rw [hK] at hset
  exact PS.weak (ps_asg he (pg_sub ho hi hset ha) hs hw h1) fun D σ H ⟨W, δ, tv, τ, E, g, hc, h, k⟩ => ⟨W, δ, tv, τ, _, g, h, fun v H1 W1 r δ1 g1 q1 => by
    obtain ⟨W2, d, δ2, g2, q2⟩ := g1.settle q1
    refine ⟨W2, δ2, v :: tv, .val d :: τ, _, g2, q2, fun vo H3 W3 ro δ3 g3 q3 => ⟨W3, δ3, vo :: v :: tv, ro :: .val d :: τ, _, g3, q3, fun vi H4 W4 ri δ4 g4 q4 => ?_⟩⟩
    cases ro with
    | slot j =>
      cases ei : con δ4 ri with
      | none => simp only [ei] at q4
      | some di =>
        simp only [ei] at q4
        cases ej : δ4[j]? with
        | none => simp only [ej] at q4
        | some oo =>
          simp only [ej] at q4
          have hvo : σ[j]? = some (some vo) := g4.temps.2.1
          split at q4
          · rename_i ds i heq
            cases heq
            have hvi := brs_int (g4.brs ei)
            obtain ⟨n, hn, q5⟩ := q4
            obtain ⟨l, xs, hv, ho', hl, hr, wr⟩ := g4.own_lst ej
            rw [hv] at hvo
            have e : V.ref l = vo := Option.some.inj (Option.some.inj hvo)
            subst e
            have g5 := wr (xs.set n v) (ds.set n d) (hr.set n g4.temps.2.2.1)
            exact .inl ⟨l, xs, i, n, rfl, hvi, hl, by rw [hr.length]; exact hn, k.nx σ _ W4 _ g5.pop.pop.pop q5⟩
          · rename_i kvs x heq
            cases heq
            obtain ⟨h1, h3, q5⟩ := q4
            obtain ⟨l, ks, hv, ho', hl, hr, wr⟩ := g4.own_dic ej
            rw [hv] at hvo
            have e : V.ref l = vo := Option.some.inj (Option.some.inj hvo)
            subst e
            refine .inr ⟨l, ks, _, rfl, hl, repK_tu hr h1, brs_key (g4.brs ei) h1, by rw [hr.length]; exact h3, fun es ep hp hn => ?_⟩
            have g5 := wr es ep _ _ hp hn (repK_put g4.temps.2.2.1 hr)
            exact k.nx σ _ W4 _ g5.pop.pop.pop q5
          · exact q4.elim
    | _ => exact q4.elim⟩
end
end Z
end
section
set_option Elab.async false
set_option linter.all false
set_option maxRecDepth 100000
/-! Methods. -/
namespace Z
open PySem PySem.Spec L2
def kdOf : D → Nat
  | .list _ => 0
  | .tuple _ => 1
  | .str _ => 2
  | .dict _ => 3
  | _ => 9
structure Ms where
  kd : Nat
  hand : Hand
  f : RV → List RV → Sto → (RV → Sto → Prop) → Prop
def zMeth (ms : List Ms) (to : ZT) (ts : List ZT) : ZT := fun δ Q => to δ fun r δ1 => match con δ1 r with
  | none => False
  | some d => match ms.find? fun m => m.kd == kdOf d with
    | none => False
    | some m => zArgs m.hand ts δ1 fun rs δ2 => m.f r rs δ2 Q
/-- where ty holds: a plain object of the type T -/
def TyI (X : Cx) (T : String) (ty : V → Hp → Prop) : Prop := ∀ (pins : List (Addr × Obj)) (σ : L2.St) (H : Hp) (s : Shared) (x : V) (v : Value), Inv X pins σ H s → RelV x v → ty x H →
  s.TypeIs v T ∧ ∀ a, v = .ref a → ∃ ob, s.heap.get? a = some ob ∧ ob.dict = none
structure MsOk (X : Cx) (C : Cn) (name : Str) (m : Ms) : Prop where
  ex : ∃ (T id : String) (ty : V → Hp → Prop) (r : V → List V → Hp → VK → Prop) (P : RV → Prop), PlainAttrs T ∧ Slot T name id ∧ typeOf (.builtin id) = pure (.type "method_descriptor") ∧ TyI X T ty ∧ MtR X id r ∧ HandOk C m.hand P ∧
    (∀ {W : Wd} {H : Hp} {v : V} {d : D}, Brs C.K W.F H v d → kdOf d = m.kd → ty v H) ∧
    ∀ {W : Wd} {H : Hp} {σ : L2.St} {δ : Sto} {x : V} {us tv : List V} {rx : RV} {rs τ : List RV} {Q : VK} {QQ : RV → Sto → Prop}, Gd C W H σ δ (us.reverse ++ (x :: tv)) (rs.reverse ++ (rx :: τ)) → us.length = rs.length → (∀ r ∈ rs, P r) → m.f rx rs δ QQ →
      (∀ u H' W' r' δ', Gd C W' H' σ δ' (u :: tv) (r' :: τ) → QQ r' δ' → Q u H') → r x us H Q
section
variable {X : Cx} {C : Cn} {o : Expr} {es : List Expr} {cpos apos : Pos} {to : ZT} {ev : Expr → ZT} {name : Str} {ms : List Ms}
theorem pz_meth (hm : ∀ m ∈ ms, MsOk X C name m) (ho : PE X o (lift C to)) (ha : ∀ e ∈ es, PE X e (lift C (ev e))) (hst : es.all noStar = true) (hlen : es.length < 30) (hline : (apos.endLine == cpos.line) = true) (hbase : attributeBase o name X.env (eval o X.env) = eval o X.env) :
    PE X (.Call (.Attribute o name apos) es [] cpos) (lift C (zMeth ms to (es.map ev))) := by
  refine ⟨fun pins s σ H Q I ⟨W, δ, tv, τ, QQ, g, h, k⟩ => ?_⟩
  have rcv := ho.run pins s σ H (fun v H1 => ∃ W1 r δ1 m, Gd C W1 H1 σ δ1 (v :: tv) (r :: τ) ∧ m ∈ ms ∧ (∃ d, con δ1 r = some d ∧ kdOf d = m.kd) ∧ zArgs m.hand (es.map ev) δ1 fun rs δ2 => m.f r rs δ2 QQ) I ⟨W, δ, tv, τ, _, g, h, fun v H1 W1 r δ1 g1 h1 => by
    cases e : con δ1 r with
    | none => simp only [e] at h1
    | some d =>
      simp only [e] at h1
      cases e2 : ms.find? fun m => m.kd == kdOf d with
      | none => simp only [e2] at h1
      | some m =>
        simp only [e2] at h1
        exact ⟨W1, r, δ1, m, g1, List.mem_of_find?_eq_some e2, ⟨d, e, (eq_of_beq (List.find?_some (p := fun m : Ms => m.kd == kdOf d) e2)).symm⟩, h1⟩⟩
  cases es with
  | nil =>
    refine wpAny_Call_method0_late hbase hline (thn rcv fun v s1 ⟨x, H1, I1, rv, W1, r, δ1, m, g1, mm, ⟨d, ec, ek⟩, h1⟩ => ?_)
    obtain ⟨T, id, ty, rr, P, pa, slot, td, hty, mt, hand, h2, h3⟩ := (hm m mm).ex
    obtain ⟨t1, t2⟩ := hty _ _ _ _ _ _ I1 rv (h2 (g1.brs ec) ek)
    exact ⟨T, id, pa, slot, td, t1, t2, Calls.callWith_builtin rfl (PySem.evalArgs_none (mt pins s1 σ H1 x [] v [] Q I1 rv .nil (h3 (us := []) (rs := []) g1 rfl (fun _ m => nomatch m) h1 k)))⟩
  | cons e es =>
    have hfew : ((backTo cpos (starEach (e :: es) X.env)).all (fun x => !x.1) && (backToKw cpos (keywordEach [] X.env)).all (fun x => x.1.isSome) && decide ((e :: es).length + ([] : List Keyword).length + (if ([] : List Keyword).isEmpty then 0 else 1) < 30)) = true := by
      have h1 := star_any (env := X.env) (pos := cpos) hst
      have h2 : (backTo cpos (starEach (e :: es) X.env)).all (fun x => !x.1) = true := by
        rw [List.all_eq_not_any_not]
        simp only [Bool.not_not]
        rw [h1]; rfl
      rw [h2]
      show (true && true && decide ((e :: es).length + 0 + 0 < 30)) = true
      rw [Bool.true_and, Bool.true_and]
      exact decide_eq_true (by omega)
    have hs := hst
    rw [List.all_cons, Bool.and_eq_true] at hs
    refine wpAny_Call_method_late hbase hfew hline rfl (thn rcv fun v s1 ⟨x, H1, I1, rv, W1, r, δ1, m, g1, mm, ⟨d, ec, ek⟩, h1⟩ => ?_)
    obtain ⟨T, id, ty, rr, P, pa, slot, td, hty, mt, hand, h2, h3⟩ := (hm m mm).ex
    obtain ⟨t1, t2⟩ := hty _ _ _ _ _ _ I1 rv (h2 (g1.brs ec) ek)
    refine ⟨T, id, pa, slot, td, t1, t2, ?_⟩
    have hA := (pa_args hand ha hst).run cpos pins s1 σ H1 (fun us H2 => ∃ W2 rs δ2, Gd C W2 H2 σ δ2 (us.reverse ++ (x :: tv)) (rs.reverse ++ (r :: τ)) ∧ us.length = rs.length ∧ (∀ r ∈ rs, P r) ∧ m.f r rs δ2 QQ) I1 ⟨W1, δ1, x :: tv, r :: τ, _, g1, h1, fun us H2 W2 rs δ2 g2 hl _ hP h4 => ⟨W2, rs, δ2, g2, hl, hP, h4⟩⟩
    rw [star_cons hs.1] at hA ⊢
    refine Calls.callWith_builtin (by show (false || (backTo cpos (starEach es X.env)).any (·.1)) = false; rw [star_any hs.2]; rfl) (Calls.evalArgs_plain ?_)
    exact thn hA fun us s2 ⟨vs, H2, I2, r2, W2, rs, δ2, g2, hl, hP, q2⟩ => mt pins s2 σ H2 x vs v us Q I2 rv r2 (h3 g2 hl hP q2 k)
end

/-! ### the types -/
def tyL (K : PySem.W.Frag) (x : V) (H : Hp) : Prop := ∃ p xs, x = .ref p ∧ SqL K H p xs
def tyT (K : PySem.W.Frag) (x : V) (H : Hp) : Prop := ∃ p xs, x = .ref p ∧ TupO K H p xs
section
variable {X : Cx} {C : Cn}
theorem tyi_L : TyI X "list" (tyL X.K) := by
  rintro pins σ H s x v I r ⟨p, xs, rfl, h⟩
  cases r
  obtain ⟨its, _, pl, _⟩ := I.list h
  refine ⟨pl.isList.typeIs, fun a e => ?_⟩
  cases e
  obtain ⟨o, n, e, c, hd, _⟩ := pl
  exact ⟨o, e, hd⟩
theorem tyi_T : TyI X "tuple" (tyT X.K) := by
  rintro pins σ H s x v I r ⟨p, xs, rfl, h⟩
  cases r
  exact h.obj I
theorem ty_L (hK : C.K.K = X.K) {m : Nat} (hm : m = 0) {W : Wd} {H : Hp} {v : V} {d : D} (h : Brs C.K W.F H v d) (hk : kdOf d = m) : tyL X.K v H := by
  subst hm
  cases d <;> try cases hk
  obtain ⟨a, xs, rfl, h1, _⟩ := h
  exact ⟨a, xs, rfl, .inl (.inl h1)⟩
theorem ty_T (hK : C.K.K = X.K) {m : Nat} (hm : m = 1) {W : Wd} {H : Hp} {v : V} {d : D} (h : Brs C.K W.F H v d) (hk : kdOf d = m) : tyT X.K v H := by
  subst hm
  cases d <;> try cases hk
  obtain ⟨a, xs, rfl, h1, _⟩ := Rep.tup_of h
  rw [hK] at h1
  exact ⟨a, xs, rfl, h1⟩

/-! ### append, extend, pop, insert: the list of a slot -/
/-- the slot's own list is changed -/
def onLst (f : List RV → List D → (RV → List D → Prop) → Prop) : RV → List RV → Sto → (RV → Sto → Prop) → Prop := fun r rs δ Q => match r with
  | .slot j => (match δ[j]? with
    | some (some (.own (.list ds))) => f rs ds fun r' ds' => Q r' (δ.set j (some (.own (.list ds'))))
    | _ => False)
  | _ => False
theorem onLst_ok {f : List RV → List D → (RV → List D → Prop) → Prop} {rr : V → List V → Hp → VK → Prop} {P : RV → Prop}
    (h : ∀ {W : Wd} {H : Hp} {σ : L2.St} {δ : Sto} {us tv : List V} {rs τ : List RV} {a : Addr} {xs : List V} {ds : List D} {Q : VK} {Q1 : RV → List D → Prop}, Gd C W H σ δ (us.reverse ++ (.ref a :: tv)) (rs.reverse ++ τ) → us.length = rs.length → (∀ r ∈ rs, P r) → H a = some (.lst xs) → RepL C.K W.F H xs ds → f rs ds Q1 →
      (∀ u xs' r' ds', RepL C.K W.F H xs' ds' → (∀ (H' : Hp) (σ' : L2.St) (δ' : Sto) (tv' : List V) (τ' : List RV), Stab W.F H H' → Gd C W H' σ' δ' tv' τ' → Gd C W H' σ' δ' (u :: tv') (r' :: τ')) → Q1 r' ds' → Q u (upd H a (.lst xs'))) → rr (.ref a) us H Q)
    {W : Wd} {H : Hp} {σ : L2.St} {δ : Sto} {x : V} {us tv : List V} {rx : RV} {rs τ : List RV} {Q : VK} {QQ : RV → Sto → Prop} (g : Gd C W H σ δ (us.reverse ++ (x :: tv)) (rs.reverse ++ (rx :: τ))) (hl : us.length = rs.length) (hP : ∀ r ∈ rs, P r) (hf : onLst f rx rs δ QQ)
    (k : ∀ u H' W' r' δ', Gd C W' H' σ δ' (u :: tv) (r' :: τ) → QQ r' δ' → Q u H') : rr x us H Q := by
  unfold onLst at hf
  cases rx with
  | slot j =>
    simp only at hf
    split at hf
    · rename_i ds ej
      have g1 := g.popN (by simpa using hl)
      obtain ⟨l, xs, hv, ho', hL, hr, wr⟩ := g1.pop.own_lst ej
      have hvo : σ[j]? = some (some x) := g1.temps.1
      rw [hv] at hvo
      have e : V.ref l = x := Option.some.inj (Option.some.inj hvo)
      subst e
      refine h (τ := .slot j :: τ) g hl hP hL hr hf fun u xs' r' ds' hr' push q => ?_
      exact k u _ W r' _ (push _ _ _ _ _ (g1.stab_own ho') (wr xs' ds' hr')) q
    · exact hf.elim
  | _ => exact hf.elim
/-- a value that is data is put on the pile -/
theorem push_val {W : Wd} {H : Hp} {v : V} {d : D} (h : Rep C.K W.F H v d) : ∀ (H' : Hp) (σ' : L2.St) (δ' : Sto) (tv' : List V) (τ' : List RV), Stab W.F H H' → Gd C W H' σ' δ' tv' τ' → Gd C W H' σ' δ' (v :: tv') (.val d :: τ') :=
  fun H' σ' δ' tv' τ' st g => g.push (r := .val d) (show Rep C.K W.F H' v d from Rep.mono (fun _ h => h) st h)
def fAppend : List RV → List D → (RV → List D → Prop) → Prop := fun rs ds Q => match rs with
  | [.val d] => ds.length < lineN ∧ Q (.val .none) (ds ++ [d])
  | _ => False
def mAppend : Ms := ⟨0, zVal, onLst fAppend⟩
theorem ms_append (hK : C.K.K = X.K) : MsOk X C "append" mAppend :=
  ⟨"list", "list.append", tyL X.K, rAppend, _, F.plainAttrs_list, F.slot_list_append, F.type_list_append, tyi_L, mt_append, hand_val, ty_L hK rfl, onLst_ok (C := C) (f := fAppend) (P := RV.isVal) (rr := rAppend) (fun {W H σ δ us tv rs τ a xs ds Q Q1} g hl hP hH hr hf k => by
    unfold fAppend at hf
    split at hf
    · rename_i d
      match us, hl with
      | [u], _ =>
        exact ⟨a, xs, u, rfl, rfl, hH, by rw [line_eq, hr.length]; exact hf.1, k .non _ (.val .none) _ (hr.append (.cons g.temps.1 .nil)) (push_val .non) hf.2⟩
    · exact hf.elim)⟩
def fInsert : List RV → List D → (RV → List D → Prop) → Prop := fun rs ds Q => match rs with
  | [.val (.int i), .val d] => ds.length < lineN ∧ (0 ≤ i ∧ i < 9223372036854775808) ∧ Q (.val .none) (ds.take i.toNat ++ [d] ++ ds.drop i.toNat)
  | _ => False
def mInsert : Ms := ⟨0, zVal, onLst fInsert⟩
theorem ms_insert (hK : C.K.K = X.K) : MsOk X C "insert" mInsert :=
  ⟨"list", "list.insert", tyL X.K, _, _, F.plainAttrs_list, F.slot_list_insert, F.type_list_insert, tyi_L, mt_insert, hand_val, ty_L hK rfl, onLst_ok (C := C) (f := fInsert) (P := RV.isVal) (rr := (fun x vs H Q => ∃ (l : Addr) (xs : List V) (i : Int) (y : V), x = .ref l ∧ vs = [.int i, y] ∧ H l = some (.lst xs) ∧ xs.length < sizeLine ∧ 0 ≤ i ∧ i < 2 ^ 63 ∧ Q .non (upd H l (.lst (xs.take i.toNat ++ [y] ++ xs.drop i.toNat))))) (fun {W H σ δ us tv rs τ a xs ds Q Q1} g hl hP hH hr hf k => by
    unfold fInsert at hf
    split at hf
    · rename_i i d
      match us, hl with
      | [w, u], _ =>
        have g' : Gd C W H σ δ (u :: w :: .ref a :: tv) (.val d :: .val (.int i) :: τ) := g
        have hw := g'.pop.temps.1.int_of
        subst hw
        exact ⟨a, xs, i, u, rfl, rfl, hH, by rw [line_eq, hr.length]; exact hf.1, hf.2.1.1, hf.2.1.2, k .non _ (.val .none) _ (((hr.take _).append (.cons g'.temps.1 .nil)).append (hr.drop _)) (push_val .non) hf.2.2⟩
    · exact hf.elim)⟩
def fPop : List RV → List D → (RV → List D → Prop) → Prop := fun rs ds Q => match rs with
  | [] => ∃ d, ds[ds.length - 1]? = some d ∧ Q (.val d) ds.dropLast
  | [.val (.int i)] => ∃ k d, seqIndex? i ds.length = some k ∧ ds[k]? = some d ∧ (-9223372036854775808 ≤ i ∧ i < 9223372036854775808) ∧ Q (.val d) (ds.eraseIdx k)
  | _ => False
def mPop : Ms := ⟨0, zVal, onLst fPop⟩
theorem RepL.dropLast {K : Kw} {F : Addr → Prop} {H : Hp} {xs : List V} {ds : List D} (h : RepL K F H xs ds) : RepL K F H xs.dropLast ds.dropLast := by
  rw [List.dropLast_eq_take, List.dropLast_eq_take, h.length]
  exact h.take _
theorem ms_pop (hK : C.K.K = X.K) : MsOk X C "pop" mPop :=
  ⟨"list", "list.pop", tyL X.K, fun x vs H Q => rPop x vs H Q ∨ rPopAt x vs H Q, _, F.plainAttrs_list, F.slot_list_pop, F.type_list_pop, tyi_L, MtR.or mt_pop mt_popAt, hand_val, ty_L hK rfl, onLst_ok (C := C) (f := fPop) (P := RV.isVal) (rr := (fun x vs H Q => rPop x vs H Q ∨ rPopAt x vs H Q)) (fun {W H σ δ us tv rs τ a xs ds Q Q1} g hl hP hH hr hf k => by
    unfold fPop at hf
    split at hf
    · match us, hl with
      | [], _ =>
        obtain ⟨d, hd, q⟩ := hf
        rw [← hr.length] at hd
        obtain ⟨y, hy, hyr⟩ := hr.get hd
        exact .inl ⟨a, xs, y, rfl, rfl, hH, hy, k y _ (.val d) _ hr.dropLast (push_val hyr) q⟩
    · rename_i i
      match us, hl with
      | [u], _ =>
        obtain ⟨n, d, h1, h2, h3, q⟩ := hf
        have hw : u = .int i := (show Rep C.K W.F H u (.int i) from g.temps.1).int_of
        subst hw
        obtain ⟨y, hy, hyr⟩ := hr.get h2
        exact .inr ⟨a, xs, i, n, y, rfl, rfl, hH, h3.1, h3.2, by rw [hr.length]; exact h1, hy, k y _ (.val d) _ (hr.eraseIdx n) (push_val hyr) q⟩
    · exact hf.elim)⟩
theorem hand_keepT : HandOk C zKeep fun _ => True := hand_keep
/-- extend by a list -/
theorem extT (l : Addr) (items : Array Value) (n : Nat) (b : Addr) (items2 : Array Value) (n2 : Nat) (sl : Array (Option Value)) (hs0 : ¬(!items.isEmpty && Builtin.List.listTooLong (items.size + items2.size)) = true) (hs1 : items.size ≤ sizeLine) (hs2 : items.size + items2.size ≤ sizeLine + 1) :
    PySem.Meets (Builtin.«list.extend» ⟨[.ref l, .ref b], []⟩) (fun _ R s => s.heap.get? l = some { cls := .type "list", dict := none, data := .seq items n, slots := #[] } ∧ s.heap.get? b = some { cls := .type "tuple", dict := none, data := .seq items2 n2, slots := sl } ∧ R (.ok (.ret Value.none)) { s with heap := s.heap.update l (Obj.mapSeq fun x => x ++ items2), toks := s.toks }) :=
  .of_wp fun prog w A R s h => by
    obtain ⟨hp, g, d, tk, os⟩ := s; obtain ⟨hl, hb, h⟩ := h; have f1 := PySem.AutoSeq1.idx_int; have f2 := PySem.AutoSeq1.sub_tuple_tuple; have f3 := PySem.AutoSeq1.sub_list_list; have f4 := PySem.AutoSeq1.sub_tuple_list; have f5 := PySem.AutoSeq1.sub_list_tuple;
    have hz' : (items ++ items2).size ≤ sizeLine + 1 := by rw [Array.size_append]; exact hs2
    wp_walk using (wpAny_updateSeq hl rfl (hz := hs1) (_hz' := hz')), PySem.AutoSeq1.wpAny_loadPart' hl, PySem.AutoSeq1.wpAny_loadPart' hb; exact ⟨_, rfl, h⟩
theorem TupO.raw {pins : List (Addr × Obj)} {σ : L2.St} {H : Hp} {s : Shared} {xs : List V} {a : Addr} (I : Inv X pins σ H s) (h : TupO X.K H a xs) : ∃ (its : List Value) (n : Nat) (sl : Array (Option Value)), Vals xs its ∧ s.heap.get? a = some ⟨.type "tuple", none, .seq its.toArray n, sl⟩ ∧ xs.length ≤ sizeLine := by
  rcases h with ⟨o, h, hd⟩ | ⟨o, its, n, h1, h2, h3, h4, h5, h6⟩
  · obtain ⟨e, hz, its, rv, o', e', hc, n, hdt⟩ := (show ObjOk X.prog X.w H s.heap a (.frz o (.tup xs)) from I.hok a _ h)
    rw [e] at e'
    cases e'
    obtain ⟨oc, od, dt, sl⟩ := o
    simp only at hc hd hdt
    subst hc hd hdt
    exact ⟨its, n, sl, rv, e, hz⟩
  · have e := I.kIn a o h1
    obtain ⟨oc, od, dt, sl⟩ := o
    simp only at h2 h3 h4
    subst h2 h3 h4
    exact ⟨its.toList, n, sl, h6, by simpa using e, by rw [h6.length]; simpa using h5⟩
def rExtT (K : PySem.W.Frag) : V → List V → Hp → VK → Prop := fun x vs H Q => ∃ l b xs zs, x = .ref l ∧ vs = [.ref b] ∧ H l = some (.lst xs) ∧ TupO K H b zs ∧ xs.length + zs.length ≤ sizeLine ∧ Q .non (upd H l (.lst (xs ++ zs)))
theorem mt_extT : MtR X "list.extend" (rExtT X.K) := by
  intro pins s σ H x vs v us Q I rx rv h
  obtain ⟨l, b, xs, zs, rfl, rfl, hH, hB, hz, q⟩ := h
  cases rx
  obtain ⟨u, rfl, ru⟩ := Vals.one rv
  cases ru
  obtain ⟨z, its, n, r, hl, e⟩ := I.lstM hH
  obtain ⟨its2, n2, sl, r2, e2, _⟩ := TupO.raw I hB
  have l1 := r.length
  have l2 := r2.length
  have hsz : its.toArray.size + its2.toArray.size ≤ sizeLine := by rw [List.size_toArray, List.size_toArray]; omega
  have hlong : ¬ (!its.toArray.isEmpty && Builtin.List.listTooLong (its.toArray.size + its2.toArray.size)) = true := by
    rw [notLongL hsz, Bool.and_false]
    exact Bool.false_ne_true
  refine call_meets F.slot_list_extend ⟨_, e, rfl⟩ F.entry_list_extend (F.args_list_extend_2 _ _)
    (extT l its.toArray n b its2.toArray n2 sl hlong (by rw [List.size_toArray]; omega) (by omega)) ⟨e, e2, ?_⟩
  refine ⟨.non, _, I.lset (its' := its ++ its2) hH e (by simp) (r.append r2) ?_, rfl, q⟩
  rw [List.length_append]
  omega
def mExtend : Ms := ⟨0, zKeep, fun r rs δ Q => match r, cons δ rs with
  | .slot j, some [.list es] => (match δ[j]? with
    | some (some (.own (.list ds))) => ds.length + es.length ≤ lineN ∧ Q (.val .none) (δ.set j (some (.own (.list (ds ++ es)))))
    | _ => False)
  | .slot j, some [.tuple es] => (match δ[j]? with
    | some (some (.own (.list ds))) => ds.length + es.length ≤ lineN ∧ Q (.val .none) (δ.set j (some (.own (.list (ds ++ es)))))
    | _ => False)
  | _, _ => False⟩
def rExtZ (K : PySem.W.Frag) : V → List V → Hp → VK → Prop := fun x vs H Q => rExtend x vs H Q ∨ rExtT K x vs H Q
theorem mt_extZ : MtR X "list.extend" (rExtZ X.K) := by
  intro pins s σ H x vs v us Q I rx rv h
  rcases h with h | h
  · exact mt_extend pins s σ H x vs v us Q I rx rv h
  · exact mt_extT pins s σ H x vs v us Q I rx rv h
theorem ms_extend (hK : C.K.K = X.K) : MsOk X C "extend" mExtend :=
  ⟨"list", "list.extend", tyL X.K, rExtZ X.K, _, F.plainAttrs_list, F.slot_list_extend, F.type_list_extend, tyi_L, mt_extZ, hand_keep, ty_L hK rfl, fun {W H σ δ x us tv rx rs τ Q QQ} g hl hP hf k => by
    unfold mExtend at hf
    simp only at hf
    split at hf
    · rename_i _ _ j es hc
      split at hf
      · rename_i ds ej
        have g1 := g.popN (by simpa using hl)
        obtain ⟨l, xs, hv, ho', hL, hr, wr⟩ := g1.pop.own_lst ej
        have hvo : σ[j]? = some (some x) := g1.temps.1
        rw [hv] at hvo
        have e : V.ref l = x := Option.some.inj (Option.some.inj hvo)
        subst e
        have hb := g.brsR hl hc
        cases hb with
        | cons hb1 hb2 =>
          cases hb2
          obtain ⟨b, ys, rfl, hB, hrB⟩ := hb1
          exact .inl ⟨l, b, xs, ys, rfl, rfl, hL, hB, by rw [line_eq, hr.length, hrB.length]; exact hf.1, k .non _ W _ _ (push_val .non _ _ _ _ _ (g1.stab_own ho') (wr _ _ (hr.append hrB))) hf.2⟩
      · exact hf.elim
    · rename_i _ _ j es hc
      split at hf
      · rename_i ds ej
        have g1 := g.popN (by simpa using hl)
        obtain ⟨l, xs, hv, ho', hL, hr, wr⟩ := g1.pop.own_lst ej
        have hvo : σ[j]? = some (some x) := g1.temps.1
        rw [hv] at hvo
        have e : V.ref l = x := Option.some.inj (Option.some.inj hvo)
        subst e
        have hb := g.brsR hl hc
        cases hb with
        | cons hb1 hb2 =>
          cases hb2
          obtain ⟨b, ys, rfl, hB, hrB⟩ := Rep.tup_of hb1
          rw [hK] at hB
          exact .inr ⟨l, b, xs, ys, rfl, rfl, hL, hB, by rw [line_eq, hr.length, hrB.length]; exact hf.1, k .non _ W _ _ (push_val .non _ _ _ _ _ (g1.stab_own ho') (wr _ _ (hr.append hrB))) hf.2⟩
      · exact hf.elim
    · exact hf.elim⟩

/-! ### index, count -/
def items? : D → Option (List D)
  | .list ds => some ds
  | .tuple ds => some ds
  | _ => none
/-- of a sequence and a value -/
def onSeq (kd : Nat) (f : List D → D → (D → Prop) → Prop) : Ms := ⟨kd, zKeep, fun r rs δ Q => match con δ r, cons δ rs with
  | some c, some [d] => kdOf c = kd ∧ Eqable c d ∧ (match items? c with
    | some ds => f ds d fun z => Q (.val z) δ
    | none => False)
  | _, _ => False⟩
def fIndex : List D → D → (D → Prop) → Prop := fun ds d Q => ∃ j, SeqAt.dataPlace ds d = some j ∧ j < 9223372036854775807 ∧ Q (.int (j : Int))
def fCount : List D → D → (D → Prop) → Prop := fun ds d Q => Q (.int ((ds.countP fun y => PyData.eqv y d : Nat) : Int))
def rSeqD (K : PySem.W.Frag) (mk : List D → D) (f : List D → D → (D → Prop) → Prop) : V → List V → Hp → VK → Prop := fun x xs H Q => ∃ y d ds QQ, xs = [y] ∧ Dp K H x (mk ds) ∧ Dp K H y d ∧ SeqAt.shaped (mk ds) = true ∧ SeqAt.shaped d = true ∧ f ds d QQ ∧ ∀ i : Int, QQ (.int i) → Q (.int i) H
theorem onSeq_ok (hK : C.K.K = X.K) {kd : Nat} {mk : List D → D} {f : List D → D → (D → Prop) → Prop} (hmk : ∀ c ds, items? c = some ds → kdOf c = kd → c = mk ds) {W : Wd} {H : Hp} {σ : L2.St} {δ : Sto} {x : V} {us tv : List V} {rx : RV} {rs τ : List RV} {Q : VK} {QQ : RV → Sto → Prop}
    (g : Gd C W H σ δ (us.reverse ++ (x :: tv)) (rs.reverse ++ (rx :: τ))) (hl : us.length = rs.length) (hf : (onSeq kd f).f rx rs δ QQ) (k : ∀ u H' W' r' δ', Gd C W' H' σ δ' (u :: tv) (r' :: τ) → QQ r' δ' → Q u H') : rSeqD X.K mk f x us H Q := by
  unfold onSeq at hf
  simp only at hf
  cases e1 : con δ rx with
  | none => simp only [e1] at hf
  | some c =>
    cases e2 : cons δ rs with
    | none => simp only [e1, e2] at hf
    | some l =>
      simp only [e1, e2] at hf
      match l, e2, hf with
      | [d], e2, ⟨h1, h2, hf0⟩ =>
        cases e3 : items? c with
        | none => simp only [e3] at hf0
        | some ds =>
          simp only [e3] at hf0
          have ec := hmk c ds e3 h1
          subst ec
          have g1 := g.popN (by simpa using hl)
          have hb := g.brsR hl e2
          have hx := g1.brs e1
          match us, hb with
          | [u], .cons hb1 .nil =>
            have q1 := brs_dp hx h2.1
            have q2 := brs_dp hb1 h2.2
            rw [hK] at q1 q2
            exact ⟨u, d, ds, _, rfl, q1, q2, h2.1, h2.2, hf0, fun i q => k _ H W _ δ (g1.pop.push (r := .val (.int i)) (.int i)) q⟩
theorem seq_room {A : Around} {d : D} {ds : List D} (hu : A.units + 65 < cLine) (sd : SeqAt.shaped d = true) : A.units + 1 + min (PyData.depthAll ds) d.depth < cLine := by
  have h1 := SeqAt.depth_of_shaped sd
  have h2 : min (PyData.depthAll ds) d.depth ≤ d.depth := Nat.min_le_right _ _
  omega
theorem plainAll_of {ds : List D} (h : PyData.canLayAll0 ds = true) : PyData.plainAll ds = true := PyData.plain_of_canLay0 (.list ds) h
theorem mt_seq (hu : X.A.units + 65 < cLine) :
    MtR X "list.index" (rSeqD X.K .list fIndex) ∧ MtR X "list.count" (rSeqD X.K .list fCount) ∧ MtR X "tuple.index" (rSeqD X.K .tuple fIndex) ∧ MtR X "tuple.count" (rSeqD X.K .tuple fCount) := by
  have fin : ∀ {pins : List (Addr × Obj)} {s : Shared} {σ : L2.St} {H : Hp} {Q : VK} {i : Int}, Inv X pins σ H s → Q (.int i) H → EP X pins σ Q (.int i s.toks) { s with toks := s.toks + 1 } := fun {pins s σ H Q i} I q => ⟨.int i, H, I.tok _, ⟨_, rfl⟩, q⟩
  have lst : ∀ {pins : List (Addr × Obj)} {s : Shared} {σ : L2.St} {H : Hp} {x : V} {v : Value} {ds : List D}, Inv X pins σ H s → RelV x v → Dp X.K H x (.list ds) → ∃ a its as, v = .ref a ∧ s.heap.IsList a its ∧ ReadsAll s.heap its.toList ds as := fun {pins s σ H x v ds} I rx h => by
    cases h with
    | lst hs ha =>
      cases rx
      obtain ⟨its, rv, pl, _⟩ := I.list hs
      obtain ⟨as, h4⟩ := Dp.readsAll I ds _ its ha rv
      exact ⟨_, its.toArray, as, rfl, pl.isList, h4⟩
  have tup : ∀ {pins : List (Addr × Obj)} {s : Shared} {σ : L2.St} {H : Hp} {x : V} {v : Value} {ds : List D}, Inv X pins σ H s → RelV x v → Dp X.K H x (.tuple ds) → ∃ a its as, v = .ref a ∧ s.heap.IsTuple a its ∧ ReadsAll s.heap its.toList ds as := fun {pins s σ H x v ds} I rx h => by
    cases h with
    | tup hs ha =>
      cases rx
      obtain ⟨its, rv, tp⟩ := I.tuple hs
      obtain ⟨as, h4⟩ := Dp.readsAll I ds _ its ha rv
      exact ⟨_, its.toArray, as, rfl, tp.1, h4⟩
  refine ⟨?_, ?_, ?_, ?_⟩
  · rintro pins s σ H x xs v us Q I rx rxs ⟨y, d, ds, QQ, rfl, hx, hy, sx, sd, ⟨j, hj, hj2, hq⟩, k⟩
    obtain ⟨u, rfl, ru⟩ := rxs.one
    obtain ⟨bs, r2⟩ := Dp.reads I d y u hy ru
    obtain ⟨a, its, as, rfl, hl, r1⟩ := lst I rx hx
    have pl := plainAll_of (SeqAt.canLay_of_shaped sx)
    obtain ⟨hjs, hit, hno⟩ := SeqAt.hit_at r1 pl hj
    obtain ⟨⟨cls, dd, data, sls⟩, ho, hc, n, hdt⟩ := hl
    simp only at hc hdt
    subst hc hdt
    exact call_meets F.slot_list_index ⟨_, ho, rfl⟩ F.entry_list_index (F.args_list_index_2 _ _) (SeqAt.list_indexAt a its n dd sls u _ j hjs (by omega) hit hno) ⟨ho, SeqAt.items_plain r1 r2 pl (PyData.plain_of_canLay0 d (SeqAt.canLay_of_shaped sd)) (seq_room hu sd), fin I (k _ hq)⟩
  · rintro pins s σ H x xs v us Q I rx rxs ⟨y, d, ds, QQ, rfl, hx, hy, sx, sd, hq, k⟩
    obtain ⟨u, rfl, ru⟩ := rxs.one
    obtain ⟨bs, r2⟩ := Dp.reads I d y u hy ru
    obtain ⟨a, its, as, rfl, hl, r1⟩ := lst I rx hx
    exact SeqAt.count_list_data hl r1 r2 (plainAll_of (SeqAt.canLay_of_shaped sx)) (PyData.plain_of_canLay0 d (SeqAt.canLay_of_shaped sd)) (seq_room hu sd) (fin I (k _ hq))
  · rintro pins s σ H x xs v us Q I rx rxs ⟨y, d, ds, QQ, rfl, hx, hy, sx, sd, ⟨j, hj, hj2, hq⟩, k⟩
    obtain ⟨u, rfl, ru⟩ := rxs.one
    obtain ⟨bs, r2⟩ := Dp.reads I d y u hy ru
    obtain ⟨a, its, as, rfl, hl, r1⟩ := tup I rx hx
    have pl := plainAll_of (SeqAt.canLay_of_shaped sx)
    obtain ⟨hjs, hit, hno⟩ := SeqAt.hit_at r1 pl hj
    obtain ⟨⟨cls, dd, data, sls⟩, ho, hc, n, hdt⟩ := hl
    simp only at hc hdt
    subst hc hdt
    exact call_meets F.slot_tuple_index ⟨_, ho, rfl⟩ F.entry_tuple_index (F.args_tuple_index_2 _ _) (TI.tuple_indexAt a its n dd sls u _ j hjs hit hno) ⟨ho, SeqAt.items_plain r1 r2 pl (PyData.plain_of_canLay0 d (SeqAt.canLay_of_shaped sd)) (seq_room hu sd), fin I (k _ hq)⟩
  · rintro pins s σ H x xs v us Q I rx rxs ⟨y, d, ds, QQ, rfl, hx, hy, sx, sd, hq, k⟩
    obtain ⟨u, rfl, ru⟩ := rxs.one
    obtain ⟨bs, r2⟩ := Dp.reads I d y u hy ru
    obtain ⟨a, its, as, rfl, hl, r1⟩ := tup I rx hx
    exact SeqAt.count_tuple_data hl r1 r2 (plainAll_of (SeqAt.canLay_of_shaped sx)) (PyData.plain_of_canLay0 d (SeqAt.canLay_of_shaped sd)) (seq_room hu sd) (fin I (k _ hq))
theorem mk_L (c : D) (ds : List D) (h : items? c = some ds) (hk : kdOf c = 0) : c = .list ds := by
  cases c with
  | list xs => cases h; rfl
  | tuple xs => cases hk
  | _ => cases h
theorem mk_T (c : D) (ds : List D) (h : items? c = some ds) (hk : kdOf c = 1) : c = .tuple ds := by
  cases c with
  | list xs => cases hk
  | tuple xs => cases h; rfl
  | _ => cases h
def mIndex : List Ms := [onSeq 0 fIndex, onSeq 1 fIndex]
def mCount : List Ms := [onSeq 0 fCount, onSeq 1 fCount]
theorem ms_index (hK : C.K.K = X.K) (hu : X.A.units + 65 < cLine) : ∀ m ∈ mIndex, MsOk X C "index" m := fun m mm => by
  rcases List.mem_cons.mp mm with rfl | mm
  · exact ⟨"list", "list.index", tyL X.K, _, _, F.plainAttrs_list, F.slot_list_index, F.type_list_index, tyi_L, (mt_seq hu).1, hand_keep, ty_L hK rfl, fun g hl hP hf k => onSeq_ok hK mk_L g hl hf k⟩
  · rw [List.mem_singleton.mp mm]
    exact ⟨"tuple", "tuple.index", tyT X.K, _, _, F.plainAttrs_tuple, F.slot_tuple_index, F.type_tuple_index, tyi_T, (mt_seq hu).2.2.1, hand_keep, ty_T hK rfl, fun g hl hP hf k => onSeq_ok hK mk_T g hl hf k⟩
theorem ms_count (hK : C.K.K = X.K) (hu : X.A.units + 65 < cLine) : ∀ m ∈ mCount, MsOk X C "count" m := fun m mm => by
  rcases List.mem_cons.mp mm with rfl | mm
  · exact ⟨"list", "list.count", tyL X.K, _, _, F.plainAttrs_list, F.slot_list_count, F.type_list_count, tyi_L, (mt_seq hu).2.1, hand_keep, ty_L hK rfl, fun g hl hP hf k => onSeq_ok hK mk_L g hl hf k⟩
  · rw [List.mem_singleton.mp mm]
    exact ⟨"tuple", "tuple.count", tyT X.K, _, _, F.plainAttrs_tuple, F.slot_tuple_count, F.type_tuple_count, tyi_T, (mt_seq hu).2.2.2, hand_keep, ty_T hK rfl, fun g hl hP hf k => onSeq_ok hK mk_T g hl hf k⟩
end
end Z
end
section
set_option Elab.async false
set_option linter.all false
set_option maxRecDepth 100000
/-! repr. -/
namespace Z
open PySem PySem.Spec L2
mutual
theorem noDict : ∀ d : D, d.canLay0 = true → d.hasDict = false
  | .none, _ => rfl
  | .bool _, _ => rfl
  | .int _, _ => rfl
  | .str _, _ => rfl
  | .list xs, h => noDicts xs (by simpa [PyData.canLay0] using h)
  | .tuple xs, h => noDicts xs (by simpa [PyData.canLay0] using h)
  | .dict _, h => by simp [PyData.canLay0] at h
theorem noDicts : ∀ d : List D, PyData.canLayAll0 d = true → PyData.hasDictAll d = false
  | [], _ => rfl
  | x :: xs, h => by
    simp only [PyData.canLayAll0, Bool.and_eq_true] at h
    simp only [PyData.hasDictAll, noDict x h.1, noDicts xs h.2, Bool.or_false]
end
/-- what can be shown -/
def ReprOk0 (d : D) : Prop := SeqAt.shaped d = true ∧ d.showable = true ∧ d.shown.length ≤ lineN
/-- .. or a list with one empty dict -/
def ReprOk (d : D) : Prop := ReprOk0 d ∨ d = .list [.dict []]
def fRepr : FN
  | [.list ds], Q => ReprOk (.list ds) ∧ Q (.val (.str (PyData.list ds).shown))
  | [.tuple ds], Q => ReprOk (.tuple ds) ∧ Q (.val (.str (PyData.tuple ds).shown))
  | [.int i], Q => i.natAbs.log2 < 1920 ∧ Q (.val (.str (toString i)))
  | [.none], Q => Q (.val (.str PyData.none.shown))
  | [.bool b], Q => Q (.val (.str (PyData.bool b).shown))
  | [.str x], Q => ReprOk (.str x) ∧ Q (.val (.str (PyData.str x).shown))
  | _, _ => False
def rReprI : List V → Hp → VK → Prop := fun xs H Q => (xs = [.non] ∧ Q (.str PyData.none.shown) H) ∨ (∃ b, xs = [.bl b] ∧ Q (.str (PyData.bool b).shown) H) ∨ ∃ x, xs = [.str x] ∧ ReprOk0 (.str x) ∧ Q (.str (PyData.str x).shown) H
def rReprE : List V → Hp → VK → Prop := fun xs H Q => ∃ p a ep, xs = [.ref p] ∧ H p = some (.lst [.ref a]) ∧ H a = some (dO a #[] ep) ∧ Q (.str (PyData.list [.dict []]).shown) H
def rRepr (K : PySem.W.Frag) : List V → Hp → VK → Prop := fun xs H Q => rReprE xs H Q ∨ (∃ a d, xs = [.ref a] ∧ Dp K H (.ref a) d ∧ ReprOk0 d ∧ Q (.str d.shown) H) ∨ (∃ i, xs = [.int i] ∧ i.natAbs.log2 < 1920 ∧ Q (.str (toString i)) H) ∨ rReprI xs H Q
section
variable {X : Cx} {C : Cn}
theorem cr_reprE (hu : X.A.units + 65 < cLine) (hg : X.A.guards = some []) : CallR X (.builtin "repr") rReprE := by
  intro pins s σ H xs us Q I r h
  obtain ⟨p, a, ep, rfl, hp, ha, q⟩ := h
  obtain rfl := Vals.ref1 r
  have okp := (show ObjOk X.prog X.w H s.heap p (.lst [.ref a]) from I.hok p _ hp)
  obtain ⟨_, vs, c, rv, op⟩ := okp
  obtain ⟨u, rfl, ru⟩ := vals1 rv
  obtain rfl : u = .ref a := ru
  have oka : (a == sysModules) = false ∧ (#[] : Array DictEntry).size ≤ sizeLine ∧ s.heap.DictRaw a #[] ep := (I.hok a _ ha).1
  obtain ⟨hs, _, o, g1, g2, g3⟩ := oka
  have rd : Reads s.heap (.ref a) (.dict []) (a :: [] ++ []) := .dict g1 g2.1 g3 .nil .nil
  have ra : ReadsAll s.heap [.ref a] [.dict []] ((a :: [] ++ []) ++ []) := .cons rd .nil
  have hno : sysModules ∉ ((a :: [] ++ []) ++ [] : List Addr) := fun m => by
    have e : sysModules = a := by simpa using m
    rw [← e] at hs
    exact absurd hs (by simp)
  obtain ⟨bs, hb, hk⟩ := ReprAllK.of_readsAll (prog := X.prog) (w := X.w) ra rfl (fun _ => hno) (fun t ht => by
    have : t = (PyData.dict []).shown := by simpa [PyData.shownAll] using ht
    rw [this]
    exact Nat.le_trans (show (PyData.dict []).shown.length ≤ 100 by decide +kernel) (by rw [sizeLine_eq]; decide))
  have rl : Reads s.heap (.ref p) (.list [.dict []]) _ := .list op rfl rfl ra
  have hna : p ∉ bs := not_mem_of_deeper rl (by simp only [PyData.depth]; omega) hb
  have hun : X.A.units + (PyData.depthAll [PyData.dict []] + 1) < cLine := by
    have : PyData.depthAll [PyData.dict []] ≤ 2 := by decide
    omega
  have hun' : X.A.in1.units + (PyData.depthAll [PyData.dict []] + 1) < cLine := by
    show X.A.units + 1 + (PyData.depthAll [PyData.dict []] + 1) < cLine
    have : PyData.depthAll [PyData.dict []] ≤ 2 := by decide
    omega
  refine call_repr_slot (T := "list") (by omega) ⟨_, op, rfl⟩ F.slot_list_repr.toG ?_
  exact call_list_reprK op rfl rfl hna (by simp [PyData.shownAll]) (fun i y e => hk.item i y (by simpa using e)) hg (fun b _ => Clear.nil b) (by first | exact hun | exact hun') (fun _ _ e => e) (fun h' u tk hk => ⟨_, _, rfl, .str (PyData.list [.dict []]).shown, H, I.kept (h' := h') (t' := tk) hk, ⟨_, rfl⟩, q⟩) (Nat.le_trans (show (listText (PyData.shownAll [.dict []])).length ≤ 100 by decide +kernel) (by rw [sizeLine_eq]; decide))
theorem cr_repr (hu : X.A.units + 65 < cLine) (hg : X.A.guards = some []) : CallR X (.builtin "repr") (rRepr X.K) := by
  intro pins s σ H xs us Q I r h
  rcases h with h | ⟨a, d, rfl, hd, ⟨h1, h2, h3⟩, q⟩ | h | h
  · exact cr_reprE hu hg pins s σ H xs us Q I r h
  · obtain ⟨u, rfl, ru⟩ := vals1 r
    obtain ⟨as, rd⟩ := Dp.reads I d _ u hd ru
    cases ru
    have hdp := SeqAt.depth_of_shaped h1
    exact repr_of_reads' rd h2 (fun e => by rw [noDict d (SeqAt.canLay_of_shaped h1)] at e; cases e) hg (by omega) (fun _ _ e => e) (fun h' u tk hk => ⟨.str d.shown, H, I.kept (h' := h') (t' := tk) hk, ⟨_, rfl⟩, q⟩) (by rw [line_eq]; exact h3)
  · exact SkE.call_repr_int pins s σ H xs us Q I r h
  · rcases h with ⟨rfl, q⟩ | ⟨b, rfl, q⟩ | ⟨x, rfl, hx, q⟩
    · obtain ⟨u, rfl, ru⟩ := vals1 r
      cases ru
      exact PySem.P.repr_of_none ⟨.str PyData.none.shown, H, I.tok _, ⟨_, rfl⟩, q⟩
    · obtain ⟨u, rfl, ru⟩ := vals1 r
      cases ru
      exact PySem.P.repr_of_bool ⟨.str (PyData.bool b).shown, H, I.tok _, ⟨_, rfl⟩, q⟩
    · obtain ⟨u, rfl, ru⟩ := vals1 r
      obtain ⟨t, rfl⟩ := ru
      exact PySem.P.repr_of_str ⟨.str (PyData.str x).shown, H, I.tok _, ⟨_, rfl⟩, q⟩ (by rw [line_eq]; exact hx.2.2)
theorem cd_repr (hK : C.K.K = X.K) : CallD C (rRepr X.K) fRepr := by
  intro W H σ δ vs ds tv τ QQ Q g hb hf k
  cases hb with
  | nil => exact hf.elim
  | cons h1 h2 =>
    rename_i v vs d ds
    cases h2 with
    | cons _ _ => cases d <;> exact hf.elim
    | nil =>
      cases d <;> try exact hf.elim
      · cases h1
        exact .inr (.inr (.inr (.inl ⟨rfl, k _ H W _ (g.push (r := .val (.str _)) (.str _)) hf⟩)))
      · cases h1
        exact .inr (.inr (.inr (.inr (.inl ⟨_, rfl, k _ H W _ (g.push (r := .val (.str _)) (.str _)) hf⟩))))
      · cases brs_int h1
        exact .inr (.inr (.inl ⟨_, rfl, hf.1, k _ H W _ (g.push (r := .val (.str _)) (.str _)) hf.2⟩))
      · cases h1
        exact .inr (.inr (.inr (.inr (.inr ⟨_, rfl, hf.1.elim (fun z => z) (fun e => nomatch e), k _ H W _ (g.push (r := .val (.str _)) (.str _)) hf.2⟩))))
      · rcases hf.1 with h0 | h0
        · have q := brs_dp h1 h0.1
          rw [hK] at q
          obtain ⟨a, xs, rfl, _⟩ := h1
          exact .inr (.inl ⟨a, _, rfl, q, h0, k _ H W _ (g.push (r := .val (.str _)) (.str _)) hf.2⟩)
        · cases h0
          obtain ⟨p, xs, rfl, hp, hr⟩ := h1
          cases hr with
          | cons h3 h4 =>
            cases h4
            cases h3 with
            | dic h5 h6 h7 =>
              cases h7
              obtain ⟨es, ep, ha, hpr, _⟩ := h6
              have e : es = #[] := by
                cases es with
                | mk l =>
                  cases l with
                  | nil => rfl
                  | cons x l => cases hpr
              subst e
              exact .inl ⟨p, _, ep, rfl, hp, ha, k _ H W _ (g.push (r := .val (.str _)) (.str _)) hf.2⟩
      · rcases hf.1 with h0 | h0
        · have q := brs_dp h1 h0.1
          rw [hK] at q
          obtain ⟨a, xs, rfl, _⟩ := Rep.tup_of h1
          exact .inr (.inl ⟨a, _, rfl, q, h0, k _ H W _ (g.push (r := .val (.str _)) (.str _)) hf.2⟩)
        · cases h0
end
def notD : D → Bool
  | .dict _ => false
  | _ => true
theorem fRepr_any {d : D} {Q : RV → Prop} (h : ReprOk d) (hd : notD d = true) (q : Q (.val (.str d.shown))) : fRepr [d] Q := by
  cases d with
  | none => exact q
  | bool b => exact q
  | int i => exact ⟨of_decide_eq_true (h.elim (fun h => h.2.1) fun e => nomatch e), q⟩
  | str x => exact ⟨h, q⟩
  | list ds => exact ⟨h, q⟩
  | tuple ds => exact ⟨h, q⟩
  | dict ds => cases hd
end Z
end
section
set_option Elab.async false
set_option linter.all false
set_option maxRecDepth 100000
/-! sorted(set(t)), len(set(t)) of a tuple of ints; sorted(xs) of ints. -/
namespace Z
open PySem PySem.Spec L2 PyProof.Rows
def rSortSet (K : PySem.W.Frag) : List V → Hp → VK → Prop := fun xs H Q => ∃ (l : Addr) (ns : List Int), xs = [.ref l] ∧ SqT K H l (ns.map V.int) ∧ ns.length < 64 ∧
  ∀ (out : List Int) (p : Addr), out.Pairwise (· < ·) → (∀ k, k ∈ out ↔ k ∈ ns) → H p = none → Q (.ref p) (upd H p (.lst (out.map V.int)))
def rLenSet (K : PySem.W.Frag) : List V → Hp → VK → Prop := fun xs H Q => ∃ (l : Addr) (ns : List Int), xs = [.ref l] ∧ SqT K H l (ns.map V.int) ∧ ns.length < 64 ∧
  ∀ (out : List Int), out.Nodup → (∀ k, k ∈ out ↔ k ∈ ns) → Q (.int (out.length : Nat)) H
section
variable {X : Cx} {e : Expr} {ta : TA} {p p2 q pos : Pos}
theorem pe_sortSet (hc : X.calm = true) (hg : Gl X "sorted") (hm : X.mg "sorted" = none) (hg2 : Gl X "set") (hm2 : X.mg "set" = none) (ha : PA X [e] ta) (hs : starEach [e] X.env = [(false, eval e X.env)]) :
    PE X (.Call (.Name "sorted" p) [.Call (.Name "set" p2) [e] [] q] [] pos) (tCB (rSortSet X.K) ta) := by
  refine ⟨fun pins s σ H Q I h => ?_⟩
  refine Call_ (ld_blt I hg hm boot_sorted ?_)
  refine callWith_builtin1 (args_cons ?_ rfl) rfl rfl
  refine Call_ (ld_blt I hg2 hm2 PyProof.Rows.boot_set (callWith_type1 (thn (ha.run q pins s σ H _ I h) fun us s1 ⟨vs, H1, I1, r1, q1⟩ => ?_) hs rfl))
  obtain ⟨p0, ns, e1, hq, hl, q⟩ := q1
  subst e1
  cases r1 with
  | cons r rr =>
    cases rr
    cases r
    obtain ⟨its, rv, pt, hz⟩ := I1.tuple hq
    have hi : IntsAre its.toArray.toList ns := ints_of_vals rv
    have hd := I1.ok.hd hc
    refine call_set_tupI ns hd (show s1.heap.IsTuple p0 its.toArray from pt) hi (by unfold scanBound; omega) fun h' tk c R1 hcn k => ?_
    refine args_nil ?_
    have I2 : Inv X pins σ H1 { s1 with heap := h', toks := tk } := I1.kept fun b o e => k b o e
    refine sorted_set R1 (I2.ok.hd hc) (by omega) fun s' p out c ns' k g o hp hg hi hs hm hl => ?_
    have hlen : (ns'.map V.int).length ≤ sizeLine := by rw [List.length_map, hl, sizeLine_eq]; omega
    have hn : H1 p = none := I2.hok.fresh hp
    have J : Inv X pins σ (upd H1 p (.lst (ns'.map V.int))) { ({ s1 with heap := h', toks := tk } : Shared) with heap := s'.heap, gens := s'.gens, drawn := s'.drawn, toks := s'.toks } :=
      I2.call (ch := []) (Un.laid k hp hn) (I2.hok.laid k hp ⟨hlen, out.toList, c, vals_of_ints hi, hg⟩) (by rw [g]; exact I2.bare) (fun _ z => nomatch z)
    have e : s' = { s1 with heap := s'.heap, gens := s'.gens, drawn := s'.drawn, toks := s'.toks } := by
      cases s'
      cases s1
      cases o
      rfl
    rw [e]
    exact ⟨.ref p, _, J, rfl, q ns' p hs (fun j => by rw [hm j, decide_eq_true_eq]) hn⟩
theorem pe_lenSet (hc : X.calm = true) (hg : Gl X "len") (hm : X.mg "len" = none) (hg2 : Gl X "set") (hm2 : X.mg "set" = none) (ha : PA X [e] ta) (hs : starEach [e] X.env = [(false, eval e X.env)]) :
    PE X (.Call (.Name "len" p) [.Call (.Name "set" p2) [e] [] q] [] pos) (tCB (rLenSet X.K) ta) := by
  refine ⟨fun pins s σ H Q I h => ?_⟩
  refine Call_ (ld_blt I hg hm PySem.boot_len ?_)
  refine callWith_builtin1 (args_cons ?_ rfl) rfl rfl
  refine Call_ (ld_blt I hg2 hm2 PyProof.Rows.boot_set (callWith_type1 (thn (ha.run q pins s σ H _ I h) fun us s1 ⟨vs, H1, I1, r1, q1⟩ => ?_) hs rfl))
  obtain ⟨p0, ns, e1, hq, hl, q⟩ := q1
  subst e1
  cases r1 with
  | cons r rr =>
    cases rr
    cases r
    obtain ⟨its, rv, pt, hz⟩ := I1.tuple hq
    have hi : IntsAre its.toArray.toList ns := ints_of_vals rv
    have hd := I1.ok.hd hc
    refine call_set_tupI ns hd (show s1.heap.IsTuple p0 its.toArray from pt) hi (by unfold scanBound; omega) fun h' tk c R1 hcn k => ?_
    refine args_nil ?_
    have I2 : Inv X pins σ H1 { s1 with heap := h', toks := tk } := I1.kept fun b o e => k b o e
    obtain ⟨o, es, ep, t, ho, hex, hdt, g, nd, hm3, hb, hf, hn, hr, hl2⟩ := R1
    have e5 : (es.toList.map keyOf).length = es.size := by rw [List.length_map, Array.length_toList]
    refine call_len_set ho hex hdt hf (by omega) ⟨.int es.size, H1, I2.tok _, ⟨_, rfl⟩, ?_⟩
    have := q (es.toList.map keyOf) nd fun j => by rw [← hm3 j, decide_eq_true_eq]
    rwa [e5] at this
end
/-! ### as data -/
def fSortSet : FN
  | [.tuple ds], Q => ∃ ns : List Int, ds = ns.map PyData.int ∧ ns.length < 64 ∧ ∀ out : List Int, out.Pairwise (· < ·) → (∀ k, k ∈ out ↔ k ∈ ns) → Q (.own (.list (out.map PyData.int)))
  | _, _ => False
def fLenSet : FN
  | [.tuple ds], Q => ∃ ns : List Int, ds = ns.map PyData.int ∧ ns.length < 64 ∧ ∀ out : List Int, out.Nodup → (∀ k, k ∈ out ↔ k ∈ ns) → Q (.val (.int (out.length : Nat)))
  | _, _ => False
theorem repL_ints {K : Kw} {F : Addr → Prop} {H : Hp} : ∀ ns : List Int, RepL K F H (ns.map V.int) (ns.map PyData.int)
  | [] => .nil
  | n :: ns => .cons (.int n) (repL_ints ns)
section
variable {X : Cx} {C : Cn}
theorem cd_sortSet (hK : C.K.K = X.K) : CallD C (rSortSet X.K) fSortSet := by
  intro W H σ δ vs ds tv τ QQ Q g hb hf k
  cases hb with
  | nil => exact hf.elim
  | cons h1 h2 =>
    rename_i v vs d ds
    cases h2 with
    | cons _ _ => cases d <;> exact hf.elim
    | nil =>
      cases d <;> try exact hf.elim
      obtain ⟨a, xs, rfl, q1, q2⟩ := Rep.tup_of h1
      obtain ⟨ns, rfl, hl, q⟩ := hf
      rw [hK] at q1
      refine ⟨a, ns, rfl, by rw [← q2.ints_of]; exact q1.sqT, hl, fun out p h1 h2 hp => ?_⟩
      exact k _ _ _ _ (g.newLst hp (repL_ints out)) (q out h1 h2)
theorem cd_lenSet (hK : C.K.K = X.K) : CallD C (rLenSet X.K) fLenSet := by
  intro W H σ δ vs ds tv τ QQ Q g hb hf k
  cases hb with
  | nil => exact hf.elim
  | cons h1 h2 =>
    rename_i v vs d ds
    cases h2 with
    | cons _ _ => cases d <;> exact hf.elim
    | nil =>
      cases d <;> try exact hf.elim
      obtain ⟨a, xs, rfl, q1, q2⟩ := Rep.tup_of h1
      obtain ⟨ns, rfl, hl, q⟩ := hf
      rw [hK] at q1
      exact ⟨a, ns, rfl, by rw [← q2.ints_of]; exact q1.sqT, hl, fun out h1 h2 => k _ H W _ (g.push (r := .val (.int _)) (.int _)) (q out h1 h2)⟩
/-- a tuple of ints, as a number -/
def codeD (B : Int) : D → Int
  | .tuple ds => TS.code B (ds.map fun d => match d with
    | .int i => i
    | _ => 0)
  | _ => 0
def IntsT (m : Nat) (B : Int) (d : D) : Prop := ∃ ns : List Int, d = .tuple (ns.map PyData.int) ∧ ns.length = m ∧ TS.Bd B ns
/-- sorted(xs), xs a list or tuple of ints -/
def fSorted0 : FN
  | [.list ds], Q => ∃ ns : List Int, ds = ns.map PyData.int ∧ ∀ out : List Int, out.Perm ns → out.Pairwise (· ≤ ·) → Q (.own (.list (out.map PyData.int)))
  | _, _ => False
/-- .. or a dict, its keys tuples of m ints in [0, B) -/
def fSorted : FN
  | [.dict kvs], Q => kvs.length ≤ lineN ∧ ∃ (m : Nat) (B : Int), 1 ≤ m ∧ (∀ p ∈ kvs, IntsT m B p.1) ∧ ∀ out : List D, out.Perm (kvs.map (·.1)) → (kvs.length < 64 → out.Pairwise (fun x y => codeD B x ≤ codeD B y)) → Q (.own (.list out))
  | ds, Q => fSorted0 ds Q
theorem cd_sorted (hK : C.K.K = X.K) : CallD C (rSortedI X.K) fSorted0 := by
  intro W H σ δ vs ds tv τ QQ Q g hb hf k
  cases hb with
  | nil => exact hf.elim
  | cons h1 h2 =>
    rename_i v vs d ds
    cases h2 with
    | cons _ _ => cases d <;> exact hf.elim
    | nil =>
      cases d <;> try exact hf.elim
      obtain ⟨a, xs, rfl, q1, q2⟩ := h1
      obtain ⟨ns, rfl, q⟩ := hf
      exact ⟨a, ns, rfl, .inl (.inl (by rw [← q2.ints_of]; exact q1)), fun out p h1 h2 hp => k _ _ _ _ (g.newLst hp (repL_ints out)) (q out h1 h2)⟩
variable {e : Expr} {p p2 pos q : Pos} {ev : Expr → ZT}
theorem pz_sortSet (hK : C.K.K = X.K) (hc : X.calm = true) (hg : Gl X "sorted") (hm : X.mg "sorted" = none) (hg2 : Gl X "set") (hm2 : X.mg "set" = none) (ha : ∀ y ∈ [e], PE X y (lift C (ev y))) (hst : noStar e = true) :
    PE X (.Call (.Name "sorted" p) [.Call (.Name "set" p2) [e] [] q] [] pos) (lift C (zBlt fSortSet (zArgs zKeep ([e].map ev)))) :=
  PE.weak (pe_sortSet hc hg hm hg2 hm2 (pa_args hand_keep ha (by simp [hst])) (star_cons hst)) (lift_blt (cd_sortSet hK))
theorem pz_lenSet (hK : C.K.K = X.K) (hc : X.calm = true) (hg : Gl X "len") (hm : X.mg "len" = none) (hg2 : Gl X "set") (hm2 : X.mg "set" = none) (ha : ∀ y ∈ [e], PE X y (lift C (ev y))) (hst : noStar e = true) :
    PE X (.Call (.Name "len" p) [.Call (.Name "set" p2) [e] [] q] [] pos) (lift C (zBlt fLenSet (zArgs zKeep ([e].map ev)))) :=
  PE.weak (pe_lenSet hc hg hm hg2 hm2 (pa_args hand_keep ha (by simp [hst])) (star_cons hst)) (lift_blt (cd_lenSet hK))
end
end Z
end
section
set_option Elab.async false
set_option linter.all false
set_option maxRecDepth 100000
/-! isinstance(x, T), T a built-in type. -/
namespace Z
open PySem PySem.Spec L2 PyProof.Rows
inductive BT where
  | int | bool | str | tuple | list | dict
deriving DecidableEq
def BT.n : BT → String
  | .int => "int"
  | .bool => "bool"
  | .str => "str"
  | .tuple => "tuple"
  | .list => "list"
  | .dict => "dict"
def tyN : D → String
  | .none => "NoneType"
  | .bool _ => "bool"
  | .int _ => "int"
  | .str _ => "str"
  | .list _ => "list"
  | .tuple _ => "tuple"
  | .dict _ => "dict"
def isiB : D → BT → Bool
  | .bool _, .bool => true
  | .bool _, .int => true
  | .int _, .int => true
  | .str _, .str => true
  | .list _, .list => true
  | .tuple _, .tuple => true
  | .dict _, .dict => true
  | _, _ => false
theorem kit_isi (d : D) (T : BT) : kitB (tyN d) T.n = some (isiB d T) := by
  cases T <;> cases d <;> kernel_rfl
section
variable {X : Cx} {C : Cn}
/-- what stands at x is of the type t -/
def TyZ (K : PySem.W.Frag) (H : Hp) (x : V) (t : String) : Prop := TyX K H x (.type t) ∨ ∃ a es ep, x = .ref a ∧ t = "dict" ∧ H a = some (dO a es ep)
def rIsiZ (K : PySem.W.Frag) (T : BT) : List V → Hp → VK → Prop := fun xs H Q => ∃ x d, xs = [x, .ty T.n] ∧ TyZ K H x (tyN d) ∧ Q (.bl (isiB d T)) H
theorem cr_isi (T : BT) : CallR X (.builtin "isinstance") (rIsiZ X.K T) := by
  intro pins s σ H xs us Q I r h
  obtain ⟨x, d, rfl, ty, q⟩ := h
  rcases ty with ty | ⟨a, es, ep, rfl, e, ho⟩
  · exact call_isi pins s σ H _ us Q I r ⟨x, .ty T.n, _, _, _, rfl, .ty _, ty, kit_ty (kit_isi d T), q⟩
  · obtain ⟨u1, u2, rfl, r1, r2⟩ := vals2 r
    cases r1
    cases (show u2 = Value.type T.n from r2)
    have ok : (a == sysModules) = false ∧ es.size ≤ sizeLine ∧ s.heap.DictRaw a es ep := (I.hok a _ ho).1
    obtain ⟨_, _, o, h1, h2, _⟩ := ok
    have hk := kit_isi d T
    rw [e] at hk
    exact PySem.W.kia_one (PySem.W.kitx_dict (a := a)) I.kIn ⟨o, h1, h2.1⟩ (kit_ty hk) (fun z => nomatch z) fun tk => ⟨.bl _, H, I.tok tk, rfl, q⟩
theorem brs_ty {K : Kw} {F : Addr → Prop} {H : Hp} {v : V} {d : D} (h : Brs K F H v d) : TyZ K.K H v (tyN d) := by
  cases d with
  | none => cases brs_none h; exact .inl (.base .non)
  | bool b => cases brs_bool h; exact .inl (.base (.bl b))
  | int b => cases brs_int h; exact .inl (.base (.int b))
  | str b => cases brs_str h; exact .inl (.base (.str b))
  | list ds => obtain ⟨a, xs, rfl, h1, _⟩ := h; exact .inl (.base (.lst h1))
  | tuple ds =>
    obtain ⟨a, xs, rfl, h1, _⟩ := Rep.tup_of h
    rcases h1 with ⟨o, h1, _⟩ | ⟨o, its, n, h1, h2, _⟩
    · exact .inl (.fTuple h1)
    · exact .inl (.kTuple h1 h2)
  | dict ds =>
    obtain ⟨a, ks, rfl, ⟨es, ep, h1, _⟩, _⟩ := h
    exact .inr ⟨a, es, ep, rfl, rfl, h1⟩
def zIsi (T : BT) (t : ZT) : ZT := fun δ Q => t δ fun r δ1 => match con δ1 r with
  | some d => Q (.val (.bool (isiB d T))) δ1
  | none => False
theorem boot_T (T : BT) : bootBuiltins T.n = some (.type T.n) := by cases T <;> decide +kernel
theorem boot_N (T : BT) : (T.n : Str) ≠ "__name__" ∧ ((T.n : Str) == ("__debug__" : Str)) = false := by cases T <;> decide +kernel
theorem pe_T {T : BT} {p : Pos} (hg : Gl X T.n) (hm : X.mg T.n = none) : PE X (.Name T.n p) (tC (.ty T.n)) :=
  ⟨fun pins s σ H Q I h => ld_blt I hg hm (boot_T T) ⟨.ty T.n, H, I, rfl, h⟩ (boot_N T).1 (boot_N T).2⟩
theorem pz_isi {T : BT} {e : Expr} {t : ZT} {p q pos : Pos} (hK : C.K.K = X.K) (hg : Gl X "isinstance") (hm : X.mg "isinstance" = none) (hg2 : Gl X T.n) (hm2 : X.mg T.n = none) (he : PE X e (lift C t)) (hst : noStar e = true) :
    PE X (.Call (.Name "isinstance" p) [e, .Name T.n q] [] pos) (lift C (zIsi T t)) := by
  refine PE.weak (pe_callB (cr_isi T) hg hm boot_isinstance (pa_cons he (pa_cons (pe_T hg2 hm2) pa_nil (star_cons rfl)) (star_cons hst)) (by decide +kernel) (by decide +kernel) (star_cons hst) rfl) fun σ H Q ⟨W, δ, tv, τ, QQ, g, h, k⟩ => ⟨W, δ, tv, τ, _, g, h, fun v H1 W1 r δ1 g1 h1 => ?_⟩
  cases ec : con δ1 r with
  | none => simp only [ec] at h1
  | some d =>
    simp only [ec] at h1
    have hb := brs_ty (g1.brs ec)
    rw [hK] at hb
    exact ⟨v, d, rfl, hb, k _ H1 W1 _ δ1 (g1.pop.push (r := .val (.bool _)) (.bl _)) h1⟩
end
end Z
end
section
set_option Elab.async false
set_option linter.all false
set_option maxRecDepth 100000
set_option maxHeartbeats 4000000
/-! t[::-1], xs[::-1]. -/
namespace Z
open PySem PySem.Spec L2 PyProof.Rows HT
theorem rev_adjust (n : Nat) : Builtin.Slice.sliceAdjust none none (-1) (n : Int) = ((n : Int) - 1, -1) := by
  unfold Builtin.Slice.sliceAdjust
  simp
theorem rev_places (n : Nat) : Builtin.Slice.slicePlaces ((n : Int) - 1) (-1) (-1) = n := by
  unfold Builtin.Slice.slicePlaces
  rw [if_neg (by decide)]
  by_cases h : n = 0
  · subst h; decide
  · rw [if_pos (by omega), show (- -1 : Int) = 1 by decide, Int.ediv_one]
    omega
theorem fmap_congr {α β : Type} {f g : α → Option β} : ∀ {l : List α}, (∀ m ∈ l, f m = g m) → l.filterMap f = l.filterMap g
  | [], _ => rfl
  | a :: l, h => by
    rw [List.filterMap_cons, List.filterMap_cons, h a (.head _), fmap_congr fun m hm => h m (.tail _ hm)]
theorem rev_pick (xs : Array Value) : ((List.range xs.size).filterMap fun (m : Nat) => xs[(((xs.size : Int) - 1) + (m : Int) * (-1)).toNat]?).toArray = xs.toList.reverse.toArray := by
  have e : (List.range xs.size).filterMap (fun (m : Nat) => xs[(((xs.size : Int) - 1) + (m : Int) * (-1)).toNat]?) = ((List.range xs.size).map fun k => xs.size - 1 - k).filterMap (xs[·]?) := by
    rw [List.filterMap_map]
    refine fmap_congr fun m hm => ?_
    have := List.mem_range.mp hm
    show xs[(((xs.size : Int) - 1) + (m : Int) * (-1)).toNat]? = xs[xs.size - 1 - m]?
    congr 1
    omega
  rw [e, PySem.W.krv_range, List.filterMap_reverse, PySem.W.krv_all]
section
variable {prog : Program} {w : World} {A : Around} {E : Value → Shared → Prop} {s : Shared}
theorem sliceApplied_rev {sl : Addr} {vl vu vs : Value} {n : Nat} {Q : Int × Int × Nat → Shared → Prop} (hs : s.heap.IsSliceOf sl vl vu vs) (pl : IsPart vl none) (pu : IsPart vu none) (ps : IsPart vs (some (-1)))
    (h : Q ((n : Int) - 1, -1, n) s) : wpAny (model prog w) A (Builtin.Slice.sliceApplied (.ref sl) (pure (n : Int))) Q E s := by
  obtain ⟨os, hos, hcs, hds⟩ := id hs
  unfold Builtin.Slice.sliceApplied Builtin.Slice.sliceFields
  refine wpAny_bind (wpAny_bind (wpAny_field hos hds (x := vl) rfl (wpAny_bind (wpAny_field hos hds (x := vu) rfl (wpAny_bind (wpAny_field hos hds (x := vs) rfl (wpAny_pure ?_)))))))
  refine wpAny_bind (slicePart_ ps ?_)
  show wpAny _ _ (if ((-1 : Int) == 0) = true then _ else _) _ _ s
  rw [if_neg (by decide)]
  refine wpAny_bind (slicePart_ pl (wpAny_bind (slicePart_ pu (wpAny_bind (wpAny_pure ?_)))))
  show wpAny _ _ (match Builtin.Slice.sliceAdjust none none (-1) (n : Int) with | (lo, hi) => pure (lo, (-1 : Int), Builtin.Slice.slicePlaces lo hi (-1))) _ _ s
  rw [rev_adjust n]
  show wpAny _ _ (pure ((n : Int) - 1, (-1 : Int), Builtin.Slice.slicePlaces ((n : Int) - 1) (-1) (-1))) _ _ s
  rw [rev_places]
  exact wpAny_pure h
theorem getItem_tuple_rev {t sl : Addr} {items : Array Value} {vl vu vs : Value} {Q : Value → Shared → Prop} (ht : IsTup s.heap t items) (hs : s.heap.IsSliceOf sl vl vu vs) (pl : IsPart vl none) (pu : IsPart vu none) (ps : IsPart vs (some (-1)))
    (h : Q (.ref s.heap.objs.size) { s with heap := s.heap.push { cls := .type "tuple", data := .seq items.toList.reverse.toArray } })
    (hsz : items.size ≤ sizeLine) : wpAny (model prog w) A (getItem (.ref t) (.ref sl)) Q E s := by
  have htake : sizeOk (.seq items.toList.reverse.toArray) := by
    show items.toList.reverse.toArray.size ≤ sizeLine
    rw [List.size_toArray, List.length_reverse, Array.length_toList]
    exact hsz
  obtain ⟨os, hos, hcs, hds⟩ := id hs
  have hTs : s.TypeIs (.ref sl) "slice" := ⟨os, hos, hcs⟩
  unfold getItem
  try with_reducible refine wpAny_holding ?_
  first | refine wpAny_bind (wpAny_pure ?_) | skip
  refine wpAny_bind (wpAny_sequenceKey ht.typeIs (by decide) ?_)
  refine wpAny_bind (wpAny_callSpecial?_slot (name := Str.ofString "__getitem__") ht.typeIs PyProof.Rows.slot_tuple_getitem
    (wpAny_call_entry PyProof.Rows.slot_tuple_getitem ht.typeIs entry_tuple_getitem ?_ (args_tuple_getitem _ _)))
  show wpAny _ _ (Builtin.Tuple.tupleItemsOf (.ref t) >>= _) _ _ s
  refine wpAny_bind (tupleItemsOf_ ht ?_)
  refine wpAny_bind (wpAny_typeOf hTs ?_)
  rw [if_pos (by decide)]
  refine wpAny_bind (sliceApplied_rev hs pl pu ps ?_)
  have hno : ¬ (((items.size : Int) - 1 == 0 && (-1 : Int) == 1 && items.size == items.size) = true) := by
    intro q
    rw [Bool.and_eq_true, Bool.and_eq_true] at q
    exact absurd q.1.2 (by decide)
  show wpAny _ _ (if ((items.size : Int) - 1 == 0 && (-1 : Int) == 1 && items.size == items.size) = true then _ else _) _ _ s
  rw [if_neg hno, rev_pick]
  first
    | exact wpAny_bind (m := Builtin.Tuple.tupleExact _) (wpAny_newObj_type (wpAny_pure ⟨_, rfl, wpAny_pure h⟩) htake)
    | exact wpAny_bind (m := Builtin.Tuple.tupleExact _) (wpAny_newObj_type (wpAny_bind (wpAny_pure (wpAny_pure ⟨_, rfl, wpAny_pure h⟩))) htake)
    | exact wpAny_bind (wpAny_bind (m := Builtin.Tuple.tupleExact _) (wpAny_newObj_type (wpAny_pure (wpAny_pure ⟨_, rfl, wpAny_pure h⟩)) htake))
    | exact wpAny_bind (wpAny_bind (m := Builtin.Tuple.tupleExact _) (wpAny_newObj_type (wpAny_pure ⟨_, rfl, wpAny_pure h⟩) htake))
end
section
variable {X : Cx} {C : Cn}
/-- t[::-1], xs[::-1] -/
def tRevZ (K : PySem.W.Frag) (te : TE) : TE := fun σ H Q => te σ H fun x H1 => (∃ a xs, x = .ref a ∧ SqL K H1 a xs ∧ ∀ p, H1 p = none → Q (.ref p) (upd H1 p (.lst xs.reverse))) ∨ ∃ a xs, x = .ref a ∧ SqT K H1 a xs ∧ NewT H1 Q xs.reverse
theorem pe_rev {e : Expr} {te : TE} {k : Nat} {p1 p2 p3 pos : Pos} (he : PE X e te) : PE X (.Subscript e (.Slice none none (some (.UnaryOp .USub (.Constant (.int 1) k p1) p2)) p3) pos) (tRevZ X.K te) := by
  refine ⟨fun pins s σ H Q I h => ?_⟩
  refine Subscript_ (thn (he.run pins s σ H _ I h) fun v s1 ⟨x, H1, I1, r1, q1⟩ => ?_)
  have hst : PO X (some (.UnaryOp .USub (.Constant (.int 1) k p1) p2)) (tPart (tUn (rU fun i => .int (-i)) (tC (.int 1)))) := po_some (pe_un un_neg pe_int)
  refine wpAny_Slice (thn (po_none.run pins s1 σ H1 (fun o H2 => o = none ∧ H2 = H1) I1 ⟨rfl, rfl⟩) fun vl s2 ⟨l, H2, I2, pl, el, e2⟩ => ?_)
  subst el e2
  refine thn (po_none.run pins s2 σ H2 (fun o H3 => o = none ∧ H3 = H2) I2 ⟨rfl, rfl⟩) fun vu s3 ⟨u, H3, I3, pu, eu, e3⟩ => ?_
  subst eu e3
  refine thn (hst.run pins s3 σ H3 (fun o H4 => o = some (-1) ∧ H4 = H3) I3 ⟨1, rfl, -1, rfl, rfl, rfl⟩) fun vs s4 ⟨o, H4, I4, ps, eo, e4⟩ => ?_
  subst eo e4
  have I5 : Inv X pins σ H4 { s4 with heap := s4.heap.push { cls := .type "slice", data := .fields #[vl, vu, vs] } } := I4.kept (t' := s4.toks) fun b ob q => Heap.get?_push_of_some _ q
  rcases q1 with ⟨a, xs, ex, hx, q⟩ | ⟨a, xs, ex, hx, q⟩
  · subst ex
    cases r1
    obtain ⟨its, r, ht, hz⟩ := I5.list hx
    have hlen := r.length
    show wpAny (model X.prog X.w) X.A (subscriptTail e (.Slice none none (some (.UnaryOp .USub (.Constant (.int 1) k p1) p2)) p3) (.ref a) (.ref s4.heap.objs.size)) (EP X pins σ Q) X.xe { s4 with heap := s4.heap.push { cls := .type "slice", data := .fields #[vl, vu, vs] } }
    refine tail_any (ops := [.ref a, .ref s4.heap.objs.size]) ht.isList.typeIs (PySem.slot_list_getitem.lookup) ?_ (by with_unfolding_all rfl)
    refine wpAny_getItem_list_slice ht.isList (Heap.IsSliceOf.new _ vl vu vs) pl pu ps (by decide) ?_ (by rw [List.size_toArray]; omega)
    rw [PySem.W.krv_pick]
    refine ⟨.ref _, _, I5.laid (t' := s4.toks) (o := .lst xs.reverse) (fun b ob q => Heap.get?_push_of_some _ q) (Nat.le_refl _) ?_, rfl, q _ (I5.hok.fresh (Nat.le_refl _))⟩
    exact ⟨by rw [List.length_reverse]; exact hz, _, 0, r.reverse, Heap.get?_push_size _ rfl⟩
  · subst ex
    cases r1
    obtain ⟨its, r, ht, hz⟩ := I5.tuple hx
    have hlen := r.length
    show wpAny (model X.prog X.w) X.A (subscriptTail e (.Slice none none (some (.UnaryOp .USub (.Constant (.int 1) k p1) p2)) p3) (.ref a) (.ref s4.heap.objs.size)) (EP X pins σ Q) X.xe { s4 with heap := s4.heap.push { cls := .type "slice", data := .fields #[vl, vu, vs] } }
    refine tail_any (ops := [.ref a, .ref s4.heap.objs.size]) ht.typeIs (PyProof.Rows.slot_tuple_getitem.lookup) ?_ (by with_unfolding_all rfl)
    refine getItem_tuple_rev ht (Heap.IsSliceOf.new _ vl vu vs) pl pu ps ?_ (by rw [List.size_toArray]; omega)
    exact q.ep (tk := s4.toks) I5 r.reverse (by rw [List.length_reverse]; exact hz)
def zRev (t : ZT) : ZT := fun δ Q => t δ fun r δ1 => match con δ1 r with
  | some (.list ds) => Q (.own (.list ds.reverse)) δ1
  | some (.tuple ds) => Q (.val (.tuple ds.reverse)) δ1
  | _ => False
theorem pz_rev {e : Expr} {t : ZT} {k : Nat} {p1 p2 p3 pos : Pos} (hK : C.K.K = X.K) (he : PE X e (lift C t)) : PE X (.Subscript e (.Slice none none (some (.UnaryOp .USub (.Constant (.int 1) k p1) p2)) p3) pos) (lift C (zRev t)) := by
  refine PE.weak (pe_rev he) fun σ H Q ⟨W, δ, tv, τ, QQ, g, h, k⟩ => ⟨W, δ, tv, τ, _, g, h, fun v H1 W1 r δ1 g1 h1 => ?_⟩
  cases ec : con δ1 r with
  | none => simp only [ec] at h1
  | some d =>
    simp only [ec] at h1
    have hb := g1.brs ec
    cases d <;> try exact h1.elim
    · rename_i ds
      obtain ⟨q, xs, rfl, q1, q2⟩ := hb
      exact .inl ⟨q, xs, rfl, .inl (.inl q1), fun p hp => k _ _ _ _ δ1 (g1.pop.newLst hp (RepL.reverse q2)) h1⟩
    · rename_i ds
      obtain ⟨q, xs, rfl, q1, q2⟩ := Rep.tup_of hb
      rw [hK] at q1
      exact .inr ⟨q, xs, rfl, q1.sqT, fun p ob hp ho => k _ _ _ _ δ1 (g1.pop.newTup hp ho (RepL.reverse q2)) h1⟩
end
end Z
end
section
set_option Elab.async false
set_option linter.all false
set_option maxRecDepth 100000
set_option maxHeartbeats 1000000
/-! list(d), d.get(k, x), a dict's item as a target. -/
namespace Z
open PySem PySem.Spec L2
mutual
theorem imm_rep {K : Kw} {F : Addr → Prop} {H : Hp} : ∀ {v : V} {d : D}, Imm K.K H v d → Rep K F H v d
  | _, _, .non => .non
  | _, _, .bl b => .bl b
  | _, _, .int i => .int i
  | _, _, .str x => .str x
  | _, _, .tup h r => .tup h (immL_rep r)
theorem immL_rep {K : Kw} {F : Addr → Prop} {H : Hp} : ∀ {v : List V} {d : List D}, ImmL K.K H v d → RepL K F H v d
  | _, _, .nil => .nil
  | _, _, .cons h r => .cons (imm_rep h) (immL_rep r)
end
theorem ents_keys {K : Kw} {H : Hp} : ∀ {es : List DictEntry} {ks : List (D × V)}, Paired (EntAt K H) es ks → ∃ ys, Vals ys (es.map (·.key)) ∧ ImmL K.K H ys (ks.map (·.1))
  | _, _, .nil => ⟨[], .nil, .nil⟩
  | _, _, .cons h r => by
    obtain ⟨ys, h1, h2⟩ := ents_keys r
    obtain ⟨_, n, x, _, _, _, h3, h4⟩ := h
    exact ⟨x :: ys, .cons h3 h1, .cons h4 h2⟩
theorem ents_vals {K : Kw} {H : Hp} : ∀ {es : List DictEntry} {ks : List (D × V)}, Paired (EntAt K H) es ks → Vals (ks.map (·.2)) (es.map (·.val))
  | _, _, .nil => .nil
  | _, _, .cons h r => .cons h.1 (ents_vals r)
theorem items_eq {α : Type} {f : α → Value} {es : Array α} {acc : Array Value} (h : ItemsOf (fun i v => ∃ hi : i < es.size, v = f es[i]) acc es.size) : acc.toList = es.toList.map f := by
  apply List.ext_getElem?
  intro j
  by_cases hj : j < es.size
  · have hj2 : j < acc.size := by rw [h.1]; exact hj
    have e1 : acc[j]? = some acc[j] := Array.getElem?_eq_getElem hj2
    obtain ⟨hi, e2⟩ := h.2 j _ e1
    rw [Array.getElem?_toList, e1, e2, List.getElem?_map, Array.getElem?_toList, Array.getElem?_eq_getElem hj]
    rfl
  · rw [Array.getElem?_toList, Array.getElem?_eq_none (by rw [h.1]; omega), List.getElem?_map, Array.getElem?_toList, Array.getElem?_eq_none (by omega)]
    rfl
theorem items_key {es : Array DictEntry} {acc : Array Value} (h : ItemsOf (fun i v => ∃ hi : i < es.size, v = es[i].key) acc es.size) : acc.toList = es.toList.map (·.key) := items_eq h
def rListD (K : Kw) : List V → Hp → VK → Prop := fun xs H Q => ∃ a ks, xs = [.ref a] ∧ DicAt K H a ks ∧ ∀ ys l, ImmL K.K H ys (ks.map (·.1)) → H l = none → Q (.ref l) (upd H l (.lst ys))
def rGetD (K : Kw) : V → List V → Hp → VK → Prop := fun x vs H Q => ∃ a ks d y e, x = .ref a ∧ vs = [y, e] ∧ DicAt K H a ks ∧ DKey d ks ∧ Imm K.K H y d ∧ Q ((look ks d).getD e) H
theorem relO_getD {o : Option V} {u : Option Value} {x : V} {v : Value} (r : RelO o u) (h : RelV x v) : RelV (o.getD x) (u.getD v) := by
  cases o <;> cases u <;> first | exact h | exact r | exact r.elim
section
variable {X : Cx}
theorem call_listDt (hc : X.calm = true) : CallR X (.type "list") (rListD ⟨X.K, X.w⟩) := by
  intro pins s σ H xs us Q I r q
  obtain ⟨a, ks, rfl, ⟨es, ep, ho, hp, hn⟩, q⟩ := q
  obtain rfl := Vals.ref1 r
  have ok : (a == sysModules) = false ∧ es.size ≤ sizeLine ∧ s.heap.DictRaw a es ep := (I.hok a _ ho).1
  obtain ⟨h1, h2, h3⟩ := ok
  refine PySem.W.kdl_call (KdlSrc.rawDict (es := es) (ep := ep) h1) (I.ok.hd hc) h3 h2 fun h' tk acc c' hk hD hacc => ?_
  obtain ⟨ys, e1, e2⟩ := ents_keys hp
  rw [← items_key hacc] at e1
  have hl : ys.length ≤ sizeLine := by rw [e1.length, Array.length_toList, hacc.1]; exact h2
  exact ⟨.ref s.heap.objs.size, upd H s.heap.objs.size (.lst ys), I.laid (t' := tk) hk (Nat.le_refl _)
    (show ObjOk X.prog X.w _ _ _ (.lst ys) from ⟨hl, acc.toList, c', e1, by rw [Array.toArray_toList]; exact hD⟩), rfl, q ys _ e2 (I.hok.fresh (Nat.le_refl _))⟩
theorem CallR.or {f : Value} {r r' : List V → Hp → VK → Prop} (h : CallR X f r) (h' : CallR X f r') : CallR X f (fun xs H Q => r xs H Q ∨ r' xs H Q) := by
  intro pins s σ H xs us Q I rv q
  rcases q with q | q
  · exact h pins s σ H xs us Q I rv q
  · exact h' pins s σ H xs us Q I rv q
theorem mt_getD (hu : X.A.units + 65 < cLine) : MtR X "dict.get" (rGetD ⟨X.K, X.w⟩) := by
  intro pins s σ H x xs v us Q I rx rxs h
  obtain ⟨a, ks, d, y, e, rfl, rfl, hd, hdk, im, q⟩ := h
  cases rx
  obtain ⟨u1, u2, rfl, r1, r2⟩ := rxs.two
  rcases hdk with ⟨⟨k1, n, k2, k3⟩, ht⟩ | ⟨k1, ht⟩
  · obtain ⟨t, rfl⟩ := imm_ref im k1
    cases r1
    obtain ⟨h1, zs, h2, h3, h4⟩ := dic_tup I rfl rfl hd ht
    refine getOr_keyed (knd := nestedKind X.prog X.w) (k := n) (by show X.A.units + 1 + 8 < cLine; omega) ⟨imm_nested I _ _ _ _ im rfl k2, k3⟩ h1 ⟨zs, h2, rfl⟩ ?_
    have c := cor_look k2 h3
    rw [← valueAt_pairsH] at c
    exact ⟨_, H, I.tok _, relO_getD c r2, q⟩
  · obtain ⟨k, rfl⟩ := dk_pl k1
    have ex := imm_dk im
    subst ex
    obtain ⟨h1, qs, h2, h3, h4⟩ := dic_pl I rfl hd ht
    refine call_meetsIn PySem.F.slot_dict_get h2.typeIs PySem.F.entry_dict_get (PySem.F.args_dict_get_3 _ _ _) (meets_dict_get_default (mixKind X.prog X.w) a (kV_is r1) h1 u2) ⟨_, h2.mapOf, ?_⟩
    exact ⟨_, H, I.tok _, relO_getD (corP_look (k := k) h3) r2, q⟩
end
def tyD (K : Kw) (x : V) (H : Hp) : Prop := ∃ p ks, x = .ref p ∧ DicAt K H p ks
section
variable {X : Cx} {C : Cn}
theorem tyi_D : TyI X "dict" (tyD ⟨X.K, X.w⟩) := by
  rintro pins σ H s x v I r ⟨p, ks, rfl, es, ep, ho, _⟩
  cases r
  have ok : (p == sysModules) = false ∧ es.size ≤ sizeLine ∧ s.heap.DictRaw p es ep := (I.hok p _ ho).1
  obtain ⟨_, _, o, h3, h4, h5⟩ := ok
  refine ⟨⟨o, h3, h4.1⟩, fun a e => ?_⟩
  cases e
  exact ⟨o, h3, h4.2.1⟩
theorem ty_D (hK : (⟨X.K, X.w⟩ : Kw) = C.K) {m : Nat} (hm : m = 3) {W : Wd} {H : Hp} {v : V} {d : D} (h : Brs C.K W.F H v d) (hk : kdOf d = m) : tyD ⟨X.K, X.w⟩ v H := by
  subst hm
  cases d <;> try cases hk
  obtain ⟨a, ks, rfl, h1, _⟩ := h
  rw [hK]
  exact ⟨a, ks, rfl, h1⟩
/-- d.get(k, x) -/
def mGet : Ms := ⟨3, zVal, fun r rs δ Q => match con δ r, rs with
  | some (.dict kvs), [.val k, .val e] => DKey k kvs ∧ Q (.val ((look kvs k).getD e)) δ
  | _, _ => False⟩
theorem repK_getD {K : Kw} {F : Addr → Prop} {H : Hp} {d e : D} {v : V} {ks : List (D × V)} {kvs : List (D × D)} (h : RepK K F H ks kvs) (he : Rep K F H v e) : Rep K F H ((look ks d).getD v) ((look kvs d).getD e) := by
  cases q : look kvs d with
  | none =>
    have := repK_some (d := d) h
    rw [q] at this
    cases q2 : look ks d with
    | none => exact he
    | some _ => rw [q2] at this; cases this
  | some c =>
    obtain ⟨w, h1, h2⟩ := repK_look h c q
    rw [h1]; exact h2
theorem ms_get (hK : (⟨X.K, X.w⟩ : Kw) = C.K) (hu : X.A.units + 65 < cLine) : MsOk X C "get" mGet :=
  ⟨"dict", "dict.get", tyD ⟨X.K, X.w⟩, _, _, F.plainAttrs_dict, F.slot_dict_get, F.type_dict_get, tyi_D, mt_getD hu, hand_val, ty_D hK rfl, fun {W H σ δ x us tv rx rs τ Q QQ} g hl hP hf k => by
    unfold mGet at hf
    simp only at hf
    split at hf
    · rename_i _ _ kvs kk e hc
      match us, hl with
      | [u1, u2], _ =>
        have g1 := g.popN (by simpa using hl)
        have b := g1.brs hc
        obtain ⟨a, ks, rfl, h1, h2⟩ := b
        have t2 : Rep C.K W.F H u2 e := g.temps.1
        have t1 : Rep C.K W.F H u1 kk := g.temps.2.1
        rw [hK]
        refine ⟨a, ks, kk, u1, u2, rfl, rfl, h1, repK_tu h2 hf.1, brs_key t1.brs hf.1, ?_⟩
        exact k _ H W (.val _) δ (g1.pop.push (r := .val _) (repK_getD h2 t2)) hf.2
    · exact hf.elim⟩
/-- list(x) -/
def fListZ : FN
  | [.list xs], Q => Q (.own (.list xs))
  | [.tuple xs], Q => Q (.own (.list xs))
  | [.dict kvs], Q => Q (.own (.list (kvs.map (·.1))))
  | _, _ => False
theorem cd_listZ (hK : (⟨X.K, X.w⟩ : Kw) = C.K) : CallD C (fun xs H Q => (∃ p ys, xs = [.ref p] ∧ (SqL X.K H p ys ∨ SqT X.K H p ys) ∧ ∀ l, H l = none → Q (.ref l) (upd H l (.lst ys))) ∨ rListD ⟨X.K, X.w⟩ xs H Q) fListZ := by
  intro W H σ δ vs ds tv τ QQ Q g hb hf k
  have hb0 := hb
  cases hb with
  | nil => exact hf.elim
  | cons h1 h2 =>
    rename_i v vs d ds
    cases h2 with
    | cons _ _ => cases d <;> exact hf.elim
    | nil =>
      cases d <;> try exact hf.elim
      · exact .inl (cd_list (X := X) (C := C) (by rw [← hK]) g hb0 hf k)
      · exact .inl (cd_list (X := X) (C := C) (by rw [← hK]) g hb0 hf k)
      · obtain ⟨a, ks, rfl, q1, q2⟩ := h1
        rw [hK]
        refine .inr ⟨a, ks, rfl, q1, fun ys l hi hl => ?_⟩
        rw [repK_keys q2] at hi
        exact k _ _ _ _ (g.newLst hl (immL_rep hi)) hf
/-! ### a dict's item as a target -/
def zTx (to ti : ZT) : ZG := fun d δ2 Q => to δ2 fun ro δ3 => ti δ3 fun ri δ4 => match ro, con δ4 ri with
  | .slot j, some x => (match δ4[j]?, x with
    | some (some (.own (.list ds))), .int i => ∃ n, ixN ds.length i = some n ∧ Q (δ4.set j (some (.own (.list (ds.set n d)))))
    | some (some (.own (.dict kvs))), x => DKey x kvs ∧ kvs.length < lineN ∧ Q (δ4.set j (some (.own (.dict (dput kvs x d)))))
    | _, _ => False)
  | _, _ => False
variable {o a : Expr} {p2 : Pos} {ta tb : ZT}
theorem zg_sub {vs : List Nat} (hK : (⟨X.K, X.w⟩ : Kw) = C.K) (hu : X.A.units + 65 < cLine) (ho : PE X o (lift C ta)) (hi : PE X a (lift C tb))
    (ha : ∀ v, assign (.Subscript o a p2) X.env v = (do
      let ov ← holding [v] (eval o X.env)
      let iv ← holding [v, ov] (eval a X.env)
      standAt p2
      holding [v, ov, iv] (setItem ov iv v)
      release [v, ov, iv] [])) :
    PG X (.Subscript o a p2) (liftG C vs (zTx ta tb)) := by
  have hset := set_all (X := X) hu
  rw [hK] at hset
  refine ⟨fun pins s σ H v u Q I r ⟨W, δ, tv, τ, d, QQ, g, hs, h, k⟩ => (pg_sub ho hi hset ha).run pins s σ H v u Q I r ?_⟩
  refine ⟨W, δ, v :: tv, .val d :: τ, _, g, h, fun vo H3 W3 ro δ3 g3 q3 => ⟨W3, δ3, vo :: v :: tv, ro :: .val d :: τ, _, g3, q3, fun vi H4 W4 ri δ4 g4 q4 => ?_⟩⟩
  cases ro with
  | slot j =>
    cases ei : con δ4 ri with
    | none => simp only [ei] at q4
    | some di =>
      simp only [ei] at q4
      cases ej : δ4[j]? with
      | none => simp only [ej] at q4
      | some oo =>
        simp only [ej] at q4
        have hvo : σ[j]? = some (some vo) := g4.temps.2.1
        split at q4
        · rename_i ds i heq
          cases heq
          have hvi := brs_int (g4.brs ei)
          obtain ⟨n, hn, q5⟩ := q4
          obtain ⟨l, xs, hv, ho', hl, hr, wr⟩ := g4.own_lst ej
          rw [hv] at hvo
          have e : V.ref l = vo := Option.some.inj (Option.some.inj hvo)
          subst e
          have g5 := wr (xs.set n v) (ds.set n d) (hr.set n g4.temps.2.2.1)
          exact .inl ⟨l, xs, i, n, rfl, hvi, hl, by rw [hr.length]; exact hn, k σ _ W4 _ g5.pop.pop.pop rfl q5⟩
        · rename_i kvs x heq
          cases heq
          obtain ⟨h1, h3, q5⟩ := q4
          obtain ⟨l, ks, hv, ho', hl, hr, wr⟩ := g4.own_dic ej
          rw [hv] at hvo
          have e : V.ref l = vo := Option.some.inj (Option.some.inj hvo)
          subst e
          refine .inr ⟨l, ks, _, rfl, hl, repK_tu hr h1, brs_key (g4.brs ei) h1, by rw [hr.length]; exact h3, fun es ep hp hn => ?_⟩
          have g5 := wr es ep _ _ hp hn (repK_put g4.temps.2.2.1 hr)
          exact k σ _ W4 _ g5.pop.pop.pop rfl q5
        · exact q4.elim
  | _ => exact q4.elim
end
end Z
end
section
set_option Elab.async false
set_option linter.all false
set_option maxRecDepth 100000
set_option maxHeartbeats 1000000
/-! zip of two tuples; the pairs are known to bear no dict. -/
namespace Z
open PySem PySem.Spec L2 RZ
def ItZ (K : PySem.W.Frag) (a b : Addr) : It where
  go := fun k G => ∃ (ys zs : List V) (y z : V), SqT K G a ys ∧ SqT K G b zs ∧ ys[k]? = some y ∧ zs[k]? = some z
  yld := fun k G v G' => ∃ B y z o, v = .ref B ∧ G B = none ∧ o.dict = none ∧ G' = upd G B (.frz o (.tup [y, z])) ∧ (∀ ys, SqT K G a ys → ys[k]? = some y) ∧ ∀ zs, SqT K G b zs → zs[k]? = some z
  stop := fun k G => ∃ ys zs : List V, SqT K G a ys ∧ SqT K G b zs ∧ (ys.length ≤ k ∨ zs.length ≤ k)
theorem five {c a b d e f : Addr} (m : c ∈ [a, b, d, e, f]) : c = a ∨ c = b ∨ c = d ∨ c = e ∨ c = f := by simpa using m
theorem turn_zipF {P : Program} {w : World} {K : PySem.W.Frag} {elts : List Expr} {kk : Nat} {tpos : Pos} {a b m n p i j : Addr} (D : ZipApart m n p i j a b) :
    Turn P w K (.Tuple elts kk tpos) (ItZ K a b) [m, n, p, i, j] m (fun k h => IsZip h m n p .none ∧ IsPair h n (.ref i) (.ref j) ∧ (∃ x y, IsPair h p x y) ∧ h.IsTupleIter i a k ∧ h.IsTupleIter j b k) where
  mem := (turn_zipT (P := P) (w := w) (K := K) (elts := elts) (kk := kk) (tpos := tpos) D).mem
  obj := (turn_zipT (P := P) (w := w) (K := K) (elts := elts) (kk := kk) (tpos := tpos) D).obj
  keep := (turn_zipT (P := P) (w := w) (K := K) (elts := elts) (kk := kk) (tpos := tpos) D).keep
  done := (turn_zipT (P := P) (w := w) (K := K) (elts := elts) (kk := kk) (tpos := tpos) D).done
  self := (turn_zipT (P := P) (w := w) (K := K) (elts := elts) (kk := kk) (tpos := tpos) D).self
  item := by
    intro X hP hw hK hc k pins s σ H E I hf st hg
    subst hP hw hK
    obtain ⟨s1, s2, ⟨u0, v0, s3⟩, s4, s5⟩ := st
    obtain ⟨ys, zs, y, z, qa, qb, ey, ez⟩ := hg
    obtain ⟨as, ra, ta⟩ := tupOf I qa
    obtain ⟨bs, rb, tb⟩ := tupOf I qb
    obtain ⟨u, hu, ru⟩ := ra.get ey
    obtain ⟨v, hv, rv⟩ := rb.get ez
    have lm : m < s.heap.objs.size := Heap.lt_size s1
    refine pyNext_zipT_item D s1 s2 s3 s4 s5 ta tb (x := u) (y := v) (by simpa using hu) (by simpa using hv) fun h1 g1 g2 g3 g4 g5 sz kp => ?_
    refine ⟨_, rfl, wpAny_letOwnedTupleGo_zip (s := { s with heap := h1 }) g1 fun h2 g6 sb => ?_⟩
    have g7 := (sb.2 _ (Nat.ne_of_gt lm)).trans g5
    have up : ∀ c o, c ∉ [m, n, p, i, j] → s.heap.get? c = some o → h2.get? c = some o := fun c o hb q => by
      have n1 : c ≠ m := fun z => hb (by rw [z]; exact List.mem_cons_self)
      have n2 : c ≠ p := fun z => hb (by rw [z]; simp)
      have n3 : c ≠ i := fun z => hb (by rw [z]; simp)
      have n4 : c ≠ j := fun z => hb (by rw [z]; simp)
      exact (sb.2 c n1).trans (kp c o n1 n2 n3 n4 q)
    have J : Inv X pins σ (upd H s.heap.objs.size (.frz { cls := .type "tuple", data := .seq #[u, v] } (.tup [y, z]))) { s with heap := h2 } :=
      I.turnedNew (t' := s.toks) (ch := [m, n, p, i, j]) up hf (Nat.le_refl _) ⟨g7, by show 2 ≤ sizeLine; decide, [u, v], .cons ru (.cons rv .nil), ⟨_, g7, rfl, _, rfl⟩⟩
    refine ⟨.ref s.heap.objs.size, _, J, rfl, ⟨_, y, z, _, rfl, I.hok.fresh (Nat.le_refl _), rfl, rfl, fun l hl => by rw [I.tuple_inj hl qa]; exact ey, fun l hl => by rw [I.tuple_inj hl qb]; exact ez⟩, ⟨g6, (sb.2 _ D.TIz).trans (kp _ _ D.TIz D.TITO D.TIi1 D.TIi2 s2), ⟨u, v, (sb.2 _ D.TOz).trans g2⟩, g3.at fun o q => (sb.2 _ D.i1z).trans q, g4.at fun o q => (sb.2 _ D.i2z).trans q⟩, fun c hcm => ?_⟩
    have lc : c < s.heap.objs.size := by
      rcases five hcm with z | z | z | z | z
      · rw [z]; exact lm
      · rw [z]; exact Heap.lt_size s2
      · rw [z]; exact Heap.lt_size s3
      · rw [z]; obtain ⟨_, q, _⟩ := s4; exact Heap.lt_size q
      · rw [z]; obtain ⟨_, q, _⟩ := s5; exact Heap.lt_size q
    rw [upd_ne (Nat.ne_of_lt lc)]
    exact (hf c hcm).1
section
variable {X : Cx} {C : Cn} {e e2 : Expr} {p pos : Pos}
def iZp (K : PySem.W.Frag) (ta : TA) : TI := fun σ H R => ta σ H fun vs G => ∃ a b ys zs, vs = [.ref a, .ref b] ∧ SqT K G a ys ∧ SqT K G b zs ∧ R (ItZ K a b) G
theorem pi_zp {ta : TA} {tpos : Pos} {elts : List Expr} {kk : Nat} (hg : Gl X "zip") (hm : X.mg "zip" = none) (ha : PA X [e, e2] ta) (hs : noStar e = true) (hs2 : noStar e2 = true) :
    PI X (.Tuple elts kk tpos) (.Call (.Name "zip" p) [e, e2] [] pos) (iZp X.K ta) := by
  refine ⟨fun pins s σ H R I h => ?_⟩
  refine PyProof.Rows.Call_ (ld_blt I hg hm PyProof.Rows.boot_zip (PyProof.Rows.callWith_type1 (thn (ha.run pos pins s σ H _ I h) fun us s1 ⟨vs, G, J, rv, q⟩ => ?_) (star_cons hs) (star_any (by simp [hs2]))))
  obtain ⟨a, b, ys, zs, rfl, qa, qb, q⟩ := q
  obtain ⟨u1, u2, rfl, r1, r2⟩ := rv.two
  cases r1
  cases r2
  obtain ⟨as, ra, ta⟩ := tupOf J qa
  obtain ⟨bs, rb, tb⟩ := tupOf J qb
  have la : a < s1.heap.objs.size := by obtain ⟨_, z, _⟩ := id ta; exact Heap.lt_size z
  have lb : b < s1.heap.objs.size := by obtain ⟨_, z, _⟩ := id tb; exact Heap.lt_size z
  refine call_zipT ta tb fun h1 g1 g2 g3 g4 g5 sz kp => wpAny_pyIter_zip g1 ?_
  refine ⟨_, _, _, _, G, rfl, J.kept (t' := s1.toks) kp, turn_zipF (PySem.W.ktu_apart s1.heap.objs.size a b la lb), ⟨g1, g2, ⟨_, _, g3⟩, g4, g5⟩, fun c hc => ?_, q⟩
  have hle : s1.heap.objs.size ≤ c := by
    rcases five hc with z | z | z | z | z <;> rw [z] <;> omega
  exact J.fpOk hle (J.hok.fresh hle)
/-- the pairs -/
def zpD : List D → List D → List D
  | a :: as, b :: bs => .tuple [a, b] :: zpD as bs
  | _, _ => []
theorem zpD_get : ∀ {as bs : List D} {i : Nat} {d : D}, (zpD as bs)[i]? = some d → ∃ x y, as[i]? = some x ∧ bs[i]? = some y ∧ d = .tuple [x, y]
  | a :: as, b :: bs, 0, d, h => by cases h; exact ⟨a, b, rfl, rfl, rfl⟩
  | a :: as, b :: bs, i + 1, d, h => zpD_get (as := as) (bs := bs) (i := i) h
  | [], _, _, _, h => by simp [zpD] at h
  | _ :: _, [], _, _, h => by simp [zpD] at h
theorem zpD_len : ∀ {as bs : List D}, as.length ≤ (zpD as bs).length ∨ bs.length ≤ (zpD as bs).length
  | [], _ => .inl (Nat.zero_le _)
  | _ :: _, [] => .inr (Nat.zero_le _)
  | a :: as, b :: bs => (zpD_len (as := as) (bs := bs)).imp (fun h => Nat.succ_le_succ h) fun h => Nat.succ_le_succ h
def zZip (l : ZL) : ZI := fun δ Q => l δ fun rs δ1 => match rs with
  | [.val (.tuple as), .val (.tuple bs)] => Q (zpD as bs) id δ1
  | _ => False
theorem wlk_zp {a b : Addr} {as bs : List D} : Wlk C (ItZ C.K.K a b) [.ref b, .ref a] [.val (.tuple bs), .val (.tuple as)] (zpD as bs) := by
  have rd : ∀ {W : Wd} {H : Hp} {σ : L2.St} {δ : Sto} {av tv : List V} {ar τ : List RV}, av.length = ar.length → Gd C W H σ δ (av ++ ([.ref b, .ref a] ++ tv)) (ar ++ ([.val (.tuple bs), .val (.tuple as)] ++ τ)) → ∃ ys zs, SqT C.K.K H a ys ∧ RepL C.K W.F H ys as ∧ SqT C.K.K H b zs ∧ RepL C.K W.F H zs bs := fun {W H σ δ av tv ar τ} hl g => by
    have g1 := g.popN hl
    obtain ⟨b', zs, e1, h1, h2⟩ := Rep.tup_of (show Rep C.K W.F H (.ref b) (.tuple bs) from g1.temps.1)
    obtain ⟨a', ys, e2, h3, h4⟩ := Rep.tup_of (show Rep C.K W.F H (.ref a) (.tuple as) from g1.temps.2.1)
    cases e1
    cases e2
    exact ⟨ys, zs, h3.sqT, h4, h1.sqT, h2⟩
  refine ⟨fun {W H σ δ av tv ar τ i d} hl g hd => ?_, fun {W H σ δ av tv ar τ} hl g => ?_⟩
  · obtain ⟨ys, zs, h1, h2, h3, h4⟩ := rd hl g
    obtain ⟨x, y, hx, hy, rfl⟩ := zpD_get hd
    obtain ⟨vx, gx, rx⟩ := h2.get hx
    obtain ⟨vy, gy, ry⟩ := h4.get hy
    refine ⟨⟨ys, zs, vx, vy, h1, h3, gx, gy⟩, fun v H' ⟨T, x', y', o, e1, hT, ho, e2, fx, fy⟩ => ?_⟩
    subst e1 e2
    have q1 := fx ys h1
    have q2 := fy zs h3
    rw [gx] at q1
    rw [gy] at q2
    cases q1
    cases q2
    exact g.newTup hT ho (.cons rx (.cons ry .nil))
  · obtain ⟨ys, zs, h1, h2, h3, h4⟩ := rd hl g
    exact ⟨ys, zs, h1, h3, by rw [h2.length, h4.length]; exact zpD_len⟩
theorem zi_zp {tpos : Pos} {elts : List Expr} {kk n : Nat} {l : ZL} (hK : C.K.K = X.K) (hg : Gl X "zip") (hm : X.mg "zip" = none) (ha : PA X [e, e2] (liftA C RV.isVal n l)) (hs : noStar e = true) (hs2 : noStar e2 = true) :
    PI X (.Tuple elts kk tpos) (.Call (.Name "zip" p) [e, e2] [] pos) (liftI C (zZip l)) := by
  refine PI.weak (pi_zp hg hm ha hs hs2) fun σ H R ⟨W, δ, tv, τ, QQ, g, h, k⟩ => ⟨W, δ, tv, τ, _, g, h, fun us H1 W1 rs δ1 g1 hl hn hP h1 => ?_⟩
  split at h1
  · rename_i _ as bs
    match us, hl with
    | [u1, u2], _ =>
      have g2 : Gd C W1 H1 σ δ1 (u2 :: u1 :: tv) (.val (.tuple bs) :: .val (.tuple as) :: τ) := g1
      obtain ⟨b, zs, rfl, q1, q2⟩ := Rep.tup_of (show Rep C.K W1.F H1 u2 (.tuple bs) from g2.temps.1)
      obtain ⟨a, ys, rfl, q3, q4⟩ := Rep.tup_of (show Rep C.K W1.F H1 u1 (.tuple as) from g2.temps.2.1)
      refine ⟨a, b, ys, zs, rfl, by rw [← hK]; exact q3.sqT, by rw [← hK]; exact q1.sqT, ?_⟩
      refine k _ H1 W1 δ1 [.ref b, .ref a] [.val (.tuple bs), .val (.tuple as)] _ id g2 rfl (fun x m => ?_) (by rw [← hK]; exact wlk_zp) (fun g => g.pop.pop) h1
      rcases List.mem_cons.mp m with rfl | m
      · exact trivial
      · rw [List.mem_singleton.mp m]; exact trivial
  · exact h1.elim
end
end Z
end
section
set_option Elab.async false
set_option linter.all false
set_option maxRecDepth 100000
set_option maxHeartbeats 1000000
/-! set(x) != set(y), x and y names of tuples of ints. -/
namespace Z
open PySem PySem.Spec L2 PyProof.Rows
theorem entry_s_ne : entryFor table "set.__ne__" = some Builtin.«frozenset.__ne__» := entryFor_alias (id' := "frozenset.__ne__") (by kernel_rfl) rfl (by decide +kernel) (by kernel_rfl)
theorem entry_s_eq : entryFor table "set.__eq__" = some Builtin.«frozenset.__eq__» := entryFor_alias (id' := "frozenset.__eq__") (by kernel_rfl) rfl (by decide +kernel) (by kernel_rfl)
theorem sub_set_self' : isSubtype (.type "set") (.type "set") = pure true := by rw [isSubtype_type]; kernel_rfl
section
variable {P : Program} {w : World} {A : Around} {E : Value → Shared → Prop} {s : Shared} {a b : Addr} {S T : Int → Bool} {n m : Nat}
theorem quiet_good {e : Int × Value} (g : GoodE e) : Builtin.Frozenset.quietEq e.2 = pure true := by
  obtain ⟨k, tk, h, _⟩ := g
  rw [h]; rfl
theorem unseen_ok {o u : Obj} {es fs : Array (Int × Value)} {ep fp : Nat} {t r : SetTable} {Q : List (Int × Value) → Shared → Prop} (ho : s.heap.get? a = some o) (hd : o.data = .set es ep t) (hf : t.fits es.size = true)
    (go : ∀ e ∈ es.toList, GoodE e) (hu : s.heap.get? b = some u) (hd2 : u.data = .set fs fp r) (hf2 : r.fits fs.size = true) (gu : ∀ e ∈ fs.toList, GoodE e) (h : Q es.toList s) :
    wpAny (model P w) A (Builtin.Frozenset.walkUnseen a b) Q E s := by
  unfold Builtin.Frozenset.walkUnseen
  refine wpAny_bind (wpAny_setEntries_of ho hd hf ?_)
  refine wpAny_bind (wpAny_setEntries_of hu hd2 hf2 ?_)
  refine wpAny_bind (wpAny_forIn_list _ (fun rest b s' => b.1 = none ∧ s' = s ∧ ∀ e ∈ rest, GoodE e) _ ?_ ?_ _ _ ⟨rfl, rfl, fun e he => (List.mem_append.mp he).elim (go e) (gu e)⟩)
  · rintro x rest bb s' ⟨e1, rfl, g⟩
    show wpAny _ _ (Builtin.Frozenset.quietEq x.2 >>= _) _ _ _
    rw [quiet_good (g x (List.mem_cons_self ..))]
    refine wpAny_bind (wpAny_pure ?_)
    exact wpAny_pure ⟨rfl, rfl, fun e he => g e (List.mem_cons_of_mem _ he)⟩
  · rintro ⟨b1, b2⟩ s' ⟨e1, rfl, _⟩
    cases e1
    exact wpAny_pure h
theorem subset_ok {id : String} {Q : Bool → Shared → Prop} (R1 : SetR w s.heap a S n) (R2 : SetR w s.heap b T m) (hnm : n ≤ m) (h : ∀ z : Bool, (z = true ↔ ∀ k, S k = true → T k = true) → Q z s) :
    wpAny (model P w) A (Builtin.Frozenset.subsetOf id a b) Q E s := by
  have R2' := R2
  obtain ⟨o, es, ep, t, ho, _, hd, go, nd, hm, hb, hf, hn, _⟩ := R1
  obtain ⟨u, fs, fp, r, hu, _, hd2, gu, nd2, hm2, hb2, hf2, hn2, _⟩ := R2
  unfold Builtin.Frozenset.subsetOf Builtin.Frozenset.sizeOf
  refine wpAny_bind (wpAny_bind (wpAny_setEntries_of ho hd hf (wpAny_pure ?_)))
  refine wpAny_bind (wpAny_bind (wpAny_setEntries_of hu hd2 hf2 (wpAny_pure ?_)))
  rw [if_neg (by omega)]
  refine wpAny_bind (wpAny_setEpoch_of ho hd hf ?_)
  refine wpAny_bind (unseen_ok ho hd hf go hu hd2 hf2 gu ?_)
  refine wpAny_bind (wpAny_forIn_list _ (fun rest b s' => b.1 = none ∧ s' = s ∧ (∀ e ∈ rest, e ∈ es.toList) ∧ ∀ e ∈ es.toList, e ∈ rest ∨ T (keyOf e) = true) _ ?_ ?_ _ _ ⟨rfl, rfl, fun e he => he, fun e he => .inl he⟩)
  · rintro ⟨hx, x⟩ rest bb s' ⟨e1, rfl, g, dn⟩
    have gx := go _ (g _ (List.mem_cons_self ..))
    obtain ⟨k, tk, h1, h2⟩ := gx
    subst h1
    subst h2
    refine wpAny_bind (wpAny_holding (wpAny_setFind_of (knd := intKind P w) (k := k) (intKind_is P w k tk) rfl R2'.setOf fun q hq => ?_))
    cases q with
    | none =>
      refine wpAny_pure ?_
      show wpAny _ _ (pure false) _ _ _
      have hfk : T k = false := hq.symm
      refine wpAny_pure (h false ⟨(fun z => nomatch z), (fun z => ?_)⟩)
      have := z k ((hm k).mpr (List.mem_map.mpr ⟨_, g _ (List.mem_cons_self ..), rfl⟩))
      rw [hfk] at this
      exact this
    | some j =>
      refine wpAny_bind ?_
      unfold Builtin.Frozenset.unchanged
      refine wpAny_bind (wpAny_setEpoch_of ho hd hf ?_)
      simp only [bne_self_eq_false, Bool.false_eq_true, if_false]
      refine wpAny_pure (wpAny_pure ⟨rfl, rfl, fun e he => g e (List.mem_cons_of_mem _ he), fun e he => ?_⟩)
      rcases dn e he with z | z
      · rcases List.mem_cons.mp z with rfl | z
        · exact .inr hq.symm
        · exact .inl z
      · exact .inr z
  · rintro ⟨b1, b2⟩ s' ⟨e1, rfl, _, dn⟩
    cases e1
    refine wpAny_pure (h true ⟨fun _ k hk => ?_, fun _ => rfl⟩)
    obtain ⟨e, he, rfl⟩ := List.mem_map.mp ((hm k).mp hk)
    exact (dn e he).elim (fun z => nomatch z) fun z => z
theorem setR_num (R1 : SetR w s.heap a S n) (R2 : SetR w s.heap b T m) (h : ∀ k, S k = T k) : n = m := by
  obtain ⟨o, es, ep, t, ho, _, hd, go, nd, hm, hb, hf, hn, _⟩ := R1
  obtain ⟨u, fs, fp, r, hu, _, hd2, gu, nd2, hm2, hb2, hf2, hn2, _⟩ := R2
  have e := (List.perm_ext_iff_of_nodup nd nd2).mpr fun k => by rw [← hm k, ← hm2 k, h k]
  have := e.length_eq
  simp only [List.length_map, Array.length_toList] at this
  omega
theorem nodup_sub : ∀ (l m : List Int), l.Nodup → (∀ k ∈ l, k ∈ m) → l.length ≤ m.length
  | [], _, _, _ => Nat.zero_le _
  | x :: l, m, hn, hs => by
    have h1 := List.nodup_cons.mp hn
    have h2 := nodup_sub l (m.erase x) h1.2 fun k hk => (List.mem_erase_of_ne (fun e => h1.1 (by rw [← e]; exact hk))).mpr (hs k (List.mem_cons_of_mem _ hk))
    have h3 := List.length_erase_of_mem (hs x (List.mem_cons_self ..))
    have h4 := List.length_pos_of_mem (hs x (List.mem_cons_self ..))
    simp only [List.length_cons]
    omega
theorem sub_full {l m : List Int} (h1 : l.Nodup) (h2 : m.Nodup) (hs : ∀ k ∈ l, k ∈ m) (hl : m.length ≤ l.length) : ∀ k ∈ m, k ∈ l := by
  intro k hk
  by_cases hc : k ∈ l
  · exact hc
  · have := nodup_sub (k :: l) m (List.nodup_cons.mpr ⟨hc, h1⟩) fun j hj => (List.mem_cons.mp hj).elim (fun e => e ▸ hk) (hs j)
    simp only [List.length_cons] at this
    omega
theorem setR_full (R1 : SetR w s.heap a S n) (R2 : SetR w s.heap b T n) (h : ∀ k, S k = true → T k = true) : ∀ k, T k = true → S k = true := by
  obtain ⟨o, es, ep, t, ho, _, hd, go, nd, hm, hb, hf, hn, _⟩ := R1
  obtain ⟨u, fs, fp, r, hu, _, hd2, gu, nd2, hm2, hb2, hf2, hn2, _⟩ := R2
  intro k hk
  rw [hm]
  rw [hm2] at hk
  exact sub_full nd nd2 (fun j hj => (hm2 j).mp (h j ((hm j).mpr hj))) (by simp only [List.length_map, Array.length_toList]; omega) k hk
set_option maxHeartbeats 4000000 in
theorem cmpSets {neg : Bool} {ns ms : List Int} {Q : Value → Shared → Prop} (R1 : SetR w s.heap a (fun j => decide (j ∈ ns)) n) (R2 : SetR w s.heap b (fun j => decide (j ∈ ms)) m) (hu : A.units < cLine)
    (h : ∀ z : Bool, (z = true ↔ ∀ k, k ∈ ns ↔ k ∈ ms) → Q (.bool (if neg then !z else z)) s) :
    wpAny (model P w) A (richCompare (if neg then .NotEq else .Eq) (.ref a) (.ref b)) Q E s := by
  have key : ∀ (id : String) (X : Sem Bool) (QQ : Bool → Shared → Prop), (∀ z : Bool, (z = true ↔ ∀ k, k ∈ ns ↔ k ∈ ms) → QQ z s) → ∀ A', wpAny (model P w) A' (if (n != m) = true then pure false else do
      if ← isInstance (.ref a) (.type "frozenset") <&&> isInstance (.ref b) (.type "frozenset") then X else
      Builtin.Frozenset.subsetOf id a b) QQ E s := by
    intro id X QQ hz A'
    by_cases e : n = m
    · subst e
      rw [if_neg (by simp)]
      refine wpAny_bind (wpAny_bind (wpAny_isInstance (R1.setOf (P := P)).typeIs F.sub_set_frozenset (wpAny_pure ?_)))
      show wpAny _ _ (Builtin.Frozenset.subsetOf id a b) _ _ _
      refine subset_ok R1 R2 (Nat.le_refl _) fun z hzz => hz z (hzz.trans ⟨fun g k => ?_, fun g k hk => ?_⟩)
      · have g2 := setR_full R1 R2 g k
        have g1 := g k
        simp only [decide_eq_true_eq] at g1 g2
        exact ⟨g1, g2⟩
      · simp only [decide_eq_true_eq] at hk ⊢
        exact (g k).mp hk
    · rw [if_pos (by simpa using e)]
      refine wpAny_pure (hz false ⟨(fun z => nomatch z), fun g => absurd (setR_num R1 R2 fun k => ?_) e⟩)
      simp only [g k]
  have ha := (R1.setOf (P := P)).typeIs
  have hb := (R2.setOf (P := P)).typeIs
  have R1' := R1
  have R2' := R2
  obtain ⟨o, es, ep, t, ho, _, hd, go, nd, hm, hbb, hf, hn, _⟩ := R1'
  obtain ⟨u, fs, fp, r, hu', _, hd2, gu, nd2, hm2, hb2, hf2, hn2, _⟩ := R2'
  cases neg
  · refine wpAny_richCompare_same_room (op := .Eq) ha hb F.slot_set_eq (wpAny_call_entry F.slot_set_eq ha entry_s_eq ?_ (F.args_set_eq_2 _ _)) hu
    refine wpAny_bind (m := Builtin.Frozenset.slot1 "__eq__" _) (wpAny_of_eq (a := (Value.ref a, Value.ref b)) rfl ?_)
    refine wpAny_bind (m := Builtin.Frozenset.isAnySet (.ref b)) (wpAny_bind (wpAny_isInstance hb sub_set_self' ?_))
    refine wpAny_pure ?_
    refine wpAny_bind (m := pure a) (wpAny_pure ?_)
    refine wpAny_bind (m := pure b) (wpAny_pure ?_)
    refine wpAny_bind (m := Builtin.Frozenset.sizeOf a) (wpAny_bind (wpAny_setEntries_of ho hd hf (wpAny_pure ?_)))
    refine wpAny_bind (m := Builtin.Frozenset.sizeOf b) (wpAny_bind (wpAny_setEntries_of hu' hd2 hf2 (wpAny_pure ?_)))
    subst hn
    subst hn2
    exact wpAny_bind (key _ _ _ (fun z hz => wpAny_pure ⟨_, rfl, (fun x => nomatch x), h z hz⟩) _)
  · refine wpAny_richCompare_same_room (op := .NotEq) ha hb F.slot_set_ne (wpAny_call_entry F.slot_set_ne ha entry_s_ne ?_ (F.args_set_ne_2 _ _)) hu
    refine wpAny_bind (m := Builtin.Frozenset.slot1 "__ne__" _) (wpAny_of_eq (a := (Value.ref a, Value.ref b)) rfl ?_)
    refine wpAny_bind (m := Builtin.Frozenset.isAnySet (.ref b)) (wpAny_bind (wpAny_isInstance hb sub_set_self' ?_))
    refine wpAny_pure ?_
    refine wpAny_bind (m := pure a) (wpAny_pure ?_)
    refine wpAny_bind (m := pure b) (wpAny_pure ?_)
    refine wpAny_bind (m := Builtin.Frozenset.sizeOf a) (wpAny_bind (wpAny_setEntries_of ho hd hf (wpAny_pure ?_)))
    refine wpAny_bind (m := Builtin.Frozenset.sizeOf b) (wpAny_bind (wpAny_setEntries_of hu' hd2 hf2 (wpAny_pure ?_)))
    subst hn
    subst hn2
    exact wpAny_bind (key _ _ _ (fun z hz => wpAny_pure ⟨_, rfl, (fun x => nomatch x), h z hz⟩) _)
end
section
variable {X : Cx} {p p2 p3 q q2 px py pos : Pos} {x y : Str} {i j : Nat}
theorem ld_var {E : Value → Shared → Prop} {pins : List (Addr × Obj)} {s : Shared} {σ : L2.St} {H : Hp} {v : V} {Q : Value → Shared → Prop} (I : Inv X pins σ H s) (hN : X.N[i]? = some x) (hv : Vis X.env.scope x) (hd : (x == ("__debug__" : Str)) = false) (hcd : (x == ("__classdict__" : Str)) = false)
    (e : σ[i]? = some (some v)) (h : ∀ u, RelV v u → Q u s) : wpAny (model X.prog X.w) X.A (eval (.Name x pos) X.env) Q E s := by
  obtain ⟨m, hn, hl⟩ := I.loc
  obtain ⟨u, r, l⟩ := hl i x v hN e hv
  rcases l with ⟨hk, hm⟩ | ⟨hk, c, hc, hcell⟩
  · exact wpAny_Name (wpAny_loadName_local I.ok.kind hk hn hm (h u r)) hd
  · rcases hk with hk | hk
    · exact wpAny_Name (wpAny_loadName_cell I.ok.kind hk hc hcell (h u r)) hd
    · exact wpAny_Name (wpAny_loadName_free I.ok.kind hk hc hcell (h u r) hcd) hd
def tCs (K : PySem.W.Frag) (neg : Bool) (i j : Nat) : TE := fun σ H Q => ∃ (a b : Addr) (ns ms : List Int), σ[i]? = some (some (.ref a)) ∧ σ[j]? = some (some (.ref b)) ∧ SqT K H a (ns.map V.int) ∧ ns.length < 64 ∧ SqT K H b (ms.map V.int) ∧ ms.length < 64 ∧
  ∀ z : Bool, (z = true ↔ ∀ k, k ∈ ns ↔ k ∈ ms) → Q (.bl (if neg then !z else z)) H
theorem run_set {E : Value → Shared → Prop} {pins : List (Addr × Obj)} {s : Shared} {σ : L2.St} {H : Hp} {a : Addr} {ns : List Int} {Q : Value → Shared → Prop} (hc : X.calm = true) (hg2 : Gl X "set") (hm2 : X.mg "set" = none) (I : Inv X pins σ H s) (hN : X.N[i]? = some x) (hv : Vis X.env.scope x) (hd : (x == ("__debug__" : Str)) = false) (hcd : (x == ("__classdict__" : Str)) = false)
    (e : σ[i]? = some (some (.ref a))) (hq : SqT X.K H a (ns.map V.int)) (hl : ns.length < 64)
    (h : ∀ (b : Addr) (h' : Heap) (tk c : Nat), SetR X.w h' b (fun j => decide (j ∈ ns)) c → (∀ b o, s.heap.get? b = some o → h'.get? b = some o) → Inv X pins σ H { s with heap := h', toks := tk } → Q (.ref b) { s with heap := h', toks := tk }) :
    wpAny (model X.prog X.w) X.A (eval (.Call (.Name "set" p2) [.Name x px] [] q) X.env) Q E s := by
  refine Call_ (ld_blt I hg2 hm2 PyProof.Rows.boot_set (callWith_type1 (args_cons (ld_var I hN hv hd hcd e fun u r => args_nil ?_) rfl) rfl rfl))
  obtain rfl : u = .ref a := r
  obtain ⟨its, rv, pt, hz⟩ := I.tuple hq
  have hi : IntsAre its.toArray.toList ns := ints_of_vals rv
  refine call_set_tupI ns (I.ok.hd hc) (show s.heap.IsTuple a its.toArray from pt) hi (by unfold scanBound; omega) fun h' tk c R1 hcn k => ?_
  exact h _ h' tk c R1 k (I.kept fun b o e => k b o e)
theorem pe_cs {neg : Bool} (hc : X.calm = true) (hu : X.A.units < cLine) (hg2 : Gl X "set") (hm2 : X.mg "set" = none)
    (hN : X.N[i]? = some x) (hv : Vis X.env.scope x) (hd : (x == ("__debug__" : Str)) = false) (hcd : (x == ("__classdict__" : Str)) = false)
    (hN2 : X.N[j]? = some y) (hv2 : Vis X.env.scope y) (hd2 : (y == ("__debug__" : Str)) = false) (hcd2 : (y == ("__classdict__" : Str)) = false) :
    PE X (.Compare (.Call (.Name "set" p) [.Name x px] [] q) [if neg then .NotEq else .Eq] [.Call (.Name "set" p2) [.Name y py] [] q2] pos) (tCs X.K neg i j) := by
  refine ⟨fun pins s σ H Q I h => ?_⟩
  obtain ⟨a, b, ns, ms, e1, e2, t1, l1, t2, l2, h⟩ := h
  refine wpAny_Compare1 (run_set hc hg2 hm2 I hN hv hd hcd e1 t1 l1 fun b1 h1 tk1 c1 R1 k1 I1 => run_set hc hg2 hm2 I1 hN2 hv2 hd2 hcd2 e2 t2 l2 fun b2 h2 tk2 c2 R2 k2 I2 => ?_) (by cases neg <;> exact nomark _)
  have R1' := R1.at (k2 b1)
  have e : compareOp (if neg then .NotEq else .Eq) (.ref b1) (.ref b2) = richCompare (if neg then .NotEq else .Eq) (.ref b1) (.ref b2) := by cases neg <;> rfl
  rw [e]
  exact cmpSets (s := { ({ s with heap := h1, toks := tk1 } : Shared) with heap := h2, toks := tk2 }) R1' R2 hu fun z hz => ⟨.bl _, H, I2, rfl, h z hz⟩
end
/-! ### as data -/
def zCs (neg : Bool) (i j : Nat) : ZT := fun δ Q => ∃ ns ms : List Int, δ[i]? = some (some (.val (.tuple (ns.map PyData.int)))) ∧ δ[j]? = some (some (.val (.tuple (ms.map PyData.int)))) ∧ ns.length < 64 ∧ ms.length < 64 ∧
  ∀ z : Bool, (z = true ↔ ∀ k, k ∈ ns ↔ k ∈ ms) → Q (.val (.bool (if neg then !z else z))) δ
section
variable {X : Cx} {C : Cn} {p p2 p3 q q2 px py pos : Pos} {x y : Str} {i j : Nat}
theorem pz_cs {neg : Bool} (hK : C.K.K = X.K) (hc : X.calm = true) (hu : X.A.units < cLine) (hg2 : Gl X "set") (hm2 : X.mg "set" = none)
    (hN : X.N[i]? = some x) (hv : Vis X.env.scope x) (hd : (x == ("__debug__" : Str)) = false) (hcd : (x == ("__classdict__" : Str)) = false)
    (hN2 : X.N[j]? = some y) (hv2 : Vis X.env.scope y) (hd2 : (y == ("__debug__" : Str)) = false) (hcd2 : (y == ("__classdict__" : Str)) = false) :
    PE X (.Compare (.Call (.Name "set" p) [.Name x px] [] q) [if neg then .NotEq else .Eq] [.Call (.Name "set" p2) [.Name y py] [] q2] pos) (lift C (zCs neg i j)) := by
  refine PE.weak (pe_cs hc hu hg2 hm2 hN hv hd hcd hN2 hv2 hd2 hcd2) fun σ H Q h => ?_
  obtain ⟨W, δ, tv, τ, QQ, g, ⟨ns, ms, e1, e2, l1, l2, h⟩, k⟩ := h
  obtain ⟨_, v, hv, hr⟩ := g.slots i _ e1
  obtain ⟨_, u, hu, hr2⟩ := g.slots j _ e2
  obtain ⟨a, xs, rfl, q1, q2⟩ := Rep.tup_of hr
  obtain ⟨b, ys, rfl, q3, q4⟩ := Rep.tup_of hr2
  rw [hK] at q1 q3
  exact ⟨a, b, ns, ms, hv, hu, by rw [← q2.ints_of]; exact q1.sqT, l1, by rw [← q4.ints_of]; exact q3.sqT, l2, fun z hz => k _ H W _ δ (g.push (r := .val (.bool _)) (.bl _)) (h z hz)⟩
end
end Z
end
section
set_option Elab.async false
set_option linter.all false
set_option maxRecDepth 100000
set_option maxHeartbeats 2000000
/-! Dict comprehensions, keys plain or tuples. -/
namespace Z
open PySem PySem.Spec L2 PyProof.Rows
section
variable {X : Cx}
/-- d[k] = v as a comprehension does it -/
theorem comp_store {pins : List (Addr × Obj)} {s : Shared} {σ : L2.St} {H : Hp} {i v : V} {D : Addr} {iv u : Value} {E : Value → Shared → Prop} {Q : Unit → Shared → Prop} {N : Hp → Prop} (hu : X.A.units + 65 < cLine) (I : Inv X pins σ H s) (ri : RelV i iv) (rv : RelV v u)
    (h : rSetD ⟨X.K, X.w⟩ (.ref D) i v H N) (fin : ∀ s' H', Inv X pins σ H' s' → N H' → Q () s') : wpAny (model X.prog X.w) X.A (dictSet D iv u) Q E s := by
  obtain ⟨a, ks, d, e, hd, hdk, im, hlen, q⟩ := h
  cases e
  have hd0 := hd
  obtain ⟨es0, ep0, ho, _, hnd⟩ := hd0
  rcases hdk with ⟨⟨k1, n, k2, k3⟩, ht⟩ | ⟨k1, ht⟩
  · obtain ⟨t, rfl⟩ := imm_ref im k1
    cases ri
    obtain ⟨h1, xs, h2, h3, h4⟩ := dic_tup I rfl rfl hd ht
    refine wpAny_dictSet_heap (knd := nestedKind X.prog X.w) (k := n) (hsz := h4) (by show X.A.units + 8 < cLine; omega) ⟨imm_nested I _ _ _ _ im rfl k2, k3⟩ h2 fun h' dd' hs => ?_
    obtain ⟨ob, es, ep, g1, g2, g3, g4, g5, g6⟩ := dd'
    have cp := cor_put k2 k3 rv im h3
    have he : es.size ≤ sizeLine := by
      have l1 := congrArg List.length g4
      rw [Array.length_toList, List.length_map, ← cor_len cp] at l1
      have := dput_len (ks := ks) (d := d) (v := v)
      rw [line_eq]
      omega
    exact fin _ _ (d_write I (ob := dO D es ep) (by rw [ho]; exact True.intro) hs ⟨ob, g1⟩ ⟨⟨h1, he, ob, g1, g2, g3⟩, ⟨ob, g1⟩, fun h1' h2' p k => ⟨p.1, p.2.1, p.2.2.at k⟩⟩) (q es ep (by rw [g4]; exact cor_ents (P := X.prog) cp) (dput_nodup hnd))
  · obtain ⟨k, rfl⟩ := dk_pl k1
    have ex := imm_dk im
    subst ex
    obtain ⟨h1, qs, h2, h3, h4⟩ := dic_pl I rfl hd ht
    refine wpAny_dictSet_pairs (hsz := h4) (kV_is ri) h2 fun h' dd' hs => ?_
    obtain ⟨ob, es, ep, g1, g2, g3, g4, g5, g6⟩ := dd'
    have cp := corP_put (k := k) rv h3
    have he : es.size ≤ sizeLine := by
      have l1 := pairs_len g5
      rw [Array.length_toList, ← corP_len cp] at l1
      have := dput_len (ks := ks) (d := dk k) (v := v)
      rw [line_eq]
      omega
    exact fin _ _ (d_write I (ob := dO D es ep) (by rw [ho]; exact True.intro) hs ⟨ob, g1⟩ ⟨⟨h1, he, ob, g1, g2, g3⟩, ⟨ob, g1⟩, fun h1' h2' p k => ⟨p.1, p.2.1, p.2.2.at k⟩⟩) (q es ep (corP_ents (P := X.prog) g5 cp fun e m => g4 e (by simpa using m)) (dput_nodup hnd))
end

abbrev BlkX (X : Cx) (s : Shared) (H : Hp) (scope : Scope) (A : Addr) (cl : List (Str × Addr)) (fp : List Addr) : Cx := X.blk s H scope (compEnvC scope cl A X.env) fp
/-- {k: v for target in iter if ..}: keys plain or tuples -/
def tDcR (K : Kw) (wi : TI) (g : TG) (tt : TT) (tk tv : TE) (vs : List Nat) : TE := fun σ H Q => wi σ H fun J H1 => ∀ p, H1 p = none → ∃ W : Nat → Nat → Hp → Prop, (∃ m, W 0 m (upd H1 p (dO p #[] 0))) ∧
  ∀ i m H', W i m H' → (J.stop i H' ∧ Q (.ref p) H') ∨ (J.go i H' ∧ ∃ Nx : Hp → Prop, (∀ G, Nx G → ∃ m', m' < m ∧ W (i + 1) m' G) ∧ ∀ x G, J.yld i H' x G → g x (wipe σ vs) G fun σ2 G2 =>
    wipe σ2 vs = wipe σ vs ∧ tt σ2 G2 fun b G3 => if b = true then tk σ2 G3 fun y G4 => tv σ2 G4 fun z G5 => rSetD K (.ref p) y z G5 Nx else Nx G3)
section
variable {X : Cx} {K : Kw}
theorem new_dic {pins : List (Addr × Obj)} {s : Shared} {σ : L2.St} {H : Hp} {D : Addr} (I : Inv X pins σ H s) (hD : s.heap.objs.size = D) :
    Inv X pins σ (upd H D (dO D #[] 0)) { s with heap := s.heap.push { cls := .type "dict", data := .dict #[] } } := by
  subst hD
  exact I.laid (a := s.heap.objs.size) (o := dO s.heap.objs.size #[] 0) (t' := s.toks) (fun _ _ q => Heap.get?_push_of_some _ q) (Nat.le_refl _)
    ⟨⟨beq_eq_false_iff_ne.mpr (Ne.symm (Nat.ne_of_lt I.big)), Nat.zero_le _, _, Heap.get?_push_size _ rfl, ⟨rfl, rfl, rfl⟩, rfl⟩, ⟨_, Heap.get?_push_size _ rfl⟩, fun h1' h2' p k => ⟨p.1, p.2.1, p.2.2.at k⟩⟩
theorem dcr_core {pins : List (Addr × Obj)} {s : Shared} {σ : L2.St} {H : Hp} {Q : VK} {kx vx tg iter : Expr} {ifs : List Expr} {scope : Scope} {own : List (Str × Nat)} {pos pos' : Pos} {wi : TI} {g : TG} {tt : TT} {tk tv : TE} {use : Option (Value → Sem Unit)} {Qf : Value → Shared → Prop}
    (hK : K = ⟨X.K, X.w⟩) (hu : X.A.units + 65 < cLine) (hc : X.calm = true) (hN : X.N.Nodup) (I : Inv X pins σ H s) (hi : PI X tg iter wi) (ok : BlkOk X.N X.env.scope scope own)
    (hg : ∀ s H A cl fp, PG (BlkX X s H scope A cl fp) tg g) (ht : ∀ s H A cl fp, PTs (BlkX X s H scope A cl fp) ifs tt) (hk : ∀ s H A cl fp, PE (BlkX X s H scope A cl fp) kx tk) (he : ∀ s H A cl fp, PE (BlkX X s H scope A cl fp) vx tv)
    (hs : ∀ x, foldedSetIterable iter X.env x = pure x) (h : tDcR K wi g tt tk tv (own.map (·.2)) σ H Q)
    (hRR : ∀ D A s' m H', Inv X pins σ H' s' → Q (.ref D) H' → s'.heap.Ns A m → FpOk X pins H' A → compPost (model X.prog X.w) X.A X.xe use Qf (.ref D) A (.ok .next) s') :
    wpAny (model X.prog X.w) X.A (comprehension (.DictComp kx vx [⟨tg, iter, ifs, 0⟩] scope pos) scope X.env pos' newDict false (eval iter X.env) use) Qf X.xe s := by
  have free : ∀ y ∈ scope.names, y.2 = .free → ∃ c, X.env.cells.lookup y.1 = some c := fun y hy e => (ok.free y hy e).elim (fun k => I.ok.has _ (.inl k)) fun k => I.ok.has _ (.inr k)
  refine wpAny_comprehension_free (use := use) rfl hs (closure_ok free) ok.kind (fun y hy e => by rw [ok.uniq y hy, e]) (thn (hi.run pins s σ H _ I h) fun xv s1 hx => thn hx fun itv s2 h2 => ?_)
  obtain ⟨it, fp, tn, J, H2, e, I2, T, st2, f2, q⟩ := h2
  subst e
  refine wpAny_newObj_type (newEnv_comp ?_)
  generalize hD : s2.heap.objs.size = D
  have hDn : H2 D = none := I2.hok.fresh (Nat.le_of_eq hD)
  obtain ⟨W, ⟨m0, w0⟩, turn⟩ := q D hDn
  have I3 := new_dic I2 hD
  generalize hs3 : ({ s2 with heap := s2.heap.push { cls := .type "dict", data := .dict #[] } } : Shared) = s3 at I3
  have h3 : s3.heap = s2.heap.push { cls := .type "dict", data := .dict #[] } := by rw [← hs3]
  have f3 : ∀ b ∈ fp, FpOk X pins (upd H2 D (dO D #[] 0)) b ∧ b < s3.heap.objs.size := fun b hb => by
    obtain ⟨o, e, _⟩ := T.obj _ _ st2 b hb
    have hlt := Heap.lt_size e
    exact ⟨⟨(upd_ne (by rw [← hD]; exact Nat.ne_of_lt hlt)).trans (f2 b hb).1, (f2 b hb).2⟩, by rw [h3, Heap.size_push]; exact Nat.lt_succ_of_lt hlt⟩
  have st3 : tn 0 s3.heap := T.keep _ _ _ st2 fun b _ o e => by rw [h3]; exact Heap.get?_push_of_some _ e
  have I4 := block_start I3 ok hN f3
  generalize hcl : cellsFrom (s3.heap.objs.size + 1) scope.names (cloFrom X.env.cells scope.names []) = cl at I4 ⊢
  have pg := hg s3 (upd H2 D (dO D #[] 0)) s3.heap.objs.size cl fp
  have pt := ht s3 (upd H2 D (dO D #[] 0)) s3.heap.objs.size cl fp
  have pk := hk s3 (upd H2 D (dO D #[] 0)) s3.heap.objs.size cl fp
  have pe := he s3 (upd H2 D (dO D #[] 0)) s3.heap.objs.size cl fp
  unfold BlkX at pg pt pk pe
  have goal : codeAny (model X.prog X.w) X.A (.compStart (.DictComp kx vx [⟨tg, iter, ifs, 0⟩] scope pos) 0 (.ref it) (.ref D) (compEnvC scope cl s3.heap.objs.size X.env)) (compPost (model X.prog X.w) X.A X.xe use Qf (.ref D) s3.heap.objs.size) { s3 with heap := pushCells (s3.heap.push { cls := .type "dict", data := .dict #[] }) scope.names } := by
    have nfp : ∀ b ∈ fp, (upd H2 D (dO D #[] 0)) b = none := fun b hb => (f3 b hb).1.1
    generalize hce : compEnvC scope cl s3.heap.objs.size X.env = ce at I4 pg pt pk pe ⊢
    have cL : ce.locals = s3.heap.objs.size := by subst hce; rfl
    generalize hH3 : upd H2 D (dO D #[] 0) = H3 at I3 I4 pg pt pk pe w0 nfp f3
    generalize hs4 : ({ s3 with heap := pushCells (s3.heap.push { cls := .type "dict", data := .dict #[] }) scope.names } : Shared) = s4 at I4 ⊢
    have st4 : tn 0 s4.heap := T.keep _ _ _ st3 fun b _ o e => by rw [← hs4]; exact pushCells_keeps _ _ _ _ (Heap.get?_push_of_some _ e)
    have stat : ∀ {σ' : L2.St} {H' : Hp} {s' : Shared}, Inv (X.blk s3 H3 scope ce fp) [] σ' H' s' → (∀ b ∈ fp, H' b = none) → ∀ b ∈ fp, FpOk (X.blk s3 H3 scope ce fp) [] H' b := fun {σ' H' s'} I' hn b hb =>
      ⟨hn b hb, (I'.ok.exf b hb).1, I'.ok.exfs b hb, .inl hb, fun x c e => (I'.ok.exf b hb).2 x c e, fun p hp => absurd (show p ∈ ([] : List (Addr × Obj)) ++ [] from hp) (by simp)⟩
    have loop : codeAny (model X.prog X.w) X.A (.compLoop (.DictComp kx vx [⟨tg, iter, ifs, 0⟩] scope pos) 0 (.ref it) (.ref D) ce) (compPost (model X.prog X.w) X.A X.xe use Qf (.ref D) s3.heap.objs.size) s4 := by
      refine compLoop_anyD (fun n s' => ∃ i H', Inv (X.blk s3 H3 scope ce fp) [] (wipe σ (own.map (·.2))) H' s' ∧ tn i s'.heap ∧ (∀ b ∈ fp, H' b = none) ∧ W i n H') ?_ m0 ⟨0, H3, I4, st4, nfp, w0⟩
      rintro n s5 ⟨i, H5, I5, st5, n5, w5⟩
      rcases turn i n H5 w5 with ⟨stop, qq⟩ | ⟨go, Nx, hNx, step⟩
      · refine thnF (T.done (X.blk s3 H3 scope ce fp) rfl rfl rfl hc i [] s5 _ H5 (fun _ _ => False) I5 (stat I5 n5) st5 stop) fun r s6 ⟨hr, I6⟩ => ?_
        subst hr
        have I7 : Inv X pins σ H5 s6 := I3.call' (ch := fp) I6.os I6.base I6.hok I6.bare fun b hb => ⟨(f3 b hb).1.2.2.2.1, (f3 b hb).1.2.1, (f3 b hb).1.2.2.2.2.1, (f3 b hb).1.2.2.2.2.2⟩
        have z : H5 ce.locals = none := I6.free
        obtain ⟨m, hn, _⟩ := I6.loc
        have hn : s6.heap.Ns ce.locals m := hn
        rw [cL] at z hn
        exact hRR D s3.heap.objs.size s6 m H5 I7 qq hn (I3.fpOk (Nat.le_refl _) z)
      · refine thnF (T.item (X.blk s3 H3 scope ce fp) rfl rfl rfl hc i [] s5 _ H5 (fun _ _ => False) I5 (stat I5 n5) st5 go) fun r s6 ⟨u, hr, h6⟩ => ?_
        subst hr
        refine thnF h6 fun _ s7 ⟨x, H7, I7, r7, y7, st7, n7⟩ => ?_
        refine thnF (pg.run _ s7 _ H7 x u _ (I7.pinned (stat I7 n7) (T.obj _ _ st7)) r7 (step x H7 y7)) fun _ s8 ⟨σ8, H8, I8, hw8, q8⟩ => ?_
        refine thnF (pt.run _ s8 σ8 H8 _ I8 q8) fun b s9 ⟨H9, I9, q9⟩ => ?_
        have fin : ∀ (s' : Shared) (H' : Hp), Inv (X.blk s3 H3 scope ce fp) ([] ++ pinsAt fp s7.heap) σ8 H' s' → Nx H' → ∃ m, m < n ∧ ∃ i H', Inv (X.blk s3 H3 scope ce fp) [] (wipe σ (own.map (·.2))) H' s' ∧ tn i s'.heap ∧ (∀ b ∈ fp, H' b = none) ∧ W i m H' := fun s' H' I' nx => by
          obtain ⟨m', hm, w'⟩ := hNx H' nx
          have pin' : ∀ b ∈ fp, ∀ o, s7.heap.get? b = some o → s'.heap.get? b = some o ∧ H' b = none := fun b hb o e =>
            have z := I'.pin (b, o) (List.mem_append_right _ (List.mem_append_right _ (mem_pinsAt hb e)))
            ⟨z.1, z.2.1⟩
          refine ⟨m', hm, i + 1, H', (I'.unpinned (pins := [])).weak (by rw [← hw8, wipe_length]) (fun j v e => ?_), T.keep _ _ _ st7 fun b hb o e => (pin' b hb o e).1, fun b hb => ?_, w'⟩
          · rw [← hw8] at e
            exact (wipe_some e).1
          · obtain ⟨o, e, _⟩ := T.obj _ _ st7 b hb
            exact (pin' b hb o e).2
        cases b with
        | false =>
          simp only [Bool.false_eq_true, if_false] at q9 ⊢
          exact fin s9 H9 I9 q9
        | true =>
          simp only [if_true] at q9 ⊢
          refine thnF (pk.run _ s9 σ8 H9 _ I9 q9) fun z s10 ⟨yk, H10, I10, r10, q10⟩ => thnF (pe.run _ s10 σ8 H10 _ I10 q10) fun z2 s11 ⟨yv, H11, I11, r11, nx⟩ => ?_
          rw [hK] at nx
          exact comp_store (X := X.blk s3 H3 scope ce fp) hu I11 r10 r11 nx fin
    exact codeAny_compStart_dict loop (T.self X.A 0 _ _ _ st4 loop)
  exact goal
theorem pe_dcr {kx vx tg iter : Expr} {ifs : List Expr} {scope : Scope} {own : List (Str × Nat)} {pos : Pos} {wi : TI} {g : TG} {tt : TT} {tk tv : TE} (hK : K = ⟨X.K, X.w⟩) (hu : X.A.units + 65 < cLine) (hc : X.calm = true) (hN : X.N.Nodup) (hi : PI X tg iter wi) (ok : BlkOk X.N X.env.scope scope own)
    (hg : ∀ s H A cl fp, PG (BlkX X s H scope A cl fp) tg g) (ht : ∀ s H A cl fp, PTs (BlkX X s H scope A cl fp) ifs tt) (hk : ∀ s H A cl fp, PE (BlkX X s H scope A cl fp) kx tk) (he : ∀ s H A cl fp, PE (BlkX X s H scope A cl fp) vx tv)
    (hs : ∀ x, foldedSetIterable iter X.env x = pure x) : PE X (.DictComp kx vx [⟨tg, iter, ifs, 0⟩] scope pos) (tDcR K wi g tt tk tv (own.map (·.2))) := by
  refine ⟨fun pins s σ H Q I h => ?_⟩
  rw [arm_eval_DictComp]
  refine dcr_core hK hu hc hN I hi ok hg ht hk he hs h fun D A s' m H' I' q hn f => ⟨m, hn, fun h'' sb => ?_⟩
  obtain ⟨_, f1, f2, f3, f4, f5⟩ := f
  exact ⟨.ref D, H', I'.turned (t' := s'.toks) (fun b o hb e => (sb.2 b hb).trans e) (by assumption) f1 f3 f4 f5, rfl, q⟩
end
section
variable {X : Cx} {K : Kw}
/-- name = {..} on one line, the name a local -/
theorem ps_setDcr {i : Nat} {y : Str} {py : Pos} {kx vx tg iter : Expr} {ifs : List Expr} {scope : Scope} {own : List (Str × Nat)} {pos spos : Pos} {wi : TI} {g : TG} {tt : TT} {tk tv : TE} (hK : K = ⟨X.K, X.w⟩) (hu : X.A.units + 65 < cLine) (hc : X.calm = true) (hN : X.N.Nodup) (hy : X.N[i]? = some y) (hyl : X.env.scope.names.lookup y = some .local)
    (hsw : swapsWith (.DictComp kx vx [⟨tg, iter, ifs, 0⟩] scope pos) (some (.Name y py)) spos.line X.env = pure true) (hi : PI X tg iter wi) (ok : BlkOk X.N X.env.scope scope own)
    (hg : ∀ s H A cl fp, PG (BlkX X s H scope A cl fp) tg g) (ht : ∀ s H A cl fp, PTs (BlkX X s H scope A cl fp) ifs tt) (hk : ∀ s H A cl fp, PE (BlkX X s H scope A cl fp) kx tk) (he : ∀ s H A cl fp, PE (BlkX X s H scope A cl fp) vx tv)
    (hs : ∀ x, foldedSetIterable iter X.env x = pure x) : PS X (.Assign [.Name y py] (.DictComp kx vx [⟨tg, iter, ifs, 0⟩] scope pos) spos) (tAsg (tDcR K wi g tt tk tv (own.map (·.2))) (gName i)) := by
  refine ⟨fun pins s σ H D I h => ?_⟩
  rw [exec_Assign_Name_used _ _ _ _ hsw]
  refine wpAny_bind (wpAny_standAt (wpAny_bind ?_))
  show wpAny _ X.A (do let _ ← comprehension (.DictComp kx vx [⟨tg, iter, ifs, 0⟩] scope pos) scope X.env (firstIterPos [⟨tg, iter, ifs, 0⟩] pos) newDict false (eval iter X.env) (some (assign (.Name y py) X.env))) _ _ s
  have h : tDcR K wi g tt tk tv (own.map (·.2)) σ H (fun x H1 => gName i x σ H1 D.nx) := h
  refine wpAny_bind (thn (dcr_core (Qf := fun _ s' => SP X pins D .next s') hK hu hc hN I hi ok hg ht hk he hs h fun L A s' m H' I' q hn f => ?_) fun _ s' hq => wpAny_pure (wpAny_pure hq))
  show wpAny _ _ (assign (.Name y py) X.env (.ref L)) _ _ _
  refine wpAny_assign_Name (store_ok2 (v := V.ref L) I' hN hy (.inl hyl) rfl (fun s2 I2 ⟨a, sb, ha⟩ => ?_) (.inr hyl))
  obtain ⟨_, f1, f2, f3, f4, f5⟩ := f
  have haA : A ≠ a := ha.elim (fun z => by rw [z]; exact f1) fun z e => f4 y a z e.symm
  exact ⟨m, hn.sameBut sb haA, fun h3 sb3 => ⟨_, H', I2.turned (t' := s2.toks) (fun b o hb e => (sb3.2 b hb).trans e) (by assumption) f1 f3 f4 f5, q⟩⟩
end
section
variable {C : Cn} {W : Wd} {H : Hp} {σ : L2.St} {δ : Sto} {tv : List V} {τ : List RV} {v y z : V} {r : RV} {d x : D} {a : Addr} {kvs : List (D × D)}
/-- the dict on the pile grows -/
theorem Gd.putTmp (g : Gd C W H σ δ (z :: y :: .ref a :: tv) (.val d :: .val x :: .own (.dict kvs) :: τ)) : ∃ ks, DicAt C.K H a ks ∧ RepK C.K W.F H ks kvs ∧ Rep C.K W.F H y x ∧
    ∀ es ep, Paired (EntAt C.K H) es.toList (dput ks x z) → ((dput ks x z).map (·.1)).Nodup → Gd C W (upd H a (dO a es ep)) σ δ (.ref a :: tv) (.own (.dict (dput kvs x d)) :: τ) := by
  obtain ⟨a', e, ha, ks, h1, h2⟩ := g.temps.2.2.1
  cases e
  have hz : Rep C.K W.F H z d := g.temps.1
  have hy : Rep C.K W.F H y x := g.temps.2.1
  have g1 := g.pop.pop
  refine ⟨ks, h1, h2, hy, fun es ep hp hn => ?_⟩
  have st := g1.stab_own (u := dO a es ep) ha
  have hne : ∀ b, b ≠ a → upd H a (dO a es ep) b = H b := fun b h => upd_ne h
  refine ⟨g1.len, fun b o e0 => ?_, g1.dk0, g1.frz, g1.fnew, fun b h => ?_, fun b h => ?_, fun i r e' => ?_, ⟨⟨a, rfl, ha, _, ⟨es, ep, upd_same, L2.Paired.mapP hp fun _ _ q => q.mono st, hn⟩, (repK_put hz h2).mono (fun _ h => h) st⟩, g1.temps.2.write st ha fun k hk z => by have := Ow.tmp.inj z; omega⟩, fun j d' m => ?_, fun p q e0 => ?_, fun b h => ?_, fun b ys e0 => (g1.scr b ys e0).mono st⟩
  · refine (g1.prot b o e0).imp_right fun h => ⟨h.1, ?_⟩
    rw [hne b (fun z => by rw [z, ha] at h; cases h.1)]; exact h.2
  · by_cases hb : b = a
    · subst hb; rw [upd_same]; rfl
    · rw [hne b hb]; exact g1.live b h
  · rw [hne b (fun z => by rw [z] at h; rw [g1.frz a h] at ha; cases ha)]; exact g1.flive b h
  · obtain ⟨q1, u', q2, q3⟩ := g1.slots i r e'
    exact ⟨q1, u', q2, RelR.write st ha (fun z => by cases z) q3⟩
  · rcases List.mem_cons.mp m with m | m
    · cases m
    · exact g1.lk j d' (List.mem_cons_of_mem _ m)
  · obtain ⟨k1, k2, k3, k4⟩ := g1.deck p q e0
    exact ⟨k1, C.T.S k2 (hne _ fun z => by rw [z, ha] at k3; cases k3) (hne _ fun z => by rw [z, ha] at k4; cases k4), k3, k4⟩
  · by_cases hb : b = a
    · subst hb; rw [upd_same]; exact ⟨(by intro _ z; cases z), (by intro _ _ z; cases z)⟩
    · rw [hne b hb]; exact g1.soft b h
end
def zDcL (vs : List Nat) (zt : ZG) (tt : ZB) (tk te : ZT) : List D → List (D × D) → Sto → (List (D × D) → Sto → Prop) → Prop
  | [], acc, δ, Q => Q acc δ
  | d :: ds, acc, δ, Q => zt d δ fun δ1 => tt δ1 fun b δ2 => if b = true then tk δ2 fun rk δ3 => zSettle rk δ3 fun x δ4 => te δ4 fun r δ5 => zSettle r δ5 fun y δ6 => DKey x acc ∧ acc.length < lineN ∧ noLck δ6 vs = true ∧ zDcL vs zt tt tk te ds (dput acc x y) (wipeD δ6 vs) Q
    else noLck δ2 vs = true ∧ zDcL vs zt tt tk te ds acc (wipeD δ2 vs) Q
/-- {k: e for target in iter if ..} -/
def zDc (zi : ZI) (vs : List Nat) (zt : ZG) (tt : ZB) (tk te : ZT) : ZT := fun δ Q => zi δ fun ds un δ1 => noLck δ1 vs = true ∧ zDcL vs zt tt tk te ds [] (wipeD δ1 vs) fun acc δ2 => Q (.own (.dict acc)) (un (wipeD δ2 vs))
section
variable {X : Cx} {C : Cn} {kx vx tg iter : Expr} {pos : Pos} {zi : ZI} {zt : ZG} {tt : ZB} {tk te : ZT} {vs : List Nat}
theorem lift_dc : ∀ σ H Q, lift C (zDc zi vs zt tt tk te) σ H Q → tDcR C.K (liftI C zi) (liftG C vs zt) (liftB C tt) (lift C tk) (lift C te) vs σ H Q := fun σ H Q ⟨W, δ, tv, τ, QQ, g, h, k⟩ => by
  refine ⟨W, δ, tv, τ, _, g, h, fun J H1 W1 δ1 hv hr ds un g1 hlen hheld hw hun ⟨hk, h1⟩ D hD => ?_⟩
  have hj : junkS vs (hr ++ τ) = hr ++ junkS vs τ := by rw [junk_append, junk_held hheld]
  have sfe : Sfe vs (hr ++ junkS vs τ) := by rw [← hj]; exact junk_sfe
  have g2 := (g1.newDic (es := #[]) (ep := 0) (ks := []) (kvs := []) hD .nil .nil .nil).wiped hk
  have g2 : Gd C (W1.owns D (.tmp (hr ++ τ).length)) (upd H1 D (dO D #[] 0)) (wipe σ vs) (wipeD δ1 vs) (.ref D :: (hv ++ tv)) (.own (.dict []) :: junkS vs (hr ++ τ)) := g2
  rw [hj] at g2
  generalize hQQ : (fun acc δ2 => QQ (.own (.dict acc)) (un (wipeD δ2 vs))) = QL at h1
  refine ⟨fun i m H' => m = ds.length - i ∧ i ≤ ds.length ∧ ∃ W' δ' acc, Gd C W' H' (wipe σ vs) δ' (.ref D :: (hv ++ tv)) (.own (.dict acc) :: (hr ++ junkS vs τ)) ∧ zDcL vs zt tt tk te (ds.drop i) acc δ' QL, ⟨_, rfl, Nat.zero_le _, _, _, [], g2, h1⟩, ?_⟩
  rintro i m H' ⟨rfl, hi, W', δ', acc, g', h'⟩
  by_cases hlt : i < ds.length
  · have e : ds[i]? = some ds[i] := List.getElem?_eq_getElem hlt
    obtain ⟨go, yl⟩ := hw.go (av := [.ref D]) (ar := [.own (.dict acc)]) rfl g' e
    rw [List.drop_eq_getElem_cons hlt] at h'
    refine .inr ⟨go, fun H2 => ∃ W2 δ2 acc, Gd C W2 H2 (wipe σ vs) δ2 (.ref D :: (hv ++ tv)) (.own (.dict acc) :: (hr ++ junkS vs τ)) ∧ zDcL vs zt tt tk te (ds.drop (i + 1)) acc δ2 QL, fun H2 h2 => ⟨ds.length - (i + 1), by omega, rfl, hlt, h2⟩, fun x H2 hy => ?_⟩
    have back : ∀ {W3 : Wd} {H3 : Hp} {σ3 : L2.St} {δ3 : Sto} {acc : List (Z.D × Z.D)}, wipe σ3 vs = wipe σ vs → noLck δ3 vs = true → Gd C W3 H3 σ3 δ3 (.ref D :: (hv ++ tv)) (.own (.dict acc) :: (hr ++ junkS vs τ)) → Gd C W3 H3 (wipe σ vs) (wipeD δ3 vs) (.ref D :: (hv ++ tv)) (.own (.dict acc) :: (hr ++ junkS vs τ)) := fun {W3 H3 σ3 δ3 acc} ew hk3 g3 => by
      have g4 := g3.wiped hk3
      have e : junkS vs (.own (.dict acc) :: (hr ++ junkS vs τ)) = .own (.dict acc) :: (hr ++ junkS vs τ) := by
        show RV.own (.dict acc) :: junkS vs (hr ++ junkS vs τ) = _
        rw [junk_append, junk_held hheld, junk_idem]
      rw [e, ew] at g4
      exact g4
    refine ⟨W', δ', .ref D :: (hv ++ tv), .own (.dict acc) :: (hr ++ junkS vs τ), ds[i], _, yl x H2 hy, fun j m => ?_, h', fun σ3 H3 W3 δ3 g3 ew h3 => ?_⟩
    · rcases List.mem_cons.mp m with m | m
      · cases m
      · exact sfe j m
    have ew : wipe σ3 vs = wipe σ vs := by rw [ew, wipe_idem]
    refine ⟨ew, W3, δ3, _, _, _, g3, h3, fun b H4 W4 δ4 g4 h4 => ?_⟩
    cases b with
    | false =>
      obtain ⟨hk4, h4⟩ := h4
      exact ⟨W4, _, acc, back ew hk4 g4, h4⟩
    | true =>
      refine ⟨W4, δ4, _, _, _, g4, h4, fun y H5 W5 r δ5 g5 h5 => ?_⟩
      obtain ⟨W6, kd, δ6, g6, h6⟩ := g5.settle h5
      refine ⟨W6, δ6, _, _, _, g6, h6, fun z H7 W7 r7 δ7 g7 h7 => ?_⟩
      obtain ⟨W8, d, δ8, g8, hkey, hlen8, hk8, h8⟩ := g7.settle h7
      obtain ⟨ks, q1, q2, q3, q4⟩ := Gd.putTmp g8
      exact ⟨D, ks, kd, rfl, q1, repK_tu q2 hkey, brs_key q3.brs hkey, by rw [q2.length]; exact hlen8, fun es ep hp hn => ⟨W8, _, dput acc kd d, back ew hk8 (q4 es ep hp hn), h8⟩⟩
  · have e : i = ds.length := by omega
    subst e
    rw [List.drop_length] at h'
    refine .inl ⟨hw.stop (av := [.ref D]) (ar := [.own (.dict acc)]) rfl g', ?_⟩
    have h' : QL acc δ' := h'
    rw [← hQQ] at h'
    obtain ⟨a', ea, ha, ho⟩ := g'.temps.1
    cases ea
    have g3 := g'.pop
    rw [← hj] at g3
    have g4 := hun (g1.unwiped hk g3)
    exact k _ H' _ _ _ (g4.reownTop ha (by simp [junkS]) ho) h'
theorem pz_dc {ifs : List Expr} {scope : Scope} {own : List (Str × Nat)} (hK : (⟨X.K, X.w⟩ : Kw) = C.K) (hu : X.A.units + 65 < cLine) (hc : X.calm = true) (hN : X.N.Nodup) (hi : PI X tg iter (liftI C zi)) (ok : BlkOk X.N X.env.scope scope own)
    (hg : ∀ (s : Shared) (H : Hp) (A : Addr) (cl : List (Str × Addr)) (fp : List Addr), PG (X.blk s H scope (compEnvC scope cl A X.env) fp) tg (liftG C (own.map (·.2)) zt)) (ht : ∀ (s : Shared) (H : Hp) (A : Addr) (cl : List (Str × Addr)) (fp : List Addr), PTs (X.blk s H scope (compEnvC scope cl A X.env) fp) ifs (liftB C tt))
    (hk : ∀ (s : Shared) (H : Hp) (A : Addr) (cl : List (Str × Addr)) (fp : List Addr), PE (X.blk s H scope (compEnvC scope cl A X.env) fp) kx (lift C tk))
    (he : ∀ (s : Shared) (H : Hp) (A : Addr) (cl : List (Str × Addr)) (fp : List Addr), PE (X.blk s H scope (compEnvC scope cl A X.env) fp) vx (lift C te)) (hs : ∀ x, foldedSetIterable iter X.env x = pure x) :
    PE X (.DictComp kx vx [⟨tg, iter, ifs, 0⟩] scope pos) (lift C (zDc zi (own.map (·.2)) zt tt tk te)) := PE.weak (pe_dcr hK.symm hu hc hN hi ok hg ht hk he hs) lift_dc
theorem zs_setDc {i : Nat} {y : Str} {py spos : Pos} {ifs : List Expr} {scope : Scope} {own : List (Str × Nat)} (hK : (⟨X.K, X.w⟩ : Kw) = C.K) (hu : X.A.units + 65 < cLine) (hc : X.calm = true) (hN : X.N.Nodup) (hy : X.N[i]? = some y) (hyl : X.env.scope.names.lookup y = some .local)
    (hsw : swapsWith (.DictComp kx vx [⟨tg, iter, ifs, 0⟩] scope pos) (some (.Name y py)) spos.line X.env = pure true) (hi : PI X tg iter (liftI C zi)) (ok : BlkOk X.N X.env.scope scope own)
    (hg : ∀ (s : Shared) (H : Hp) (A : Addr) (cl : List (Str × Addr)) (fp : List Addr), PG (X.blk s H scope (compEnvC scope cl A X.env) fp) tg (liftG C (own.map (·.2)) zt)) (ht : ∀ (s : Shared) (H : Hp) (A : Addr) (cl : List (Str × Addr)) (fp : List Addr), PTs (X.blk s H scope (compEnvC scope cl A X.env) fp) ifs (liftB C tt))
    (hk : ∀ (s : Shared) (H : Hp) (A : Addr) (cl : List (Str × Addr)) (fp : List Addr), PE (X.blk s H scope (compEnvC scope cl A X.env) fp) kx (lift C tk))
    (he : ∀ (s : Shared) (H : Hp) (A : Addr) (cl : List (Str × Addr)) (fp : List Addr), PE (X.blk s H scope (compEnvC scope cl A X.env) fp) vx (lift C te)) (hs : ∀ x, foldedSetIterable iter X.env x = pure x) :
    PS X (.Assign [.Name y py] (.DictComp kx vx [⟨tg, iter, ifs, 0⟩] scope pos) spos) (liftS C (zSet i (zDc zi (own.map (·.2)) zt tt tk te))) :=
  PS.weak (ps_setDcr hK.symm hu hc hN hy hyl hsw hi ok hg ht hk he hs) fun D σ H ⟨W, δ, tv, τ, E, g, hcal, h, k⟩ => by
    refine lift_dc σ H _ ⟨W, δ, tv, τ, _, g, h, fun v H1 W1 r δ1 g1 h1 => ?_⟩
    obtain ⟨W2, r', δ2, g2, hr, hi', hk, q⟩ := g1.unal h1
    obtain ⟨W3, g3⟩ := g2.store hr (fun j m => fun z => hcal.sfe [i] j m (by rw [z]; exact List.mem_cons_self)) hi' hk
    exact k.nx _ H1 W3 _ g3 q
end
end Z
end
section
set_option Elab.async false
set_option linter.all false
set_option maxRecDepth 100000
set_option maxHeartbeats 1000000
/-! dict(pairs), the keys tuples. -/
namespace Z
open PySem PySem.Spec L2
open PyProof.Rows (IsTup)
def putAll {α : Type} (ks ps : List (D × α)) : List (D × α) := ps.foldl (fun a p => dput a p.1 p.2) ks
theorem putAll_nodup {α : Type} : ∀ {ps ks : List (D × α)}, (ks.map (·.1)).Nodup → ((putAll ks ps).map (·.1)).Nodup
  | [], _, h => h
  | p :: ps, ks, h => putAll_nodup (ps := ps) (ks := dput ks p.1 p.2) (dput_nodup h)
theorem putAll_len {α : Type} : ∀ {ps ks : List (D × α)}, (putAll ks ps).length ≤ ks.length + ps.length
  | [], _ => Nat.le_refl _
  | p :: ps, ks => by
    have h1 := putAll_len (ps := ps) (ks := dput ks p.1 p.2)
    have h2 := dput_len (ks := ks) (d := p.1) (v := p.2)
    show (putAll (dput ks p.1 p.2) ps).length ≤ _
    rw [List.length_cons]; omega
section
variable {K : Kw} {H : Hp}
theorem cor_putAll : ∀ {ps : List (D × V)} {ys : List (NestedKey × Addr × Value)} {ks : List (D × V)} {xs : List (NestedKey × Addr × Value)}, CorT K H ps ys → CorT K H ks xs → CorT K H (putAll ks ps) (storedAllH xs ys)
  | [], [], _, _, _, h => h
  | p :: ps, y :: ys, _, _, .cons h1 h2, h => cor_putAll (ps := ps) (ys := ys) h2 (cor_put h1.1 h1.2.1 h1.2.2.1 h1.2.2.2 h)
theorem repK_putAll {F : Addr → Prop} : ∀ {ps : List (D × V)} {qs : List (D × D)} {ks : List (D × V)} {kvs : List (D × D)}, RepK K F H ps qs → RepK K F H ks kvs → RepK K F H (putAll ks ps) (putAll kvs qs)
  | [], [], _, _, .nil, h => h
  | (_, _) :: ps, (_, _) :: qs, _, _, .cons h1 h2, h => repK_putAll (ps := ps) (qs := qs) h2 (repK_put h1 h)
end
/-- a pair's object: its key a tuple -/
def PairO (K : Kw) (H : Hp) (p : Addr) (kv : D × V) : Prop := ∃ t, SqT K.K H p [.ref t, kv.2] ∧ Imm K.K H (.ref t) kv.1 ∧ KeyT kv.1
def rDictP (K : Kw) : List V → Hp → VK → Prop := fun xs H Q => ∃ (a : Addr) (ps : List Addr) (kvs : List (D × V)), xs = [.ref a] ∧ SqL K.K H a (ps.map V.ref) ∧ Paired (PairO K H) ps kvs ∧
  ∀ p es ep, H p = none → Paired (EntAt K H) es.toList (putAll [] kvs) → Q (.ref p) (upd H p (dO p es ep))
section
variable {X : Cx}
theorem pairsZ {pins : List (Addr × Obj)} {σ : L2.St} {H : Hp} {s : Shared} (I : Inv X pins σ H s) : ∀ {ps : List Addr} {kvs : List (D × V)}, Paired (PairO ⟨X.K, X.w⟩ H) ps kvs →
    ∃ ys : List (NestedKey × Addr × Value), CorT ⟨X.K, X.w⟩ H kvs ys ∧ ys.length = ps.length ∧ ∀ (j : Nat) (y : NestedKey × Addr × Value), ys[j]? = some y → ∃ b, ps[j]? = some b ∧ IsTup s.heap b #[.ref y.2.1, y.2.2] ∧ (nestedKind X.prog X.w).is s.heap y.1 y.2.1
  | [], [], _ => ⟨[], .nil, rfl, fun j q e => by simp at e⟩
  | p :: ps, kv :: kvs, .cons h t => by
    obtain ⟨ys, r, hl, hp⟩ := pairsZ I t
    obtain ⟨b, h1, h2, h3⟩ := h
    obtain ⟨n, n1, n2⟩ := h3.ex
    obtain ⟨its, rv, ht, _⟩ := I.tuple h1
    obtain ⟨u, y, ei, ru, ry⟩ := vals2 rv
    subst ei
    obtain rfl : u = .ref b := ru
    have nn := imm_nested I _ _ _ _ h2 rfl n1
    refine ⟨(n, b, y) :: ys, .cons ⟨n1, n2, ry, h2⟩ r, by rw [List.length_cons, List.length_cons, hl], fun j q e => ?_⟩
    cases j with
    | zero =>
      have e' : (n, b, y) = q := Option.some.inj e
      subst e'
      exact ⟨p, rfl, ht, nn, n2⟩
    | succ j =>
      obtain ⟨b', e1, e2, e3⟩ := hp j q (by simpa using e)
      exact ⟨b', by simpa using e1, e2, e3⟩
theorem call_dictZ (hcalm : X.calm = true) (hu : X.A.units + 65 < cLine) : CallR X (.type "dict") (rDictP ⟨X.K, X.w⟩) := by
  intro pins s σ H xs us Q I r q
  obtain ⟨a, ps, kvs, ex, hq, hp, q⟩ := q
  subst ex
  obtain ⟨u, eu, rx⟩ := vals1 r
  subst eu
  cases rx
  obtain ⟨its, rv, pl, hz⟩ := I.list hq
  have ei := refs_at rv
  subst ei
  rw [List.length_map] at hz
  obtain ⟨ys, cor, hl, hpr⟩ := pairsZ I hp
  obtain ⟨o, n, ho, hc, hd, hdat⟩ := pl
  have P := PairArg.list (prog := X.prog) (w := X.w) a (ps.map Value.ref).toArray (fun j => ps.getD j 0) (ys.map fun y => ((Value.ref y.2.1 : Value), y.2.2))
  have hat : ∀ (j : Nat) k v, (ys.map fun y => ((Value.ref y.2.1 : Value), y.2.2))[j]? = some (k, v) → ∃ m b, ys[j]? = some (m, b, v) ∧ k = .ref b := fun j k v e => by
    rw [List.getElem?_map] at e
    obtain ⟨⟨m, b, v'⟩, e1, e2⟩ := Option.map_eq_some_iff.mp e
    cases e2
    exact ⟨m, b, e1, rfl⟩
  refine call_dict_pairsH (knd := nestedKind X.prog X.w) (ps := ys) P (I.ok.hd hcalm) (by show X.A.units + 1 + 1 + 8 < cLine; omega) ⟨⟨o, n, ho, hc, hd, hdat⟩, ?_, fun j k v e => ?_⟩ ⟨(List.length_map _).symm, hat⟩ ?_ (by rw [List.length_map, hl]; exact hz) fun h' tk hd' k => ?_
  · simp [hl]
  · obtain ⟨m, b, e1, rfl⟩ := hat j k v e
    obtain ⟨c, c1, c2, _⟩ := hpr j _ e1
    have e3 : ps.getD j 0 = c := by rw [List.getD_eq_getElem?_getD, c1]; rfl
    dsimp only
    rw [e3]
    obtain ⟨oc, g1, g2, g3⟩ := c2
    exact ⟨by simp [c1], .inl ⟨oc, g1, g2, g3⟩⟩
  · intro h' hk x hx
    obtain ⟨j, hj⟩ := List.getElem?_of_mem hx
    obtain ⟨_, _, _, nn⟩ := hpr j x hj
    exact nestedKind_stays.all h' (fun b o hb e => hk b o (Nat.ne_of_lt (Heap.lt_size e)) hb e) _ _ nn
  · have hm : (s.heap.objs.size == sysModules) = false := beq_eq_false_iff_ne.mpr (Nat.ne_of_gt I.big)
    have cp := cor_putAll cor (show CorT ⟨X.K, X.w⟩ H [] [] from .nil)
    obtain ⟨ob, es, ep, g1, g2, g3, g4, g5, g6⟩ := hd'
    have he : es.size ≤ sizeLine := by
      have l1 := congrArg List.length g4
      rw [Array.length_toList, List.length_map, ← cor_len cp] at l1
      have := putAll_len (ps := kvs) (ks := ([] : List (D × V)))
      have l2 := cor_len cor
      rw [List.length_nil] at this
      omega
    have hn : H s.heap.objs.size = none := I.hok.fresh (Nat.le_refl _)
    exact ⟨.ref s.heap.objs.size, _, I.laid (t' := tk) (o := dO s.heap.objs.size es ep) (fun b o e => k b o (fun z => nomatch z) e) (Nat.le_refl _) ⟨⟨hm, he, ob, g1, g2, g3⟩, ⟨ob, g1⟩, fun h1' h2' p k => ⟨p.1, p.2.1, p.2.2.at k⟩⟩, rfl, q _ es ep hn (by rw [g4]; exact cor_ents (P := X.prog) cp)⟩
end
end Z
end
section
set_option Elab.async false
set_option linter.all false
set_option maxRecDepth 100000
set_option maxHeartbeats 1000000
/-! sorted(d), d a dict of one's own whose keys are tuples of ints. -/
namespace Z
open PySem PySem.Spec L2 PyProof.Rows
section
variable {prog : Program} {w : World} {A : Around} {E : Value → Shared → Prop} {s : Shared} {T : String} {r d : Addr} {n : Nat} {P : Nat → Value → Prop} {OK : Heap → Prop}
theorem code_collect {R : Result → Shared → Prop} (K : PySem.W.KdlSrc prog w T r d n P OK) (hh : A.handled = none) (hok : OK s.heap) (hn : n ≤ sizeLine)
    (hR : ∀ h' tk (acc : Array Value) c, (∀ b o, s.heap.get? b = some o → h'.get? b = some o) → h'.get? s.heap.objs.size = some { cls := .type "list", dict := none, data := .seq acc c, slots := #[] } → ItemsOf P acc n → R (.ok (.ret (.ref s.heap.objs.size))) { s with heap := h', toks := tk }) :
    codeAny (model prog w) A (.builtin "proto.collect" ⟨[.ref r], []⟩) R s := by
  have hlt := K.there _ hok
  refine codeAny_builtin F.entry_proto_collect ?_
  rw [Around.under_plainId F.plain_proto_collect _]
  show wpAny _ A.in1 (newList [] >>= fun l => again (.builtin "list.__iadd__" ⟨[l, .ref r], []⟩)) _ _ s
  refine wpAny_bind (wpAny_newObj_type ?_)
  refine wpAny_pure ⟨plainId_quiet F.plain_list_iadd _, codeAny_builtin F.entry_list_iadd ?_⟩
  rw [Around.under_plainId F.plain_list_iadd _]
  have hS : (s.heap.push { cls := .type "list", data := .seq ([] : List Value).toArray }).get? s.heap.objs.size = some { cls := .type "list", data := .seq ([] : List Value).toArray } := Heap.get?_push_size _ rfl
  show wpAny _ A.in1 (Builtin.List.listExtendWith (.ref s.heap.objs.size) (.ref r) (.ref s.heap.objs.size)) _ _ _
  exact PySem.W.kdl_extend (R := R) (s := { s with heap := s.heap.push { cls := .type "list", data := .seq ([] : List Value).toArray } }) K hh (K.keep _ _ hok fun b _ o e => Heap.get?_push_of_some _ e) s.heap.objs.size (Nat.ne_of_gt hlt.1) (Nat.ne_of_gt hlt.2) _ 0 hS (fun h' tk acc' c' hk hS' hacc => hR h' tk acc' c' (fun b o e => hk b o (Nat.ne_of_lt (Heap.lt_size e)) (Heap.get?_push_of_some _ e)) hS' hacc) hn
theorem collect_src {Q : List Value → Shared → Prop} (K : PySem.W.KdlSrc prog w T r d n P OK) (hh : A.handled = none) (hok : OK s.heap) (hn : n ≤ sizeLine)
    (hQ : ∀ h' tk (acc : Array Value), (∀ b o, s.heap.get? b = some o → h'.get? b = some o) → s.heap.objs.size ≤ h'.objs.size → ItemsOf P acc n → Q acc.toList { s with heap := h', toks := tk }) :
    wpAny (model prog w) A (collect (.ref r)) Q E s := by
  unfold collect
  refine wpAny_bind (wpAny_runValue (code_collect K hh hok hn fun h' tk acc c k hS' hacc => ?_))
  show wpAny _ A (load s.heap.objs.size >>= _) _ _ _
  refine wpAny_bind (wpAny_load hS' ?_)
  refine wpAny_pure ?_
  exact hQ h' tk acc k (Nat.le_of_lt (Heap.lt_size hS')) hacc
theorem tups_tot {m : Nat} {B : Int} {vs : List Value} (x : TS.TupsOk s.heap m B vs) : Srt.Tot prog w A s (tuples' true) (fun p => p.1 ∈ vs) := by
  intro p q hm hm'
  obtain ⟨ns, tp, lp, bp⟩ := x _ hm
  obtain ⟨ms, tq, lq, bq⟩ := x _ hm'
  obtain ⟨a, xs, e1, ⟨o, ho, hc, n, hdt⟩, i⟩ := tp
  obtain ⟨a', ys, e2, ⟨o', ho', hc', n', hdt'⟩, i'⟩ := tq
  rw [e1, e2]
  refine ⟨decide (TS.code B ns < TS.code B ms), ?_⟩
  refine PySem.W.kat_lt ho hdt ho' hdt' ?_
  have sz : decide (xs.size < ys.size) = false := by
    have l1 := i.length
    have l2 := i'.length
    rw [Array.length_toList] at l1 l2
    exact decide_eq_false (by omega)
  rw [sz]
  exact TS.lex_ints 0 i i' (by omega) bp bq ⟨rfl, rfl⟩
theorem tups_sortable {m : Nat} {B : Int} {a : Addr} {vs : List Value} (hd : 1 ≤ m) (h0 : 0 < vs.length) (x : TS.TupsOk s.heap m B vs) (ha : ∀ o, s.heap.get? a = some o → o.cls ≠ .type "tuple") : Srt.Sortable prog w A s a vs := by
  intro h' keep
  have x' : TS.TupsOk h' m B vs := x.keeps fun b o e c => keep b o (fun z => by subst z; exact ha o e c) e
  obtain ⟨fs, h1, h2, h3⟩ := TS.firsts_of hd vs x'
  refine ⟨tuples' true, fun Q E hq => ?_, tups_tot (s := { s with heap := h' }) x'⟩
  refine PySem.W.kat_kind (T := .type "int") h1 (by omega) (fun f hm => ?_) (by rfl) ?_
  · obtain ⟨x, t, rfl⟩ := h3 f hm
    exact PySem.W.Looks.now
  · have e : (Value.type "int" != Value.type "tuple") = true := by first | decide +kernel | rfl | decide
    rw [e]
    exact hq
/-- sorted(r), any number of tuples: the same in some order -/
theorem sorted_srcN {Q : Value → Shared → Prop} {m : Nat} {B : Int} (K : PySem.W.KdlSrc prog w T r d n P OK) (hh : A.handled = none) (hok : OK s.heap) (h0 : 0 < n) (hn : n ≤ sizeLine) (hd : 1 ≤ m)
    (x : ∀ acc : Array Value, ItemsOf P acc n → TS.TupsOk s.heap m B acc.toList)
    (hQ : ∀ h' tk p (acc out : Array Value) c, (∀ b o, s.heap.get? b = some o → h'.get? b = some o) → ItemsOf P acc n → s.heap.objs.size ≤ p → h'.get? p = some (seqObj "list" out c) → out.toList.Perm acc.toList → Q (.ref p) { s with heap := h', toks := tk }) :
    wpAny (model prog w) A (call (.builtin "sorted") [.ref r]) Q E s := by
  refine Calls.call_function_entry kind_sorted plain_sorted entry_sorted (args_sorted1 _) ?_
  unfold Builtin.«sorted»
  refine wpAny_bind (m := checkCount "sorted" 1 1 _) (wpAny_pure ?_)
  refine wpAny_bind (collect_src (A := A.in1) K hh hok hn fun h1 tk acc k1 hz hacc => ?_)
  have hvl : acc.toList.length = n := by rw [Array.length_toList, hacc.1]
  refine wpAny_bind (wpAny_newList ?_ (by rw [hvl]; exact hn))
  have hoL : (h1.push (seqObj "list" acc.toList.toArray 0)).get? h1.objs.size = some (seqObj "list" acc.toList.toArray 0) := Heap.get?_push_size _ rfl
  have kk : ∀ b o, s.heap.get? b = some o → (h1.push (seqObj "list" acc.toList.toArray 0)).get? b = some o := fun b o e => Heap.get?_push_of_some _ (k1 b o e)
  have x0 := x acc hacc
  have x1 : TS.TupsOk (h1.push (seqObj "list" acc.toList.toArray 0)) m B acc.toList := x0.keeps fun b o e _ => kk b o e
  refine wpAny_bind (wpAny_holding (wpAny_call_entry slot_list_sort ⟨_, hoL, rfl⟩ entry_list_sort (Srt.list_sort_any (s := { s with heap := h1.push (seqObj "list" acc.toList.toArray 0), toks := tk }) hoL (by rw [hvl]; exact hn) (fun _ => tups_sortable (s := { s with heap := h1.push (seqObj "list" acc.toList.toArray 0), toks := tk }) hd (by omega) x1 fun o e => ?_) fun out hp => ⟨_, rfl, ?_⟩) (args_list_sort _)))
  · have e' : some o = some (seqObj "list" acc.toList.toArray 0) := e.symm.trans hoL
    cases e'
    intro c
    exact absurd (Value.type.inj c) (by decide)
  · obtain ⟨c, hc⟩ := sortedHeap_at (vs := acc.toList) (out := out.toArray) hoL
    refine wpAny_pure ⟨_, rfl, hQ _ tk h1.objs.size acc out.toArray c (fun b o e => ?_) hacc hz hc (by simpa using hp)⟩
    have hlt : b < h1.objs.size := Nat.lt_of_lt_of_le (Heap.lt_size e) hz
    exact (sortedHeap_old (Nat.ne_of_lt hlt) (Nat.lt_trans hlt (show h1.objs.size < (h1.push (seqObj "list" acc.toList.toArray 0)).objs.size by rw [size_push']; exact Nat.lt_succ_self _))).trans (kk b o e)
/-- sorted(r): what r gives are tuples of d ints in [0, B) -/
theorem sorted_src {Q : Value → Shared → Prop} {m : Nat} {B : Int} (K : PySem.W.KdlSrc prog w T r d n P OK) (hh : A.handled = none) (hok : OK s.heap) (h64 : n < 64) (hd : 1 ≤ m)
    (x : ∀ acc : Array Value, ItemsOf P acc n → TS.TupsOk s.heap m B acc.toList)
    (hQ : ∀ h' tk p (acc out : Array Value) c, (∀ b o, s.heap.get? b = some o → h'.get? b = some o) → ItemsOf P acc n → s.heap.objs.size ≤ p → h'.get? p = some (seqObj "list" out c) → out.toList.Perm acc.toList → out.toList.Pairwise (fun u v => TS.code B (TS.intsOf s.heap u) ≤ TS.code B (TS.intsOf s.heap v)) → Q (.ref p) { s with heap := h', toks := tk }) :
    wpAny (model prog w) A (call (.builtin "sorted") [.ref r]) Q E s := by
  refine Calls.call_function_entry kind_sorted plain_sorted entry_sorted (args_sorted1 _) ?_
  unfold Builtin.«sorted»
  refine wpAny_bind (m := checkCount "sorted" 1 1 _) (wpAny_pure ?_)
  refine wpAny_bind (collect_src (A := A.in1) K hh hok (by rw [sizeLine_eq]; omega) fun h1 tk acc k1 hz hacc => ?_)
  have hvl : acc.toList.length < 64 := by rw [Array.length_toList, hacc.1]; exact h64
  refine wpAny_bind (wpAny_newList ?_ (by rw [sizeLine_eq]; omega))
  have hoL : (h1.push (seqObj "list" acc.toList.toArray 0)).get? h1.objs.size = some (seqObj "list" acc.toList.toArray 0) := Heap.get?_push_size _ rfl
  have kk : ∀ b o, s.heap.get? b = some o → (h1.push (seqObj "list" acc.toList.toArray 0)).get? b = some o := fun b o e => Heap.get?_push_of_some _ (k1 b o e)
  have x0 := x acc hacc
  have x1 : TS.TupsOk (h1.push (seqObj "list" acc.toList.toArray 0)) m B acc.toList := x0.keeps fun b o e _ => kk b o e
  refine wpAny_bind (wpAny_holding (TS.call_sort_tups (s := { s with heap := h1.push (seqObj "list" acc.toList.toArray 0), toks := tk }) hoL hvl hd x1 fun out a1 a2 => ?_))
  obtain ⟨c, hc⟩ := sortedHeap_at (vs := acc.toList) (out := out) hoL
  have same : ∀ v ∈ acc.toList, TS.intsOf (h1.push (seqObj "list" acc.toList.toArray 0)) v = TS.intsOf s.heap v := fun v hv => by
    obtain ⟨ns, t0, _⟩ := x0 v hv
    rw [t0.ints, (t0.keeps fun b o e _ => kk b o e).ints]
  refine wpAny_pure ⟨_, rfl, hQ _ tk h1.objs.size acc out c (fun b o e => ?_) hacc hz hc a1 ?_⟩
  · have hlt : b < h1.objs.size := Nat.lt_of_lt_of_le (Heap.lt_size e) hz
    exact (sortedHeap_old (Nat.ne_of_lt hlt) (Nat.lt_trans hlt (show h1.objs.size < (h1.push (seqObj "list" acc.toList.toArray 0)).objs.size by rw [size_push']; exact Nat.lt_succ_self _))).trans (kk b o e)
  · refine List.Pairwise.imp_of_mem (fun {u v} hu hv hle => ?_) a2
    rw [same u (a1.mem_iff.mp hu), same v (a1.mem_iff.mp hv)] at hle
    exact hle
end
theorem codeD_ints {B : Int} (ns : List Int) : codeD B (.tuple (ns.map PyData.int)) = TS.code B ns := by
  show TS.code B ((ns.map PyData.int).map _) = _
  rw [List.map_map]
  congr 1
  exact List.map_id'' (fun _ => rfl) ns
def rSortD (K : Kw) : List V → Hp → VK → Prop := fun xs H Q => ∃ a ks, ∃ (m : Nat) (B : Int), xs = [.ref a] ∧ DicAt K H a ks ∧ ks.length ≤ sizeLine ∧ 1 ≤ m ∧ (∀ p ∈ ks, IntsT m B p.1) ∧
  ∀ (ys : List V) (out : List D) (l : Addr), ImmL K.K H ys out → out.Perm (ks.map (·.1)) → (ks.length < 64 → out.Pairwise (fun x y => codeD B x ≤ codeD B y)) → H l = none → Q (.ref l) (upd H l (.lst ys))
theorem immL_map {K : PySem.W.Frag} {H : Hp} {f : Value → V} {g : Value → D} : ∀ {us : List Value}, (∀ u ∈ us, Imm K H (f u) (g u)) → ImmL K H (us.map f) (us.map g)
  | [], _ => .nil
  | u :: us, h => .cons (h u (.head _)) (immL_map fun v m => h v (.tail _ m))
theorem immL_mem {K : PySem.W.Frag} {H : Hp} : ∀ {ys : List V} {us : List Value} {ds : List D}, Vals ys us → ImmL K H ys ds → ∀ (i : Nat) u d, us[i]? = some u → ds[i]? = some d → ∃ y, RelV y u ∧ Imm K H y d
  | _, _, _, .cons r t, .cons h q, 0, u, d, e1, e2 => by
    cases e1; cases e2
    exact ⟨_, r, h⟩
  | _, _, _, .cons r t, .cons h q, i + 1, u, d, e1, e2 => immL_mem t q i u d (by simpa using e1) (by simpa using e2)
  | _, _, _, .nil, _, i, u, d, e1, _ => by simp at e1
section
variable {X : Cx}
theorem cr_sortD (hcalm : X.calm = true) : CallR X (.builtin "sorted") (rSortD ⟨X.K, X.w⟩) := by
  intro pins s σ H xs us Q I r q
  obtain ⟨a, ks, m, B, rfl, ⟨es, ep, ho, hp, hn⟩, h64, hm, hk, q⟩ := q
  obtain rfl := Vals.ref1 r
  have ok : (a == sysModules) = false ∧ es.size ≤ sizeLine ∧ s.heap.DictRaw a es ep := (I.hok a _ ho).1
  obtain ⟨h1, h2, h3⟩ := ok
  obtain ⟨ys, e1, e2⟩ := ents_keys hp
  have hlen : es.size = ks.length := by
    have := hp.length
    rw [Array.length_toList] at this
    exact this
  -- each key: its data, its ints
  have key : ∀ u ∈ es.toList.map (·.key), ∃ ns : List Int, (∃ t, u = .ref t) ∧ Imm X.K H (bkV u) (.tuple (ns.map PyData.int)) ∧ TS.TupInts s.heap u ns ∧ ns.length = m ∧ TS.Bd B ns := fun u hu => by
    obtain ⟨i, hi⟩ := List.getElem?_of_mem hu
    have hil : i < es.toList.length := by
      have := (List.getElem?_eq_some_iff.mp hi).1
      rwa [List.length_map] at this
    have hik : i < ks.length := by rw [Array.length_toList, hlen] at hil; exact hil
    obtain ⟨ns, e3, e4, e5⟩ := hk _ (List.getElem_mem hik)
    obtain ⟨y, ry, im⟩ := immL_mem e1 e2 i u _ hi (show (ks.map (·.1))[i]? = some ks[i].1 by rw [List.getElem?_map, List.getElem?_eq_getElem hik]; rfl)
    rw [e3] at im
    obtain ⟨t, rfl⟩ := imm_ref im rfl
    obtain rfl : u = .ref t := ry
    have im2 := im
    cases im with
    | tup ht hl =>
      have ex := (immL_rep (K := ⟨X.K, X.w⟩) (F := fun _ => False) hl).ints_of
      subst ex
      exact ⟨ns, ⟨t, rfl⟩, im2, tupI_raw I ht.sqT, e4, e5⟩
  let dOf : Value → D := fun u => .tuple ((TS.intsOf s.heap u).map PyData.int)
  have dk : (es.toList.map (·.key)).map dOf = ks.map (·.1) := by
    apply List.ext_getElem?
    intro i
    rw [List.getElem?_map]
    by_cases hi : i < ks.length
    · have hil : i < es.toList.length := by rw [Array.length_toList, hlen]; exact hi
      have hu : (es.toList.map (·.key))[i]? = some es.toList[i].key := by rw [List.getElem?_map, List.getElem?_eq_getElem hil]; rfl
      have hkk : (ks.map (·.1))[i]? = some ks[i].1 := by rw [List.getElem?_map, List.getElem?_eq_getElem hi]; rfl
      rw [hu, hkk]
      obtain ⟨ns, ⟨t, et⟩, im, ti, _⟩ := key _ (List.mem_of_getElem? hu)
      obtain ⟨y, ry, im'⟩ := immL_mem e1 e2 i _ _ hu hkk
      rw [et] at im ti ry ⊢
      show some (PyData.tuple ((TS.intsOf s.heap (Value.ref t)).map PyData.int)) = _
      rw [ti.ints]
      obtain ⟨ns', e3, _⟩ := hk _ (List.getElem_mem hi)
      rw [e3] at im' ⊢
      obtain ⟨t', rfl⟩ := imm_ref im' rfl
      have ett : Value.ref t = Value.ref t' := ry
      injection ett with ett
      subst ett
      cases im' with
      | tup ht hl =>
        have ex := (immL_rep (K := ⟨X.K, X.w⟩) (F := fun _ => False) hl).ints_of
        subst ex
        have := ti.ints.symm.trans (tupI_raw I ht.sqT).ints
        rw [this]
    · rw [List.getElem?_eq_none (by rw [List.length_map, Array.length_toList, hlen]; omega), List.getElem?_eq_none (by rw [List.length_map]; omega)]
      rfl
  have tups : ∀ acc : Array Value, ItemsOf (fun i v => ∃ hi : i < es.size, v = es[i].key) acc es.size → TS.TupsOk s.heap m B acc.toList := fun acc hacc v hv => by
    rw [items_key hacc] at hv
    obtain ⟨ns, _, _, h4, h5, h6⟩ := key v hv
    exact ⟨ns, h4, h5, h6⟩
  have fin : ∀ h' tk p (acc out : Array Value) c, (∀ b o, s.heap.get? b = some o → h'.get? b = some o) → ItemsOf (fun i v => ∃ hi : i < es.size, v = es[i].key) acc es.size → s.heap.objs.size ≤ p → h'.get? p = some (seqObj "list" out c) → out.toList.Perm acc.toList → (ks.length < 64 → out.toList.Pairwise (fun u v => TS.code B (TS.intsOf s.heap u) ≤ TS.code B (TS.intsOf s.heap v))) →
      EP X pins σ Q (.ref p) { s with heap := h', toks := tk } := fun h' tk p acc out c kk hacc hz hc pm pw => by
    rw [items_key hacc] at pm
    have hkey := fun u (hu : u ∈ out.toList) => key u (pm.mem_iff.mp hu)
    have hrefs : ∀ u ∈ out.toList, ∃ t, u = Value.ref t := fun u hu => (hkey u hu).elim fun _ h => h.1
    have hlen2 : (out.toList.map bkV).length ≤ sizeLine := by rw [List.length_map, pm.length_eq, List.length_map, Array.length_toList, hlen]; exact h64
    refine ⟨.ref p, upd H p (.lst (out.toList.map bkV)), I.laid (t' := tk) kk hz ⟨hlen2, out.toList, c, bkV_vals hrefs, hc⟩, rfl, q _ (out.toList.map dOf) p (immL_map fun u hu => ?_) (by rw [← dk]; exact pm.map dOf) (fun hlt => ?_) (I.hok.fresh hz)⟩
    · obtain ⟨ns, _, im, ti, _⟩ := hkey u hu
      show Imm X.K H (bkV u) (.tuple ((TS.intsOf s.heap u).map PyData.int))
      rw [ti.ints]; exact im
    · rw [List.pairwise_map]
      refine (pw hlt).imp fun {u v} h => ?_
      show codeD B (.tuple ((TS.intsOf s.heap u).map PyData.int)) ≤ codeD B (.tuple ((TS.intsOf s.heap v).map PyData.int))
      rw [codeD_ints, codeD_ints]; exact h
  by_cases hlt : ks.length < 64
  · exact sorted_src (m := m) (B := B) (KdlSrc.rawDict (es := es) (ep := ep) h1) (I.ok.hd hcalm) h3 (by rw [hlen]; exact hlt) hm tups fun h' tk p acc out c kk hacc hz hc pm pw => fin h' tk p acc out c kk hacc hz hc pm fun _ => pw
  · exact sorted_srcN (m := m) (B := B) (KdlSrc.rawDict (es := es) (ep := ep) h1) (I.ok.hd hcalm) h3 (by omega) (by rw [hlen]; exact h64) hm tups fun h' tk p acc out c kk hacc hz hc pm => fin h' tk p acc out c kk hacc hz hc pm fun z => absurd z hlt
end
/-! ### as data -/
def rLenD (K : Kw) : List V → Hp → VK → Prop := fun xs H Q => ∃ a ks, xs = [.ref a] ∧ DicAt K H a ks ∧ Q (.int (ks.length : Nat)) H
section
variable {X : Cx} {C : Cn}
theorem len_raw {prog : Program} {w : World} {A : Around} {E : Value → Shared → Prop} {s : Shared} {d : Addr} {es : Array DictEntry} {ep : Nat} {Q : Value → Shared → Prop} (hd : (d == sysModules) = false) (hm : s.heap.DictRaw d es ep) (hfit : (es.size : Int) < 2 ^ 63)
    (h : Q (.int es.size (s.toks + 1)) { s with toks := s.toks + 1 + 1 }) : wpAny (model prog w) A (call (.builtin "len") [.ref d]) Q E s := by
  refine Calls.call_function_entry kind_len plain_len entry_len (args_len1 _) ?_
  unfold Builtin.«len»
  refine wpAny_bind (m := oneArg "len" _) (wpAny_pure ?_)
  refine wpAny_bind (m := callSpecial? (.ref d) (Str.ofString "__len__")) (wpAny_callSpecial?_slot (name := Str.ofString "__len__") hm.typeIs F.slot_dict_len
    (call_len_raw hd hm ?_))
  show wpAny _ _ _ _ _ { s with toks := s.toks + 1 }
  refine wpAny_bind (wpAny_holding (wpAny_pure ?_))
  refine wpAny_bind (wpAny_letGo ?_)
  show wpAny _ _ (if ((es.size : Nat) : Int) < 0 then _ else _) _ _ _
  rw [if_neg (by omega)]
  show wpAny _ _ (if ((es.size : Nat) : Int) ≥ 2 ^ 63 then _ else _) _ _ _
  rw [if_neg (by omega)]
  exact wpAny_bind (wpAny_mkInt (wpAny_pure ⟨_, rfl, h⟩))
theorem call_lenDz : CallR X (.builtin "len") (rLenD ⟨X.K, X.w⟩) := by
  intro pins s σ H xs us Q I r q
  obtain ⟨a, ks, rfl, ⟨es, ep, ho, hp, hn⟩, q⟩ := q
  obtain rfl := Vals.ref1 r
  have ok : (a == sysModules) = false ∧ es.size ≤ sizeLine ∧ s.heap.DictRaw a es ep := (I.hok a _ ho).1
  obtain ⟨h1, h2, h3⟩ := ok
  have hl := hp.length
  rw [Array.length_toList] at hl
  rw [← hl] at q
  exact len_raw h1 h3 (by rw [sizeLine_eq] at h2; omega) ⟨.int es.size, H, I.tok _, ⟨_, rfl⟩, q⟩
theorem repK_len {K : Kw} {F : Addr → Prop} {H : Hp} {ks : List (D × V)} {kvs : List (D × D)} (h : RepK K F H ks kvs) : ks.length = kvs.length := by
  have := congrArg List.length (repK_keys h)
  simpa using this
theorem cd_lenZ (hK : (⟨X.K, X.w⟩ : Kw) = C.K) : CallD C (fun xs H Q => (∃ x n, xs = [x] ∧ LenV X.K x H n ∧ Q (.int n) H) ∨ rLenD ⟨X.K, X.w⟩ xs H Q) fLen := by
  intro W H σ δ vs ds tv τ QQ Q g hb hf k
  have hb0 := hb
  have old : fLen0 ds QQ → (∃ x n, vs = [x] ∧ LenV X.K x H n ∧ Q (.int n) H) ∨ rLenD ⟨X.K, X.w⟩ vs H Q := fun h => .inl (cd_len (X := X) (C := C) (by rw [← hK]) g hb0 h k)
  cases hb with
  | nil => exact old hf
  | cons h1 h2 =>
    rename_i v vs d ds
    cases h2 with
    | cons _ _ => exact old (by cases d <;> exact hf)
    | nil =>
      cases d <;> try exact old hf
      obtain ⟨a, ks, rfl, q1, q2⟩ := h1
      rw [hK]
      exact .inr ⟨a, ks, rfl, q1, k _ H W (.val (.int _)) (g.push (r := .val (.int _)) (by rw [repK_len q2]; exact .int _)) hf⟩
theorem cd_sortedZ (hK : (⟨X.K, X.w⟩ : Kw) = C.K) : CallD C (fun xs H Q => rSortedI X.K xs H Q ∨ rSortD ⟨X.K, X.w⟩ xs H Q) fSorted := by
  intro W H σ δ vs ds tv τ QQ Q g hb hf k
  have hb0 := hb
  have old : fSorted0 ds QQ → rSortedI X.K vs H Q ∨ rSortD ⟨X.K, X.w⟩ vs H Q := fun h => .inl (cd_sorted (X := X) (C := C) (by rw [← hK]) g hb0 h k)
  cases hb with
  | nil => exact old hf
  | cons h1 h2 =>
    rename_i v vs d ds
    cases h2 with
    | cons _ _ => exact old (by cases d <;> exact hf)
    | nil =>
      cases d <;> try exact old hf
      obtain ⟨a, ks, rfl, q1, q2⟩ := h1
      obtain ⟨h64, m, B, hm, hk, q⟩ := hf
      have hkeys := repK_keys q2
      refine .inr ⟨a, ks, m, B, rfl, by rw [hK]; exact q1, by rw [repK_len q2, Z.line_eq]; exact h64, hm, fun p hp => ?_, fun ys out l hi pm pw hl => ?_⟩
      · have : p.1 ∈ ks.map (·.1) := List.mem_map.mpr ⟨p, hp, rfl⟩
        rw [hkeys] at this
        obtain ⟨p', hp', e⟩ := List.mem_map.mp this
        rw [← e]; exact hk p' hp'
      · rw [hK] at hi
        exact k _ _ _ _ (g.newLst hl (immL_rep hi)) (q out (by rw [← hkeys]; exact pm) fun z => pw (by rw [repK_len q2]; exact z))
/-- dict(pairs) -/
def fDict1 : FN
  | [.list ds], Q => ∃ kvs : List (D × D), ds = kvs.map (fun p => .tuple [p.1, p.2]) ∧ (∀ p ∈ kvs, KeyT p.1) ∧ Q (.own (.dict (putAll [] kvs)))
  | _, _ => False
theorem pair_rep {F : Addr → Prop} {H : Hp} {x : V} {kd vd : D} (hk : KeyT kd) (h : Rep C.K F H x (.tuple [kd, vd])) : ∃ a y, x = .ref a ∧ PairO C.K H a (kd, y) ∧ Rep C.K F H y vd := by
  obtain ⟨n, n1, n2⟩ := hk.ex
  obtain ⟨a, ys, rfl, q1, q2⟩ := Rep.tup_of h
  cases q2 with
  | cons r1 q3 =>
    cases q3 with
    | cons r2 q4 =>
      cases q4
      have im := rep_imm _ _ _ r1 n1
      obtain ⟨b, rfl⟩ := imm_ref im hk.tu
      exact ⟨a, _, rfl, ⟨b, q1.sqT, im, hk⟩, r2⟩
theorem pairs_rep {F : Addr → Prop} {H : Hp} (kvs : List (D × D)) : ∀ {xs : List V}, (∀ p ∈ kvs, KeyT p.1) → RepL C.K F H xs (kvs.map fun p => .tuple [p.1, p.2]) →
    ∃ (ps : List Addr) (ks : List (D × V)), xs = ps.map V.ref ∧ Paired (PairO C.K H) ps ks ∧ RepK C.K F H ks kvs := by
  induction kvs with
  | nil =>
    intro xs hk h
    cases h
    exact ⟨[], [], rfl, .nil, .nil⟩
  | cons p kvs ih =>
    intro xs hk h
    obtain ⟨kd, vd⟩ := p
    rw [List.map_cons] at h
    cases h with
    | cons h t =>
      obtain ⟨ps, ks, e1, e2, e3⟩ := ih (fun p m => hk p (.tail _ m)) t
      obtain ⟨a, y, rfl, q1, q2⟩ := pair_rep (hk _ (.head _)) h
      exact ⟨a :: ps, (kd, y) :: ks, by rw [e1]; rfl, .cons q1 e2, .cons q2 e3⟩
theorem cd_dict1 (hK : (⟨X.K, X.w⟩ : Kw) = C.K) : CallD C (rDictP ⟨X.K, X.w⟩) fDict1 := by
  intro W H σ δ vs ds tv τ QQ Q g hb hf k
  cases hb with
  | nil => exact hf.elim
  | cons h1 h2 =>
    rename_i v vs d ds
    cases h2 with
    | cons _ _ => cases d <;> exact hf.elim
    | nil =>
      cases d <;> try exact hf.elim
      obtain ⟨a, xs, rfl, q1, q2⟩ := h1
      obtain ⟨kvs, rfl, hk, q⟩ := hf
      obtain ⟨ps, ks, rfl, e2, e3⟩ := pairs_rep kvs hk q2
      rw [hK]
      exact ⟨a, ps, ks, rfl, .inl (.inl q1), e2, fun p es ep hp he => k _ _ _ _ (g.newDic hp he (putAll_nodup (ks := []) .nil) (repK_putAll e3 .nil)) q⟩
end
end Z
end
section
set_option Elab.async false
set_option linter.all false
set_option maxRecDepth 100000
set_option maxHeartbeats 1000000
/-! The meaning of the program's text, by fuel; that the machine follows it. -/
namespace Z
open PySem PySem.Spec L2
structure Cfg where
  N : List Str
  fns : List FnI
  glb : List Str
  cst : List (Str × D)
/-- a constant of the module -/
inductive CstV : V → D → Prop
  | int (i : Int) : CstV (.int i) (.int i)
  | str (x : Str) : CstV (.str x) (.str x)
  | bl (b : Bool) : CstV (.bl b) (.bool b)
  | non : CstV .non .none
theorem CstV.rep {v : V} {d : D} {K : Kw} {F : Addr → Prop} {H : Hp} (h : CstV v d) : Rep K F H v d := by
  cases h
  · exact .int _
  · exact .str _
  · exact .bl _
  · exact .non
def CstAt (mg : Str → Option Value) (x : Str) (d : D) : Prop := ∃ u v, mg x = some u ∧ RelV v u ∧ CstV v d
theorem cst_int {mg : Str → Option Value} {x : Str} {i : Int} {t : Tok} (h : mg x = some (.int i t)) : CstAt mg x (.int i) := ⟨_, .int i, h, ⟨t, rfl⟩, .int i⟩
structure Scp where
  sc : Scope
  fn : Str → Bool
def isVis : Option NameKind → Bool
  | some .local => true
  | some .cell => true
  | some .free => true
  | _ => false
def isLoc : Option NameKind → Bool
  | some .local => true
  | _ => false
def isCell : Option NameKind → Bool
  | some .cell => true
  | _ => false
def isGlob : Option NameKind → Bool
  | some .globalImplicit => true
  | _ => false
def Scp.look (s : Scp) (x : Str) : Option NameKind := s.sc.names.lookup x
def Scp.sto (s : Scp) (x : Str) : Bool := isLoc (s.look x) || (isCell (s.look x) && s.fn x)
def ixOf : List Str → Str → Option Nat
  | [], _ => none
  | y :: ys, x => if y = x then some 0 else (ixOf ys x).map (· + 1)
theorem ixOf_get : ∀ {N : List Str} {x : Str} {i : Nat}, ixOf N x = some i → N[i]? = some x
  | [], _, _, h => by cases h
  | y :: ys, x, i, h => by
    unfold ixOf at h
    split at h
    · rename_i e; cases h; rw [e]; rfl
    · obtain ⟨j, hj, rfl⟩ := Option.map_eq_some_iff.mp h
      exact ixOf_get (N := ys) hj
/-- dunder names that Python treats apart -/
def odd (x : Str) : Bool := (x == ("__debug__" : Str)) || (x == ("__classdict__" : Str))
abbrev bad : ZT := fun _ _ => False
abbrev badB : ZB := fun _ _ => False
abbrev badI : ZI := fun _ _ => False
abbrev badG : ZG := fun _ _ _ => False
abbrev badS : ZS := fun _ _ => False
structure Ev where
  e : Expr → ZT
  t : Expr → ZB
def zCmp (op : CmpOp) (ta tb : ZT) : ZT := match op with
  | .Eq => zD2 fEq ta tb
  | .NotEq => zD2 fNe ta tb
  | .Lt => zD2 fLt ta tb
  | .LtE => zD2 fLe ta tb
  | .Gt => zD2 fGt ta tb
  | .GtE => zD2 fGe ta tb
  | .Is => zD2 fIs ta tb
  | .IsNot => zD2 fIsNot ta tb
  | .In => zD2 (fInS false) ta tb
  | .NotIn => zD2 (fInS true) ta tb
def ordF : CmpOp → Option F2
  | .Lt => some fLt
  | .LtE => some fLe
  | .Gt => some fGt
  | .GtE => some fGe
  | .Eq => some fEq
  | .NotEq => some fNe
  | _ => none
def zCmp2 (op op' : CmpOp) (ta tb tc : ZT) : ZT := match ordF op, ordF op' with
  | some f, some g => zChain f g ta tb tc
  | _, _ => bad
def andT : List ZB → ZB
  | [] => badB
  | [a] => a
  | a :: b :: l => zAnd a (andT (b :: l))
def orT : List ZB → ZB
  | [] => badB
  | [a] => a
  | a :: b :: l => zOr a (orT (b :: l))
def andV : List ZT → ZT
  | [] => bad
  | [a] => a
  | a :: b :: l => zAndV a (andV (b :: l))
def orV : List ZT → ZT
  | [] => bad
  | [a] => a
  | a :: b :: l => zOrV a (orV (b :: l))
def notSlice : Expr → Bool
  | .Slice .. => false
  | _ => true
def notSet : Expr → Bool
  | .Set .. => false
  | _ => true
def notComp : Expr → Bool
  | .ListComp .. => false
  | .SetComp .. => false
  | .DictComp .. => false
  | _ => true
def notSuper : Expr → Bool
  | .Call (.Name _ _) [] [] _ => false
  | _ => true
def ownOf (N : List Str) : List (Str × NameKind) → List (Str × Nat)
  | [] => []
  | (x, k) :: r => match isLoc (some k) || isCell (some k), ixOf N x with
    | true, some i => (x, i) :: ownOf N r
    | _, _ => ownOf N r
/-- the built-ins of data -/
inductive Blt where
  | len | repr | sum | abs | max1 | max2 | min1 | min2 | all | any | int | tuple | list | sorted | dict
def Blt.f : Blt → FN
  | .len => fLen
  | .repr => fRepr
  | .sum => fSum
  | .abs => fAbs
  | .max1 => fMaxL
  | .max2 => fMax2
  | .min1 => fMinL
  | .min2 => fMin2
  | .all => fAll
  | .any => fAny
  | .int => fInt1
  | .tuple => fTuple
  | .list => fListZ
  | .sorted => fSorted
  | .dict => fDict1
def bltTab : List (Str × Nat × Blt) := [("len", 1, .len), ("repr", 1, .repr), ("sum", 1, .sum), ("abs", 1, .abs), ("max", 1, .max1), ("max", 2, .max2), ("min", 1, .min1), ("min", 2, .min2), ("all", 1, .all), ("any", 1, .any), ("int", 1, .int), ("tuple", 1, .tuple), ("list", 1, .list), ("sorted", 1, .sorted), ("dict", 1, .dict)]
def btTab : List (Str × BT) := [(BT.int.n, .int), (BT.bool.n, .bool), (BT.str.n, .str), (BT.tuple.n, .tuple), (BT.list.n, .list), (BT.dict.n, .dict)]
def btOf (x : Str) : Option BT := (btTab.find? fun q => q.1 == x).map (·.2)
theorem btOf_eq {x : Str} {t : BT} (h : btOf x = some t) : x = t.n := by
  obtain ⟨q, h1, rfl⟩ := Option.map_eq_some_iff.mp h
  have h2 := eq_of_beq (List.find?_some (p := fun q : Str × BT => q.1 == x) h1)
  rw [← h2]
  have h3 := List.mem_of_find?_eq_some h1
  unfold btTab at h3
  simp only [List.mem_cons, List.not_mem_nil, or_false] at h3
  rcases h3 with rfl | rfl | rfl | rfl | rfl | rfl <;> rfl
def bltOf (x : Str) (n : Nat) : Option Blt := (bltTab.find? fun q => q.1 == x && q.2.1 == n).map (·.2.2)
def methTab : List (Str × List Ms) := [("append", [mAppend]), ("extend", [mExtend]), ("pop", [mPop]), ("insert", [mInsert]), ("index", mIndex), ("count", mCount), ("get", [mGet])]
def methOf (x : Str) : List Ms := match methTab.find? fun q => q.1 == x with
  | some q => q.2
  | none => []
section
variable (c : Cfg)
/-- range(..) as a value's source -/
def evR (e : Expr → ZT) (s : Scp) : Expr → Option (Sto → (Int → Int → Sto → Prop) → Prop)
  | .Call (.Name f _) [a] [] _ => if f = "range" ∧ isGlob (s.look f) = true ∧ f ∈ c.glb ∧ noStar a = true then some (zR1 (e a)) else none
  | .Call (.Name f _) [a, b] [] _ => if f = "range" ∧ isGlob (s.look f) = true ∧ f ∈ c.glb ∧ [a, b].all noStar = true then some (zR2 (e a) (e b)) else none
  | _ => none
/-- what is walked -/
def evI (e : Expr → ZT) (s : Scp) (tg : Expr) (it : Expr) : ZI := match it with
  | .Call (.Name f _) args [] _ =>
    if f = "range" ∧ isGlob (s.look f) = true ∧ f ∈ c.glb then
      (match args with
      | [a] => if noStar a = true then zRg1 (zArgs zVal ([a].map e)) else badI
      | [a, b] => if [a, b].all noStar = true then zRg2 (zArgs zVal ([a, b].map e)) else badI
      | [a, b, d] => if [a, b, d].all noStar = true then zRg3 (zArgs zVal ([a, b, d].map e)) else badI
      | _ => badI)
    else if f = "enumerate" ∧ isGlob (s.look f) = true ∧ f ∈ c.glb then
      (match tg, args with
      | .Tuple .., [a] => if noStar a = true then zEn (e a) else badI
      | _, _ => badI)
    else if f = "zip" ∧ isGlob (s.look f) = true ∧ f ∈ c.glb then
      (match tg, args with
      | .Tuple .., [a, b] => if [a, b].all noStar = true then zZip (zArgs zVal ([a, b].map e)) else badI
      | _, _ => badI)
    else zIt (e it)
  | .Set .. => badI
  | _ => zIt (e it)
/-- a name that is read -/
def evNm (s : Scp) (x : Str) : ZT := if isVis (s.look x) = true ∧ odd x = false then (match ixOf c.N x with
  | some i => zNm i
  | none => bad) else bad
/-- targets -/
def evG (s : Scp) (vs : List Nat) : Nat → Expr → ZG
  | _, .Name x _ => (match ixOf c.N x with
    | some i => if s.sto x = true ∧ i ∈ vs then zTn i else badG
    | none => badG)
  | n + 1, .Tuple ts _ _ => if ts.all noStar = true then zTt (ts.map (evG s vs n)) else badG
  | _ + 1, .Subscript (.Name o _) (.Name x _) _ => zTx (evNm c s o) (evNm c s x)
  | _, _ => badG
def evO (e : Expr → ZT) : Option Expr → ZO
  | none => zO0
  | some x => zO1 (e x)
def evLc (r r' : Ev) (s s' : Scp) (own : List (Str × Nat)) (elt tg iter : Expr) (ifs : List Expr) : ZT :=
  zLc (evI c r.e s tg iter) (own.map (·.2)) (evG c s' (own.map (·.2)) 3 tg) (match ifs with
    | [] => zYes
    | [x] => r'.t x
    | _ => badB) (r'.e elt)
def evDc (r r' : Ev) (s s' : Scp) (own : List (Str × Nat)) (kx vx tg iter : Expr) (ifs : List Expr) : ZT :=
  zDc (evI c r.e s tg iter) (own.map (·.2)) (evG c s' (own.map (·.2)) 3 tg) (match ifs with
    | [] => zYes
    | [x] => r'.t x
    | _ => badB) (r'.e kx) (r'.e vx)
def inScp (s : Scp) (scope : Scope) : Scp := ⟨relS scope s.sc, fun x => scope.names.lookup x == some .cell⟩
def evCall (e : Expr → ZT) (s : Scp) (f : Str) (args : List Expr) (kws : List Keyword) : ZT :=
  if isGlob (s.look f) = true ∧ args.all noStar = true ∧ (kws.all fun k => k.arg.isSome) = true ∧ odd f = false then
    (match c.fns.find? fun fi => fi.name == f with
    | some fi => (match permOf fi.ps (kwNames kws) args.length with
      | some perm => zCall fi.c perm (zArgs zPass (args.map e)) (zArgs zPass (kws.map fun k => e k.value))
      | none => bad)
    | none => if f ∈ c.glb then
        (match kws with
        | [] => (match f, args with
          | f, [a] => (match evR c e s a with
            | some z => if f = "list" then zLstR z else if f = "tuple" then zTupR z else bad
            | none => (match bltOf f 1 with
              | some b => zBlt b.f (zArgs zKeep ([a].map e))
              | none => bad))
          | f, a :: as => (match bltOf f (a :: as).length with
            | some b => zBlt b.f (zArgs zKeep ((a :: as).map e))
            | none => bad)
          | _, [] => bad)
        | _ => bad)
      else bad)
  else bad
/-- set(x) != set(y) of two names -/
def evCs (s : Scp) : CmpOp → Expr → Expr → Option ZT
  | op, .Call (.Name g _) [.Name x _] [] _, .Call (.Name g2 _) [.Name y _] [] _ =>
    if g = "set" ∧ g2 = "set" ∧ isGlob (s.look ("set" : Str)) = true ∧ ("set" : Str) ∈ c.glb ∧ isVis (s.look x) = true ∧ odd x = false ∧ isVis (s.look y) = true ∧ odd y = false then
      (match ixOf c.N x, ixOf c.N y with
      | some i, some j => (match op with
        | .NotEq => some (zCs true i j)
        | .Eq => some (zCs false i j)
        | _ => none)
      | _, _ => none)
    else none
  | _, _, _ => none
def ev : Nat → Scp → Ev
  | 0, _ => ⟨fun _ => bad, fun _ => badB⟩
  | n + 1, s => {
    e := fun x => match x with
      | .Name x _ => if isVis (s.look x) = true ∧ odd x = false then (match ixOf c.N x with
        | some i => zNm i
        | none => bad) else if isGlob (s.look x) = true ∧ odd x = false then (match c.cst.find? fun q => q.1 == x with
          | some q => zC q.2
          | none => bad) else bad
      | .Constant (.int i) _ _ => zC (.int i)
      | .Constant (.bool i) _ _ => zC (.bool i)
      | .Constant (.str i) _ _ => zC (.str i)
      | .Constant .none _ _ => zC .none
      | .Dict [] [] _ => zDic0
      | .BinOp a op b _ => zBin op ((ev n s).e a) ((ev n s).e b)
      | .UnaryOp .USub a _ => zUn fNeg ((ev n s).e a)
      | .UnaryOp .Not a _ => zNotV ((ev n s).e a)
      | .Compare a [op] [b] _ => (match evCs c s op a b with
        | some z => z
        | none => if behindInMarks op b = false then zCmp op ((ev n s).e a) ((ev n s).e b) else bad)
      | .Compare a [op, op'] [b, d] _ => if lastMarks [op, op'] [b, d] = false then zCmp2 op op' ((ev n s).e a) ((ev n s).e b) ((ev n s).e d) else bad
      | .BoolOp .And l _ => andV (l.map (ev n s).e)
      | .BoolOp .Or l _ => orV (l.map (ev n s).e)
      | .IfExp t a b _ => zIf ((ev n s).t t) ((ev n s).e a) ((ev n s).e b)
      | .Tuple es _ _ => if es.all noStar = true then zTup (zArgs zVal (es.map (ev n s).e)) else bad
      | .List es _ => if es.all noStar = true then zLst (zArgs zVal (es.map (ev n s).e)) else bad
      | .Subscript a (.Slice none none (some (.UnaryOp .USub (.Constant (.int 1) _ _) _)) _) _ => zRev ((ev n s).e a)
      | .Subscript a (.Slice lo hi none _) _ => zSl ((ev n s).e a) (evO (ev n s).e lo) (evO (ev n s).e hi)
      | .Subscript a b _ => if notSlice b = true then zD2 fIx ((ev n s).e a) ((ev n s).e b) else bad
      | .ListComp elt [⟨tg, iter, ifs, 0⟩] scope _ => if blkC c.N s.sc scope (ownOf c.N scope.names) = true then
          evLc c (ev n s) (ev n (inScp s scope)) s (inScp s scope) (ownOf c.N scope.names) elt tg iter ifs else bad
      | .DictComp kx vx [⟨tg, iter, ifs, 0⟩] scope _ => if blkC c.N s.sc scope (ownOf c.N scope.names) = true then
          evDc c (ev n s) (ev n (inScp s scope)) s (inScp s scope) (ownOf c.N scope.names) kx vx tg iter ifs else bad
      | .Call (.Name f _) [.Call (.Name g gp) [a] [] ap] [] _ => if g = "set" ∧ isGlob (s.look g) = true ∧ g ∈ c.glb ∧ isGlob (s.look f) = true ∧ f ∈ c.glb ∧ noStar a = true then
          (if f = "sorted" then zBlt fSortSet (zArgs zKeep ([a].map (ev n s).e)) else if f = "len" then zBlt fLenSet (zArgs zKeep ([a].map (ev n s).e)) else bad)
        else evCall c (ev n s).e s f [.Call (.Name g gp) [a] [] ap] []
      | .Call (.Name f fp) [a, .Name T tp] [] _ => if f = "isinstance" then (if isGlob (s.look f) = true ∧ f ∈ c.glb ∧ isGlob (s.look T) = true ∧ T ∈ c.glb ∧ noStar a = true then (match btOf T with
          | some t => zIsi t ((ev n s).e a)
          | none => bad) else bad)
        else evCall c (ev n s).e s f [a, .Name T tp] []
      | .Call (.Name f _) args kws _ => evCall c (ev n s).e s f args kws
      | .Call (.Attribute o name apos) es [] cpos => if es.all noStar = true ∧ es.length < 30 ∧ (apos.endLine == cpos.line) = true ∧ notSuper o = true then zMeth (methOf name) ((ev n s).e o) (es.map (ev n s).e) else bad
      | _ => bad
    t := fun x => match x with
      | .Compare a [op] [b] _ => if behindInMarks op b = false then zB (zCmp op ((ev n s).e a) ((ev n s).e b)) else badB
      | .Compare a [op, op'] [b, d] _ => if lastMarks [op, op'] [b, d] = false then zB (zCmp2 op op' ((ev n s).e a) ((ev n s).e b) ((ev n s).e d)) else badB
      | .BoolOp .And l _ => andT (l.map (ev n s).t)
      | .BoolOp .Or l _ => orT (l.map (ev n s).t)
      | .UnaryOp .Not a _ => zNot ((ev n s).t a)
      | x => if plainT x = true then zTru ((ev n s).e x) else badB }
/-! ### statements -/
def seqs (f : Stmt → ZS) : List Stmt → ZS
  | [] => zNext
  | s :: r => zSeq (f s) (seqs f r)
def ixs (N : List Str) : List Str → Option (List Nat)
  | [] => some []
  | x :: xs => match ixOf N x, ixs N xs with
    | some i, some is => some (i :: is)
    | _, _ => none
/-- stored from the right -/
def swapB (s : Scp) (ts es : List Expr) (names : List Str) : Bool :=
  (ts.length == 2 || ts.length == 3) && names.all (fun x => isLoc (s.look x)) && (ts.all fun t => t.pos.line == ((ts.head?.map (·.pos.line)).getD 0)) && !(es.all (foldedForSure 8))
def evAsg (e : Expr → ZT) (s : Scp) (tg v : Expr) : ZS := match tg with
  | .Name x p => (match ixOf c.N x with
    | some i => if s.sto x = true then zSet i (e v) else badS
    | none => badS)
  | .Tuple ts _ _ => (match v with
    | .Tuple es _ _ => if es.all noStar = true then (match namesOf ts with
      | some names => (match ixs c.N names with
        | some is => if names.all s.sto = true ∧ names.eraseDups.length = names.length ∧ es.length = names.length ∧ es.length ≤ 1000 ∧ (es.all (constantsAlone 8) = false ∨ es.all (foldedForSure 8) = true) then zPar is (zArgs zGood (es.map e)) else badS
        | none => badS)
      | none => if es.all (constantsAlone 8) = false ∨ es.all (foldedForSure 8) = true then zAsg (evG c s (List.range c.N.length) 3 tg) (zTup (zArgs zVal (es.map e))) else badS) else badS
    | v => zAsg (evG c s (List.range c.N.length) 3 tg) (e v))
  | .Subscript o i _ => if notSlice i = true then zSub (e v) (e o) (e i) else badS
  | _ => badS
def evS (m : Nat) (s : Scp) : Nat → Stmt → ZS
  | 0, _ => badS
  | n + 1, st => match st with
    | .Pass _ => zNext
    | .Break _ => zBrk
    | .Continue _ => zCnt
    | .Expr e _ => if notComp e = true then zDrop ((ev c m s).e e) else badS
    | .Return (some e) _ => zRet ((ev c m s).e e)
    | .Return none _ => zRetN
    | .If t a b _ => zIfS ((ev c m s).t t) (seqs (evS m s n) a) (seqs (evS m s n) b)
    | .For tg iter body [] _ => zFor (evI c (ev c m s).e s tg iter) (evG c s (List.range c.N.length) 3 tg) (seqs (evS m s n) body)
    | .While t body [] _ => zWhile ((ev c m s).t t) (seqs (evS m s n) body)
    | .Assign [tg] v _ => evAsg c (ev c m s).e s tg v
    | _ => badS
def evB (m : Nat) (s : Scp) (body : List Stmt) : ZS := seqs (evS c m s m) body
end
end Z
end
section
set_option Elab.async false
set_option linter.all false
set_option maxRecDepth 100000
set_option maxHeartbeats 1000000
/-! The machine follows the meaning. -/
namespace Z
open PySem PySem.Spec L2
structure XOk (c : Cfg) (C : Cn) (s : Scp) (k : Nat) (X : Cx) : Prop where
  N : X.N = c.N
  nd : X.N.Nodup
  sc : X.env.scope = s.sc
  kind : s.sc.kind = .function
  fn : X.fn = s.fn
  calm : X.calm = true
  K : C.K.K = X.K
  w : C.K.w = X.w
  room : Room k X.A
  guards : X.A.guards = some []
  xe : X.xe = fun _ _ => False
  fns : ∀ fi ∈ c.fns, Callee X.prog X.w C.K X.mg X.base C.T k fi
  glb : ∀ x ∈ c.glb, X.mg x = none
  cst : ∀ q ∈ c.cst, CstAt X.mg q.1 q.2
section
variable {c : Cfg} {C : Cn} {s : Scp} {k : Nat} {X : Cx}
theorem XOk.kindOf (h : XOk c C s k X) (x : Str) : X.env.kindOf x = s.look x := by
  unfold Env.kindOf Scp.look
  rw [h.sc]
theorem XOk.block (h : XOk c C s k X) : X.env.blockKind = .function := by
  unfold Env.blockKind
  rw [h.sc, h.kind]; rfl
theorem XOk.vis (h : XOk c C s k X) {x : Str} (hx : isVis (s.look x) = true) : Vis X.env.scope x := by
  unfold Vis
  rw [h.sc]
  unfold Scp.look at hx
  cases e : s.sc.names.lookup x with
  | none => rw [e] at hx; cases hx
  | some q => rw [e] at hx; cases q <;> first | exact .inl rfl | exact .inr (.inl rfl) | exact .inr (.inr rfl) | cases hx
theorem XOk.gl (h : XOk c C s k X) {x : Str} (hx : isGlob (s.look x) = true) : Gl X x := by
  unfold Gl
  rw [h.kindOf]
  cases e : s.look x with
  | none => rw [e] at hx; cases hx
  | some q => rw [e] at hx; cases q <;> first | rfl | cases hx
theorem XOk.sto (h : XOk c C s k X) {x : Str} (hx : s.sto x = true) : L2.Loc X.env.scope x ∧ (X.fn x = true ∨ X.env.scope.names.lookup x = some .local) := by
  unfold Scp.sto at hx
  unfold L2.Loc
  rw [h.sc, h.fn]
  unfold Scp.look at hx
  cases e : s.sc.names.lookup x with
  | none => rw [e] at hx; simp [isLoc, isCell] at hx
  | some q =>
    rw [e] at hx
    cases q <;> simp [isLoc, isCell] at hx ⊢
    exact hx
theorem XOk.loc (h : XOk c C s k X) {x : Str} (hx : isLoc (s.look x) = true) : X.env.scope.names.lookup x = some .local := by
  rw [h.sc]
  unfold Scp.look at hx
  cases e : s.sc.names.lookup x with
  | none => rw [e] at hx; cases hx
  | some q => rw [e] at hx; cases q <;> first | rfl | cases hx
theorem XOk.ix (h : XOk c C s k X) {x : Str} {i : Nat} (e : ixOf c.N x = some i) : X.N[i]? = some x := by
  rw [h.N]; exact ixOf_get e
theorem XOk.units (h : XOk c C s k X) : X.A.units + 65 < cLine := by
  have := h.room.un
  omega
theorem XOk.kw (h : XOk c C s k X) : (⟨X.K, X.w⟩ : Kw) = C.K := by rw [← h.K, ← h.w]
theorem XOk.pass (h : XOk c C s k X) : PassesOwn (model X.prog X.w) X.A X.env X.xe := by
  rw [h.xe]; exact PassesOwn.never
theorem XOk.blk (h : XOk c C s k X) {scope : Scope} (hk : scope.kind = .function) (st : Shared) (H : Hp) (A : Addr) (cl : List (Str × Addr)) (fp : List Addr) : XOk c C (inScp s scope) k (X.blk st H scope (compEnvC scope cl A X.env) fp) :=
  ⟨h.N, h.nd, by show relS scope X.env.scope = relS scope s.sc; rw [h.sc], hk, rfl, h.calm, h.K, h.w, h.room, h.guards, rfl, h.fns, h.glb, h.cst⟩
theorem pz_cst {x : Str} {d : D} {pos : Pos} (h : CstAt X.mg x d) (hg : Gl X x) (hd : (x == ("__debug__" : Str)) = false) : PE X (.Name x pos) (lift C (zC d)) := by
  obtain ⟨u, v, h1, h2, h3⟩ := h
  exact PE.weak (pe_glob hg h1 h2 hd) fun σ H Q ⟨W, δ, tv, τ, QQ, g, h, k⟩ => k v H W (.val d) δ (g.push (r := .val d) h3.rep) h
theorem odd_no {x : Str} (h : odd x = false) : (x == ("__debug__" : Str)) = false ∧ (x == ("__classdict__" : Str)) = false := by
  unfold odd at h
  rwa [Bool.or_eq_false_iff] at h

/-! ### never -/
theorem pz_bad {e : Expr} : PE X e (lift C bad) := pz_never
theorem pt_bad {e : Expr} : PT X e (liftB C badB) := ⟨fun _ _ _ _ _ _ ⟨_, _, _, _, _, _, h, _⟩ => h.elim⟩
theorem pw_bad {e : Expr} : PW X e (liftB C badB) := ⟨fun _ _ _ _ _ _ _ ⟨_, _, _, _, _, _, h, _⟩ => h.elim⟩
theorem pts_bad {ifs : List Expr} : PTs X ifs (liftB C badB) := ⟨fun _ _ _ _ _ _ ⟨_, _, _, _, _, _, h, _⟩ => h.elim⟩
theorem pi_bad {tg e : Expr} : PI X tg e (liftI C badI) := ⟨fun _ _ _ _ _ _ ⟨_, _, _, _, _, _, h, _⟩ => h.elim⟩
theorem pg_bad {vs : List Nat} {e : Expr} : PG X e (liftG C vs badG) := ⟨fun _ _ _ _ _ _ _ _ _ ⟨_, _, _, _, _, _, _, _, h, _⟩ => h.elim⟩
theorem ps_bad {st : Stmt} : PS X st (liftS C badS) := ⟨fun _ _ _ _ _ _ ⟨_, _, _, _, _, _, _, h, _⟩ => h.elim⟩

/-! ### pieces -/
theorem ok_cmp (h : XOk c C s k X) {op : CmpOp} {a b : Expr} {ta tb : ZT} {pos : Pos} (ha : PE X a (lift C ta)) (hb : PE X b (lift C tb)) (hm : behindInMarks op b = false) : PE X (.Compare a [op] [b] pos) (lift C (zCmp op ta tb)) := by
  have hu := h.units
  have e1 := or_eq (X := X) (by omega)
  have e2 := or_ne (X := X) (by omega)
  have e3 := or_inZ (X := X) hu
  have e4 := or_notInZ (X := X) hu
  have e5 := or_lt (X := X) (by omega)
  rw [← h.K] at e1 e2 e5
  rw [h.kw] at e3 e4
  cases op with
  | Eq => exact pz_cmp e1 od_eq ha hb hm
  | NotEq => exact pz_cmp e2 od_ne ha hb hm
  | Lt => exact pz_cmp e5 od_lt ha hb hm
  | LtE => exact pz_cmp op_le (od_int0 fun i j K F H => .bl _) ha hb hm
  | Gt => exact pz_cmp op_gt (od_int0 fun i j K F H => .bl _) ha hb hm
  | GtE => exact pz_cmp op_ge (od_int0 fun i j K F H => .bl _) ha hb hm
  | Is => exact pz_cmp or_is od_is ha hb hm
  | IsNot => exact pz_cmp or_isnot od_isnot ha hb hm
  | In => exact pz_cmp e3 od_inS ha hb hm
  | NotIn => exact pz_cmp e4 od_inS ha hb hm
/-- one of the orders, one of the equalities -/
theorem ok_ord (h : XOk c C s k X) {op : CmpOp} {f : F2} (e : ordF op = some f) : ∃ r, OpR X (compareOp op) r ∧ OpD C r f := by
  have hu := h.units
  have e1 := or_eq (X := X) (by omega)
  have e2 := or_ne (X := X) (by omega)
  have e5 := or_lt (X := X) (by omega)
  rw [← h.K] at e1 e2 e5
  cases op <;> cases e
  · exact ⟨_, e1, od_eq⟩
  · exact ⟨_, e2, od_ne⟩
  · exact ⟨_, e5, od_lt⟩
  · exact ⟨_, op_le, od_int0 fun i j K F H => .bl _⟩
  · exact ⟨_, op_gt, od_int0 fun i j K F H => .bl _⟩
  · exact ⟨_, op_ge, od_int0 fun i j K F H => .bl _⟩
theorem ok_cmp2 (h : XOk c C s k X) {op op' : CmpOp} {a b d : Expr} {ta tb td : ZT} {pos : Pos} (ha : PE X a (lift C ta)) (hb : PE X b (lift C tb)) (hd : PE X d (lift C td)) (hm : lastMarks [op, op'] [b, d] = false) :
    PE X (.Compare a [op, op'] [b, d] pos) (lift C (zCmp2 op op' ta tb td)) ∧ PT X (.Compare a [op, op'] [b, d] pos) (liftB C (zB (zCmp2 op op' ta tb td))) := by
  unfold zCmp2
  cases e1 : ordF op with
  | none => exact ⟨pz_bad, ⟨fun _ _ _ _ _ _ ⟨_, _, _, _, _, _, h, _⟩ => h.elim⟩⟩
  | some f =>
    cases e2 : ordF op' with
    | none => exact ⟨pz_bad, ⟨fun _ _ _ _ _ _ ⟨_, _, _, _, _, _, h, _⟩ => h.elim⟩⟩
    | some g =>
      obtain ⟨r, h1, h2⟩ := ok_ord h e1
      obtain ⟨r', h3, h4⟩ := ok_ord h e2
      exact ⟨pz_chain h1 h3 h2 h4 ha hb hd hm, pt_chainZ h1 h3 h2 h4 ha hb hd hm⟩
theorem ok_cmpT (h : XOk c C s k X) {op : CmpOp} {a b : Expr} {ta tb : ZT} {pos : Pos} (ha : PE X a (lift C ta)) (hb : PE X b (lift C tb)) (hm : behindInMarks op b = false) : PT X (.Compare a [op] [b] pos) (liftB C (zB (zCmp op ta tb))) := by
  have hu := h.units
  have e1 := or_eq (X := X) (by omega)
  have e2 := or_ne (X := X) (by omega)
  have e3 := or_inZ (X := X) hu
  have e4 := or_notInZ (X := X) hu
  have e5 := or_lt (X := X) (by omega)
  rw [← h.K] at e1 e2 e5
  rw [h.kw] at e3 e4
  cases op with
  | Eq => exact pt_cmpZ e1 od_eq ha hb hm
  | NotEq => exact pt_cmpZ e2 od_ne ha hb hm
  | Lt => exact pt_cmpZ e5 od_lt ha hb hm
  | LtE => exact pt_cmpZ op_le (od_int0 fun i j K F H => .bl _) ha hb hm
  | Gt => exact pt_cmpZ op_gt (od_int0 fun i j K F H => .bl _) ha hb hm
  | GtE => exact pt_cmpZ op_ge (od_int0 fun i j K F H => .bl _) ha hb hm
  | Is => exact pt_cmpZ or_is od_is ha hb hm
  | IsNot => exact pt_cmpZ or_isnot od_isnot ha hb hm
  | In => exact pt_cmpZ e3 od_inS ha hb hm
  | NotIn => exact pt_cmpZ e4 od_inS ha hb hm
variable {e : Expr → ZT} {t : Expr → ZB}
theorem ok_andT {pos : Pos} (ht : ∀ x, PT X x (liftB C (t x))) : ∀ l : List Expr, l ≠ [] → PW X (.BoolOp .And l pos) (liftB C (andT (l.map t)))
  | [], h => absurd rfl h
  | [a], _ => pw_and1Z (ht a)
  | a :: b :: l, _ => pw_andZ (ht a) (ok_andT ht (b :: l) (by simp))
theorem ok_orT {pos : Pos} (ht : ∀ x, PT X x (liftB C (t x))) : ∀ l : List Expr, l ≠ [] → PW X (.BoolOp .Or l pos) (liftB C (orT (l.map t)))
  | [], h => absurd rfl h
  | [a], _ => pw_or1Z (ht a)
  | a :: b :: l, _ => pw_orZ (ht a) (ok_orT ht (b :: l) (by simp))
theorem ok_andV {pos : Pos} (he : ∀ x, PE X x (lift C (e x))) : ∀ l : List Expr, PE X (.BoolOp .And l pos) (lift C (andV (l.map e)))
  | [] => pz_bad
  | [a] => pe_one (he a)
  | a :: b :: l => pz_and (he a) (ok_andV he (b :: l))
theorem ok_orV {pos : Pos} (he : ∀ x, PE X x (lift C (e x))) : ∀ l : List Expr, PE X (.BoolOp .Or l pos) (lift C (orV (l.map e)))
  | [] => pz_bad
  | [a] => pe_one (he a)
  | a :: b :: l => pz_or (he a) (ok_orV he (b :: l))
theorem plainIx {b : Expr} (h : notSlice b = true) : PlainIx b := by
  intro o i
  cases b <;> first | rfl | cases h
theorem notSet_folded {it : Expr} (h : notSet it = true) (env : PySem.Env) : ∀ x, foldedSetIterable it env x = pure x := by
  intro x
  cases it <;> first | rfl | cases h
theorem notSuper_base {o : Expr} (h : notSuper o = true) (name : Str) (env : PySem.Env) (w : Sem Value) : attributeBase o name env w = w := by
  cases o <;> try rfl
  rename_i f args kws p
  cases f <;> try rfl
  cases args <;> try rfl
  cases kws <;> first | rfl | cases h
theorem ok_evO (he : ∀ x, PE X x (lift C (e x))) : ∀ o : Option Expr, PO X o (liftO C (evO e o))
  | none => zo_none
  | some x => zo_some (he x)
theorem ok_evR (h : XOk c C s k X) (he : ∀ x, PE X x (lift C (e x))) {x : Expr} {z : Sto → (Int → Int → Sto → Prop) → Prop} (ev : evR c e s x = some z) : PRg X x (liftR C z) ∧ noStar x = true := by
  unfold evR at ev
  split at ev
  · split at ev
    · rename_i q
      obtain ⟨rfl, h1, h2, h3⟩ := q
      cases ev
      exact ⟨zr_1 (h.gl h1) (h.glb _ h2) (he _) h3, rfl⟩
    · cases ev
  · split at ev
    · rename_i q
      obtain ⟨rfl, h1, h2, h3⟩ := q
      cases ev
      exact ⟨zr_2 (h.gl h1) (h.glb _ h2) (he _) (he _) h3, rfl⟩
    · cases ev
  · cases ev
theorem ok_evI (h : XOk c C s k X) (he : ∀ x, PE X x (lift C (e x))) (tg it : Expr) : PI X tg it (liftI C (evI c e s tg it)) := by
  unfold evI
  split
  · split
    · rename_i q
      obtain ⟨rfl, h1, h2⟩ := q
      split
      · split
        · rename_i q
          exact zi_rg1 (h.gl h1) (h.glb _ h2) (pa_args hand_val (fun y _ => he y) (by simpa using q)) q
        · exact pi_bad
      · split
        · rename_i q
          have q' := q
          simp only [List.all_cons, List.all_nil, Bool.and_true, Bool.and_eq_true] at q'
          exact zi_rg2 (h.gl h1) (h.glb _ h2) (pa_args hand_val (fun y _ => he y) q) q'.1 q'.2
        · exact pi_bad
      · split
        · rename_i q
          exact zi_rg3 (h.gl h1) (h.glb _ h2) (pa_args hand_val (fun y _ => he y) q) q
        · exact pi_bad
      · exact pi_bad
    · split
      · rename_i q
        obtain ⟨rfl, h1, h2⟩ := q
        split
        · split
          · rename_i q
            exact zi_en h.K (h.gl h1) (h.glb _ h2) (he _) q
          · exact pi_bad
        · exact pi_bad
      · split
        · rename_i q
          obtain ⟨rfl, h1, h2⟩ := q
          split
          · split
            · rename_i q
              have q' := q
              simp only [List.all_cons, List.all_nil, Bool.and_true, Bool.and_eq_true] at q'
              exact zi_zp h.K (h.gl h1) (h.glb _ h2) (pa_args hand_val (fun y _ => he y) q) q'.1 q'.2
            · exact pi_bad
          · exact pi_bad
        · exact zi_it h.K (he _)
  · exact pi_bad
  · exact zi_it h.K (he _)
theorem notStar_each {ts : List Expr} {env : PySem.Env} (h : ts.all noStar = true) : (assignEach ts env).length = ts.length ∧ (assignEach ts env).findIdx? (·.1) = none ∧ ∀ a as, ts = a :: as → (assignEach (a :: as) env).map (·.2) = assign a env :: (assignEach as env).map (·.2) := by
  induction ts with
  | nil => exact ⟨rfl, rfl, fun a as e => by cases e⟩
  | cons x xs ih =>
    rw [List.all_cons, Bool.and_eq_true] at h
    obtain ⟨h1, h2, _⟩ := ih h.2
    have e : assignEach (x :: xs) env = (false, assign x env) :: assignEach xs env := by
      have := h.1
      cases x <;> first | rfl | cases this
    rw [e]
    refine ⟨by simp [h1], by rw [List.findIdx?_cons, h2]; rfl, fun a as q => ?_⟩
    cases q
    rw [e]; rfl
theorem ok_nm (h : XOk c C s k X) (x : Str) (p : Pos) : PE X (.Name x p) (lift C (evNm c s x)) := by
  unfold evNm
  split
  · rename_i q
    cases ei : ixOf c.N x with
    | none => exact pz_bad
    | some i => exact pz_nm (h.ix ei) (h.vis q.1) (odd_no q.2).1 (odd_no q.2).2
  · exact pz_bad
theorem ok_evG (h : XOk c C s k X) (vs : List Nat) : ∀ (n : Nat) (tg : Expr), PG X tg (liftG C vs (evG c s vs n tg)) := by
  have nm : ∀ (x : Str) (p : Pos), PG X (.Name x p) (liftG C vs (match ixOf c.N x with
    | some i => if s.sto x = true ∧ i ∈ vs then zTn i else badG
    | none => badG)) := fun x p => by
    cases ei : ixOf c.N x with
    | none => exact pg_bad
    | some i =>
      show PG X (.Name x p) (liftG C vs (if s.sto x = true ∧ i ∈ vs then zTn i else badG))
      split
      · rename_i q
        obtain ⟨h1, h2⟩ := h.sto q.1
        exact zg_name h.nd (h.ix ei) h1 h2 q.2
      · exact pg_bad
  intro n
  induction n with
  | zero =>
    intro tg
    cases tg with
    | Name x p => exact nm x p
    | Subscript o i p =>
      cases o <;> first | exact pg_bad | (cases i <;> exact pg_bad)
    | _ => exact pg_bad
  | succ n ih =>
    intro tg
    cases tg with
    | Name x p => exact nm x p
    | Tuple ts kk p =>
      unfold evG
      split
      · rename_i q
        have all : ∀ ts : List Expr, ts.all noStar = true → PGs X ts (liftGs C vs (zTs (ts.map (evG c s vs n)))) := fun ts => by
          induction ts with
          | nil => intro _; exact zgs_nil
          | cons x xs ihx =>
            intro hs
            have hs2 := hs
            rw [List.all_cons, Bool.and_eq_true] at hs2
            exact zgs_cons (ih x) (ihx hs2.2) ((notStar_each hs).2.2 x xs rfl)
        exact zg_tup h.K h.calm (all ts q) (by rw [(notStar_each q).1, List.length_map]) (notStar_each q).2.1
      · exact pg_bad
    | Subscript o i p =>
      cases o with
      | Name o po =>
        cases i with
        | Name x px => exact zg_sub h.kw h.units (ok_nm h o po) (ok_nm h x px) fun _ => rfl
        | _ => exact pg_bad
      | _ => exact pg_bad
    | _ => exact pg_bad
end
end Z
end
section
set_option Elab.async false
set_option linter.all false
set_option maxRecDepth 100000
set_option maxHeartbeats 2000000
/-! The machine follows the meaning: calls, expressions. -/
namespace Z
open PySem PySem.Spec L2
section
variable {c : Cfg} {C : Cn} {s : Scp} {k : Nat} {X : Cx} {e : Expr → ZT} {t : Expr → ZB}
theorem mem_each {α : Type} {P : α → Prop} {a : α} {l : List α} (h : P a) (r : ∀ x ∈ l, P x) : ∀ x ∈ a :: l, P x := fun x m => by
  rcases List.mem_cons.mp m with rfl | m
  · exact h
  · exact r x m
theorem ok_blt (h : XOk c C s k X) (he : ∀ x, PE X x (lift C (e x))) {f : Str} {a : Expr} {as : List Expr} {b : Blt} {p pos : Pos} (hb : bltOf f (a :: as).length = some b) (hg : isGlob (s.look f) = true) (hm : f ∈ c.glb) (hdb : (f == ("__debug__" : Str)) = false) (hst : (a :: as).all noStar = true) :
    PE X (.Call (.Name f p) (a :: as) [] pos) (lift C (zBlt b.f (zArgs zKeep ((a :: as).map e)))) := by
  have hu := h.units
  obtain ⟨q, hq, rfl⟩ := Option.map_eq_some_iff.mp hb
  have hx := List.find?_some (p := fun q : Str × Nat × Blt => q.1 == f && q.2.1 == (a :: as).length) hq
  have hmem := List.mem_of_find?_eq_some hq
  have hx1 : q.1 = f := eq_of_beq (Bool.and_eq_true_iff.mp hx).1
  subst hx1
  have all : ∀ q ∈ bltTab, isGlob (s.look q.1) = true → q.1 ∈ c.glb → (q.1 == ("__debug__" : Str)) = false → PE X (.Call (.Name q.1 p) (a :: as) [] pos) (lift C (zBlt q.2.2.f (zArgs zKeep ((a :: as).map e)))) := by
    unfold bltTab
    refine mem_each (fun hg hm hdb => pz_bltB (CallR.or call_len call_lenDz) (cd_lenZ h.kw) (h.gl hg) (h.glb _ hm) (by decide +kernel) (by decide +kernel) hdb (fun y _ => he y) hst) ?_
    refine mem_each (fun hg hm hdb => pz_bltB (cr_repr hu h.guards) (cd_repr h.K) (h.gl hg) (h.glb _ hm) (by decide +kernel) (by decide +kernel) hdb (fun y _ => he y) hst) ?_
    refine mem_each (fun hg hm hdb => pz_bltB (cr_sum h.calm) (cd_sum h.K) (h.gl hg) (h.glb _ hm) (by decide +kernel) (by decide +kernel) hdb (fun y _ => he y) hst) ?_
    refine mem_each (fun hg hm hdb => pz_bltB call_abs cd_abs (h.gl hg) (h.glb _ hm) (by decide +kernel) (by decide +kernel) hdb (fun y _ => he y) hst) ?_
    refine mem_each (fun hg hm hdb => pz_bltB (cr_max h.calm) (cd_max h.K) (h.gl hg) (h.glb _ hm) (by decide +kernel) (by decide +kernel) hdb (fun y _ => he y) hst) ?_
    refine mem_each (fun hg hm hdb => pz_bltB (call_max2 h.calm) cd_max2 (h.gl hg) (h.glb _ hm) (by decide +kernel) (by decide +kernel) hdb (fun y _ => he y) hst) ?_
    refine mem_each (fun hg hm hdb => pz_bltB (cr_min h.calm) (cd_min h.K) (h.gl hg) (h.glb _ hm) (by decide +kernel) (by decide +kernel) hdb (fun y _ => he y) hst) ?_
    refine mem_each (fun hg hm hdb => pz_bltB (call_min2 h.calm) cd_min2 (h.gl hg) (h.glb _ hm) (by decide +kernel) (by decide +kernel) hdb (fun y _ => he y) hst) ?_
    refine mem_each (fun hg hm hdb => pz_bltB (cr_all h.calm) cd_all (h.gl hg) (h.glb _ hm) (by decide +kernel) (by decide +kernel) hdb (fun y _ => he y) hst) ?_
    refine mem_each (fun hg hm hdb => pz_bltB (cr_any h.calm) cd_any (h.gl hg) (h.glb _ hm) (by decide +kernel) (by decide +kernel) hdb (fun y _ => he y) hst) ?_
    refine mem_each (fun hg hm hdb => pz_bltT call_int1 cd_int (h.gl hg) (h.glb _ hm) (by decide +kernel) (by decide +kernel) hdb (fun y _ => he y) hst) ?_
    refine mem_each (fun hg hm hdb => pz_bltT cr_tupO (cd_tuple h.K) (h.gl hg) (h.glb _ hm) (by decide +kernel) (by decide +kernel) hdb (fun y _ => he y) hst) ?_
    refine mem_each (fun hg hm hdb => pz_bltT (CallR.or call_list_of (call_listDt h.calm)) (cd_listZ h.kw) (h.gl hg) (h.glb _ hm) (by decide +kernel) (by decide +kernel) hdb (fun y _ => he y) hst) ?_
    refine mem_each (fun hg hm hdb => pz_bltB (CallR.or cr_sortedI (cr_sortD h.calm)) (cd_sortedZ h.kw) (h.gl hg) (h.glb _ hm) (by decide +kernel) (by decide +kernel) hdb (fun y _ => he y) hst) ?_
    refine mem_each (fun hg hm hdb => pz_bltT (call_dictZ h.calm hu) (cd_dict1 h.kw) (h.gl hg) (h.glb _ hm) (by decide +kernel) (by decide +kernel) hdb (fun y _ => he y) hst) ?_
    exact fun _ m => nomatch m
  exact all q hmem hg hm hdb
theorem ok_meth (h : XOk c C s k X) (name : Str) : ∀ m ∈ methOf name, MsOk X C name m := by
  have hu := h.units
  have one : ∀ {x : Str} {m0 : Ms}, MsOk X C x m0 → ∀ m ∈ [m0], MsOk X C x m := fun q m mm => by rw [List.mem_singleton.mp mm]; exact q
  have all : ∀ q ∈ methTab, ∀ m ∈ q.2, MsOk X C q.1 m := by
    unfold methTab
    exact mem_each (one (ms_append h.K)) (mem_each (one (ms_extend h.K)) (mem_each (one (ms_pop h.K)) (mem_each (one (ms_insert h.K)) (mem_each (ms_index h.K hu) (mem_each (ms_count h.K hu) (mem_each (one (ms_get h.kw hu)) fun _ m => nomatch m))))))
  unfold methOf
  split
  · rename_i q hq
    have e : q.1 = name := eq_of_beq (List.find?_some (p := fun q : Str × List Ms => q.1 == name) hq)
    subst e
    exact all q (List.mem_of_find?_eq_some hq)
  · exact fun m mm => nomatch mm
theorem ok_call (h : XOk c C s k X) (he : ∀ x, PE X x (lift C (e x))) (f : Str) (p pos : Pos) (args : List Expr) (kws : List Keyword) : PE X (.Call (.Name f p) args kws pos) (lift C (evCall c e s f args kws)) := by
  unfold evCall
  split
  · rename_i q
    obtain ⟨hg, hst, hks, hodd⟩ := q
    have hdb := (odd_no hodd).1
    cases ef : c.fns.find? fun fi => fi.name == f with
    | some fi =>
      have hn : fi.name = f := eq_of_beq (List.find?_some (p := fun fi : FnI => fi.name == f) ef)
      have hmem := List.mem_of_find?_eq_some ef
      cases ep : permOf fi.ps (kwNames kws) args.length with
      | none => simp only [ep]; exact pz_bad
      | some perm =>
        simp only [ep]
        subst hn
        exact pz_call rfl h.K (h.fns fi hmem) (Nat.le_refl _) h.room h.guards (h.gl hg) hdb ep (fun y _ => he y) (fun y _ => he y.value) hst hks
    | none =>
      simp only
      split
      · rename_i hm
        split
        · split
          · rename_i a
            cases er : evR c e s a with
            | some z =>
              simp only
              obtain ⟨h1, h2⟩ := ok_evR h he er
              split
              · rename_i q
                subst q
                exact pz_lstR h.calm (h.gl hg) (h.glb _ hm) h1 h2
              · split
                · rename_i q
                  subst q
                  exact pz_tupR h.calm (h.gl hg) (h.glb _ hm) h1 h2
                · exact pz_bad
            | none =>
              simp only
              split
              · rename_i b hb
                exact ok_blt h he hb hg hm hdb hst
              · exact pz_bad
          · split
            · rename_i b hb
              exact ok_blt h he hb hg hm hdb hst
            · exact pz_bad
          · exact pz_bad
        · exact pz_bad
      · exact pz_bad
  · exact pz_bad
theorem ok_lc (h : XOk c C s k X) {scope : Scope} {r r' : Ev} {elt tg iter : Expr} {ifs : List Expr} {pos : Pos} (hb : blkC c.N s.sc scope (ownOf c.N scope.names) = true) (he : ∀ x, PE X x (lift C (r.e x)))
    (hr : ∀ {X' : Cx}, XOk c C (inScp s scope) k X' → (∀ x, PE X' x (lift C (r'.e x))) ∧ ∀ x, PT X' x (liftB C (r'.t x))) :
    (notSet iter = true → PE X (.ListComp elt [⟨tg, iter, ifs, 0⟩] scope pos) (lift C (evLc c r r' s (inScp s scope) (ownOf c.N scope.names) elt tg iter ifs))) ∧
    ∀ {i : Nat} {y : Str} {py spos : Pos}, notSet iter = true → X.N[i]? = some y → X.env.scope.names.lookup y = some .local → swapsWith (.ListComp elt [⟨tg, iter, ifs, 0⟩] scope pos) (some (.Name y py)) spos.line X.env = pure true →
      PS X (.Assign [.Name y py] (.ListComp elt [⟨tg, iter, ifs, 0⟩] scope pos) spos) (liftS C (zSet i (evLc c r r' s (inScp s scope) (ownOf c.N scope.names) elt tg iter ifs))) := by
  have ok : BlkOk X.N X.env.scope scope (ownOf c.N scope.names) := by
    rw [h.N, h.sc]
    exact blkOk_by hb
  have hk := ok.kind
  have ts : ∀ (X' : Cx), XOk c C (inScp s scope) k X' → PTs X' ifs (liftB C (match ifs with
    | [] => zYes
    | [x] => r'.t x
    | _ => badB)) := fun X' h' => by
    match ifs with
    | [] => exact zts_nil
    | [x] => exact zts_one ((hr h').2 x)
    | _ :: _ :: _ => exact pts_bad
  exact ⟨fun hs => pz_lc h.calm h.nd (ok_evI h he tg iter) ok (fun st H A cl fp => ok_evG (h.blk hk st H A cl fp) _ _ tg) (fun st H A cl fp => ts _ (h.blk hk st H A cl fp)) (fun st H A cl fp => (hr (h.blk hk st H A cl fp)).1 elt) (notSet_folded hs _),
    fun hs hy hl hsw => zs_setLc h.calm h.nd hy hl hsw (ok_evI h he tg iter) ok (fun st H A cl fp => ok_evG (h.blk hk st H A cl fp) _ _ tg) (fun st H A cl fp => ts _ (h.blk hk st H A cl fp)) (fun st H A cl fp => (hr (h.blk hk st H A cl fp)).1 elt) (notSet_folded hs _)⟩
theorem ok_dc (h : XOk c C s k X) {scope : Scope} {r r' : Ev} {kx vx tg iter : Expr} {ifs : List Expr} {pos : Pos} (hb : blkC c.N s.sc scope (ownOf c.N scope.names) = true) (he : ∀ x, PE X x (lift C (r.e x)))
    (hr : ∀ {X' : Cx}, XOk c C (inScp s scope) k X' → (∀ x, PE X' x (lift C (r'.e x))) ∧ ∀ x, PT X' x (liftB C (r'.t x))) :
    (notSet iter = true → PE X (.DictComp kx vx [⟨tg, iter, ifs, 0⟩] scope pos) (lift C (evDc c r r' s (inScp s scope) (ownOf c.N scope.names) kx vx tg iter ifs))) ∧
    ∀ {i : Nat} {y : Str} {py spos : Pos}, notSet iter = true → X.N[i]? = some y → X.env.scope.names.lookup y = some .local → swapsWith (.DictComp kx vx [⟨tg, iter, ifs, 0⟩] scope pos) (some (.Name y py)) spos.line X.env = pure true →
      PS X (.Assign [.Name y py] (.DictComp kx vx [⟨tg, iter, ifs, 0⟩] scope pos) spos) (liftS C (zSet i (evDc c r r' s (inScp s scope) (ownOf c.N scope.names) kx vx tg iter ifs))) := by
  have ok : BlkOk X.N X.env.scope scope (ownOf c.N scope.names) := by
    rw [h.N, h.sc]
    exact blkOk_by hb
  have hk := ok.kind
  have ts : ∀ (X' : Cx), XOk c C (inScp s scope) k X' → PTs X' ifs (liftB C (match ifs with
    | [] => zYes
    | [x] => r'.t x
    | _ => badB)) := fun X' h' => by
    match ifs with
    | [] => exact zts_nil
    | [x] => exact zts_one ((hr h').2 x)
    | _ :: _ :: _ => exact pts_bad
  exact ⟨fun hs => pz_dc h.kw h.units h.calm h.nd (ok_evI h he tg iter) ok (fun st H A cl fp => ok_evG (h.blk hk st H A cl fp) _ _ tg) (fun st H A cl fp => ts _ (h.blk hk st H A cl fp)) (fun st H A cl fp => (hr (h.blk hk st H A cl fp)).1 kx) (fun st H A cl fp => (hr (h.blk hk st H A cl fp)).1 vx) (notSet_folded hs _),
    fun hs hy hl hsw => zs_setDc h.kw h.units h.calm h.nd hy hl hsw (ok_evI h he tg iter) ok (fun st H A cl fp => ok_evG (h.blk hk st H A cl fp) _ _ tg) (fun st H A cl fp => ts _ (h.blk hk st H A cl fp)) (fun st H A cl fp => (hr (h.blk hk st H A cl fp)).1 kx) (fun st H A cl fp => (hr (h.blk hk st H A cl fp)).1 vx) (notSet_folded hs _)⟩
theorem pz_dcBad {x : Expr} {vs : List Nat} {zt : ZG} {tt : ZB} {tk te : ZT} : PE X x (lift C (zDc badI vs zt tt tk te)) := pz_bad
theorem evI_set {iter tg : Expr} (hn : notSet iter = false) : evI c e s tg iter = badI := by
  cases iter <;> first | rfl | cases hn
theorem pz_lcBad {x : Expr} {vs : List Nat} {zt : ZG} {tt : ZB} {te : ZT} : PE X x (lift C (zLc badI vs zt tt te)) := pz_bad
theorem ok_cs {c : Cfg} {C : Cn} {s : Scp} {k : Nat} {X : Cx} (h : XOk c C s k X) {op : CmpOp} {a b : Expr} {z : ZT} {pos : Pos} (q : evCs c s op a b = some z) : PE X (.Compare a [op] [b] pos) (lift C z) := by
  unfold evCs at q
  split at q
  · split at q
    · rename_i q0
      obtain ⟨rfl, rfl, h1, h2, h3, h4, h5, h6⟩ := q0
      split at q
      · rename_i i j hi hj
        split at q
        · cases q; exact pz_cs (neg := true) h.K h.calm (by have := h.units; omega) (h.gl h1) (h.glb _ h2) (h.ix hi) (h.vis h3) (odd_no h4).1 (odd_no h4).2 (h.ix hj) (h.vis h5) (odd_no h6).1 (odd_no h6).2
        · cases q; exact pz_cs (neg := false) h.K h.calm (by have := h.units; omega) (h.gl h1) (h.glb _ h2) (h.ix hi) (h.vis h3) (odd_no h4).1 (odd_no h4).2 (h.ix hj) (h.vis h5) (odd_no h6).1 (odd_no h6).2
        · cases q
      · cases q
    · cases q
  · cases q
/-- every expression -/
theorem ok_ev : ∀ (n : Nat) {s : Scp} {X : Cx}, XOk c C s k X → (∀ x, PE X x (lift C ((ev c n s).e x))) ∧ ∀ x, PT X x (liftB C ((ev c n s).t x)) := by
  intro n
  induction n with
  | zero => intro s X h; exact ⟨fun x => pz_bad, fun x => pt_bad⟩
  | succ n ih =>
    intro s X h
    obtain ⟨he, ht⟩ := ih h
    have qe : ∀ x, PE X x (lift C ((ev c (n + 1) s).e x)) := by
      intro x
      unfold ev
      simp only
      split
      · split
        · rename_i q
          split
          · rename_i i hi
            exact pz_nm (h.ix hi) (h.vis q.1) (odd_no q.2).1 (odd_no q.2).2
          · exact pz_bad
        · split
          · rename_i q
            split
            · rename_i q2 hq
              have e := eq_of_beq (List.find?_some (p := fun q : Str × D => q.1 == _) hq)
              have hc := h.cst q2 (List.mem_of_find?_eq_some hq)
              rw [e] at hc
              exact pz_cst hc (h.gl q.1) (odd_no q.2).1
            · exact pz_bad
          · exact pz_bad
      · exact pz_int
      · exact pz_bool
      · exact pz_str
      · exact pz_none
      · exact pz_dic0
      · exact pz_binop h.K (he _) (he _)
      · exact pz_neg (he _)
      · exact pz_not (he _)
      · split
        · rename_i z q
          exact ok_cs h q
        · split
          · rename_i q
            exact ok_cmp h (he _) (he _) q
          · exact pz_bad
      · split
        · rename_i q
          exact (ok_cmp2 h (he _) (he _) (he _) q).1
        · exact pz_bad
      · exact ok_andV he _
      · exact ok_orV he _
      · exact pz_if (ht _) (he _) (he _)
      · split
        · rename_i q
          exact pz_tup (pa_args hand_val (fun y _ => he y) q)
        · exact pz_bad
      · split
        · rename_i q
          exact pz_lst (pa_args hand_val (fun y _ => he y) q)
        · exact pz_bad
      · exact pz_rev h.K (he _)
      · exact pz_sl h.K (he _) (ok_evO he _) (ok_evO he _)
      · split
        · rename_i q
          exact pz_ix h.kw h.units (he _) (he _) (plainIx q)
        · exact pz_bad
      · split
        · rename_i elt tg iter ifs scope pos q
          cases hn : notSet iter with
          | true => exact (ok_lc h q he fun h' => ih h').1 hn
          | false =>
            unfold evLc
            rw [evI_set hn]
            exact pz_lcBad
        · exact pz_bad
      · split
        · rename_i kx vx tg iter ifs scope pos q
          cases hn : notSet iter with
          | true => exact (ok_dc h q he fun h' => ih h').1 hn
          | false =>
            unfold evDc
            rw [evI_set hn]
            exact pz_dcBad
        · exact pz_bad
      · split
        · rename_i q
          obtain ⟨rfl, h1, h2, h3, h4, h5⟩ := q
          split
          · rename_i q
            subst q
            exact pz_sortSet h.K h.calm (h.gl h3) (h.glb _ h4) (h.gl h1) (h.glb _ h2) (fun y _ => he y) h5
          · split
            · rename_i q
              subst q
              exact pz_lenSet h.K h.calm (h.gl h3) (h.glb _ h4) (h.gl h1) (h.glb _ h2) (fun y _ => he y) h5
            · exact pz_bad
        · exact ok_call h he _ _ _ _ _
      · split
        · rename_i q0
          subst q0
          split
          · rename_i q
            obtain ⟨h1, h2, h3, h4, h5⟩ := q
            split
            · rename_i t ht
              have e := btOf_eq ht
              subst e
              exact pz_isi h.K (h.gl h1) (h.glb _ h2) (h.gl h3) (h.glb _ h4) (he _) h5
            · exact pz_bad
          · exact pz_bad
        · exact ok_call h he _ _ _ _ _
      · exact ok_call h he _ _ _ _ _
      · split
        · rename_i q
          exact pz_meth (ok_meth h _) (he _) (fun y _ => he y) q.1 q.2.1 q.2.2.1 (notSuper_base q.2.2.2 _ _ _)
        · exact pz_bad
      · exact pz_bad
    have qt : ∀ x, PT X x (liftB C ((ev c (n + 1) s).t x)) := by
      intro x
      unfold ev
      simp only
      split
      · split
        · rename_i q
          exact ok_cmpT h (he _) (he _) q
        · exact pt_bad
      · split
        · rename_i q
          exact (ok_cmp2 h (he _) (he _) (he _) q).2
        · exact pt_bad
      · rename_i l p
        cases l with
        | nil => exact pt_bad
        | cons a l => exact (ok_andT ht (a :: l) (by simp)).pt
      · rename_i l p
        cases l with
        | nil => exact pt_bad
        | cons a l => exact (ok_orT ht (a :: l) (by simp)).pt
      · exact pt_notZ (ht _)
      · split
        · rename_i q
          exact pt_tru h.K (he _) (plain_test q)
        · exact pt_bad
    exact ⟨qe, qt⟩
end
end Z
end
section
set_option Elab.async false
set_option linter.all false
set_option maxRecDepth 100000
set_option maxHeartbeats 2000000
/-! The machine follows the meaning: statements. -/
namespace Z
open PySem PySem.Spec L2
section
variable {c : Cfg} {C : Cn} {s : Scp} {k : Nat} {X : Cx} {e : Expr → ZT} {t : Expr → ZB}
theorem swapsNo {v : Expr} {tg : Option Expr} {line : Nat} {env : PySem.Env} (h : notComp v = true) : swapsWith v tg line env = pure false := by
  cases v <;> first | rfl | cases h
theorem swapsSole {v tg : Expr} {line : Nat} {env : PySem.Env} (h : ∀ x p, tg ≠ .Name x p) : swapsWithSole [tg] v line env = pure false := by
  show swapsWith v (some tg) line env = pure false
  by_cases hv : notComp v = true
  · exact swapsNo hv
  · cases v <;> first | exact absurd rfl hv | (cases tg <;> first | rfl | exact absurd rfl (h _ _))
theorem star_none {es : List Expr} (h : es.all noStar = true) : (es.any fun | .Starred .. => true | _ => false) = false := by
  induction es with
  | nil => rfl
  | cons x xs ih =>
    rw [List.all_cons, Bool.and_eq_true] at h
    rw [List.any_cons, ih h.2, Bool.or_false]
    have := h.1
    cases x <;> first | rfl | cases this
/-- the names that are stored so -/
def swapNames (env : PySem.Env) (line : Nat) (ts : List Expr) : List Str := ts.filterMap fun
  | .Name id pos => if env.kindOf id == some .local && pos.line == line then some id else none
  | _ => none
theorem swapNames_le (env : PySem.Env) (line : Nat) (ts : List Expr) : (swapNames env line ts).length ≤ ts.length := List.length_filterMap_le _ _
theorem swapped_eq {ts es : List Expr} {kt k2 : Nat} {pt pt2 : Pos} {env : PySem.Env} (hs : es.all noStar = true) (hc : es.all (constantsAlone 8) = false ∨ es.all (foldedForSure 8) = true) : swappedStores [.Tuple ts kt pt] (.Tuple es k2 pt2) env =
    (if (!(ts.length == 2 || ts.length == 3) || es.length != ts.length || env.blockKind != .function) = true then pure none
    else if ((swapNames env ((ts.head?.map (·.pos.line)).getD 0) ts).length != ts.length || (swapNames env ((ts.head?.map (·.pos.line)).getD 0) ts).eraseDups.length != (swapNames env ((ts.head?.map (·.pos.line)).getD 0) ts).length) = true then pure none
    else if es.all (foldedForSure 8) = true then pure none else pure (some (swapNames env ((ts.head?.map (·.pos.line)).getD 0) ts))) := by
  unfold swappedStores
  rcases hc with hc | hc
  · simp only [hc, Bool.false_eq_true, if_false]
    split
    · rfl
    · split
      · rename_i q
        exact absurd ((star_none hs).symm.trans q) (by decide)
      · rfl
  · simp only [hc, if_true]
    split
    · rfl
    · split
      · rename_i q
        exact absurd ((star_none hs).symm.trans q) (by decide)
      · rfl
theorem swapped_other {tg v : Expr} {env : PySem.Env} (h : ∀ ts k p, tg ≠ .Tuple ts k p) (h2 : ∀ ts p, tg ≠ .List ts p) : swappedStores [tg] v env = pure none := by
  unfold swappedStores
  cases tg <;> first | rfl | exact absurd rfl (h _ _ _) | exact absurd rfl (h2 _ _)
theorem swapped_val {ts : List Expr} {kt : Nat} {pt : Pos} {v : Expr} {env : PySem.Env} (h : ∀ ts k p, v ≠ .Tuple ts k p) : swappedStores [.Tuple ts kt pt] v env = pure none := by
  unfold swappedStores
  cases v <;> first | rfl | exact absurd rfl (h _ _ _)
theorem names_len : ∀ {ts : List Expr} {names : List Str}, namesOf ts = some names → names.length = ts.length
  | [], _, h => by cases h; rfl
  | .Name x p :: ts, names, h => by
    unfold namesOf at h
    obtain ⟨l, hl, rfl⟩ := Option.map_eq_some_iff.mp h
    simp [names_len hl]
  | .BoolOp .. :: _, _, h => by cases h
  | .NamedExpr .. :: _, _, h => by cases h
  | .BinOp .. :: _, _, h => by cases h
  | .UnaryOp .. :: _, _, h => by cases h
  | .Lambda .. :: _, _, h => by cases h
  | .IfExp .. :: _, _, h => by cases h
  | .Dict .. :: _, _, h => by cases h
  | .Set .. :: _, _, h => by cases h
  | .ListComp .. :: _, _, h => by cases h
  | .SetComp .. :: _, _, h => by cases h
  | .DictComp .. :: _, _, h => by cases h
  | .GeneratorExp .. :: _, _, h => by cases h
  | .Await .. :: _, _, h => by cases h
  | .Yield .. :: _, _, h => by cases h
  | .YieldFrom .. :: _, _, h => by cases h
  | .Compare .. :: _, _, h => by cases h
  | .Call .. :: _, _, h => by cases h
  | .FormattedValue .. :: _, _, h => by cases h
  | .JoinedStr .. :: _, _, h => by cases h
  | .Constant .. :: _, _, h => by cases h
  | .Attribute .. :: _, _, h => by cases h
  | .Subscript .. :: _, _, h => by cases h
  | .Starred .. :: _, _, h => by cases h
  | .List .. :: _, _, h => by cases h
  | .Tuple .. :: _, _, h => by cases h
  | .Slice .. :: _, _, h => by cases h
theorem swapNames_all {env : PySem.Env} {line : Nat} : ∀ {ts : List Expr}, (swapNames env line ts).length = ts.length → namesOf ts = some (swapNames env line ts) ∧ ∀ x ∈ swapNames env line ts, env.kindOf x = some .local
  | [], _ => ⟨rfl, fun _ m => nomatch m⟩
  | x :: ts, h => by
    have le := swapNames_le env line ts
    have lt : ∀ l, (swapNames env line ts).length = ts.length + 1 → l := fun l q => by omega
    cases x with
    | Name id pos =>
      by_cases q : (env.kindOf id == some .local && pos.line == line) = true
      · have e : swapNames env line (.Name id pos :: ts) = id :: swapNames env line ts := by
          unfold swapNames
          rw [List.filterMap_cons]
          simp only [q, if_true]
        rw [e] at h ⊢
        obtain ⟨h1, h2⟩ := swapNames_all (ts := ts) (by simpa using h)
        refine ⟨by unfold namesOf; rw [h1]; rfl, fun x m => ?_⟩
        rcases List.mem_cons.mp m with rfl | m
        · exact eq_of_beq (Bool.and_eq_true_iff.mp q).1
        · exact h2 x m
      · have e : swapNames env line (.Name id pos :: ts) = swapNames env line ts := by
          unfold swapNames
          rw [List.filterMap_cons]
          simp only [q]
          rfl
        rw [e] at h
        exact lt _ (by simpa using h)
    | _ => exact lt _ (show (swapNames env line ts).length = ts.length + 1 from h)
theorem allNm_of (h : XOk c C s k X) : ∀ {ts : List Expr} {names : List Str} {is : List Nat}, namesOf ts = some names → ixs c.N names = some is → names.all s.sto = true → AllNm X ts is
  | [], _, _, h1, h2, _ => by cases h1; cases h2; exact .nil
  | .Name x p :: ts, _, is, h1, h2, h3 => by
    unfold namesOf at h1
    obtain ⟨l, hl, rfl⟩ := Option.map_eq_some_iff.mp h1
    unfold ixs at h2
    rw [List.all_cons, Bool.and_eq_true] at h3
    split at h2
    · rename_i i js e1 e2
      cases h2
      obtain ⟨q1, q2⟩ := h.sto h3.1
      exact .cons (h.ix e1) q1 q2 (allNm_of h hl e2 h3.2)
    · cases h2
  | x :: ts, names, is, h1, h2, h3 => by
    cases x with
    | Name x p =>
      unfold namesOf at h1
      obtain ⟨l, hl, rfl⟩ := Option.map_eq_some_iff.mp h1
      unfold ixs at h2
      rw [List.all_cons, Bool.and_eq_true] at h3
      split at h2
      · rename_i i js e1 e2
        cases h2
        obtain ⟨q1, q2⟩ := h.sto h3.1
        exact .cons (h.ix e1) q1 q2 (allNm_of h hl e2 h3.2)
      · cases h2
    | _ => cases h1
theorem sub_asg {o i : Expr} {p : Pos} {env : PySem.Env} (h : notSlice i = true) : ∀ v, assign (.Subscript o i p) env v = (do
      let ov ← holding [v] (eval o env)
      let iv ← holding [v, ov] (eval i env)
      standAt p
      holding [v, ov, iv] (setItem ov iv v)
      release [v, ov, iv] []) := by
  intro v
  cases i <;> first | rfl | cases h
theorem AllNm.two {ts : List Expr} {is : List Nat} (h : AllNm X ts is) (hl : ts.length = 2) : ∃ x y px py i j, ts = [.Name x px, .Name y py] ∧ is = [i, j] ∧ X.N[i]? = some x ∧ X.N[j]? = some y := by
  cases h with
  | nil => cases hl
  | cons h1 _ _ r =>
    cases r with
    | nil => cases hl
    | cons h2 _ _ r =>
      cases r with
      | nil => exact ⟨_, _, _, _, _, _, rfl, rfl, h1, h2⟩
      | cons _ _ _ r => simp at hl
theorem AllNm.three {ts : List Expr} {is : List Nat} (h : AllNm X ts is) (hl : ts.length = 3) : ∃ x y z px py pz i j m, ts = [.Name x px, .Name y py, .Name z pz] ∧ is = [i, j, m] ∧ X.N[i]? = some x ∧ X.N[j]? = some y ∧ X.N[m]? = some z := by
  cases h with
  | nil => cases hl
  | cons h1 _ _ r =>
    cases r with
    | nil => cases hl
    | cons h2 _ _ r =>
      cases r with
      | nil => cases hl
      | cons h3 _ _ r =>
        cases r with
        | nil => exact ⟨_, _, _, _, _, _, _, _, _, rfl, rfl, h1, h2, h3⟩
        | cons _ _ _ r => simp at hl
theorem XOk.kindOf' (_ : XOk c C s k X) {x : Str} (q : X.env.kindOf x = some .local) : X.env.scope.names.lookup x = some .local := q
theorem zs_badE {st : Stmt} {i : Nat} : PS X st (liftS C (zSet i bad)) := ps_bad
/-- an assignment -/
theorem ok_asg (h : XOk c C s k X) (n : Nat) (tg v : Expr) (pos : Pos) : PS X (.Assign [tg] v pos) (liftS C (evAsg c (ev c n s).e s tg v)) := by
  have he := (ok_ev n h).1
  have vsG := ok_evG h (List.range c.N.length) 3
  cases tg with
  | Name x p =>
    unfold evAsg
    simp only
    cases ei : ixOf c.N x with
    | none => exact ps_bad
    | some i =>
      simp only
      split
      · rename_i hs
        obtain ⟨h1, h2⟩ := h.sto hs
        by_cases hv : notComp v = true
        · exact zs_set h.nd (h.ix ei) h1 (he v) (swapsNo hv) h2
        · cases v with
          | ListComp elt gens scope vpos =>
            have sw : swapsWith (.ListComp elt gens scope vpos) (some (.Name x p)) pos.line X.env = pure (X.env.blockKind == .function && X.env.kindOf x == some .local && p.line == vpos.line && !(scope.names.any fun (n, k) => n == x && (k == .local || k == .cell))) := rfl
            cases hb : (X.env.blockKind == .function && X.env.kindOf x == some .local && p.line == vpos.line && !(scope.names.any fun (n, k) => n == x && (k == .local || k == .cell))) with
            | false =>
              rw [hb] at sw
              exact zs_set h.nd (h.ix ei) h1 (he _) sw h2
            | true =>
              rw [hb] at sw
              have hl : X.env.scope.names.lookup x = some .local := by
                simp only [Bool.and_eq_true] at hb
                exact eq_of_beq hb.1.1.2
              cases n with
              | zero => exact zs_badE
              | succ n =>
                rcases gens with _ | ⟨⟨tg, iter, ifs, z⟩, _ | ⟨g2, r⟩⟩
                · exact zs_badE
                · by_cases hz : z = 0
                  · subst hz
                    show PS X _ (liftS C (zSet i (if blkC c.N s.sc scope (ownOf c.N scope.names) = true then evLc c (ev c n s) (ev c n (inScp s scope)) s (inScp s scope) (ownOf c.N scope.names) elt tg iter ifs else bad)))
                    split
                    · rename_i q
                      cases hn : notSet iter with
                      | true => exact (ok_lc h q (ok_ev n h).1 fun h' => ok_ev n h').2 hn (h.ix ei) hl sw
                      | false =>
                        unfold evLc
                        rw [evI_set hn]
                        exact ps_bad
                    · exact ps_bad
                  · have e : (ev c (n + 1) s).e (.ListComp elt [⟨tg, iter, ifs, z⟩] scope vpos) = bad := by
                      unfold ev
                      simp only
                      split <;> first | rfl | (rename_i q; cases q; exact absurd rfl hz) | (rename_i q; cases q)
                    rw [e]
                    exact zs_badE
                · have e : (ev c (n + 1) s).e (.ListComp elt (⟨tg, iter, ifs, z⟩ :: g2 :: r) scope vpos) = bad := by
                    unfold ev
                    simp only
                  rw [e]
                  exact zs_badE
          | SetComp elt gens scope vpos => cases n <;> exact ps_bad
          | DictComp kx vx gens scope vpos =>
            have sw : swapsWith (.DictComp kx vx gens scope vpos) (some (.Name x p)) pos.line X.env = pure (X.env.blockKind == .function && X.env.kindOf x == some .local && p.line == vpos.line && !(scope.names.any fun (n, k) => n == x && (k == .local || k == .cell))) := rfl
            cases hb : (X.env.blockKind == .function && X.env.kindOf x == some .local && p.line == vpos.line && !(scope.names.any fun (n, k) => n == x && (k == .local || k == .cell))) with
            | false =>
              rw [hb] at sw
              exact zs_set h.nd (h.ix ei) h1 (he _) sw h2
            | true =>
              rw [hb] at sw
              have hl : X.env.scope.names.lookup x = some .local := by
                simp only [Bool.and_eq_true] at hb
                exact eq_of_beq hb.1.1.2
              cases n with
              | zero => exact zs_badE
              | succ n =>
                rcases gens with _ | ⟨⟨tg, iter, ifs, z⟩, _ | ⟨g2, r⟩⟩
                · exact zs_badE
                · by_cases hz : z = 0
                  · subst hz
                    show PS X _ (liftS C (zSet i (if blkC c.N s.sc scope (ownOf c.N scope.names) = true then evDc c (ev c n s) (ev c n (inScp s scope)) s (inScp s scope) (ownOf c.N scope.names) kx vx tg iter ifs else bad)))
                    split
                    · rename_i q
                      cases hn : notSet iter with
                      | true => exact (ok_dc h q (ok_ev n h).1 fun h' => ok_ev n h').2 hn (h.ix ei) hl sw
                      | false =>
                        unfold evDc
                        rw [evI_set hn]
                        exact ps_bad
                    · exact ps_bad
                  · have e : (ev c (n + 1) s).e (.DictComp kx vx [⟨tg, iter, ifs, z⟩] scope vpos) = bad := by
                      unfold ev
                      simp only
                      split <;> first | rfl | (rename_i q; cases q; exact absurd rfl hz) | (rename_i q; cases q)
                    rw [e]
                    exact zs_badE
                · have e : (ev c (n + 1) s).e (.DictComp kx vx (⟨tg, iter, ifs, z⟩ :: g2 :: r) scope vpos) = bad := by
                    unfold ev
                    simp only
                  rw [e]
                  exact zs_badE
          | _ => exact absurd rfl hv
      · exact ps_bad
  | Tuple ts kt pt =>
    have sole : ∀ v, swapsWithSole [.Tuple ts kt pt] v pos.line X.env = pure false := fun v => swapsSole fun _ _ q => nomatch q
    have gen : ∀ v, (∀ ts k p, v ≠ .Tuple ts k p) → PS X (.Assign [.Tuple ts kt pt] v pos) (liftS C (zAsg (evG c s (List.range c.N.length) 3 (.Tuple ts kt pt)) ((ev c n s).e v))) := fun v hv => zs_asg (he v) (vsG _) (sole v) (swapped_val hv) rfl
    cases v with
    | Tuple es k2 pt2 =>
      unfold evAsg
      simp only
      split
      · rename_i hst
        cases en : namesOf ts with
        | none =>
          simp only
          split
          · rename_i hc
            refine zs_asg (pz_tup (pa_args hand_val (fun y _ => he y) hst)) (vsG _) (sole _) ?_ rfl
            rw [swapped_eq hst hc]
            split
            · rfl
            · rw [if_pos]
              rw [Bool.or_eq_true]
              left
              rw [bne_iff_ne]
              intro q
              rw [(swapNames_all q).1] at en
              cases en
          · exact ps_bad
        | some names =>
          simp only
          cases ex : ixs c.N names with
          | none => exact ps_bad
          | some is =>
            simp only
            split
            · rename_i q
              obtain ⟨q1, q2, q3, q4, q5⟩ := q
              have pa := pa_args (h := zGood) (P := IsGood) (C := C) (X := X) hand_unal (ev := (ev c n s).e) (es := es) (fun y _ => he y) hst
              have hsw := swapped_eq (ts := ts) (kt := kt) (k2 := k2) (pt := pt) (pt2 := pt2) (env := X.env) hst q5
              have none_ok : swappedStores [.Tuple ts kt pt] (.Tuple es k2 pt2) X.env = pure none → PS X (.Assign [.Tuple ts kt pt] (.Tuple es k2 pt2) pos) (liftS C (zPar is (zArgs zGood (es.map (ev c n s).e)))) := fun hw =>
                zs_parN h.calm h.nd (allNm_of h en ex q1) (by unfold lineN; omega) pa hw (sole _)
              split at hsw
              · exact none_ok hsw
              · rename_i g1
                split at hsw
                · exact none_ok hsw
                · rename_i g2
                  split at hsw
                  · exact none_ok hsw
                  · simp only [Bool.or_eq_true, not_or, bne_iff_ne, ne_eq, Decidable.not_not] at g2
                    obtain ⟨a1, a2⟩ := swapNames_all g2.1
                    rw [en] at a1
                    have a3 := Option.some.inj a1
                    rw [← a3] at hsw a2
                    have hlen := names_len en
                    have hl : ts.length = 2 ∨ ts.length = 3 := by
                      have g3 : (ts.length == 2 || ts.length == 3) = true := by
                        cases hq : (ts.length == 2 || ts.length == 3) with
                        | true => rfl
                        | false => rw [hq] at g1; exact absurd rfl g1
                      rw [Bool.or_eq_true] at g3
                      exact g3.imp eq_of_beq eq_of_beq
                    have ne : ∀ {x y : Str} {i j : Nat}, x ≠ y → X.N[i]? = some x → X.N[j]? = some y → i ≠ j := fun hne h1 h2 e => by
                      subst e
                      rw [h1] at h2
                      exact hne (Option.some.inj h2)
                    have an := allNm_of h en ex q1
                    rcases hl with hl | hl
                    · obtain ⟨x, y, px, py, i, j, rfl, rfl, h1, h2⟩ := an.two hl
                      cases en
                      match es, q3 with
                      | [a, b], _ =>
                        have hne : x ≠ y := fun e => by
                          subst e
                          simp [List.eraseDups_cons] at q2
                        exact zs_par2 h.calm h.nd h1 h2 (ne hne h1 h2) (h.kindOf' (a2 x (by simp))) (h.kindOf' (a2 y (by simp))) pa hsw (sole _)
                    · obtain ⟨x, y, z, px, py, pz, i, j, m, rfl, rfl, h1, h2, h3⟩ := an.three hl
                      cases en
                      match es, q3 with
                      | [a, b, d], _ =>
                        have h12 : x ≠ y := fun e => by
                          subst e
                          by_cases e2 : x = z
                          · simp [List.eraseDups_cons, e2] at q2
                          · simp [List.eraseDups_cons, e2, Ne.symm e2] at q2
                        have h13 : x ≠ z := fun e => by
                          subst e
                          by_cases e2 : x = y
                          · simp [List.eraseDups_cons, e2] at q2
                          · simp [List.eraseDups_cons, e2, Ne.symm e2] at q2
                        have h23 : y ≠ z := fun e => by
                          subst e
                          by_cases e2 : x = y
                          · simp [List.eraseDups_cons, e2] at q2
                          · simp [List.eraseDups_cons, e2, Ne.symm e2] at q2
                        exact zs_par3 h.calm h.nd h1 h2 h3 (ne h12 h1 h2) (ne h13 h1 h3) (ne h23 h2 h3) (h.kindOf' (a2 x (by simp))) (h.kindOf' (a2 y (by simp))) (h.kindOf' (a2 z (by simp))) pa hsw (sole _)
            · exact ps_bad
      · exact ps_bad
    | _ => exact gen _ fun _ _ _ q => nomatch q
  | Subscript o i p =>
    unfold evAsg
    simp only
    split
    · exact zs_sub h.kw h.units (he v) (he o) (he i) (swapsSole fun _ _ q => nomatch q) (swapped_other (fun _ _ _ q => nomatch q) fun _ _ q => nomatch q) rfl (sub_asg (by assumption))
    · exact ps_bad
  | _ => exact ps_bad
theorem ok_seqs {f : Stmt → ZS} (h : ∀ st, PS X st (liftS C (f st))) : ∀ l : List Stmt, PSs X l (liftS C (seqs f l))
  | [] => zs_nil
  | st :: r => zs_cons (h st) (ok_seqs h r)
theorem ok_evS (h : XOk c C s k X) (m : Nat) : ∀ (n : Nat) (st : Stmt), PS X st (liftS C (evS c m s n st)) := by
  have he := (ok_ev m h).1
  have ht := (ok_ev m h).2
  intro n
  induction n with
  | zero => intro st; exact ps_bad
  | succ n ih =>
    intro st
    have ihs := ok_seqs (X := X) (C := C) ih
    unfold evS
    split
    · exact zs_pass
    · exact zs_break
    · exact zs_continue
    · split
      · rename_i q
        exact zs_expr (he _) (swapsNo q)
      · exact ps_bad
    · exact zs_ret (he _)
    · exact zs_retN
    · exact zs_if (ht _) (ihs _) (ihs _)
    · rename_i tg iter body p
      cases hn : notSet iter with
      | true => exact zs_for h.pass h.calm (ok_evI h he tg iter) (ok_evG h _ 3 tg) (ihs _) (notSet_folded hn _)
      | false =>
        rw [evI_set hn]
        exact ps_bad
    · exact zs_while h.pass (ht _) (ihs _)
    · exact ok_asg h m _ _ _
    · exact ps_bad
/-- a block -/
theorem ok_evB (h : XOk c C s k X) (m : Nat) (body : List Stmt) : PSs X body (liftS C (evB c m s body)) := ok_seqs (ok_evS h m m) body
end
end Z
end
section
set_option Elab.async false
set_option linter.all false
set_option maxRecDepth 100000
set_option maxHeartbeats 1000000
/-! A def keeps its contract; the law's head. -/
namespace Z
open PySem PySem.Spec L2
open PyProof.Rows (envOfC)
/-- what is handed back -/
def zOut (r : RV) (δ : Sto) (Q : RV → Prop) : Prop := match r with
  | .val d => Q (.val d)
  | .own d => Q (.own d)
  | .slot j => match δ[j]? with
    | some (some (.val d)) => Q (.val d)
    | some (some (.own d)) => Q (.own d)
    | some (some (.lck d)) => Q (.own d)
    | _ => False
  | _ => False
def startD (n : Nat) (rs : List RV) : Sto := rs.map some ++ List.replicate (n - rs.length) none
def outE (Q : RV → Prop) : Zend := { nx := fun _ => Q (.val .none), rt := fun r δ => zOut r δ Q }
theorem args_len {K : Kw} {dk : Option (Addr × Addr)} {F : Addr → Prop} {H : Hp} : ∀ {vs : List V} {rs : List RV}, ArgsOk K dk F H vs rs → vs.length = rs.length
  | [], [], _ => rfl
  | _ :: _, _ :: _, h => by rw [List.length_cons, List.length_cons, args_len h.2]
  | [], _ :: _, h => h.elim
  | _ :: _, [], h => h.elim
theorem args_get {K : Kw} {dk : Option (Addr × Addr)} {F : Addr → Prop} {H : Hp} : ∀ {vs : List V} {rs : List RV} {i : Nat} {r : RV}, ArgsOk K dk F H vs rs → rs[i]? = some r → ∃ v, vs[i]? = some v ∧ ArgOk K dk F H v r
  | v :: _, r :: _, 0, r', h, e => by
    have e : some r = some r' := e
    cases e
    exact ⟨v, rfl, h.1⟩
  | _ :: _, _ :: rs, i + 1, r', h, e => args_get (i := i) h.2 e
  | [], [], i, _, _, e => by simp at e
  | [], _ :: _, _, _, h, _ => h.elim
  | _ :: _, [], _, _, h, _ => h.elim
theorem start_get {N : List Str} {vs : List V} {i : Nat} {v : V} (h : vs[i]? = some v) : (L2.start N vs)[i]? = some (some v) := by
  unfold L2.start
  have hl : i < vs.length := (List.getElem?_eq_some_iff.mp h).1
  rw [List.getElem?_append_left (by simpa using hl), List.getElem?_map, h]
  rfl
theorem startD_get {n : Nat} {rs : List RV} {i : Nat} {r : RV} (h : (startD n rs)[i]? = some (some r)) : rs[i]? = some r := by
  unfold startD at h
  by_cases hl : i < rs.length
  · rw [List.getElem?_append_left (by simpa using hl), List.getElem?_map] at h
    obtain ⟨r', h1, h2⟩ := Option.map_eq_some_iff.mp h
    cases h2
    exact h1
  · rw [List.getElem?_append_right (by simpa using hl)] at h
    have := List.mem_of_getElem? h
    rw [List.mem_replicate] at this
    cases this.2
def dkOw (dk : Option (Addr × Addr)) (a : Addr) : Option Ow := match dk with
  | some (p, q) => if a = p ∨ a = q then some .deck else none
  | none => none
theorem dkOw_some {dk : Option (Addr × Addr)} {a : Addr} (h : (dkOw dk a).isSome = true) : ∃ p q, dk = some (p, q) ∧ (a = p ∨ a = q) := by
  cases dk with
  | none => cases h
  | some pq =>
    obtain ⟨p, q⟩ := pq
    unfold dkOw at h
    simp only at h
    split at h
    · exact ⟨p, q, rfl, by assumption⟩
    · cases h
theorem dkOw_none {dk : Option (Addr × Addr)} {a : Addr} (h : ∀ p q, dk = some (p, q) → ¬ (a = p ∨ a = q)) : dkOw dk a = none := by
  cases dk with
  | none => rfl
  | some pq =>
    obtain ⟨p, q⟩ := pq
    exact if_neg (h p q rfl)
theorem dkOw_l {p q : Addr} : dkOw (some (p, q)) p = some .deck := if_pos (.inl rfl)
theorem dkOw_r {p q : Addr} : dkOw (some (p, q)) q = some .deck := if_pos (.inr rfl)
/-- at a def's entry -/
theorem Gd.enter {K : Kw} {T : DkT} {dk : Option (Addr × Addr)} {F : Addr → Prop} {H : Hp} {N : List Str} {vs : List V} {rs : List RV} (hF : ∀ a, F a → (H a).isSome = true) (hd : DkOk T dk F H) (ha : ArgsOk K dk F H vs rs) :
    Gd ⟨K, H, F, dk, T, none⟩ ⟨F, dkOw dk, dk⟩ H (L2.start N vs) (startD N.length rs) [] [] := by
  refine ⟨?_, fun a o e => ?_, fun _ _ e => e, fun a h => dkOw_none fun p q e z => ?_, fun a h => .inl h, fun a h => ?_, hF, fun i r e => ?_, trivial, fun _ _ m => (nomatch m), fun p q e => ?_, fun a h => ?_, fun _ _ e => (nomatch e)⟩
  · unfold L2.start startD
    rw [List.length_append, List.length_append, List.length_map, List.length_map, List.length_replicate, List.length_replicate, args_len ha]
  · by_cases h : ∃ p q, dk = some (p, q) ∧ (a = p ∨ a = q)
    · exact .inl h
    · exact .inr ⟨dkOw_none fun p q e z => h ⟨p, q, e, z⟩, e⟩
  · obtain ⟨_, _, h3, h4, _⟩ := hd.all p q e
    rcases z with rfl | rfl
    · exact h3 h
    · exact h4 h
  · obtain ⟨p, q, e, z⟩ := dkOw_some h
    obtain ⟨_, _, _, _, h5, h6, _⟩ := hd.all p q e
    rcases z with rfl | rfl
    · exact h5
    · exact h6
  · have h1 := startD_get e
    obtain ⟨v, h2, h3⟩ := args_get ha h1
    refine ⟨?_, v, start_get h2, ?_⟩
    · cases r <;> first | rfl | exact h3.elim
    · cases r with
      | val d => exact h3
      | deck => exact h3
      | _ => exact h3.elim
  · obtain ⟨h1, h2, _⟩ := hd.all p q e
    have e : dk = some (p, q) := e
    subst e
    exact ⟨h1, h2, dkOw_l, dkOw_r⟩
  · obtain ⟨p, q, e, z⟩ := dkOw_some h
    obtain ⟨_, _, _, _, _, _, k1, k2, k3, k4⟩ := hd.all p q e
    rcases z with rfl | rfl
    · exact ⟨k1, k2⟩
    · exact ⟨k3, k4⟩
/-- at its end -/
theorem Gd.leave {K : Kw} {T : DkT} {dk : Option (Addr × Addr)} {F : Addr → Prop} {H H' : Hp} {W : Wd} {σ : L2.St} {δ : Sto} {v : V} {tv : List V} {r : RV} {τ : List RV} {QQ : RV → Prop} {Q : VK} (g : Gd ⟨K, H, F, dk, T, none⟩ W H' σ δ (v :: tv) (r :: τ)) (h : zOut r δ QQ)
    (k : ∀ v H' r, Pst K T dk F H v H' r → QQ r → Q v H') : Q v H' := by
  have core : ∀ r', (match r' with
      | .val d => Rep K W.F H' v d
      | .own d => ∃ a, v = .ref a ∧ H a = none ∧ ¬ W.F a ∧ ObR K W.F H' a d
      | _ => False) → Pst K T dk F H v H' r' := fun r' hr => by
    refine ⟨W.F, g.fnew, g.flive, fun a o e ne => ?_, fun p q e => ?_, hr⟩
    · rcases g.prot a o e with ⟨p, q, e1, z⟩ | ⟨_, h⟩
      · have := ne p q e1
        rcases z with rfl | rfl
        · exact absurd rfl this.1
        · exact absurd rfl this.2
      · exact h
    · obtain ⟨_, h2, h3, h4⟩ := g.deck p q (g.dk0 p q e)
      have s1 := g.soft p (by rw [h3]; rfl)
      have s2 := g.soft q (by rw [h4]; rfl)
      exact ⟨h2, s1.1, s1.2, s2.1, s2.2, g.live p (by rw [h3]; rfl), g.live q (by rw [h4]; rfl)⟩
  have own : ∀ {a : Addr} {w : Ow} {d : D}, w ≠ .deck → W.ow a = some w → v = .ref a → ObR K W.F H' a d → Pst K T dk F H v H' (.own d) := fun {a w d} hw ha hv ho => core (.own d) ⟨a, hv, g.h0_own hw ha, fun z => (by rw [g.frz a z] at ha; cases ha), ho⟩
  cases r with
  | val d => exact k v H' _ (core (.val d) g.temps.1) h
  | own d =>
    obtain ⟨a, rfl, ha, ho⟩ := g.temps.1
    exact k _ H' _ (own (by intro z; cases z) ha rfl ho) h
  | slot j =>
    have hv : σ[j]? = some (some v) := g.temps.1
    unfold zOut at h
    cases e : δ[j]? with
    | none => simp only [e] at h
    | some o =>
      cases o with
      | none => simp only [e] at h
      | some x =>
        obtain ⟨_, u, hu, h3⟩ := g.slots j x e
        rw [hv] at hu
        cases hu
        cases x with
        | val d => simp only [e] at h; exact k v H' _ (core (.val d) h3) h
        | own d =>
          simp only [e] at h
          obtain ⟨a, ea, ha, ho⟩ := h3
          exact k _ H' _ (own (by intro z; cases z) ha ea ho) h
        | lck d =>
          simp only [e] at h
          obtain ⟨a, ea, ha, ho⟩ := h3
          exact k _ H' _ (own (by intro z; cases z) ha ea ho) h
        | _ => simp only [e] at h
  | _ => exact h.elim

/-- the tables of a program's part: what a def may call, by the name -/
structure Tab (P : Program) (w : World) (K : Kw) (mg : Str → Option Value) (base : Heap) (T : DkT) (k : Nat) (fns : List FnI) (glb : List Str) (cst : List (Str × D)) : Prop where
  fns : ∀ fi ∈ fns, Callee P w K mg base T k fi
  glb : ∀ x ∈ glb, mg x = none
  kw : K.w = w
  cst : ∀ q ∈ cst, CstAt mg q.1 q.2
theorem Tab.mono {P : Program} {w : World} {K : Kw} {mg : Str → Option Value} {base : Heap} {T : DkT} {j k : Nat} {fns : List FnI} {glb : List Str} {cst : List (Str × D)} (h : Tab P w K mg base T j fns glb cst) (hk : j ≤ k) : Tab P w K mg base T k fns glb cst :=
  ⟨fun fi m => by
    obtain ⟨f, fd, h1, h2⟩ := (h.fns fi m).ex
    exact ⟨f, fd, h1.mono hk, h2⟩, h.glb, h.kw, h.cst⟩
/-- a def of the text keeps the contract ct -/
theorem callee_of {P : Program} {w : World} {K : Kw} {mg : Str → Option Value} {base : Heap} {T : DkT} {k m : Nat} {fns : List FnI} {glb : List Str} {cst : List (Str × D)} {x : Str} {st : Stmt} {f : Addr} {fd : FuncData} {N ps : List Str} {ct : Ct}
    (F : Fun K.K x x st f fd) (hm : mg x = some (.ref f)) (S : FnScope N ps (defScope st)) (hp : Plain fd ps) (t : Tab P w K mg base T k fns glb cst)
    (hb : ∀ rs QQ, rs.length = ps.length → ct rs QQ (fun _ => False) → evB ⟨N, fns, glb, cst⟩ m ⟨defScope st, fun _ => true⟩ (defBody st) (outE QQ) (startD N.length rs)) : Callee P w K mg base T (k + 1) ⟨x, ps, ct⟩ := by
  obtain ⟨oc, od, kV, doc, pm, an, cdv, ct', osl, rfl, lk, hcd⟩ := F.ex
  refine ⟨f, _, fnG_of lk hcd S (fun vs H Q E h => h.1) (fun A fr s H vs Q E hr hg hsp => ?_), hm, F.kp, hp⟩
  obtain ⟨hl, Fr, dk, rs, QQ, hF, hd, ha, hc, kk⟩ := hsp
  have X0 : XOk ⟨N, fns, glb, cst⟩ ⟨K, H, Fr, dk, T, none⟩ ⟨defScope st, fun _ => true⟩ k (cxOf CX0 P w K.K mg base N x (defScope st) f cdv A fr s H E).nox :=
    ⟨rfl, S.nd, rfl, S.kind, rfl, rfl, rfl, t.kw, hr, hg, rfl, t.fns, t.glb, t.cst⟩
  refine ⟨_, (ok_evB X0 m (defBody st)).nox, ?_⟩
  refine ⟨_, _, [], [], outE QQ, Gd.enter hF hd ha, fun _ z => (nomatch z), hb rs QQ (by rw [← args_len ha]; exact hl) hc, ?_⟩
  exact ⟨fun σ H' W δ g h => Gd.leave (g.push (r := .val .none) .non) h kk, fun _ _ _ _ _ z => z.elim, fun _ _ _ _ _ z => z.elim, fun v σ H' W r δ tv' τ' g h => Gd.leave g h kk⟩
/-- no defaults, names apart -/
theorem plain_of {st : Stmt} {x qual : Str} {kV doc pm cdv ct : Value} {an : Option Addr} {ps : List Str} (h : Plain (PySem.W.fnOf x qual (defArgs st) (defBody st) (defScope st) .none kV doc pm an cdv ct) ps) : Plain (PySem.W.fnOf x qual (defArgs st) (defBody st) (defScope st) .none kV doc pm an cdv ct) ps := h
end Z
end
section
set_option Elab.async false
set_option linter.all false
set_option maxRecDepth 100000
set_option maxHeartbeats 1000000
/-! The law. -/
namespace Z
open PySem PySem.Spec L2
open PyProof.Rows (envOfC IntsAre AllBare)
/-- the maker of the draws -/
def spMk (T : DkT) (K : PySem.W.Frag) : Sp := fun vs H Q _ => ∃ (a : Addr) (ns : List Int), vs = [.ref a] ∧ SqL K H a (ns.map V.int) ∧ ns.length ≤ 63 ∧
  ∀ H' p q, p ≠ q → H p = none → H q = none → (∀ b o, H b = some o → H' b = some o) → T.P H' p q → (H' p).isSome = true → (H' q).isSome = true → (∀ xs, H' p ≠ some (.tup xs)) → (∀ o u, H' p ≠ some (.frz o u)) → (∀ xs, H' q ≠ some (.tup xs)) → (∀ o u, H' q ≠ some (.frz o u)) → Q (.ref p) H'
def spLaw (K : PySem.W.Frag) : Sp := fun vs H Q _ => ∃ (a : Addr) (ns : List Int), vs = [.ref a] ∧ SqL K H a (ns.map V.int) ∧ ns.length ≤ 63 ∧ ∀ H', Q (.bl true) H'
def lawE : Zend := outE fun r => r = .val (.bool true)
def lawD (n : Nat) : Sto := none :: some .deck :: List.replicate (n - 2) none
/-- the world behind the first statement -/
theorem Gd.drawn {K : Kw} {T : DkT} {H H' : Hp} {p q : Addr} {u v : V} {n : Nat} (hpq : p ≠ q) (hp : H p = none) (hq : H q = none) (keep : ∀ b o, H b = some o → H' b = some o) (hT : T.P H' p q) (sp : (H' p).isSome = true) (sq : (H' q).isSome = true)
    (t1 : ∀ xs, H' p ≠ some (.tup xs)) (t2 : ∀ o u, H' p ≠ some (.frz o u)) (t3 : ∀ xs, H' q ≠ some (.tup xs)) (t4 : ∀ o u, H' q ≠ some (.frz o u)) :
    Gd ⟨K, H, fun _ => False, none, T, none⟩ ⟨fun _ => False, dkOw (some (p, q)), some (p, q)⟩ H' (some u :: some (.ref p) :: List.replicate n none) (none :: some .deck :: List.replicate n none) [] [] := by
  refine ⟨by simp, fun a o e => .inr ⟨dkOw_none (dk := some (p, q)) (a := a) fun p' q' e' z => ?_, keep a o e⟩, fun _ _ e => (nomatch e), fun _ h => h.elim, fun _ h => h.elim, fun a h => ?_, fun _ h => h.elim, fun i r e => ?_, trivial, fun _ _ m => (nomatch m), fun p' q' e => ?_, fun a h => ?_, fun _ _ e => (nomatch e)⟩
  · cases e'
    have e : H a = some o := e
    rcases z with rfl | rfl
    · rw [hp] at e; cases e
    · rw [hq] at e; cases e
  · obtain ⟨p', q', e, z⟩ := dkOw_some (dk := some (p, q)) (a := a) h
    cases e
    rcases z with rfl | rfl
    · exact sp
    · exact sq
  · match i, e with
    | 1, e =>
      have e : some (some RV.deck) = some (some r) := e
      cases e
      exact ⟨rfl, _, rfl, p, q, rfl, rfl⟩
    | i + 2, e =>
      have e : (List.replicate n (none : Option RV))[i]? = some (some r) := e
      have := List.mem_of_getElem? e
      rw [List.mem_replicate] at this
      cases this.2
  · have e : some (p, q) = some (p', q') := e
    cases e
    exact ⟨hpq, hT, dkOw_l, dkOw_r⟩
  · obtain ⟨p', q', e, z⟩ := dkOw_some (dk := some (p, q)) (a := a) h
    cases e
    rcases z with rfl | rfl
    · exact ⟨t1, t2⟩
    · exact ⟨t3, t4⟩
theorem law_ok {P : Program} {w : World} {K : Kw} {mg : Str → Option Value} {base : Heap} {T : DkT} {k m n : Nat} {fns : List FnI} {glb : List Str} {cst : List (Str × D)} {st : Stmt} {f fm : Addr} {fd fdm : FuncData} {N : List Str} {y mk : Str} {p1 p2 p3 p4 p5 : Pos} {rest : List Stmt}
    (F : Fun K.K "law" "law" st f fd) (S : FnScope ("script" :: y :: N) ["script"] (defScope st)) (t : Tab P w K mg base T k fns glb cst) (hn : N.length = n)
    (hbody : defBody st = .Assign [.Name y p1] (.Call (.Name mk p2) [.Name "script" p3] [] p4) p5 :: rest) (hy : L2.Loc (defScope st) y) (hs : Vis (defScope st) "script") (hg : (defScope st).names.lookup mk = some .globalImplicit) (hdb : (mk == ("__debug__" : Str)) = false)
    (M : FnOk P w K.K mg base CX0 k fm fdm ["script"] (spMk T K.K)) (hm : mg mk = some (.ref fm)) (hkp : PySem.W.keepIn K.K (.ref fm) = true) (hbi : Binds K.K fdm ["script"] [])
    (hb : evB ⟨"script" :: y :: N, fns, glb, cst⟩ m ⟨defScope st, fun _ => true⟩ rest lawE (lawD (n + 2))) : FnG P w K.K mg base CX0 (k + 1) f fd ["script"] (spLaw K.K) := by
  obtain ⟨oc, od, kV, doc, pm, an, cdv, ct', osl, rfl, lk, hcd⟩ := F.ex
  refine fnG_of lk hcd S (fun vs H Q E h => ?_) (fun A fr s H vs Q E hr hgd hsp => ?_)
  · obtain ⟨a, ns, rfl, _⟩ := h
    rfl
  obtain ⟨a, ns, rfl, hS, hlen, fin0⟩ := hsp
  generalize hX : (cxOf CX0 P w K.K mg base ("script" :: y :: N) "law" (defScope st) f cdv A fr s H E).nox = X
  have X0 : XOk ⟨"script" :: y :: N, fns, glb, cst⟩ ⟨K, H, fun _ => False, none, T, none⟩ ⟨defScope st, fun _ => true⟩ k X := by
    rw [← hX]
    exact ⟨rfl, S.nd, rfl, S.kind, rfl, rfl, rfl, t.kw, hr, hgd, rfl, t.fns, t.glb, t.cst⟩
  have hsc : X.env.scope = defScope st := X0.sc
  have hgl : Gl X mk := by
    unfold Gl Env.kindOf
    rw [hsc]
    exact hg
  have e1 : PS X (.Assign [.Name y p1] (.Call (.Name mk p2) [.Name "script" p3] [] p4) p5) (tAsg (tCall (spMk T K.K) [] E0 (tCons (tVar 0) tNil)) (gName 1)) := by
    refine ps_set (i := 1) X0.nd (by rw [X0.N]; rfl) (by rw [hsc]; exact hy) ?_ rfl (.inl (by rw [X0.fn]))
    have M' : FnOk X.prog X.w X.K X.mg X.base CX0 k fm fdm ["script"] (spMk T K.K) := by rw [← hX]; exact M
    have hm' : X.mg mk = some (.ref fm) := by rw [← hX]; exact hm
    have hkp' : PySem.W.keepIn X.K (.ref fm) = true := by rw [← hX]; exact hkp
    have hbi' : Binds X.K fdm ["script"] [] := by rw [← hX]; exact hbi
    exact pe_call M' X0.room hgl hm' hkp' hbi' .nil pass0 (pa_cons (pe_var (i := 0) (by rw [X0.N]; rfl) (by rw [hsc]; exact hs)) pa_nil) hdb
  have e2 := ok_evB X0 m rest
  refine ⟨tSeq (tAsg (tCall (spMk T K.K) [] E0 (tCons (tVar 0) tNil)) (gName 1)) (liftS ⟨K, H, fun _ => False, none, T, none⟩ (evB ⟨"script" :: y :: N, fns, glb, cst⟩ m ⟨defScope st, fun _ => true⟩ rest)), ?_, ?_⟩
  · rw [hbody]
    have e3 := pss_cons e1 e2
    rw [← hX] at e3
    exact e3.nox
  · refine ⟨.ref a, rfl, a, ns, rfl, hS, hlen, fun H' p q hpq hp hq keep hT sp sq t1 t2 t3 t4 => ?_⟩
    have g := Gd.drawn (K := K) (u := .ref a) (v := .ref p) (n := n) hpq hp hq keep hT sp sq t1 t2 t3 t4
    have es : (L2.start ("script" :: y :: N) [V.ref a]).set 1 (some (.ref p)) = some (.ref a) :: some (.ref p) :: List.replicate n none := by
      unfold L2.start
      simp only [List.length_cons, List.length_nil, List.map_cons, List.map_nil]
      rw [show N.length + 1 + 1 - (0 + 1) = n + 1 by omega, List.replicate_succ]
      rfl
    show liftS _ _ _ ((L2.start ("script" :: y :: N) [V.ref a]).set 1 (some (.ref p))) H'
    rw [es]
    have fin : ∀ v H' r, Pst K T none (fun _ => False) H v H' r → r = .val (.bool true) → Q v H' := fun v H' r hp e => by
      subst e
      obtain ⟨F', _, _, _, _, hr⟩ := hp
      have hv := Rep.bool_of hr
      subst hv
      exact fin0 H'
    refine ⟨_, _, [], [], lawE, g, fun _ z => (nomatch z), hb, ?_⟩
    exact ⟨fun σ H' W δ g h => (by
      have h : RV.val .none = .val (.bool true) := h
      cases h), fun _ _ _ _ _ z => z.elim, fun _ _ _ _ _ z => z.elim, fun v σ H' W r δ tv' τ' g h => Gd.leave (QQ := fun r => r = .val (.bool true)) g h fin⟩

/-- the head, for a promise that asks that no repr is under way -/
theorem headG {P : Program} {w : World} {K : PySem.W.Frag} {mg mb : Str → Option Value} {k : Nat} {fa la : Addr} {fd : FuncData} {x : Str} {sp : Sp} {t : Shared} {us : List Value} {ms : List Int}
    (kin : K.In t.heap) (nsg : t.heap.Ns mainGlobals mg) (nsb : t.heap.Ns builtinsNs mb) (boot : ∀ y : Str, y ≠ "__name__" → mb y = bootBuiltins y) (lim : t.heap.NoLimit) (gens : t.gens = #[])
    (obj : t.heap.get? la = some { cls := .type "list", data := .seq us.toArray }) (allInt : IntsAre us ms) (short : ms.length ≤ sizeLine) (room : Room k callerA)
    (F : ∀ b : Heap, K.In b → b.Ns mainGlobals mg → FnG P w K mg b CX0 k fa fd [x] sp) (bind : ∀ (s : Shared) (u : Value), BindsTo s fd ⟨[u], []⟩ [(x, u)])
    (hsp : ∀ H : Hp, Only H → SqL K H la (ms.map V.int) → sp [.ref la] H (fun v _ => v = .bl true) fun _ _ _ => False) :
    codeAny (model P w) callerA (.call (.ref fa) ⟨[.ref la], []⟩) (fun r s' => r = .ok (.ret (.bool true)) ∧ PySem.OldK t.heap s'.heap ∧ s'.os = t.os ∧ AllBare s'.gens) t := by
  have vals := vals_ints allInt
  have same := allInt.length
  -- H tracks nothing but the script
  have go : ∀ H : Hp, Only H → SqL K H la (ms.map V.int) → HOk P w H t.heap → (∀ b, H b ≠ none → b = la) → (H la ≠ none → K.lookup la = none) →
      codeAny (model P w) callerA (.call (.ref fa) ⟨[.ref la], []⟩) (fun r s' => r = .ok (.ret (.bool true)) ∧ PySem.OldK t.heap s'.heap ∧ s'.os = t.os ∧ AllBare s'.gens) t := by
    intro H only sq hok isA notK
    have hid : ∀ {b : Addr} {o : Obj}, t.heap.get? b = some o → H b = none → (hidT t.heap H).get? b = some o := fun e1 e2 => hidT_get e1 e2
    have dictFree : ∀ {b : Addr} {o : Obj} {es : Array DictEntry} {ep : Nat}, t.heap.get? b = some o → o.data = .dict es ep → H b = none := fun {b o es ep} e1 e2 => by
      cases q : H b with
      | none => rfl
      | some u =>
        obtain rfl : b = la := isA b (by rw [q]; intro z; cases z)
        rw [obj] at e1
        cases e1
        exact absurd e2 (by intro z; cases z)
    have nsH : ∀ {b : Addr} {m : Str → Option Value}, t.heap.Ns b m → (hidT t.heap H).Ns b m := fun {b m} h => by
      obtain ⟨o, es, ep, e1, e2, rest⟩ := h
      exact ⟨o, es, ep, hid e1 (dictFree e1 e2), e2, rest⟩
    have kH : K.In (hidT t.heap H) := fun b o e1 => by
      refine hid (kin b o e1) ?_
      cases q : H b with
      | none => rfl
      | some u =>
        obtain rfl : b = la := isA b (by rw [q]; intro z; cases z)
        rw [notK (by rw [q]; intro z; cases z)] at e1
        cases e1
    have limH : (hidT t.heap H).NoLimit := by
      obtain ⟨mc, q1, q2⟩ := lim
      exact ⟨mc, nsH q1, q2⟩
    have mod : Mod K mg (hidT t.heap H) := ⟨kH, nsH nsg, ⟨mb, nsH nsb, boot⟩, limH⟩
    have env : Env0 P w K mg (hidT t.heap H) callerA [] t H := ⟨rfl, mod, fun b o e1 => of_hidT e1, Nat.le_of_eq (hidT_size _ _), trivial, fun b hb => (nomatch (show b ∈ ([] : List Addr) from hb)), hok, .of_eq gens⟩
    refine codeAny_mono ((F _ kH (nsH nsg)).run callerA [] t H ⟨[.ref la], []⟩ [.ref la] [.ref la] _ _ room rfl env (bind t (.ref la)) (.cons rfl .nil) (hsp H only sq)) fun r s' h => ?_
    match r, h with
    | .error e, h => exact h.elim
    | .ok .next, h => exact h.elim
    | .ok .brk, h => exact h.elim
    | .ok .cont, h => exact h.elim
    | .ok (.ret u), ⟨v, H', os, bare, un, hok', rv, q⟩ =>
      have q : v = .bl true := q
      subst q
      obtain rfl : u = Value.bool true := rv
      refine ⟨rfl, PySem.OldK.of_keep fun b o e1 => ?_, os, bare⟩
      cases q : H b with
      | none => exact un.keep b o e1 q (fun z => (nomatch (show b ∈ ([] : List Addr) from z))) (fun z => (nomatch z))
      | some u =>
        rcases only b with z | ⟨ob, xs, z⟩
        · rw [q] at z; cases z
        · have z2 := un.frzs b ob _ z
          obtain ⟨k1, _⟩ := hok b _ z
          obtain ⟨k2, _⟩ := hok' b _ z2
          rw [e1] at k1
          cases k1
          exact k2
  cases hk : K.lookup la with
  | some o =>
    have e1 := kin la o hk
    rw [obj] at e1
    cases e1
    exact go (fun _ => none) (fun _ => .inl rfl) (.inr ⟨_, us.toArray, _, hk, rfl, rfl, rfl, by rw [List.size_toArray, same]; exact short, by simpa using vals⟩) (fun b u z => (nomatch (show (none : Option HO) = some u from z))) (fun b z => absurd rfl z) fun z => absurd rfl z
  | none =>
    let Hs : Hp := fun b => if b = la then some (.frz { cls := .type "list", data := .seq us.toArray } (.lst (ms.map V.int))) else none
    have at_ : Hs la = some (.frz { cls := .type "list", data := .seq us.toArray } (.lst (ms.map V.int))) := if_pos rfl
    have off : ∀ {b}, b ≠ la → Hs b = none := fun h => if_neg h
    refine go Hs (fun b => ?_) (.inl (.inr ⟨_, at_⟩)) (fun b u z => ?_) (fun b z => ?_) fun _ => hk
    · by_cases hb : b = la
      · subst hb; exact .inr ⟨_, _, at_⟩
      · exact .inl (off hb)
    · by_cases hb : b = la
      · subst hb
        rw [at_] at z
        cases z
        exact ⟨obj, by rw [List.length_map]; exact short, us, _, vals, obj⟩
      · rw [off hb] at z; cases z
    · by_cases hb : b = la
      · exact hb
      · exact absurd (off hb) z
theorem walkG {l : PySem.W.OpenLaw} {n k : Nat} {q : Program} {loose : List Str} {XP : (Str → Option Value) → Heap → Prop} {YP : World → Heap → Prop} {d : PySem.DefRec} {K : Params → PySem.W.Frag} {sp : World → Sp} {x : Str}
    (h1 : l.most = some n) (h2 : n ≤ sizeLine) (h3 : d.params.defaults = []) (room : Room k callerA) (hY : ∀ (w : World) (h : Heap), YP w h → (K w.params).In h)
    (F : ∀ (w : World) (mg : Str → Option Value) (fa : Addr) (h : Heap), (K w.params).In h → h.Ns mainGlobals mg → mg d.name = some (.ref fa) →
      ∃ fd : FuncData, (∀ (s : Shared) (u : Value), BindsTo s fd ⟨[u], []⟩ [(x, u)]) ∧ ∀ b : Heap, (K w.params).In b → b.Ns mainGlobals mg → FnG l.prog w (K w.params) mg b CX0 k fa fd [x] (sp w))
    (hsp : ∀ (w : World) (H : Hp) (a : Addr) (ns : List Int), ns.length ≤ n → Only H → SqL (K w.params) H a (ns.map V.int) → sp w [.ref a] H (fun v _ => v = .bl true) fun _ _ _ => False) :
    PySem.W.WalkO q loose XP YP l.row.toRowW d [] (fun f vs => PySem.call f vs) := by
  refine Att.attach_call h1 h3 fun w s₀ s₁ mg mb fa o pm cd doc a vs ns G Y ho hd hcd hmg hobj hints hlen hg => ?_
  have kin := hY w _ Y
  obtain ⟨fd, hb, hF⟩ := F w mg fa _ kin G.T.g hmg
  exact headG kin G.T.g G.T.b G.T.builtins G.T.nolimit hg hobj hints (Nat.le_trans hlen h2) room hF hb fun H hO hS => hsp w H a ns hlen hO hS
end Z
end
section
set_option Elab.async false
set_option linter.all false
set_option maxRecDepth 100000
set_option maxHeartbeats 1000000
/-! The draws: what any of them promises. -/
namespace Z
open PySem PySem.Spec L2
/-- a draw below many -/
def drawn (many : Int) (Q : Int → Prop) : Prop := ∀ r : Int, 0 ≤ r → (r < many ∨ (r = 0 ∧ many < 2)) → Q r
def cDraw : Ct := fun rs Q _ => ∃ many : Int, rs = [.deck, .val (.int many)] ∧ many < 4611686018427387904 ∧ drawn many fun r => Q (.val (.int r))
/-- the draws' objects are neither tuples nor locked -/
structure DkSoft (T : DkT) : Prop where
  all : ∀ {H : Hp} {p q : Addr}, T.P H p q → (H p).isSome = true ∧ (H q).isSome = true ∧ (∀ xs, H p ≠ some (.tup xs)) ∧ (∀ o u, H p ≠ some (.frz o u)) ∧ (∀ xs, H q ≠ some (.tup xs)) ∧ (∀ o u, H q ≠ some (.frz o u))
/-- all but the draws stays -/
def Kp (p q : Addr) (H H' : Hp) : Prop := ∀ b o, H b = some o → b ≠ p → b ≠ q → H' b = some o
theorem Kp.refl {p q : Addr} {H : Hp} : Kp p q H H := fun _ _ h _ _ => h
theorem Kp.new {p q a : Addr} {H H' : Hp} {o : HO} (h : Kp p q H H') (ha : H' a = none) : Kp p q H (upd H' a o) := fun b x e n1 n2 => by
  have := h b x e n1 n2
  rw [upd_ne (ne_of_none this ha)]; exact this
theorem Kp.at {p q a : Addr} {H H' : Hp} {o : HO} (h : Kp p q H H') (ha : a = p ∨ a = q) : Kp p q H (upd H' a o) := fun b x e n1 n2 => by
  rw [upd_ne (by rcases ha with rfl | rfl <;> assumption)]; exact h b x e n1 n2
/-- a draw's def: what is to be shown of its body -/
theorem draw_sp {K : Kw} {T : DkT} {vs : List V} {H : Hp} {Q : VK} {E : XK} (hs : DkSoft T) (h : spZ K T 2 cDraw vs H Q E) : ∃ p q many, vs = [.ref p, .int many] ∧ p ≠ q ∧ T.P H p q ∧ many < 4611686018427387904 ∧
    ∀ H' r, Kp p q H H' → T.P H' p q → 0 ≤ r → (r < many ∨ (r = 0 ∧ many < 2)) → Q (.int r) H' := by
  obtain ⟨hl, F, dk, rs, QQ, hF, hd, ha, ⟨many, rfl, hb, hq⟩, kk⟩ := h
  match vs, ha with
  | [v1, v2], ⟨⟨p, q, e1, e2⟩, h2, _⟩ =>
    have h2 : Rep K F H v2 (.int many) := h2
    have e3 := h2.int_of
    subst e2 e3
    obtain ⟨k1, k2, k3, k4, _⟩ := hd.all p q e1
    refine ⟨p, q, many, rfl, k1, k2, hb, fun H' r kp hP h0 h1 => kk _ H' (.val (.int r)) ⟨F, fun a h => .inl h, fun a h => ?_, fun a o e n => ?_, fun p' q' e => ?_, .int r⟩ (hq r h0 h1)⟩
    · obtain ⟨o, ho⟩ := Option.isSome_iff_exists.mp (hF a h)
      rw [kp a o ho (fun z => k3 (by rw [← z]; exact h)) (fun z => k4 (by rw [← z]; exact h))]
      rfl
    · obtain ⟨n1, n2⟩ := n p q e1
      exact kp a o e n1 n2
    · rw [e1] at e
      cases e
      obtain ⟨s1, s2, s3, s4, s5, s6⟩ := hs.all hP
      exact ⟨hP, s3, s4, s5, s6, s1, s2⟩
/-- a def by a hand proof is a callee -/
theorem callee_ok {P : Program} {w : World} {K : Kw} {mg : Str → Option Value} {base : Heap} {T : DkT} {k : Nat} {x : Str} {f : Addr} {fd : FuncData} {ps : List Str} {ct : Ct} (F : FnOk P w K.K mg base CX0 k f fd ps (spZ K T ps.length ct)) (hm : mg x = some (.ref f)) (hk : PySem.W.keepIn K.K (.ref f) = true) (hp : Plain fd ps) :
    Callee P w K mg base T k ⟨x, ps, ct⟩ := ⟨f, fd, .of F, hm, hk, hp⟩
theorem plain_fun {K : PySem.W.Frag} {x qual : Str} {st : Stmt} {f : Addr} {fd : FuncData} {ps : List Str} (F : Fun K x qual st f fd) (h1 : (defArgs st).posonlyargs = []) (h2 : (defArgs st).args.map (·.arg) = ps) (h3 : (defArgs st).vararg = none) (h4 : (defArgs st).kwonlyargs = []) (h5 : (defArgs st).kwarg = none) : Plain fd ps := by
  obtain ⟨oc, od, kV, doc, pm, an, cdv, ct, osl, rfl, _⟩ := F.ex
  exact ⟨h1, h2, h3, h4, h5, rfl⟩
theorem Callee.mono {P : Program} {w : World} {K : Kw} {mg : Str → Option Value} {base : Heap} {T : DkT} {j k : Nat} {fi : FnI} (h : Callee P w K mg base T j fi) (hk : j ≤ k) : Callee P w K mg base T k fi := by
  obtain ⟨f, fd, F, r⟩ := h.ex
  exact ⟨f, fd, F.mono hk, r⟩
theorem mem_none {α : Type} {P : α → Prop} : ∀ x ∈ ([] : List α), P x := fun _ m => nomatch m
end Z
end
section
set_option Elab.async false
set_option linter.all false
set_option maxRecDepth 100000
set_option maxHeartbeats 1000000
/-! Reading loops. -/
namespace Z
open PySem PySem.Spec L2
theorem ltT {n m : Nat} (h : Nat.ble (n + 1) m = true := by rfl) : n < m := Nat.le_of_ble_eq_true h
theorem leT {n m : Nat} (h : Nat.ble n m = true := by rfl) : n ≤ m := Nat.le_of_ble_eq_true h
/-- a slot that holds data, or nothing -/
def oV (y : Option D) : Option RV := y.map .val
theorem oV_lck {y : Option D} : RV.isLck (some (oV y)) = false := by cases y <;> rfl
theorem mulR {i j : Int} (h : -18446744073709551616 < j ∧ j < 18446744073709551616) : MulOk i j := .inl (.inr h)
theorem mulL {i j : Int} (h : -18446744073709551616 < i ∧ i < 18446744073709551616) : MulOk i j := .inl (.inl h)
theorem divS {i j : Int} (h : 0 < j ∧ j < 4611686018427387904) : DivOk i j := ⟨h.1, by
  have h3 : j.natAbs < 2 ^ 62 := by omega
  have := (Nat.log2_lt (by omega)).mpr h3
  omega⟩
/-- a for loop by the turn -/
theorem loop_ix {zt : ZG} {b : ZS} {E : Zend} (Inv : Nat → Sto → Prop) {ds : List D} {δ : Sto} (h0 : Inv 0 δ)
    (hs : ∀ (i : Nat) (d : D) (δ : Sto) (K : Sto → Prop), ds[i]? = some d → Inv i δ → (∀ δ', Inv (i + 1) δ' → K δ') → zt d δ fun δ1 => b { nx := K, ct := K, bk := E.nx, rt := E.rt } δ1) (he : ∀ δ, Inv ds.length δ → E.nx δ) : zLoop zt b E ds δ := by
  have all : ∀ (l : List D) (i : Nat) (δ : Sto), ds.drop i = l → i ≤ ds.length → Inv i δ → zLoop zt b E l δ := by
    intro l
    induction l with
    | nil =>
      intro i δ hd hi hI
      have : i = ds.length := by
        have := congrArg List.length hd
        rw [List.length_drop] at this
        simp at this
        omega
      subst this
      exact he δ hI
    | cons d l ih =>
      intro i δ hd hi hI
      have hlt : i < ds.length := by
        have := congrArg List.length hd
        rw [List.length_drop, List.length_cons] at this
        omega
      rw [List.drop_eq_getElem_cons hlt] at hd
      injection hd with e1 e2
      refine hs i d δ _ ?_ hI fun δ' h' => ih (i + 1) δ' e2 hlt h'
      rw [List.getElem?_eq_getElem hlt, e1]
  exact all ds 0 δ List.drop_zero (Nat.zero_le _) h0
theorem rg_len {lo c : Int} {n : Nat} : (rgD lo c n).length = n := by unfold rgD; simp
/-- over a range -/
theorem loop_rg {zt : ZG} {b : ZS} {E : Zend} (Inv : Nat → Sto → Prop) {lo c : Int} {n : Nat} {δ : Sto} (h0 : Inv 0 δ)
    (hs : ∀ (i : Nat) (δ : Sto) (K : Sto → Prop), i < n → Inv i δ → (∀ δ', Inv (i + 1) δ' → K δ') → zt (.int (lo + i * c)) δ fun δ1 => b { nx := K, ct := K, bk := E.nx, rt := E.rt } δ1) (he : ∀ δ, Inv n δ → E.nx δ) : zLoop zt b E (rgD lo c n) δ := by
  refine loop_ix Inv h0 (fun i d δ K hd hI hK => ?_) (by rw [rg_len]; exact he)
  obtain ⟨h1, rfl⟩ := rgD_get hd
  exact hs i δ K h1 hI hK
/-- while, by a measure -/
theorem while_ix {u : ZB} {b : ZS} {E : Zend} {δ : Sto} (Inv : Nat → Sto → Prop) (m : Nat) (h0 : Inv m δ)
    (hs : ∀ (m : Nat) (δ : Sto) (K : Sto → Prop), Inv m δ → (∀ m' δ', m' < m → Inv m' δ' → K δ') → u δ fun x δ1 => if x = true then b { nx := K, ct := K, bk := E.nx, rt := E.rt } δ1 else E.nx δ1) : zWhile u b E δ := by
  have all : ∀ (n m : Nat) (δ : Sto), m < n → Inv m δ → zWhl u b E n δ := by
    intro n
    induction n with
    | zero => intro m δ h _; omega
    | succ n ih => intro m δ h hI; exact hs m δ _ hI fun m' δ' hm h' => ih m' δ' (by omega) h'
  exact ⟨m + 1, all (m + 1) m δ (Nat.lt_succ_self m) h0⟩
/-- a comprehension by the turn -/
theorem lc_ix {vs : List Nat} {zt : ZG} {tt : ZB} {te : ZT} {Q : List D → Sto → Prop} (Inv : Nat → List D → Sto → Prop) {ds : List D} {δ : Sto} (h0 : Inv 0 [] δ)
    (hs : ∀ (i : Nat) (d : D) (acc : List D) (δ : Sto) (K : List D → Sto → Prop), ds[i]? = some d → Inv i acc δ → (∀ acc' δ', Inv (i + 1) acc' δ' → K acc' δ') →
      zt d δ fun δ1 => tt δ1 fun b δ2 => if b = true then te δ2 fun r δ3 => zSettle r δ3 fun y δ4 => acc.length < lineN ∧ noLck δ4 vs = true ∧ K (acc ++ [y]) (wipeD δ4 vs) else noLck δ2 vs = true ∧ K acc (wipeD δ2 vs))
    (he : ∀ acc δ, Inv ds.length acc δ → Q acc δ) : zLcL vs zt tt te ds [] δ Q := by
  have all : ∀ (l : List D) (i : Nat) (acc : List D) (δ : Sto), ds.drop i = l → i ≤ ds.length → Inv i acc δ → zLcL vs zt tt te l acc δ Q := by
    intro l
    induction l with
    | nil =>
      intro i acc δ hd hi hI
      have : i = ds.length := by
        have := congrArg List.length hd
        rw [List.length_drop] at this
        simp at this
        omega
      subst this
      exact he acc δ hI
    | cons d l ih =>
      intro i acc δ hd hi hI
      have hlt : i < ds.length := by
        have := congrArg List.length hd
        rw [List.length_drop, List.length_cons] at this
        omega
      rw [List.drop_eq_getElem_cons hlt] at hd
      injection hd with e1 e2
      refine hs i d acc δ (fun acc δ => zLcL vs zt tt te l acc δ Q) ?_ hI fun acc' δ' h' => ih (i + 1) acc' δ' e2 hlt h'
      rw [List.getElem?_eq_getElem hlt, e1]
  exact all ds 0 [] δ List.drop_zero (Nat.zero_le _) h0
/-- where the slots come back as they were: each item by itself -/
theorem lc_map {vs : List Nat} {zt : ZG} {tt : ZB} {te : ZT} {Q : List D → Sto → Prop} (f : D → Option D) {ds : List D} {δ : Sto} (hl : ds.length ≤ lineN)
    (hs : ∀ (d : D) (acc : List D) (K : List D → Sto → Prop), d ∈ ds → acc.length < lineN → (∀ y, f d = some y → K (acc ++ [y]) δ) → (f d = none → K acc δ) →
      zt d δ fun δ1 => tt δ1 fun b δ2 => if b = true then te δ2 fun r δ3 => zSettle r δ3 fun y δ4 => acc.length < lineN ∧ noLck δ4 vs = true ∧ K (acc ++ [y]) (wipeD δ4 vs) else noLck δ2 vs = true ∧ K acc (wipeD δ2 vs))
    (he : Q (ds.filterMap f) δ) : zLcL vs zt tt te ds [] δ Q := by
  have flen : ∀ l : List D, (l.filterMap f).length ≤ l.length := fun l => List.length_filterMap_le _ _
  refine lc_ix (fun i acc δ' => acc = (ds.take i).filterMap f ∧ δ' = δ) ⟨rfl, rfl⟩ (fun i d acc δ' K hd hI hK => ?_) (fun acc δ' hI => ?_)
  · obtain ⟨rfl, rfl⟩ := hI
    have hi : i < ds.length := (List.getElem?_eq_some_iff.mp hd).1
    have e : (ds.take (i + 1)).filterMap f = (ds.take i).filterMap f ++ [d].filterMap f := by
      rw [List.take_add_one, hd, List.filterMap_append]; rfl
    have hlen := flen (ds.take i)
    rw [List.length_take] at hlen
    refine hs d _ K (List.mem_of_getElem? hd) (by omega) (fun y hy => hK _ _ ⟨?_, rfl⟩) (fun hn => hK _ _ ⟨?_, rfl⟩)
    · rw [e, List.filterMap_cons, hy]; rfl
    · rw [e, List.filterMap_cons, hn]; simp
  · obtain ⟨rfl, rfl⟩ := hI
    rw [List.take_length]
    exact he

theorem all_some {α β : Type} (f : α → β) : ∀ l : List α, l.filterMap (fun d => some (f d)) = l.map f
  | [] => rfl
  | a :: l => by rw [List.filterMap_cons, List.map_cons]; simp only [all_some f l]
/-- every item, as it is changed -/
theorem lc_each {vs : List Nat} {zt : ZG} {tt : ZB} {te : ZT} {Q : List D → Sto → Prop} (f : D → D) {ds : List D} {δ : Sto} (hl : ds.length ≤ lineN)
    (hs : ∀ (d : D) (acc : List D) (K : List D → Sto → Prop), d ∈ ds → acc.length < lineN → K (acc ++ [f d]) δ →
      zt d δ fun δ1 => tt δ1 fun b δ2 => if b = true then te δ2 fun r δ3 => zSettle r δ3 fun y δ4 => acc.length < lineN ∧ noLck δ4 vs = true ∧ K (acc ++ [y]) (wipeD δ4 vs) else noLck δ2 vs = true ∧ K acc (wipeD δ2 vs))
    (he : Q (ds.map f) δ) : zLcL vs zt tt te ds [] δ Q :=
  lc_map (fun d => some (f d)) hl (fun d acc K hd ha h1 _ => hs d acc K hd ha (h1 _ rfl)) (by rw [all_some]; exact he)
theorem rgD_map (lo : Int) (n : Nat) : rgD lo 1 n = (List.range n).map fun (k : Nat) => PyData.int (lo + k) := by
  unfold rgD
  congr 1
  funext k
  rw [Int.mul_one]
theorem rg_mem {lo : Int} {n : Nat} {d : D} (h : d ∈ rgD lo 1 n) : ∃ i : Nat, i < n ∧ d = .int (lo + i) := by
  rw [rgD_map] at h
  obtain ⟨i, hi, rfl⟩ := List.mem_map.mp h
  exact ⟨i, List.mem_range.mp hi, rfl⟩
/-! ### how long a text is shown -/
theorem text_len : ∀ (ts : List Str) (k : Nat) (acc : Str), (textFrom k acc ts).length ≤ acc.length + (ts.map fun t => t.length + 2).sum
  | [], k, acc => by show acc.length ≤ _; omega
  | t :: r, k, acc => by
    have ih := text_len r (k + 1) (acc ++ (if k > 0 then ", " else "" : String) ++ t)
    have h2 : ((if k > 0 then ", " else "" : String) : Str).length ≤ 2 := by
      split
      · decide +kernel
      · decide +kernel
    have e : (textFrom k acc (t :: r)) = textFrom (k + 1) (acc ++ (if k > 0 then ", " else "" : String) ++ t) r := rfl
    rw [e]
    rw [strLen_append, strLen_append] at ih
    rw [List.map_cons, List.sum_cons]
    omega
theorem join_len : ∀ ts : List Str, (Str.join ", " ts).length ≤ (ts.map fun t => t.length + 2).sum
  | [] => Nat.le_refl _
  | [x] => by show x.length ≤ _; simp
  | x :: y :: r => by
    have ih := join_len (y :: r)
    have e : (Str.join ", " (x :: y :: r)) = x ++ ", " ++ Str.join ", " (y :: r) := rfl
    rw [e, strLen_append, strLen_append, List.map_cons, List.sum_cons]
    have h2 : ((", " : String) : Str).length = 2 := by decide +kernel
    omega
mutual
def shw : D → Nat
  | .none => 4
  | .bool _ => 5
  | .int i => i.natAbs.log2 + 3
  | .str s => (PyData.str s).shown.length
  | .list xs => shws xs + 2
  | .tuple xs => shws xs + 3
  | .dict _ => 0
def shws : List D → Nat
  | [] => 0
  | x :: xs => shw x + 2 + shws xs
end
mutual
/-- no dicts -/
def nums : D → Bool
  | .none => true
  | .bool _ => true
  | .int i => decide (i.natAbs.log2 < 1920)
  | .str s => PyData.strOk s && PyData.showable (.str s)
  | .list xs => numsL xs
  | .tuple xs => numsL xs
  | .dict _ => false
def numsL : List D → Bool
  | [] => true
  | x :: xs => nums x && numsL xs
end
mutual
theorem shown_le : ∀ d : D, nums d = true → d.shown.length ≤ shw d
  | .none, _ => by decide +kernel
  | .bool b, _ => by cases b <;> decide +kernel
  | .int i, h => by
    have := int_text_length_le (a := i) (k := i.natAbs.log2 + 1) (Nat.succ_pos _) (Nat.lt_succ_self _)
    show (Str.ofString (toString i)).length ≤ _
    unfold shw
    have e : (Str.ofString (toString i)).length = (toString i).length := by
      rw [Str.ofString_eq_toList]
      show (((toString i).toList.map Char.toNat).toArray).size = _
      rw [List.size_toArray, List.length_map]; rfl
    omega
  | .str _, _ => Nat.le_refl _
  | .dict _, h => by simp [nums] at h
  | .list xs, h => by
    have ih := shownL_le xs (by simpa [nums] using h)
    show (listText (PyData.shownAll xs)).length ≤ shws xs + 2
    unfold listText
    rw [strLen_append]
    have h1 := text_len (PyData.shownAll xs) 0 "["
    have h2 : (("[" : String) : Str).length = 1 := by decide +kernel
    have h3 : (("]" : String) : Str).length = 1 := by decide +kernel
    omega
  | .tuple xs, h => by
    have ih := shownL_le xs (by simpa [nums] using h)
    show (tupleText (PyData.shownAll xs)).length ≤ shws xs + 3
    unfold tupleText
    rw [strLen_append, strLen_append]
    have h1 := join_len (PyData.shownAll xs)
    have h2 : (("(" : String) : Str).length = 1 := by decide +kernel
    have h3 : ((if (PyData.shownAll xs).length == 1 then ",)" else ")" : String) : Str).length ≤ 2 := by
      split
      · decide +kernel
      · decide +kernel
    omega
theorem shownL_le : ∀ xs : List D, numsL xs = true → ((PyData.shownAll xs).map fun t => t.length + 2).sum ≤ shws xs
  | [], _ => Nat.le_refl _
  | x :: xs, h => by
    simp only [numsL, Bool.and_eq_true] at h
    have h1 := shown_le x h.1
    have h2 := shownL_le xs h.2
    show ((x.shown :: PyData.shownAll xs).map fun t => t.length + 2).sum ≤ shw x + 2 + shws xs
    rw [List.map_cons, List.sum_cons]
    omega
end
mutual
theorem nums_lay : ∀ d : D, nums d = true → d.canLay0 = true ∧ d.showable = true
  | .none, _ => ⟨rfl, rfl⟩
  | .bool b, _ => ⟨rfl, rfl⟩
  | .int i, h => ⟨rfl, by simpa [nums, PyData.showable] using h⟩
  | .str s, h => by
    simp only [nums, Bool.and_eq_true] at h
    exact ⟨by rw [PyData.canLay0]; exact h.1, h.2⟩
  | .dict _, h => by simp [nums] at h
  | .list xs, h => numsL_lay xs (by simpa [nums] using h)
  | .tuple xs, h => numsL_lay xs (by simpa [nums] using h)
theorem numsL_lay : ∀ xs : List D, numsL xs = true → PyData.canLayAll0 xs = true ∧ PyData.showableAll xs = true
  | [], _ => ⟨rfl, rfl⟩
  | x :: xs, h => by
    simp only [numsL, Bool.and_eq_true] at h
    obtain ⟨h1, h2⟩ := nums_lay x h.1
    obtain ⟨h3, h4⟩ := numsL_lay xs h.2
    exact ⟨by simp [PyData.canLayAll0, h1, h3], by simp [PyData.showableAll, h2, h4]⟩
end
theorem reprOk_of {d : D} (h1 : nums d = true) (h2 : d.depth ≤ 64) (h3 : shw d ≤ lineN) : ReprOk d := by
  obtain ⟨q1, q2⟩ := nums_lay d h1
  exact .inl ⟨by unfold SeqAt.shaped; rw [q1, decide_eq_true h2]; rfl, q2, Nat.le_trans (shown_le d h1) h3⟩
/-- over things that are shown as data: those that are taken, as they are changed -/
theorem lc_sel {α : Type} (l : List α) (g f : α → D) (p : α → Bool) {vs : List Nat} {zt : ZG} {tt : ZB} {te : ZT} {Q : List D → Sto → Prop} {δ : Sto} (hl : l.length ≤ lineN)
    (hs : ∀ (a : α) (acc : List D) (K : List D → Sto → Prop), a ∈ l → acc.length < lineN → (p a = true → K (acc ++ [f a]) δ) → (p a = false → K acc δ) →
      zt (g a) δ fun δ1 => tt δ1 fun b δ2 => if b = true then te δ2 fun r δ3 => zSettle r δ3 fun y δ4 => acc.length < lineN ∧ noLck δ4 vs = true ∧ K (acc ++ [y]) (wipeD δ4 vs) else noLck δ2 vs = true ∧ K acc (wipeD δ2 vs))
    (he : Q ((l.filter p).map f) δ) : zLcL vs zt tt te (l.map g) [] δ Q := by
  refine lc_ix (fun i acc δ' => acc = ((l.take i).filter p).map f ∧ δ' = δ) ⟨rfl, rfl⟩ (fun i d acc δ' K hd hI hK => ?_) (fun acc δ' hI => ?_)
  · obtain ⟨rfl, rfl⟩ := hI
    rw [List.getElem?_map] at hd
    obtain ⟨a, ha, rfl⟩ := Option.map_eq_some_iff.mp hd
    have hi : i < l.length := (List.getElem?_eq_some_iff.mp ha).1
    have hlen := List.length_filter_le p (l.take i)
    rw [List.length_take] at hlen
    have e : (l.take (i + 1)).filter p = (l.take i).filter p ++ [a].filter p := by
      rw [List.take_add_one, ha, List.filter_append]; rfl
    refine hs a _ K (List.mem_of_getElem? ha) (by rw [List.length_map]; omega) (fun y => hK _ _ ⟨?_, rfl⟩) (fun y => hK _ _ ⟨?_, rfl⟩)
    · rw [e, List.filter_cons_of_pos y, List.map_append]; rfl
    · rw [e, List.filter_cons_of_neg (by simp [y]), List.map_append]; simp
  · obtain ⟨rfl, rfl⟩ := hI
    rw [List.length_map, List.take_length]
    exact he
theorem lc_over {α : Type} (l : List α) (g f : α → D) {vs : List Nat} {zt : ZG} {tt : ZB} {te : ZT} {Q : List D → Sto → Prop} {δ : Sto} (hl : l.length ≤ lineN)
    (hs : ∀ (a : α) (acc : List D) (K : List D → Sto → Prop), a ∈ l → acc.length < lineN → K (acc ++ [f a]) δ →
      zt (g a) δ fun δ1 => tt δ1 fun b δ2 => if b = true then te δ2 fun r δ3 => zSettle r δ3 fun y δ4 => acc.length < lineN ∧ noLck δ4 vs = true ∧ K (acc ++ [y]) (wipeD δ4 vs) else noLck δ2 vs = true ∧ K acc (wipeD δ2 vs))
    (he : Q (l.map f) δ) : zLcL vs zt tt te (l.map g) [] δ Q :=
  lc_sel l g f (fun _ => true) hl (fun a acc K ha hc h1 _ => hs a acc K ha hc (h1 rfl)) (by rw [List.filter_eq_self.mpr fun _ _ => rfl]; exact he)
/-- a for loop over things that are shown as data -/
theorem loop_over {α : Type} (l : List α) (g : α → D) {zt : ZG} {b : ZS} {E : Zend} (Inv : Nat → Sto → Prop) {δ : Sto} (h0 : Inv 0 δ)
    (hs : ∀ (i : Nat) (a : α) (δ : Sto) (K : Sto → Prop), l[i]? = some a → Inv i δ → (∀ δ', Inv (i + 1) δ' → K δ') → zt (g a) δ fun δ1 => b { nx := K, ct := K, bk := E.nx, rt := E.rt } δ1) (he : ∀ δ, Inv l.length δ → E.nx δ) : zLoop zt b E (l.map g) δ := by
  refine loop_ix Inv h0 (fun i d δ K hd hI hK => ?_) (by rw [List.length_map]; exact he)
  rw [List.getElem?_map] at hd
  obtain ⟨a, ha, rfl⟩ := Option.map_eq_some_iff.mp hd
  exact hs i a δ K ha hI hK
end Z
end
section
set_option Elab.async false
set_option linter.all false
set_option maxRecDepth 100000
set_option maxHeartbeats 1000000
/-! Rows of natural numbers as data. -/
namespace Z
open PySem PySem.Spec L2
def nI (l : List Nat) : List D := l.map fun (n : Nat) => .int n
def nT (l : List Nat) : D := .tuple (nI l)
def nL (l : List Nat) : D := .list (nI l)
theorem nI_len {l : List Nat} : (nI l).length = l.length := List.length_map _
theorem nI_mem {l : List Nat} {d : D} (h : d ∈ nI l) : ∃ n : Nat, n ∈ l ∧ d = .int n := by
  obtain ⟨n, hn, rfl⟩ := List.mem_map.mp h
  exact ⟨n, hn, rfl⟩
theorem nI_get {l : List Nat} {i : Nat} (h : i < l.length) : (nI l)[i]? = some (.int (l.getD i 0 : Nat)) := by
  unfold nI
  rw [List.getElem?_map, List.getD_eq_getElem?_getD, List.getElem?_eq_getElem h]; rfl
theorem nI_at {l : List Nat} {i : Nat} (h : i < l.length) : atI (nI l) (i : Int) = some (.int (l.getD i 0 : Nat)) := by
  unfold atI ixN
  simp [nI_len, h, nI]
theorem nI_append {a b : List Nat} : nI (a ++ b) = nI a ++ nI b := List.map_append
theorem rgDs_nI {n : Nat} : rgDs 0 (n : Int) = nI (List.range n) := by
  unfold rgDs nI
  simp
theorem rgD_nI {n : Nat} : rgD 0 1 n = nI (List.range n) := by
  rw [rgD_map]
  unfold nI
  simp
theorem eqv_nat {a b : Nat} : PyData.eqv (.int (a : Int)) (.int (b : Int)) = decide (a = b) := by
  by_cases h : a = b
  · subst h; simp [PyData.eqv]
  · rw [decide_eq_false h]
    simp [PyData.eqv]; omega
theorem isIn_nI (k : Nat) : ∀ l : List Nat, isIn (.int (k : Int)) (nI l) = l.contains k
  | [] => rfl
  | a :: l => by
    have ih := isIn_nI k l
    have e : isIn (.int (k : Int)) (nI (a :: l)) = (PyData.eqv (.int (a : Int)) (.int (k : Int)) || isIn (.int (k : Int)) (nI l)) := rfl
    rw [e, ih, List.contains_cons, eqv_nat]
    congr 1
    by_cases h : a = k
    · subst h; simp
    · rw [decide_eq_false h]; exact (beq_eq_false_iff_ne.mpr (Ne.symm h)).symm
theorem lay_nI : ∀ l : List Nat, PyData.canLayAll0 (nI l) = true
  | [] => rfl
  | a :: l => lay_nI l
theorem dep_nI : ∀ l : List Nat, PyData.depthAll (nI l) = 0
  | [] => rfl
  | a :: l => by
    have e : nI (a :: l) = .int (a : Int) :: nI l := rfl
    rw [e, PyData.depthAll, dep_nI l]; rfl
theorem shaped_nT (l : List Nat) : SeqAt.shaped (nT l) = true := by
  unfold SeqAt.shaped nT
  rw [PyData.canLay0, PyData.depth, lay_nI, dep_nI]; rfl
theorem shaped_nL (l : List Nat) : SeqAt.shaped (nL l) = true := by
  unfold SeqAt.shaped nL
  rw [PyData.canLay0, PyData.depth, lay_nI, dep_nI]; rfl
theorem eqvAll_nI : ∀ a b : List Nat, PyData.eqvAll (nI a) (nI b) = decide (a = b)
  | [], [] => rfl
  | [], _ :: _ => rfl
  | _ :: _, [] => rfl
  | x :: a, y :: b => by
    have e : PyData.eqvAll (nI (x :: a)) (nI (y :: b)) = (PyData.eqv (.int (x : Int)) (.int (y : Int)) && PyData.eqvAll (nI a) (nI b)) := rfl
    rw [e, eqv_nat, eqvAll_nI a b]
    by_cases h1 : x = y
    · subst h1; simp
    · simp [h1]
theorem eqv_nT (a b : List Nat) : PyData.eqv (nT a) (nT b) = decide (a = b) := eqvAll_nI a b
theorem eqv_nL (a b : List Nat) : PyData.eqv (nL a) (nL b) = decide (a = b) := eqvAll_nI a b
end Z
end
section
set_option Elab.async false
set_option linter.all false
set_option maxRecDepth 100000
set_option maxHeartbeats 1000000
/-! What can be shown and compared: depth and width, told part by part. -/
namespace Z
open PySem PySem.Spec L2
structure OkR (k w : Nat) (d : D) : Prop where
  nu : nums d = true
  dp : d.depth ≤ k
  sh : shw d ≤ w
theorem OkR.repr {k w : Nat} {d : D} (h : OkR k w d) (hk : k ≤ 64) (hw : w ≤ lineN) : ReprOk d := reprOk_of h.nu (Nat.le_trans h.dp hk) (Nat.le_trans h.sh hw)
theorem OkR.shaped {k w : Nat} {d : D} (h : OkR k w d) (hk : k ≤ 64) : SeqAt.shaped d = true := by
  unfold SeqAt.shaped; rw [(nums_lay d h.nu).1, decide_eq_true (Nat.le_trans h.dp hk)]; rfl
theorem OkR.le {k w k' w' : Nat} {d : D} (h : OkR k w d) (hk : k ≤ k') (hw : w ≤ w') : OkR k' w' d := ⟨h.nu, Nat.le_trans h.dp hk, Nat.le_trans h.sh hw⟩
theorem numsL_all : ∀ {ds : List D}, (∀ d ∈ ds, nums d = true) → numsL ds = true
  | [], _ => rfl
  | d :: ds, h => by rw [numsL, h d (.head _), numsL_all fun x m => h x (.tail _ m)]; rfl
theorem dep_all {k : Nat} : ∀ {ds : List D}, (∀ d ∈ ds, d.depth ≤ k) → PyData.depthAll ds ≤ k
  | [], _ => Nat.zero_le _
  | d :: ds, h => by
    have h1 := h d (.head _)
    have h2 := dep_all (k := k) (ds := ds) fun x m => h x (.tail _ m)
    rw [PyData.depthAll]
    exact Nat.max_le.mpr ⟨h1, h2⟩
theorem shws_all {w : Nat} : ∀ {ds : List D}, (∀ d ∈ ds, shw d ≤ w) → shws ds ≤ ds.length * (w + 2)
  | [], _ => Nat.zero_le _
  | d :: ds, h => by
    have h1 := h d (.head _)
    have h2 := shws_all (w := w) (ds := ds) fun x m => h x (.tail _ m)
    rw [shws, List.length_cons, Nat.succ_mul]
    omega
theorem okR_tuple {k w : Nat} {ds : List D} (h : ∀ d ∈ ds, OkR k w d) : OkR (k + 1) (ds.length * (w + 2) + 3) (.tuple ds) :=
  ⟨by rw [nums]; exact numsL_all fun d m => (h d m).nu, by rw [PyData.depth]; exact Nat.succ_le_succ (dep_all fun d m => (h d m).dp), by rw [shw]; have := shws_all fun d m => (h d m).sh; omega⟩
theorem okR_list {k w : Nat} {ds : List D} (h : ∀ d ∈ ds, OkR k w d) : OkR (k + 1) (ds.length * (w + 2) + 2) (.list ds) :=
  ⟨by rw [nums]; exact numsL_all fun d m => (h d m).nu, by rw [PyData.depth]; exact Nat.succ_le_succ (dep_all fun d m => (h d m).dp), by rw [shw]; have := shws_all fun d m => (h d m).sh; omega⟩
theorem okR_int {i : Int} (h : i.natAbs.log2 < 1000) : OkR 0 1002 (.int i) := ⟨by rw [nums]; exact decide_eq_true (by omega), Nat.le_refl _, by rw [shw]; omega⟩
theorem log2_lt {n k : Nat} (h : n < 2 ^ k) (hk : 0 < k) : n.log2 < k := by
  by_cases z : n = 0
  · subst z; rw [Nat.log2_zero]; exact hk
  · exact (Nat.log2_lt z).mpr h
theorem okR_nat {n : Nat} (h : n < 1000000) : OkR 0 23 (.int (n : Int)) := by
  have := log2_lt (n := n) (k := 20) (by omega) (by decide)
  exact ⟨by rw [nums]; exact decide_eq_true (by rw [Int.natAbs_natCast]; omega), Nat.le_refl _, by rw [shw, Int.natAbs_natCast]; omega⟩
theorem okR_nI {l : List Nat} (h : ∀ x ∈ l, x < 1000000) : ∀ d ∈ nI l, OkR 0 23 d := fun d m => by
  obtain ⟨n, hn, rfl⟩ := nI_mem m
  exact okR_nat (h n hn)
theorem okR_nT {l : List Nat} (h : ∀ x ∈ l, x < 1000000) : OkR 1 (l.length * 25 + 3) (nT l) := by
  have := okR_tuple (okR_nI h)
  rwa [nI_len] at this
theorem okR_nL {l : List Nat} (h : ∀ x ∈ l, x < 1000000) : OkR 1 (l.length * 25 + 2) (nL l) := by
  have := okR_list (okR_nI h)
  rwa [nI_len] at this
theorem okR_two {k w : Nat} {a b : D} (ha : OkR k w a) (hb : OkR k w b) : OkR (k + 1) (2 * (w + 2) + 2) (.list [a, b]) := okR_list fun d m => by
  rcases List.mem_cons.mp m with rfl | m
  · exact ha
  · rw [List.mem_singleton.mp m]; exact hb
theorem eqv_self_bool (b : Bool) : (!b) = true → b = true → False := fun h1 h2 => by rw [h2] at h1; cases h1
theorem en_nI (l : List Nat) : enD (nI l) = (List.range l.length).map fun t => .tuple [.int (t : Int), .int (l.getD t 0 : Nat)] := by
  apply List.ext_getElem?
  intro i
  unfold enD nI
  by_cases h : i < l.length
  · rw [List.getElem?_map, List.getElem?_zipIdx, List.getElem?_map, List.getElem?_map, List.getElem?_range h, List.getElem?_eq_getElem h]
    simp [List.getD_eq_getElem?_getD, List.getElem?_eq_getElem h]
  · rw [List.getElem?_eq_none (by simp; omega), List.getElem?_eq_none (by simp; omega)]
theorem seqIx {r : Int} {n : Nat} (h0 : 0 ≤ r) (h1 : r < n) : seqIndex? r n = some r.toNat := by
  unfold seqIndex?
  simp [Int.not_lt.mpr h0, h1]
theorem nI_erase : ∀ {l : List Nat} {k : Nat}, (nI l).eraseIdx k = nI (l.eraseIdx k)
  | [], _ => rfl
  | _ :: _, 0 => rfl
  | a :: l, k + 1 => congrArg (PyData.int (a : Int) :: ·) (nI_erase (l := l) (k := k))
theorem nI_set {l : List Nat} {k x : Nat} : (nI l).set k (.int (x : Int)) = nI (l.set k x) := by
  unfold nI; rw [List.map_set]
theorem ixN_nat {n i : Nat} (h : i < n) : ixN n (i : Int) = some i := by
  unfold ixN
  rw [if_pos (by omega), if_pos (by omega), Int.toNat_natCast]
theorem nI_repl (k : Nat) : ∀ n : Nat, (List.replicate n [PyData.int (k : Int)]).flatten = nI (List.replicate n k)
  | 0 => rfl
  | n + 1 => by rw [List.replicate_succ, List.flatten_cons, nI_repl k n, List.replicate_succ]; rfl
theorem eqv_nL_nil (l : List Nat) : PyData.eqv (nL l) (.list []) = decide (l = []) := eqv_nL l []
theorem getD_mem {l : List Nat} {i : Nat} (h : i < l.length) : l.getD i 0 ∈ l := by
  rw [List.getD_eq_getElem?_getD, List.getElem?_eq_getElem h]
  exact List.getElem_mem h
theorem filter_no {α : Type} : ∀ l : List α, l.filter (fun _ => false) = []
  | [] => rfl
  | _ :: l => filter_no l
end Z
end
section
set_option Elab.async false
set_option linter.all false
set_option maxRecDepth 100000
set_option maxHeartbeats 1000000
namespace Z
open PySem PySem.Spec L2
/-! Maps of few things as rows of numbers: one behind another, powers. -/
def beh (one other : List Nat) : List Nat := one.map fun t => other.getD t 0
def inR (n : Nat) (l : List Nat) : Prop := ∀ x ∈ l, x < n
theorem beh_len {a b : List Nat} : (beh a b).length = a.length := List.length_map _
theorem beh_inR {n : Nat} {a b : List Nat} (ha : inR b.length a) (hb : inR n b) : inR n (beh a b) := fun x m => by
  unfold beh at m
  obtain ⟨t, ht, rfl⟩ := List.mem_map.mp m
  exact hb _ (getD_mem (ha t ht))
theorem beh_get {a b : List Nat} {i : Nat} (h : i < a.length) : (beh a b).getD i 0 = b.getD (a.getD i 0) 0 := by
  unfold beh
  rw [List.getD_eq_getElem?_getD, List.getElem?_map, List.getD_eq_getElem?_getD (l := a), List.getElem?_eq_getElem h]; rfl
theorem beh_assoc {a b c : List Nat} (h : inR b.length a) : beh (beh a b) c = beh a (beh b c) := by
  unfold beh
  rw [List.map_map]
  refine List.map_congr_left fun t ht => ?_
  exact (beh_get (h t ht)).symm
theorem inR_range (n : Nat) : inR n (List.range n) := fun x m => List.mem_range.mp m
theorem beh_unit {n : Nat} {a : List Nat} (h : inR n a) : beh a (List.range n) = a := by
  unfold beh
  conv => rhs; rw [← List.map_id a]
  refine List.map_congr_left fun t ht => ?_
  rw [List.getD_eq_getElem?_getD, List.getElem?_range (h t ht)]; rfl
theorem unit_beh {a : List Nat} : beh (List.range a.length) a = a := by
  apply List.ext_getElem?
  intro i
  unfold beh
  by_cases h : i < a.length
  · rw [List.getElem?_map, List.getElem?_range h, List.getElem?_eq_getElem h]
    show some (a.getD i 0) = _
    rw [List.getD_eq_getElem?_getD, List.getElem?_eq_getElem h]; rfl
  · rw [List.getElem?_eq_none (by simp; omega), List.getElem?_eq_none (by omega)]
/-- powers -/
def pw (led : List Nat) : Nat → List Nat
  | 0 => List.range led.length
  | k + 1 => beh (pw led k) led
theorem pw_len (led : List Nat) : ∀ k, (pw led k).length = led.length
  | 0 => List.length_range
  | k + 1 => by rw [pw, beh_len, pw_len led k]
theorem pw_inR {led : List Nat} (h : inR led.length led) : ∀ k, inR led.length (pw led k)
  | 0 => inR_range _
  | k + 1 => by rw [pw]; exact beh_inR (pw_inR h k) h
theorem pw_one (led : List Nat) : pw led 1 = led := unit_beh
theorem pw_add {led : List Nat} (h : inR led.length led) (i : Nat) : ∀ j, beh (pw led i) (pw led j) = pw led (i + j)
  | 0 => beh_unit (pw_inR h i)
  | j + 1 => by
    rw [pw, ← beh_assoc (by rw [pw_len]; exact pw_inR h i), pw_add h i j]
    rfl
/-- all maps -/
def amT (n : Nat) : Nat → List (List Nat)
  | 0 => [[]]
  | t + 1 => ((amT n t).map fun own => (List.range n).map fun i => own ++ [i]).flatten
theorem amT_mem {n : Nat} : ∀ {t : Nat} {l : List Nat}, l.length = t → inR n l → l ∈ amT n t
  | 0, l, hl, _ => by rw [List.length_eq_zero_iff.mp hl]; exact .head _
  | t + 1, l, hl, h => by
    obtain ⟨a, b, rfl⟩ : ∃ a b, l = a ++ [b] := by
      rcases List.eq_nil_or_concat l with rfl | ⟨a, b, rfl⟩
      · cases hl
      · exact ⟨a, b, by simp⟩
    have ha : a.length = t := by simpa using hl
    have ih := amT_mem ha fun x m => h x (List.mem_append_left _ m)
    unfold amT
    refine List.mem_flatten.mpr ⟨_, List.mem_map.mpr ⟨a, ih, rfl⟩, List.mem_map.mpr ⟨b, List.mem_range.mpr (h b (by simp)), rfl⟩⟩
theorem amT_len {n : Nat} : ∀ t : Nat, (amT n t).length = n ^ t
  | 0 => rfl
  | t + 1 => by
    unfold amT
    rw [List.length_flatten, List.map_map]
    have : (amT n t).map (List.length ∘ fun own => (List.range n).map fun i => own ++ [i]) = (amT n t).map fun _ => n := List.map_congr_left fun a _ => by simp
    rw [this, List.map_const', List.sum_replicate_nat, amT_len t, Nat.pow_succ]
theorem len_sub {α : Type} [BEq α] [LawfulBEq α] : ∀ {l m : List α}, l.Nodup → (∀ x ∈ l, x ∈ m) → l.length ≤ m.length
  | [], _, _, _ => Nat.zero_le _
  | x :: l, m, hd, h => by
    have hx := h x (.head _)
    have h1 : l.length ≤ (m.erase x).length := len_sub (List.nodup_cons.mp hd).2 fun y hy => by
      have : y ≠ x := fun e => (List.nodup_cons.mp hd).1 (e ▸ hy)
      exact (List.mem_erase_of_ne this).mpr (h y (.tail _ hy))
    rw [List.length_erase_of_mem hx] at h1
    have := List.length_pos_of_mem hx
    rw [List.length_cons]
    omega
/-- the powers from 1 on -/
def sq (led : List Nat) (L : Nat) : List (List Nat) := (List.range L).map fun i => pw led (i + 1)
theorem sq_succ (led : List Nat) (L : Nat) : sq led (L + 1) = sq led L ++ [pw led (L + 1)] := by
  unfold sq; rw [List.range_succ, List.map_append]; rfl
theorem sq_len (led : List Nat) (L : Nat) : (sq led L).length = L := by unfold sq; simp
theorem sq_get {led : List Nat} {L i : Nat} (h : i < L) : (sq led L)[i]? = some (pw led (i + 1)) := by
  unfold sq; rw [List.getElem?_map, List.getElem?_range h]; rfl
def stp (led : List Nat) (L : Nat) : Prop := pw led (L + 1) ∈ sq led L
instance (led : List Nat) (L : Nat) : Decidable (stp led L) := inferInstanceAs (Decidable (_ ∈ _))
theorem sq_nodup {led : List Nat} : ∀ L, (∀ l, l < L → ¬ stp led l) → (sq led L).Nodup
  | 0, _ => .nil
  | L + 1, h => by
    rw [sq_succ]
    exact List.nodup_append.mpr ⟨sq_nodup L fun l hl => h l (by omega), by simp, fun x hx y hy e => by rw [List.mem_singleton] at hy; subst hy; subst e; exact h L (by omega) hx⟩
theorem sq_le {led : List Nat} (hr : inR led.length led) {L : Nat} (h : ∀ l, l < L → ¬ stp led l) : L ≤ led.length ^ led.length := by
  have := len_sub (sq_nodup L h) (m := amT led.length led.length) fun x hx => by
    unfold sq at hx
    obtain ⟨i, _, rfl⟩ := List.mem_map.mp hx
    exact amT_mem (pw_len _ _) (pw_inR hr _)
  rwa [sq_len, amT_len] at this
/-- the first place where the powers come again -/
structure IsL (led : List Nat) (L : Nat) : Prop where
  pos : 0 < L
  no : ∀ l, l < L → ¬ stp led l
  at_ : stp led L
def tl (led : List Nat) (L : Nat) : Nat := (sq led L).idxOf (pw led (L + 1)) + 1
theorem tl_le {led : List Nat} {L : Nat} (h : IsL led L) : tl led L ≤ L := by
  have := List.idxOf_lt_length_iff.mpr h.at_
  rw [sq_len] at this
  unfold tl; omega
theorem tl_pw {led : List Nat} {L : Nat} (h : IsL led L) : pw led (tl led L) = pw led (L + 1) := by
  have h1 := List.idxOf_lt_length_iff.mpr h.at_
  have h2 := List.getElem_idxOf h1
  rw [sq_len] at h1
  have h3 := sq_get (led := led) h1
  rw [List.getElem?_eq_getElem (by rw [sq_len]; exact h1), h2] at h3
  exact (Option.some.inj h3).symm
theorem pw_more {led : List Nat} (hr : inR led.length led) {a b : Nat} (h : pw led a = pw led b) (c : Nat) : pw led (a + c) = pw led (b + c) := by
  rw [← pw_add hr, ← pw_add hr, h]
theorem pw_per {led : List Nat} (hr : inR led.length led) {m r : Nat} (h : pw led m = pw led (m + r)) : ∀ t c, pw led (m + t * r + c) = pw led (m + c)
  | 0, c => by rw [Nat.zero_mul, Nat.add_zero]
  | t + 1, c => by
    rw [Nat.succ_mul, show m + (t * r + r) + c = (m + r) + (t * r + c) by omega, ← pw_more hr h, show m + (t * r + c) = m + t * r + c by omega]
    exact pw_per hr h t c
/-- beyond the tail the powers go round -/
theorem pw_mod {led : List Nat} (hr : inR led.length led) {L : Nat} (h : IsL led L) {k : Nat} (hk : tl led L ≤ k) : pw led (tl led L + (k - tl led L) % (L + 1 - tl led L)) = pw led k := by
  have h1 := tl_le h
  have e : pw led (tl led L) = pw led (tl led L + (L + 1 - tl led L)) := by rw [tl_pw h]; congr 1; omega
  have h2 := pw_per hr e ((k - tl led L) / (L + 1 - tl led L)) ((k - tl led L) % (L + 1 - tl led L))
  rw [← h2]
  congr 1
  have := Nat.div_add_mod (k - tl led L) (L + 1 - tl led L)
  rw [Nat.mul_comm] at this
  omega
theorem pw_inj {led : List Nat} {L : Nat} (h : IsL led L) {i j : Nat} (hi : 0 < i) (hi2 : i ≤ L) (hj : 0 < j) (hj2 : j ≤ L) (e : pw led i = pw led j) : i = j := by
  have hn := sq_nodup L h.no
  have h1 : (sq led L)[i - 1]? = some (pw led i) := by rw [sq_get (by omega)]; congr 2; omega
  have h2 : (sq led L)[j - 1]? = some (pw led j) := by rw [sq_get (by omega)]; congr 2; omega
  have hlt : i - 1 < (sq led L).length := by rw [sq_len]; omega
  have := (List.getElem?_inj (j := j - 1) hlt hn).mp (by rw [h1, h2, e])
  omega
theorem filter_one {α : Type} {p : α → Bool} {a : α} {l : List α} (hn : l.Nodup) (ha : a ∈ l) (hp : p a = true) (hu : ∀ b ∈ l, p b = true → b = a) : (l.filter p).length = 1 := by
  have h1 : (l.filter p).Nodup := hn.filter p
  have h2 : a ∈ l.filter p := List.mem_filter.mpr ⟨ha, hp⟩
  have h3 : ∀ b ∈ l.filter p, b = a := fun b hb => hu b (List.mem_filter.mp hb).1 (List.mem_filter.mp hb).2
  match hq : l.filter p, h1, h2, h3 with
  | [], _, h2, _ => cases h2
  | [_], _, _, _ => rfl
  | x :: y :: z, h1, _, h3 =>
    have e1 := h3 x (.head _)
    have e2 := h3 y (.tail _ (.head _))
    rw [List.nodup_cons] at h1
    exact absurd (by rw [e1, e2]; exact .head _) h1.1
/-- just one power is the same done twice -/
theorem one_idem {led : List Nat} (hr : inR led.length led) {L : Nat} (h : IsL led L) : ((sq led L).filter fun p => decide (beh p p = p)).length = 1 := by
  have h1 := tl_le h
  have hm : 0 < tl led L := Nat.succ_pos _
  obtain ⟨m, em⟩ : ∃ m, tl led L = m := ⟨_, rfl⟩
  obtain ⟨r, er⟩ : ∃ r, L + 1 - m = r := ⟨_, rfl⟩
  rw [em] at h1 hm
  have hr0 : 0 < r := by omega
  have key : ∀ i, 0 < i → i ≤ L → (beh (pw led i) (pw led i) = pw led i ↔ m ≤ i ∧ i % r = 0) := fun i h0 hi => by
    rw [pw_add hr]
    by_cases c : i + i ≤ L
    · constructor
      · intro e
        have := pw_inj h (by omega) c h0 hi e
        omega
      · rintro ⟨c1, c2⟩
        have : r ≤ i := Nat.le_of_dvd h0 (Nat.dvd_of_mod_eq_zero c2)
        omega
    · have hk : tl led L ≤ i + i := by rw [em]; omega
      have e1 := pw_mod hr h hk
      rw [em, er] at e1
      have hlt := Nat.mod_lt (i + i - m) hr0
      rw [← e1]
      constructor
      · intro e
        have e2 := pw_inj h (by omega) (by omega) h0 hi e
        refine ⟨by omega, ?_⟩
        have h3 := Nat.div_add_mod (i + i - m) r
        have h4 : i = r * ((i + i - m) / r) := by omega
        rw [h4]
        exact Nat.mul_mod_right _ _
      · rintro ⟨c1, c2⟩
        have h5 : (i + i - m) % r = i - m := by
          rw [show i + i - m = (i - m) + i by omega, Nat.add_mod, c2, Nat.add_zero, Nat.mod_mod, Nat.mod_eq_of_lt (by omega)]
        rw [h5]
        congr 1
        omega
  obtain ⟨i0, hi0⟩ : ∃ i0, i0 = r * ((m + r - 1) / r) := ⟨_, rfl⟩
  have hd := Nat.div_add_mod (m + r - 1) r
  have hl := Nat.mod_lt (m + r - 1) hr0
  have b1 : m ≤ i0 := by omega
  have b2 : i0 ≤ L := by omega
  have b3 : i0 % r = 0 := by rw [hi0]; exact Nat.mul_mod_right _ _
  refine filter_one (a := pw led i0) (sq_nodup L h.no) ?_ (decide_eq_true ((key i0 (by omega) b2).mpr ⟨b1, b3⟩)) fun b hb hp => ?_
  · unfold sq
    exact List.mem_map.mpr ⟨i0 - 1, List.mem_range.mpr (by omega), by congr 1; omega⟩
  · unfold sq at hb
    obtain ⟨i, hi, rfl⟩ := List.mem_map.mp hb
    have hi := List.mem_range.mp hi
    obtain ⟨c1, c2⟩ := (key (i + 1) (by omega) (by omega)).mp (of_decide_eq_true hp)
    have d1 := Nat.dvd_of_mod_eq_zero c2
    have d2 := Nat.dvd_of_mod_eq_zero b3
    have : i + 1 = i0 := by
      rcases Nat.lt_trichotomy (i + 1) i0 with q | q | q
      · have := Nat.le_of_dvd (by omega) (Nat.dvd_sub d2 d1); omega
      · exact q
      · have := Nat.le_of_dvd (by omega) (Nat.dvd_sub d1 d2); omega
    rw [this]
end Z
end
section
set_option Elab.async false
set_option linter.all false
set_option maxRecDepth 100000
set_option maxHeartbeats 1000000
namespace Z
open PySem PySem.Spec L2
def sset (n : Nat) (l : List Nat) : List Nat := (List.range n).filter fun x => l.contains x
def zs (l : List Nat) : List Int := l.map fun (k : Nat) => (k : Int)
theorem nI_zs (l : List Nat) : nI l = (zs l).map PyData.int := by unfold nI zs; rw [List.map_map]; rfl
theorem zs_len {l : List Nat} : (zs l).length = l.length := by unfold zs; rw [List.length_map]
theorem zs_mem {l : List Nat} {k : Int} : k ∈ zs l ↔ ∃ n : Nat, n ∈ l ∧ (n : Int) = k := by
  unfold zs; rw [List.mem_map]
theorem sset_mem {n : Nat} {l : List Nat} (h : inR n l) (k : Nat) : k ∈ sset n l ↔ k ∈ l := by
  unfold sset
  rw [List.mem_filter, List.mem_range, List.contains_iff_mem]
  exact ⟨fun z => z.2, fun z => ⟨h k z, z⟩⟩
theorem sset_pw {n : Nat} {l : List Nat} : (sset n l).Pairwise (· < ·) := List.Pairwise.filter _ List.pairwise_lt_range
theorem out_len {n : Nat} {l : List Nat} {out : List Int} (h : inR n l) (hp : out.Nodup) (hm : ∀ k, k ∈ out ↔ k ∈ zs l) : out.length = (sset n l).length := by
  have hn : (zs (sset n l)).Nodup := by
    unfold zs
    exact List.pairwise_map.mpr (sset_pw.imp fun h => by omega)
  have e : (zs (sset n l)).length = (sset n l).length := by unfold zs; rw [List.length_map]
  rw [← e]
  refine ((List.perm_ext_iff_of_nodup hp hn).mpr fun k => ?_).length_eq
  rw [hm, zs_mem, zs_mem]
  constructor
  · rintro ⟨a, ha, e⟩; exact ⟨a, (sset_mem h a).mpr ha, e⟩
  · rintro ⟨a, ha, e⟩; exact ⟨a, (sset_mem h a).mp ha, e⟩
theorem nT_inj {a b : List Nat} (h : nT a = nT b) : a = b := by
  have := eqv_nT a b
  rw [h] at this
  have e : PyData.eqv (nT b) (nT b) = true := by rw [eqv_nT]; exact decide_eq_true rfl
  rw [e] at this
  exact of_decide_eq_true this.symm
theorem nks_nI : ∀ l : List Nat, nks (nI l) = some (l.map fun (k : Nat) => NestedKey.num (k : Int))
  | [] => rfl
  | a :: l => by
    have e : nI (a :: l) = .int (a : Int) :: nI l := rfl
    rw [e, nks, nk, nks_nI l]
    rfl
theorem depth_nums : ∀ l : List Nat, NestedKey.depthAll (l.map fun (k : Nat) => NestedKey.num (k : Int)) = 0
  | [] => rfl
  | a :: l => by
    rw [List.map_cons, NestedKey.depthAll, depth_nums l]; rfl
theorem keyT_nT (l : List Nat) : KeyT (nT l) := ⟨rfl, .tup (l.map fun (k : Nat) => NestedKey.num (k : Int)), by unfold nT; rw [nk, nks_nI]; rfl, by rw [NestedKey.depth, depth_nums]; decide⟩
/-- the known powers with their places -/
def kv : List (List Nat) → Nat → List (D × D)
  | [], _ => []
  | p :: l, i => (nT p, .int ((i + 1 : Nat) : Int)) :: kv l (i + 1)
theorem kv_snoc {p : List Nat} : ∀ {l : List (List Nat)} {i : Nat}, kv (l ++ [p]) i = kv l i ++ [(nT p, .int ((i + l.length + 1 : Nat) : Int))]
  | [], i => rfl
  | q :: l, i => by
    rw [List.cons_append, kv, kv_snoc, kv, List.cons_append, List.length_cons, show i + 1 + l.length = i + (l.length + 1) by omega]
theorem kv_tu : ∀ {l : List (List Nat)} {i : Nat}, ∀ p ∈ kv l i, isTu p.1 = true
  | q :: l, i, p, m => by
    rw [kv] at m
    rcases List.mem_cons.mp m with rfl | m
    · rfl
    · exact kv_tu p m
theorem kv_look {p : List Nat} : ∀ {l : List (List Nat)} {i : Nat}, look (kv l i) (nT p) = if p ∈ l then some (.int ((i + l.idxOf p + 1 : Nat) : Int)) else none
  | [], i => rfl
  | q :: l, i => by
    have ih := kv_look (p := p) (l := l) (i := i + 1)
    unfold look at ih ⊢
    rw [kv, List.find?_cons]
    by_cases e : q = p
    · subst e
      rw [decide_eq_true rfl, if_pos (.head _)]
      show some _ = _
      rw [List.idxOf_cons, beq_self_eq_true]; rfl
    · rw [decide_eq_false fun z => e (nT_inj z)]
      show Option.map _ (List.find? _ (kv l (i + 1))) = _
      rw [ih]
      by_cases m : p ∈ l
      · rw [if_pos m, if_pos (.tail _ m), List.idxOf_cons, beq_eq_false_iff_ne.mpr e, cond_false, show i + 1 + List.idxOf p l = i + (List.idxOf p l + 1) by omega]
      · rw [if_neg m, if_neg fun z => by rcases List.mem_cons.mp z with z | z; exact e z.symm; exact m z]
theorem kv_len : ∀ {l : List (List Nat)} {i : Nat}, (kv l i).length = l.length
  | [], _ => rfl
  | _ :: l, i => by rw [kv, List.length_cons, List.length_cons, kv_len]
theorem at_last {ds : List D} {d : D} : atI (ds ++ [d]) (-1) = some d := by
  unfold atI ixN
  rw [if_neg (by decide), if_pos (by rw [List.length_append, List.length_singleton]; omega)]
  show (ds ++ [d])[_]? = _
  rw [List.length_append, List.length_singleton, show (-1 + ((ds.length + 1 : Nat) : Int)).toNat = ds.length by omega]
  simp
theorem cut_tail {d : D} {ds : List D} : cutD (d :: ds) (some 1) none = ds := by
  unfold cutD HT.sIx
  simp
theorem isIn_nT (p : List Nat) : ∀ l : List (List Nat), isIn (nT p) (l.map nT) = decide (p ∈ l)
  | [] => rfl
  | a :: l => by
    have ih := isIn_nT p l
    have e : isIn (nT p) ((a :: l).map nT) = (PyData.eqv (nT a) (nT p) || isIn (nT p) (l.map nT)) := rfl
    rw [e, ih, eqv_nT]
    by_cases q : a = p
    · subst q; simp
    · simp [q, Ne.symm q]
theorem place_nT {p : List Nat} : ∀ {l : List (List Nat)}, p ∈ l → SeqAt.dataPlace (l.map nT) (nT p) = some (l.idxOf p)
  | a :: l, h => by
    unfold SeqAt.dataPlace
    rw [List.map_cons, List.findIdx?_cons, eqv_nT, List.idxOf_cons]
    by_cases q : a = p
    · subst q; simp
    · rw [decide_eq_false q]
      have : p ∈ l := by
        rcases List.mem_cons.mp h with z | z
        · exact absurd z.symm q
        · exact z
      have ih := place_nT this
      unfold SeqAt.dataPlace at ih
      simp only [ih, Bool.false_eq_true, if_false, Option.map_some, beq_eq_false_iff_ne.mpr q, cond_false]
end Z
end
section
set_option Elab.async false
set_option linter.all false
set_option maxRecDepth 100000
set_option maxHeartbeats 1000000
namespace Z
open PySem PySem.Spec L2
/-! ### rings -/
def it (led : List Nat) : Nat → Nat → Nat
  | 0, b => b
  | k + 1, b => led.getD (it led k b) 0
theorem it_add (led : List Nat) (k b : Nat) : ∀ j, it led (j + k) b = it led j (it led k b)
  | 0 => by rw [Nat.zero_add]; rfl
  | j + 1 => by
    rw [show j + 1 + k = (j + k) + 1 by omega]
    show led.getD (it led (j + k) b) 0 = led.getD (it led j (it led k b)) 0
    rw [it_add led k b j]
theorem getD_lt {n : Nat} {led : List Nat} (h : inR n led) (hl : led.length = n) {b : Nat} (hb : b < n) : led.getD b 0 < n := by
  rw [List.getD_eq_getElem?_getD, List.getElem?_eq_getElem (by omega)]
  exact h _ (List.getElem_mem _)
theorem it_lt {n : Nat} {led : List Nat} (h : inR n led) (hl : led.length = n) {b : Nat} (hb : b < n) : ∀ k, it led k b < n
  | 0 => hb
  | k + 1 => getD_lt h hl (it_lt h hl hb k)
def go (b : Nat) (s : List Nat × Nat) : Prop := s.2 ≠ b ∧ s.2 ∉ s.1
instance (b : Nat) (s : List Nat × Nat) : Decidable (go b s) := inferInstanceAs (Decidable (_ ∧ _))
def nxt (led : List Nat) (b : Nat) (s : List Nat × Nat) : List Nat × Nat := if go b s then (s.1 ++ [s.2], led.getD s.2 0) else s
def wk (led : List Nat) (b : Nat) : Nat → List Nat × Nat
  | 0 => ([b], led.getD b 0)
  | k + 1 => nxt led b (wk led b k)
def orb (led : List Nat) (b m : Nat) : List Nat × Nat := ((List.range (m + 1)).map fun i => it led i b, it led (m + 1) b)
theorem orb_succ (led : List Nat) (b m : Nat) (h : go b (orb led b m)) : nxt led b (orb led b m) = orb led b (m + 1) := by
  unfold nxt
  rw [if_pos h]
  unfold orb
  rw [List.range_succ (n := m + 1), List.map_append]
  rfl
theorem wk_orb (led : List Nat) (b : Nat) : ∀ k, ∃ m, m ≤ k ∧ wk led b k = orb led b m ∧ (orb led b m).1.Nodup ∧ (m < k → ¬ go b (orb led b m))
  | 0 => ⟨0, Nat.le_refl _, rfl, by simp [orb], fun h => absurd h (Nat.lt_irrefl _)⟩
  | k + 1 => by
    obtain ⟨m, h1, h2, h3, h4⟩ := wk_orb led b k
    by_cases hg : go b (orb led b m)
    · have hk : m = k := by
        rcases Nat.lt_or_ge m k with h | h
        · exact absurd hg (h4 h)
        · omega
      subst hk
      refine ⟨m + 1, Nat.le_refl _, ?_, ?_, fun h => absurd h (Nat.lt_irrefl _)⟩
      · show nxt led b (wk led b m) = _
        rw [h2, orb_succ led b m hg]
      · have e : (orb led b (m + 1)).1 = (orb led b m).1 ++ [(orb led b m).2] := by
          rw [← orb_succ led b m hg]; unfold nxt; rw [if_pos hg]
        rw [e]
        refine List.nodup_append.mpr ⟨h3, by simp, fun x hx y hy e => ?_⟩
        have : y = (orb led b m).2 := by simpa using hy
        exact hg.2 (by rw [← this, ← e]; exact hx)
    · refine ⟨m, by omega, ?_, h3, fun _ => hg⟩
      show nxt led b (wk led b k) = _
      rw [h2]; unfold nxt; rw [if_neg hg]
theorem wk_stay {led : List Nat} {b k : Nat} (h : ¬ go b (wk led b k)) : ∀ j, wk led b (k + j) = wk led b k
  | 0 => rfl
  | j + 1 => by
    show nxt led b (wk led b (k + j)) = _
    rw [wk_stay h j]; unfold nxt; rw [if_neg h]
def ring (led : List Nat) (b : Nat) : List Nat × Nat := wk led b led.length
theorem nodup_le {n : Nat} {l : List Nat} (hd : l.Nodup) (h : inR n l) : l.length ≤ n := by
  have := len_sub hd (m := List.range n) fun x m => List.mem_range.mpr (h x m)
  rwa [List.length_range] at this
theorem ring_stop {led : List Nat} (h : inR led.length led) {b : Nat} (hb : b < led.length) : ¬ go b (ring led b) := by
  obtain ⟨m, h1, h2, h3, h4⟩ := wk_orb led b led.length
  unfold ring
  rw [h2]
  refine h4 ?_
  have hl : (orb led b m).1.length = m + 1 := by simp [orb]
  have := nodup_le h3 (n := led.length) (fun x hx => by
    obtain ⟨i, _, rfl⟩ := List.mem_map.mp hx
    exact it_lt h rfl hb i)
  omega
/-- b lies on a ring -/
def cyc (led : List Nat) (b : Nat) : Prop := (ring led b).2 = b
instance (led : List Nat) (b : Nat) : Decidable (cyc led b) := inferInstanceAs (Decidable (_ = _))
theorem it_mul {led : List Nat} {p b : Nat} (h : it led p b = b) : ∀ t, it led (p * t) b = b
  | 0 => rfl
  | t + 1 => by rw [Nat.mul_add, it_add, Nat.mul_one, h, it_mul h t]
theorem ring_orb {led : List Nat} (h : inR led.length led) {b : Nat} (hb : b < led.length) : ∃ m, ring led b = orb led b m ∧ (orb led b m).1.Nodup ∧ ((orb led b m).2 = b ∨ (orb led b m).2 ∈ (orb led b m).1) := by
  obtain ⟨m, h1, h2, h3, h4⟩ := wk_orb led b led.length
  refine ⟨m, h2, h3, ?_⟩
  have hs := ring_stop h hb
  unfold ring at hs
  rw [h2] at hs
  by_cases e : (orb led b m).2 = b
  · exact .inl e
  · exact .inr (Decidable.byContradiction fun z => hs ⟨e, z⟩)
theorem mem_orb {led : List Nat} {b m x : Nat} : x ∈ (orb led b m).1 ↔ ∃ i, i ≤ m ∧ it led i b = x := by
  unfold orb
  rw [List.mem_map]
  constructor
  · rintro ⟨i, hi, e⟩; exact ⟨i, by have := List.mem_range.mp hi; omega, e⟩
  · rintro ⟨i, hi, e⟩; exact ⟨i, List.mem_range.mpr (by omega), e⟩
theorem orb_inj {led : List Nat} {b m i j : Nat} (hd : (orb led b m).1.Nodup) (hi : i ≤ m) (hj : j ≤ m) (e : it led i b = it led j b) : i = j := by
  have hd : ((List.range (m + 1)).map fun i => it led i b).Nodup := hd
  have hl : ((List.range (m + 1)).map fun i => it led i b).length = m + 1 := by simp
  refine (List.getElem_inj (i := i) (j := j) (h₀ := by omega) (h₁ := by omega) hd).mp ?_
  rw [List.getElem_map, List.getElem_map, List.getElem_range, List.getElem_range]
  exact e
theorem cyc_of {led : List Nat} (h : inR led.length led) {b p : Nat} (hb : b < led.length) (hp : 0 < p) (e : it led p b = b) : cyc led b := by
  obtain ⟨m, h1, h2, h3⟩ := ring_orb h hb
  unfold cyc
  rw [h1]
  rcases h3 with h3 | h3
  · exact h3
  · obtain ⟨j, hj, ej⟩ := mem_orb.mp h3
    cases j with
    | zero => exact ej.symm
    | succ j =>
      exfalso
      have e1 : it led (m + 1) b = it led (j + 1) b := ej.symm
      -- step on to a turn
      have hs : p * (j + 1) - (j + 1) + (j + 1) = p * (j + 1) := Nat.sub_add_cancel (Nat.le_mul_of_pos_left _ hp)
      have e2 : it led (p * (j + 1) - (j + 1) + (m + 1)) b = b := by
        rw [it_add, e1, ← it_add, hs]; exact it_mul e _
      have e3 : it led (m - j) b = b := by
        rw [show p * (j + 1) - (j + 1) + (m + 1) = (m - j) + p * (j + 1) by omega, it_add, it_mul e] at e2
        exact e2
      have := orb_inj h2 (i := m - j) (j := 0) (by omega) (by omega) e3
      have hjm : j + 1 = 0 + 1 ∨ True := .inr trivial
      have : m = j := by omega
      omega
theorem cyc_per {led : List Nat} (h : inR led.length led) {b : Nat} (hb : b < led.length) (hc : cyc led b) : ∃ m, ring led b = orb led b m ∧ (orb led b m).1.Nodup ∧ it led (m + 1) b = b := by
  obtain ⟨m, h1, h2, _⟩ := ring_orb h hb
  refine ⟨m, h1, h2, ?_⟩
  unfold cyc at hc
  rw [h1] at hc
  exact hc
theorem mem_row {led : List Nat} (h : inR led.length led) {b : Nat} (hb : b < led.length) (hc : cyc led b) {x : Nat} : x ∈ (ring led b).1 ↔ ∃ q, it led q b = x := by
  obtain ⟨m, h1, h2, h3⟩ := cyc_per h hb hc
  rw [h1, mem_orb]
  constructor
  · rintro ⟨i, _, e⟩; exact ⟨i, e⟩
  · rintro ⟨q, e⟩
    refine ⟨q % (m + 1), by have := Nat.mod_lt q (show 0 < m + 1 by omega); omega, ?_⟩
    rw [← Nat.mod_add_div q (m + 1), it_add, it_mul h3] at e
    exact e
theorem row_self {led : List Nat} (h : inR led.length led) {b : Nat} (hb : b < led.length) (hc : cyc led b) : b ∈ (ring led b).1 := (mem_row h hb hc).mpr ⟨0, rfl⟩
theorem row_lt {led : List Nat} (h : inR led.length led) {b : Nat} (hb : b < led.length) (hc : cyc led b) {x : Nat} (hx : x ∈ (ring led b).1) : x < led.length := by
  obtain ⟨q, rfl⟩ := (mem_row h hb hc).mp hx
  exact it_lt h rfl hb q
theorem cyc_mem {led : List Nat} (h : inR led.length led) {b : Nat} (hb : b < led.length) (hc : cyc led b) {a : Nat} (ha : a ∈ (ring led b).1) : cyc led a := by
  obtain ⟨q, rfl⟩ := (mem_row h hb hc).mp ha
  obtain ⟨m, _, _, h3⟩ := cyc_per h hb hc
  refine cyc_of h (it_lt h rfl hb q) (Nat.succ_pos m) ?_
  rw [← it_add, Nat.add_comm, it_add, h3]
/-- two of one ring -/
theorem row_sub {led : List Nat} (h : inR led.length led) {b : Nat} (hb : b < led.length) (hc : cyc led b) {a : Nat} (ha : a ∈ (ring led b).1) {x : Nat} (hx : x ∈ (ring led a).1) : x ∈ (ring led b).1 := by
  have ca := cyc_mem h hb hc ha
  have la := row_lt h hb hc ha
  obtain ⟨q, rfl⟩ := (mem_row h hb hc).mp ha
  obtain ⟨r, rfl⟩ := (mem_row h la ca).mp hx
  exact (mem_row h hb hc).mpr ⟨r + q, it_add _ _ _ _⟩
theorem row_sym {led : List Nat} (h : inR led.length led) {b : Nat} (hb : b < led.length) (hc : cyc led b) {a : Nat} (ha : a ∈ (ring led b).1) : b ∈ (ring led a).1 := by
  have ca := cyc_mem h hb hc ha
  have la := row_lt h hb hc ha
  obtain ⟨m, _, _, h3⟩ := cyc_per h hb hc
  obtain ⟨q, rfl⟩ := (mem_row h hb hc).mp ha
  refine (mem_row h la ca).mpr ⟨(m + 1) * q - q, ?_⟩
  rw [← it_add, Nat.sub_add_cancel (Nat.le_mul_of_pos_left _ (Nat.succ_pos m)), it_mul h3]
theorem count1_uniq {x : Nat} : ∀ {l : List Nat} {i j : Nat}, l.count x = 1 → l[i]? = some x → l[j]? = some x → i = j
  | [], i, _, _, h, _ => by simp at h
  | y :: l, i, j, hc, hi, hj => by
    rw [List.count_cons] at hc
    by_cases e : y = x
    · subst e
      rw [if_pos (by simp)] at hc
      have h0 : l.count y = 0 := by omega
      have hn := List.count_eq_zero.mp h0
      have z : ∀ k, (y :: l)[k]? = some y → k = 0 := fun k hk => by
        cases k with
        | zero => rfl
        | succ k => exact absurd (List.mem_of_getElem? (by simpa using hk)) hn
      rw [z i hi, z j hj]
    · rw [if_neg (by simpa using e)] at hc
      cases i with
      | zero => exact absurd (by simpa using hi) e
      | succ i =>
        cases j with
        | zero => exact absurd (by simpa using hj) e
        | succ j => rw [count1_uniq (l := l) (i := i) (j := j) (by omega) (by simpa using hi) (by simpa using hj)]
theorem uniq_count1 {x : Nat} : ∀ {l : List Nat} {i : Nat}, l[i]? = some x → (∀ j, l[j]? = some x → j = i) → l.count x = 1
  | [], i, h, _ => by simp at h
  | y :: l, i, hi, hu => by
    rw [List.count_cons]
    by_cases e : y = x
    · subst e
      have h0 := hu 0 rfl
      subst h0
      have hn : y ∉ l := fun m => by
        obtain ⟨j, hj⟩ := List.mem_iff_getElem?.mp m
        have := hu (j + 1) (by simpa using hj)
        omega
      rw [List.count_eq_zero.mpr hn]; simp
    · rw [if_neg (by simpa using e)]
      cases i with
      | zero => exact absurd (by simpa using hi) e
      | succ i =>
        rw [uniq_count1 (l := l) (i := i) (by simpa using hi) fun j hj => by
          have := hu (j + 1) (by simpa using hj); omega]
def bare (led row : List Nat) : Prop := ∀ t, t < led.length → led.getD t 0 ∈ row → t ∈ row
def ones (led row : List Nat) : Prop := ∀ x ∈ row, led.count x = 1
theorem get_of {led : List Nat} {t : Nat} (h : t < led.length) : led[t]? = some (led.getD t 0) := by
  rw [List.getD_eq_getElem?_getD, List.getElem?_eq_getElem h]; rfl
theorem ones_iff {led : List Nat} (h : inR led.length led) {b : Nat} (hb : b < led.length) (hc : cyc led b) : ones led (ring led b).1 ↔ bare led (ring led b).1 := by
  obtain ⟨m, _, _, h3⟩ := cyc_per h hb hc
  have pred : ∀ x ∈ (ring led b).1, ∃ q, it led q b < led.length ∧ led.getD (it led q b) 0 = x := fun x hx => by
    obtain ⟨q, rfl⟩ := (mem_row h hb hc).mp hx
    refine ⟨q + m, it_lt h rfl hb _, ?_⟩
    show it led (q + m + 1) b = _
    rw [Nat.add_assoc, it_add, h3]
  constructor
  · intro ho t ht hm
    obtain ⟨q, h1, h2⟩ := pred _ hm
    have := count1_uniq (ho _ hm) (get_of ht) (by rw [get_of h1, h2])
    rw [this]
    exact (mem_row h hb hc).mpr ⟨q, rfl⟩
  · intro hn x hx
    obtain ⟨q, h1, h2⟩ := pred _ hx
    refine uniq_count1 (by rw [get_of h1, h2]) fun j hj => ?_
    have hl : j < led.length := (List.getElem?_eq_some_iff.mp hj).1
    have hj2 : led.getD j 0 = x := by rw [get_of hl] at hj; exact Option.some.inj hj
    obtain ⟨r, rfl⟩ := (mem_row h hb hc).mp (hn j hl (by rw [hj2]; exact hx))
    have e1 : it led (r + 1) b = it led (q + 1) b := hj2.trans h2.symm
    have e2 := congrArg (it led m) e1
    rw [← it_add, ← it_add, show m + (r + 1) = r + (m + 1) by omega, show m + (q + 1) = q + (m + 1) by omega, it_add, it_add led (m + 1) b q, h3] at e2
    exact e2
/-- the law's going: how many, and what was seen -/
def lstep (led : List Nat) (s : Nat × List Nat) (b : Nat) : Nat × List Nat :=
  if (ring led b).2 = b ∧ 1 < (ring led b).1.length ∧ b ∉ s.2 then (s.1 + (if (ring led b).1.all fun x => led.count x == 1 then 1 else 0), s.2 ++ (ring led b).1) else s
def lrings (led : List Nat) (i : Nat) : Nat × List Nat := (List.range i).foldl (lstep led) (0, [])
/-- the program's -/
def rings (led : List Nat) : List (List Nat) := ((List.range led.length).filter fun b => decide (cyc led b) && (ring led b).1.all fun y => b ≤ y).map fun b => (ring led b).1
def ledin (led row : List Nat) : List Nat := (List.range led.length).filter fun t => row.contains (led.getD t 0) && !row.contains t
def bares (led : List Nat) : Nat := ((rings led).filter fun r => decide (1 < r.length) && (ledin led r).isEmpty).length
def good (led : List Nat) (b : Nat) : Bool := decide (cyc led b) && ((ring led b).1.all fun y => b ≤ y) && (decide (1 < (ring led b).1.length) && (ledin led (ring led b).1).isEmpty)
theorem ledin_nil {led row : List Nat} : (ledin led row).isEmpty = true ↔ bare led row := by
  unfold ledin bare
  rw [List.isEmpty_iff, List.filter_eq_nil_iff]
  constructor
  · intro h t ht hm
    have := h t (List.mem_range.mpr ht)
    simp only [Bool.and_eq_true, Bool.not_eq_true', List.contains_iff_mem] at this
    exact Decidable.byContradiction fun z => this ⟨hm, by simpa using z⟩
  · intro h t ht
    simp only [Bool.and_eq_true, Bool.not_eq_true', List.contains_iff_mem]
    rintro ⟨h1, h2⟩
    have := h t (List.mem_range.mp ht) h1
    simp [this] at h2
theorem bares_good (led : List Nat) : bares led = (List.range led.length).countP (good led) := by
  unfold bares rings
  rw [List.filter_map, List.length_map, List.filter_filter, List.countP_eq_length_filter]
  congr 1
  refine List.filter_congr fun b _ => ?_
  simp only [Function.comp_apply, good]
  exact Bool.and_comm _ _
theorem lrings_inv {led : List Nat} (h : inR led.length led) : ∀ i, i ≤ led.length → (lrings led i).1 = (List.range i).countP (good led) ∧ ∀ x, x ∈ (lrings led i).2 ↔ ∃ a, a < i ∧ cyc led a ∧ 1 < (ring led a).1.length ∧ x ∈ (ring led a).1
  | 0, _ => ⟨rfl, fun x => by
      constructor
      · intro m; cases m
      · rintro ⟨a, h, _⟩; omega⟩
  | i + 1, hi => by
    obtain ⟨h1, h2⟩ := lrings_inv h i (by omega)
    have hb : i < led.length := by omega
    have e : lrings led (i + 1) = lstep led (lrings led i) i := by
      unfold lrings; rw [List.range_succ, List.foldl_append]; rfl
    rw [e, List.range_succ, List.countP_append, List.countP_singleton, ← h1]
    unfold lstep
    by_cases hc : (ring led i).2 = i ∧ 1 < (ring led i).1.length ∧ i ∉ (lrings led i).2
    · rw [if_pos hc]
      obtain ⟨c1, c2, c3⟩ := hc
      have cy : cyc led i := c1
      refine ⟨?_, fun x => ?_⟩
      · have hmin : ((ring led i).1.all fun y => decide (i ≤ y)) = true := by
          rw [List.all_eq_true]
          intro y hy
          refine decide_eq_true (Decidable.byContradiction fun hn => c3 ?_)
          refine (h2 i).mpr ⟨y, by omega, cyc_mem h hb cy hy, ?_, row_sym h hb cy hy⟩
          have yl := row_lt h hb cy hy
          have cyy := cyc_mem h hb cy hy
          have m1 := row_sym h hb cy hy
          have m2 := row_self h yl cyy
          refine Nat.lt_of_not_le fun hle => ?_
          match hr : (ring led y).1, hle with
          | [], _ => rw [hr] at m1; cases m1
          | [z], _ =>
            rw [hr] at m1 m2
            have := List.mem_singleton.mp m1
            have := List.mem_singleton.mp m2
            omega
          | _ :: _ :: _, hle => simp at hle
        have hg : good led i = (ring led i).1.all fun x => led.count x == 1 := by
          rw [Bool.eq_iff_iff]
          unfold good
          rw [hmin, decide_eq_true cy, decide_eq_true c2, Bool.true_and, Bool.true_and, Bool.true_and, ledin_nil, ← ones_iff h hb cy, List.all_eq_true]
          exact ⟨fun z x hx => by rw [z x hx]; rfl, fun z x hx => by simpa using z x hx⟩
        rw [hg]
      · rw [List.mem_append, h2]
        constructor
        · rintro (⟨a, ha, r⟩ | hx)
          · exact ⟨a, by omega, r⟩
          · exact ⟨i, by omega, cy, c2, hx⟩
        · rintro ⟨a, ha, r⟩
          by_cases z : a = i
          · subst z; exact .inr r.2.2
          · exact .inl ⟨a, by omega, r⟩
    · rw [if_neg hc]
      by_cases cy : cyc led i ∧ 1 < (ring led i).1.length
      · have hs : i ∈ (lrings led i).2 := Decidable.byContradiction fun z => hc ⟨cy.1, cy.2, z⟩
        obtain ⟨a, ha, ca, la, ma⟩ := (h2 i).mp hs
        have hal : a < led.length := by omega
        have hg : good led i = false := by
          have : ((ring led i).1.all fun y => decide (i ≤ y)) = false := by
            rw [List.all_eq_false]
            exact ⟨a, row_sym h hal ca ma, by simpa using ha⟩
          unfold good
          rw [this]; simp
        rw [hg]
        refine ⟨rfl, fun x => ?_⟩
        rw [h2]
        constructor
        · rintro ⟨a, ha, r⟩; exact ⟨a, by omega, r⟩
        · rintro ⟨a', ha', r⟩
          by_cases z : a' = i
          · subst z
            exact ⟨a, ha, ca, la, row_sub h hal ca ma r.2.2⟩
          · exact ⟨a', by omega, r⟩
      · have hg : good led i = false := by
          unfold good
          by_cases c1 : cyc led i
          · rw [decide_eq_false (p := 1 < _) fun z => cy ⟨c1, z⟩]; simp
          · rw [decide_eq_false c1]; rfl
        rw [hg]
        refine ⟨rfl, fun x => ?_⟩
        rw [h2]
        constructor
        · rintro ⟨a, ha, r⟩; exact ⟨a, by omega, r⟩
        · rintro ⟨a', ha', r⟩
          by_cases z : a' = i
          · subst z
            exact absurd ⟨r.1, r.2.1⟩ cy
          · exact ⟨a', by omega, r⟩
theorem rings_law {led : List Nat} (h : inR led.length led) : (lrings led led.length).1 = bares led := by
  rw [(lrings_inv h _ (Nat.le_refl _)).1, bares_good]
end Z
end
section
set_option Elab.async false
set_option linter.all false
set_option maxRecDepth 100000
/-! Words: heads, tails, plain words (no program in sight). -/
namespace Z
/-- the letter ahead of the longest end with one letter fewer, and that end -/
def tw : List Nat → List Nat × Nat
  | [] => ([], 0)
  | a :: r => if a ∈ r then tw r else (r, a)
def hw (w : List Nat) : List Nat × Nat := ((tw w.reverse).1.reverse, (tw w.reverse).2)
/-- each letter once -/
def dd : List Nat → List Nat
  | [] => []
  | a :: r => if a ∈ r then dd r else a :: dd r
def nl (w : List Nat) : Nat := (dd w).length
theorem mem_dd : ∀ {w : List Nat} {k : Nat}, k ∈ dd w ↔ k ∈ w
  | [], k => Iff.rfl
  | a :: r, k => by
    unfold dd
    split
    · rename_i h
      rw [mem_dd (w := r), List.mem_cons]
      exact ⟨.inr, fun q => q.elim (fun e => e ▸ h) id⟩
    · rw [List.mem_cons, List.mem_cons, mem_dd (w := r)]
theorem dd_nodup : ∀ {w : List Nat}, (dd w).Nodup
  | [] => List.nodup_nil
  | a :: r => by
    unfold dd
    split
    · exact dd_nodup
    · rename_i h
      exact List.nodup_cons.mpr ⟨fun q => h (mem_dd.mp q), dd_nodup⟩
theorem nodup_len {l m : List Nat} (h1 : l.Nodup) (h2 : m.Nodup) (h : ∀ k, k ∈ l ↔ k ∈ m) : l.length = m.length :=
  ((List.perm_ext_iff_of_nodup h1 h2).mpr h).length_eq
theorem nl_ext {w v : List Nat} (h : ∀ k, k ∈ w ↔ k ∈ v) : nl w = nl v :=
  nodup_len dd_nodup dd_nodup fun k => by rw [mem_dd, mem_dd]; exact h k
theorem nl_le {w : List Nat} {n : Nat} (h : ∀ k ∈ w, k < n) : nl w ≤ n := by
  have e : (dd w).length = ((List.range n).filter fun k => decide (k ∈ w)).length := nodup_len dd_nodup (List.nodup_range.filter _) fun k => by
    rw [mem_dd, List.mem_filter, List.mem_range, decide_eq_true_eq]
    exact ⟨fun m => ⟨h k m, m⟩, fun m => m.2⟩
  unfold nl
  rw [e]
  exact Nat.le_trans (List.length_filter_le _ _) (Nat.le_of_eq List.length_range)
theorem tw_cons {a : Nat} {r : List Nat} : tw (a :: r) = if a ∈ r then tw r else (r, a) := rfl
theorem tw_out : ∀ {w : List Nat}, w ≠ [] → (tw w).2 ∉ (tw w).1
  | [], h => absurd rfl h
  | a :: r, _ => by
    rw [tw_cons]
    split
    · rename_i h
      exact tw_out fun e => by rw [e] at h; cases h
    · assumption
theorem tw_mem : ∀ {w : List Nat}, w ≠ [] → ∀ k, k ∈ w ↔ k = (tw w).2 ∨ k ∈ (tw w).1
  | [], h, _ => absurd rfl h
  | a :: r, _, k => by
    rw [tw_cons]
    split
    · rename_i h
      rw [List.mem_cons, ← tw_mem (w := r) (fun e => by rw [e] at h; cases h) k]
      exact ⟨fun q => q.elim (fun e => e ▸ h) id, .inr⟩
    · exact List.mem_cons
theorem tw_split : ∀ {w : List Nat}, w ≠ [] → ∃ s, w = s ++ (tw w).2 :: (tw w).1 ∧ ∀ k ∈ s, k = (tw w).2 ∨ k ∈ (tw w).1
  | [], h => absurd rfl h
  | a :: r, _ => by
    rw [tw_cons]
    split
    · rename_i h
      have hr : r ≠ [] := fun e => by rw [e] at h; cases h
      obtain ⟨s, h1, h2⟩ := tw_split hr
      refine ⟨a :: s, by rw [List.cons_append, ← h1], fun k m => ?_⟩
      rcases List.mem_cons.mp m with rfl | m
      · exact (tw_mem hr k).mp h
      · exact h2 k m
    · exact ⟨[], rfl, fun k m => nomatch m⟩
theorem tw_at {a : Nat} {t : List Nat} (ha : a ∉ t) : ∀ {s : List Nat}, (∀ k ∈ s, k = a ∨ k ∈ t) → tw (s ++ a :: t) = (t, a)
  | [], _ => by rw [List.nil_append, tw_cons, if_neg ha]
  | b :: s, h => by
    rw [List.cons_append, tw_cons, if_pos]
    · exact tw_at ha fun k m => h k (.tail _ m)
    · rw [List.mem_append, List.mem_cons]
      exact .inr (h b (.head _))
theorem tw_skip {v : List Nat} : ∀ {s : List Nat}, (∀ k ∈ s, k ∈ v) → tw (s ++ v) = tw v
  | [], _ => rfl
  | b :: s, h => by
    rw [List.cons_append, tw_cons, if_pos (List.mem_append.mpr (.inr (h b (.head _))))]
    exact tw_skip fun k m => h k (.tail _ m)
theorem tw_len : ∀ {w : List Nat}, w ≠ [] → (tw w).1.length < w.length
  | [], h => absurd rfl h
  | a :: r, _ => by
    rw [tw_cons]
    split
    · rename_i h
      have := tw_len (w := r) fun e => by rw [e] at h; cases h
      rw [List.length_cons]; omega
    · simp
theorem rev_ne {w : List Nat} (h : w ≠ []) : w.reverse ≠ [] := fun e => h (by simpa using e)
theorem nl_tw {w : List Nat} (h : w ≠ []) : nl (tw w).1 + 1 = nl w := by
  have e : nl w = nl ((tw w).2 :: (tw w).1) := nl_ext fun k => by rw [tw_mem h, List.mem_cons]
  rw [e]
  unfold nl
  rw [dd, if_neg (tw_out h), List.length_cons]
theorem nl_rev {w : List Nat} : nl w.reverse = nl w := nl_ext fun k => List.mem_reverse
theorem nl_hw {w : List Nat} (h : w ≠ []) : nl (hw w).1 + 1 = nl w := by
  unfold hw
  rw [nl_rev, nl_tw (rev_ne h), nl_rev]
theorem hw_len {w : List Nat} (h : w ≠ []) : (hw w).1.length < w.length := by
  have := tw_len (rev_ne h)
  unfold hw
  simpa using this
theorem hw_mem {w : List Nat} (h : w ≠ []) (k : Nat) : k ∈ w ↔ k = (hw w).2 ∨ k ∈ (hw w).1 := by
  unfold hw
  rw [List.mem_reverse, ← tw_mem (rev_ne h), List.mem_reverse]
theorem hw_out {w : List Nat} (h : w ≠ []) : (hw w).2 ∉ (hw w).1 := by
  unfold hw
  rw [List.mem_reverse]
  exact tw_out (rev_ne h)
theorem hw_split {w : List Nat} (h : w ≠ []) : ∃ s, w = (hw w).1 ++ (hw w).2 :: s ∧ ∀ k ∈ s, k = (hw w).2 ∨ k ∈ (hw w).1 := by
  obtain ⟨s, h1, h2⟩ := tw_split (rev_ne h)
  refine ⟨s.reverse, ?_, fun k m => ?_⟩
  · have := congrArg List.reverse h1
    rw [List.reverse_reverse, List.reverse_append, List.reverse_cons, List.append_assoc] at this
    exact this
  · unfold hw
    rw [List.mem_reverse]
    exact h2 k (List.mem_reverse.mp m)
theorem hw_at {a : Nat} {h s : List Nat} (ha : a ∉ h) (hs : ∀ k ∈ s, k = a ∨ k ∈ h) : hw (h ++ a :: s) = (h, a) := by
  unfold hw
  rw [List.reverse_append, List.reverse_cons, List.append_assoc, List.singleton_append, tw_at (by rwa [List.mem_reverse]) fun k m => by rw [List.mem_reverse]; exact hs k (List.mem_reverse.mp m)]
  rw [List.reverse_reverse]
theorem hw_snoc {w : List Nat} {a : Nat} : hw (w ++ [a]) = if a ∈ w then hw w else (w, a) := by
  unfold hw
  rw [List.reverse_append, List.reverse_singleton, List.singleton_append, tw_cons]
  by_cases h : a ∈ w
  · rw [if_pos (List.mem_reverse.mpr h), if_pos h]
  · rw [if_neg (by rwa [List.mem_reverse]), if_neg h, List.reverse_reverse]
theorem hw_rev {w : List Nat} : hw w.reverse = ((tw w).1.reverse, (tw w).2) := by unfold hw; rw [List.reverse_reverse]
/-- the plain word, so deep at most -/
def plain : Nat → List Nat → List Nat
  | 0, w => w.take 1
  | n + 1, w => if nl w < 2 then w.take 1 else plain n (hw w).1 ++ [(hw w).2, (tw w).2] ++ plain n (tw w).1
def pl (w : List Nat) : List Nat := plain (nl w) w
theorem ne_of_nl {w : List Nat} (h : ¬ nl w < 2) : w ≠ [] := fun e => by rw [e] at h; exact h (by decide)
theorem pl_small {w : List Nat} (h : nl w < 2) : pl w = w.take 1 := by
  unfold pl
  cases e : nl w with
  | zero => rfl
  | succ n => rw [plain, if_pos h]
theorem pl_step {w : List Nat} (h : ¬ nl w < 2) : pl w = pl (hw w).1 ++ [(hw w).2, (tw w).2] ++ pl (tw w).1 := by
  have h1 := nl_hw (ne_of_nl h)
  have h2 := nl_tw (ne_of_nl h)
  unfold pl
  cases e : nl w with
  | zero => omega
  | succ n =>
    rw [plain, if_neg h, show nl (hw w).1 = n by omega, show nl (tw w).1 = n by omega]
/-- a part put twice -/
def Sq (w v : List Nat) : Prop := ∃ x y z, w = x ++ (y ++ (y ++ z)) ∧ v = x ++ (y ++ z)
theorem Sq.mem {w v : List Nat} (h : Sq w v) (k : Nat) : k ∈ w ↔ k ∈ v := by
  obtain ⟨x, y, z, rfl, rfl⟩ := h
  simp only [List.mem_append]
  constructor <;> intro q
  · rcases q with q | q | q | q
    · exact .inl q
    · exact .inr (.inl q)
    · exact .inr (.inl q)
    · exact .inr (.inr q)
  · rcases q with q | q | q
    · exact .inl q
    · exact .inr (.inl q)
    · exact .inr (.inr (.inr q))
theorem Sq.rev {w v : List Nat} (h : Sq w v) : Sq w.reverse v.reverse := by
  obtain ⟨x, y, z, rfl, rfl⟩ := h
  exact ⟨z.reverse, y.reverse, x.reverse, by simp, by simp⟩
theorem Sq.tw {w v : List Nat} (h : Sq w v) : (tw w).2 = (tw v).2 ∧ ((tw w).1 = (tw v).1 ∨ Sq (tw w).1 (tw v).1) := by
  obtain ⟨x, y, z, rfl, rfl⟩ := h
  induction x with
  | nil =>
    rw [List.nil_append, List.nil_append, tw_skip fun k m => List.mem_append.mpr (.inl m)]
    exact ⟨rfl, .inl rfl⟩
  | cons a x ih =>
    have hm := (Sq.mem ⟨x, y, z, rfl, rfl⟩ a : a ∈ x ++ (y ++ (y ++ z)) ↔ a ∈ x ++ (y ++ z))
    rw [List.cons_append, List.cons_append, tw_cons, tw_cons]
    by_cases q : a ∈ x ++ (y ++ z)
    · rw [if_pos q, if_pos (hm.mpr q)]; exact ih
    · rw [if_neg q, if_neg fun z => q (hm.mp z)]
      exact ⟨rfl, .inr ⟨x, y, z, rfl, rfl⟩⟩
theorem Sq.hw {w v : List Nat} (h : Sq w v) : (hw w).2 = (hw v).2 ∧ ((hw w).1 = (hw v).1 ∨ Sq (hw w).1 (hw v).1) := by
  obtain ⟨h1, h2⟩ := h.rev.tw
  unfold Z.hw
  refine ⟨h1, h2.imp (fun e => by rw [e]) fun q => ?_⟩
  exact q.rev
theorem Sq.take {w v : List Nat} (h : Sq w v) : w.take 1 = v.take 1 := by
  obtain ⟨x, y, z, rfl, rfl⟩ := h
  cases x with
  | cons => simp
  | nil => cases y <;> simp
theorem Sq.plain : ∀ {n : Nat} {w v : List Nat}, Sq w v → plain n w = plain n v
  | 0, w, v, h => h.take
  | n + 1, w, v, h => by
    rw [Z.plain, Z.plain, nl_ext h.mem]
    obtain ⟨a1, a2⟩ := h.hw
    obtain ⟨b1, b2⟩ := h.tw
    have e1 : Z.plain n (Z.hw w).1 = Z.plain n (Z.hw v).1 := a2.elim (fun e => by rw [e]) Sq.plain
    have e2 : Z.plain n (Z.tw w).1 = Z.plain n (Z.tw v).1 := b2.elim (fun e => by rw [e]) Sq.plain
    rw [h.take, a1, b1, e1, e2]
theorem Sq.pl {w v : List Nat} (h : Sq w v) : pl w = pl v := by unfold Z.pl; rw [nl_ext h.mem]; exact h.plain
theorem mem_plain : ∀ {n : Nat} {w : List Nat}, nl w ≤ n + 1 → ∀ k, k ∈ plain n w ↔ k ∈ w := by
  have small : ∀ {w : List Nat}, nl w < 2 → ∀ k, k ∈ w.take 1 ↔ k ∈ w := by
    intro w h k
    cases w with
    | nil => exact Iff.rfl
    | cons a r =>
      refine ⟨fun m => List.mem_of_mem_take m, fun m => ?_⟩
      have e : ∀ b ∈ a :: r, b = a := fun b mb => by
        have h1 := mem_dd.mpr mb
        have h2 := mem_dd.mpr (List.mem_cons_self : a ∈ a :: r)
        unfold nl at h
        generalize dd (a :: r) = l at h h1 h2
        match l, h with
        | [], _ => cases h1
        | [c], _ => rw [List.mem_singleton.mp h1, List.mem_singleton.mp h2]
        | _ :: _ :: _, h => simp at h; omega
      rw [e k m]; simp
  intro n
  induction n with
  | zero => intro w h; exact small (by omega)
  | succ n ih =>
    intro w h k
    rw [plain]
    split
    · rename_i q; exact small q k
    · rename_i q
      have hn := ne_of_nl q
      have h1 := nl_hw hn
      have h2 := nl_tw hn
      simp only [List.mem_append, List.mem_cons, List.not_mem_nil, or_false, ih (w := (hw w).1) (by omega), ih (w := (tw w).1) (by omega)]
      constructor
      · rintro ((m | m | m) | m)
        · exact (hw_mem hn k).mpr (.inr m)
        · exact (hw_mem hn k).mpr (.inl m)
        · exact (tw_mem hn k).mpr (.inl m)
        · exact (tw_mem hn k).mpr (.inr m)
      · intro m
        rcases (hw_mem hn k).mp m with m | m
        · exact .inl (.inr (.inl m))
        · exact .inl (.inl m)
theorem mem_pl {w : List Nat} (k : Nat) : k ∈ pl w ↔ k ∈ w := mem_plain (Nat.le_succ _) k
theorem nl_pl {w : List Nat} : nl (pl w) = nl w := nl_ext mem_pl
theorem pl_pl : ∀ (n : Nat) (w : List Nat), nl w = n → pl (pl w) = pl w := by
  intro n
  induction n with
  | zero =>
    intro w h
    rw [pl_small (w := w) (by omega), pl_small (by rw [← pl_small (w := w) (by omega), nl_pl]; omega)]
    rw [List.take_take]; rfl
  | succ n ih =>
    intro w h
    by_cases q : nl w < 2
    · rw [pl_small q, pl_small (by rw [← pl_small q, nl_pl]; exact q), List.take_take]; rfl
    · have hn := ne_of_nl q
      have h1 := nl_hw hn
      have h2 := nl_tw hn
      have e := pl_step q
      have eh : hw (pl w) = (pl (hw w).1, (hw w).2) := by
        rw [e, List.append_assoc, List.cons_append]
        refine hw_at (fun m => hw_out hn ((mem_pl _).mp m)) fun k m => ?_
        rw [mem_pl]
        refine (hw_mem hn k).mp ?_
        rcases List.mem_cons.mp m with rfl | m
        · exact (tw_mem hn _).mpr (.inl rfl)
        · exact (tw_mem hn _).mpr (.inr ((mem_pl _).mp m))
      have et : tw (pl w) = (pl (tw w).1, (tw w).2) := by
        rw [e, show pl (hw w).1 ++ [(hw w).2, (tw w).2] ++ pl (tw w).1 = (pl (hw w).1 ++ [(hw w).2]) ++ (tw w).2 :: pl (tw w).1 by simp]
        refine tw_at (fun m => tw_out hn ((mem_pl _).mp m)) fun k m => ?_
        rw [mem_pl]
        refine (tw_mem hn k).mp ?_
        rcases List.mem_append.mp m with m | m
        · exact (hw_mem hn _).mpr (.inr ((mem_pl _).mp m))
        · rw [List.mem_singleton.mp m]; exact (hw_mem hn _).mpr (.inl rfl)
      rw [pl_step (w := pl w) (by rw [nl_pl]; exact q), eh, et, ih _ (by omega), ih _ (by omega), ← e]
theorem pl_len : ∀ {n : Nat} {w : List Nat}, nl w ≤ n → (pl w).length + 2 ≤ 3 * 2 ^ (n - 1) := by
  intro n
  induction n with
  | zero =>
    intro w h
    rw [pl_small (by omega), List.length_take]; simp; omega
  | succ n ih =>
    intro w h
    by_cases q : nl w < 2
    · rw [pl_small q, List.length_take]
      have : 1 ≤ 2 ^ (n + 1 - 1) := Nat.one_le_two_pow
      omega
    · have hn := ne_of_nl q
      have h1 := nl_hw hn
      have h2 := nl_tw hn
      have a := ih (w := (hw w).1) (by omega)
      have b := ih (w := (tw w).1) (by omega)
      rw [pl_step q, List.length_append, List.length_append]
      cases n with
      | zero => omega
      | succ n =>
        rw [Nat.succ_sub_one] at a b ⊢
        rw [Nat.pow_succ]
        simp only [List.length_cons, List.length_nil]
        omega
end Z
end
section
set_option Elab.async false
set_option linter.all false
set_option maxRecDepth 100000
set_option maxHeartbeats 1000000
/-! Rows of naturals cut; sets told by a dict. -/
namespace Z
open PySem PySem.Spec L2
theorem sIx_n (n d k : Nat) : HT.sIx n d (some (k : Int)) = min k n := by
  show (if (k : Int) < 0 then ((k : Int) + (n : Int)).toNat else min (k : Int).toNat n) = min k n
  rw [if_neg (by omega), Int.toNat_natCast]
theorem cut_take (w : List Nat) (j : Nat) : cutD (nI w) none (some (j : Int)) = nI (w.take j) := by
  unfold cutD nI
  rw [sIx_n]
  show (List.drop 0 _).take (min j _ - 0) = _
  rw [List.drop_zero, Nat.sub_zero, List.length_map, List.map_take, ← List.length_map (f := fun (k : Nat) => PyData.int (k : Int)), ← List.take_eq_take_min]
theorem cut_drop (w : List Nat) (i : Nat) : cutD (nI w) (some (i : Int)) none = nI (w.drop i) := by
  unfold cutD nI
  rw [sIx_n]
  show (List.drop _ _).take (List.length _ - _) = _
  rw [← List.length_drop, List.take_length, List.length_map, List.map_drop]
  by_cases h : i ≤ w.length
  · rw [Nat.min_eq_left h]
  · rw [Nat.min_eq_right (by omega), List.drop_eq_nil_of_le (by simp), List.drop_eq_nil_of_le (by simp; omega)]
theorem cut_mid (w : List Nat) {i j : Nat} (h : i ≤ j) (hj : j ≤ w.length) : cutD (nI w) (some (i : Int)) (some (j : Int)) = nI ((w.drop i).take (j - i)) := by
  unfold cutD nI
  rw [sIx_n, sIx_n, List.length_map, Nat.min_eq_left hj, Nat.min_eq_left (Nat.le_trans h hj), List.map_take, List.map_drop]
theorem rev_nI (w : List Nat) : (nI w).reverse = nI w.reverse := List.map_reverse.symm
/-- a set of naturals, as a dict -/
def kb (s : List Nat) : List (D × D) := s.map fun (x : Nat) => (.int (x : Int), .bool true)
theorem kb_pl {s : List Nat} : ∀ p ∈ kb s, isPl p.1 = true := fun p m => by
  obtain ⟨x, _, rfl⟩ := List.mem_map.mp m
  rfl
theorem kb_key {s : List Nat} {x : Nat} : DKey (.int (x : Int)) (kb s) := .inr ⟨rfl, kb_pl⟩
theorem kb_look {x : Nat} : ∀ {s : List Nat}, (look (kb s) (.int (x : Int))).isSome = decide (x ∈ s)
  | [] => rfl
  | a :: s => by
    have ih := kb_look (x := x) (s := s)
    unfold look kb at ih ⊢
    rw [List.map_cons, List.find?_cons]
    by_cases e : a = x
    · subst e
      simp
    · have : ¬ (PyData.int (a : Int) = .int (x : Int)) := fun z => e (by cases z; rfl)
      rw [decide_eq_false this]
      simp only [ih]
      simp [Ne.symm e]
theorem kb_put {x : Nat} {s : List Nat} (h : x ∉ s) : dput (kb s) (.int (x : Int)) (.bool true) = kb (s ++ [x]) := by
  unfold dput
  rw [kb_look, decide_eq_false h]
  simp [kb]
theorem kb_len {s : List Nat} : (kb s).length = s.length := List.length_map _
end Z
end
section
set_option Elab.async false
set_option linter.all false
set_option maxRecDepth 100000
set_option maxHeartbeats 1000000
/-! Readings: dict comprehensions, dicts of naturals, pairs zipped, sorted sets. -/
namespace Z
open PySem PySem.Spec L2
/-- a dict comprehension, turn by turn -/
theorem dc_ix {vs : List Nat} {zt : ZG} {tt : ZB} {tk te : ZT} {Q : List (D × D) → Sto → Prop} (Inv : Nat → List (D × D) → Sto → Prop) {ds : List D} {δ : Sto} (h0 : Inv 0 [] δ)
    (hs : ∀ (i : Nat) (d : D) (acc : List (D × D)) (δ : Sto) (K : List (D × D) → Sto → Prop), ds[i]? = some d → Inv i acc δ → (∀ acc' δ', Inv (i + 1) acc' δ' → K acc' δ') →
      zt d δ fun δ1 => tt δ1 fun b δ2 => if b = true then tk δ2 fun rk δ3 => zSettle rk δ3 fun x δ4 => te δ4 fun r δ5 => zSettle r δ5 fun y δ6 => DKey x acc ∧ acc.length < lineN ∧ noLck δ6 vs = true ∧ K (dput acc x y) (wipeD δ6 vs) else noLck δ2 vs = true ∧ K acc (wipeD δ2 vs))
    (he : ∀ acc δ, Inv ds.length acc δ → Q acc δ) : zDcL vs zt tt tk te ds [] δ Q := by
  have all : ∀ (l : List D) (i : Nat) (acc : List (D × D)) (δ : Sto), ds.drop i = l → i ≤ ds.length → Inv i acc δ → zDcL vs zt tt tk te l acc δ Q := by
    intro l
    induction l with
    | nil =>
      intro i acc δ hd hi hI
      have e := congrArg List.length hd
      rw [List.length_drop] at e
      simp at e
      have e2 : i = ds.length := by omega
      rw [e2] at hI
      exact he acc δ hI
    | cons d l ih =>
      intro i acc δ hd hi hI
      have e := congrArg List.length hd
      rw [List.length_drop, List.length_cons] at e
      have hlt : i < ds.length := by omega
      rw [List.drop_eq_getElem_cons hlt] at hd
      injection hd with e1 e2
      exact hs i d acc δ (fun acc δ => zDcL vs zt tt tk te l acc δ Q) (by rw [List.getElem?_eq_getElem hlt, e1]) hI fun acc' δ' h' => ih (i + 1) acc' δ' e2 hlt h'
  exact all ds 0 [] δ List.drop_zero (Nat.zero_le _) h0
/-- a dict of naturals to naturals -/
def dI (l : List (Nat × Nat)) : List (D × D) := l.map fun p => (.int (p.1 : Int), .int (p.2 : Int))
def nget (l : List (Nat × Nat)) (k : Nat) : Option Nat := (l.find? fun p => decide (p.1 = k)).map (·.2)
def nput (l : List (Nat × Nat)) (k v : Nat) : List (Nat × Nat) := if (nget l k).isSome then l.map fun p => if p.1 = k then (p.1, v) else p else l ++ [(k, v)]
theorem dI_len {l : List (Nat × Nat)} : (dI l).length = l.length := List.length_map _
theorem dI_key {l : List (Nat × Nat)} {k : Nat} : DKey (.int (k : Int)) (dI l) := .inr ⟨rfl, fun p m => by
  obtain ⟨q, _, rfl⟩ := List.mem_map.mp m
  rfl⟩
theorem dI_look {k : Nat} : ∀ {l : List (Nat × Nat)}, look (dI l) (.int (k : Int)) = (nget l k).map fun (v : Nat) => PyData.int (v : Int)
  | [] => rfl
  | p :: l => by
    have ih := dI_look (k := k) (l := l)
    unfold look nget dI at *
    rw [List.map_cons, List.find?_cons, List.find?_cons]
    by_cases h : p.1 = k
    · rw [decide_eq_true (show PyData.int (p.1 : Int) = .int (k : Int) by rw [h]), decide_eq_true h]; rfl
    · rw [decide_eq_false (show ¬ PyData.int (p.1 : Int) = .int (k : Int) from fun e => h (by injection e; omega)), decide_eq_false h]
      exact ih
theorem dI_put {l : List (Nat × Nat)} {k v : Nat} : dput (dI l) (.int (k : Int)) (.int (v : Int)) = dI (nput l k v) := by
  unfold dput nput
  rw [dI_look, Option.isSome_map]
  split
  · unfold dI
    rw [List.map_map, List.map_map]
    refine List.map_congr_left fun p _ => ?_
    show (if PyData.int (p.1 : Int) = .int (k : Int) then _ else _) = _
    by_cases h : p.1 = k
    · rw [if_pos (show PyData.int (p.1 : Int) = .int (k : Int) by rw [h])]
      show _ = (fun q : Nat × Nat => (PyData.int (q.1 : Int), PyData.int (q.2 : Int))) (if p.1 = k then (p.1, v) else p)
      rw [if_pos h]
    · rw [if_neg (show ¬ PyData.int (p.1 : Int) = .int (k : Int) from fun e => h (by injection e; omega))]
      show _ = (fun q : Nat × Nat => (PyData.int (q.1 : Int), PyData.int (q.2 : Int))) (if p.1 = k then (p.1, v) else p)
      rw [if_neg h]
  · unfold dI
    rw [List.map_append]; rfl
theorem nput_len {l : List (Nat × Nat)} {k v : Nat} : (nput l k v).length ≤ l.length + 1 := by
  unfold nput
  split
  · rw [List.length_map]; omega
  · rw [List.length_append]; exact Nat.le_refl _
def prD (p : Nat × Nat) : D := .tuple [.int (p.1 : Int), .int (p.2 : Int)]
theorem zp_nI : ∀ a b : List Nat, zpD (nI a) (nI b) = (a.zip b).map prD
  | [], _ => rfl
  | _ :: _, [] => rfl
  | x :: a, y :: b => by
    have ih := zp_nI a b
    show prD (x, y) :: zpD (nI a) (nI b) = _
    rw [ih]; rfl
theorem pwl_ext : ∀ {a b : List Int}, a.Pairwise (· < ·) → b.Pairwise (· < ·) → (∀ k, k ∈ a ↔ k ∈ b) → a = b
  | [], [], _, _, _ => rfl
  | [], y :: _, _, _, h => nomatch (h y).mpr (.head _)
  | x :: _, [], _, _, h => nomatch (h x).mp (.head _)
  | x :: a, y :: b, ha, hb, h => by
    obtain ⟨h1, h2⟩ := List.pairwise_cons.mp ha
    obtain ⟨h3, h4⟩ := List.pairwise_cons.mp hb
    have e : x = y := by
      rcases List.mem_cons.mp ((h x).mp (.head _)) with m | m
      · exact m
      · rcases List.mem_cons.mp ((h y).mpr (.head _)) with k | k
        · exact k.symm
        · have := h3 x m; have := h1 y k; omega
    subst e
    rw [pwl_ext h2 h4 fun k => ⟨fun m => ?_, fun m => ?_⟩]
    · rcases List.mem_cons.mp ((h k).mp (.tail _ m)) with z | z
      · have := h1 k m; omega
      · exact z
    · rcases List.mem_cons.mp ((h k).mpr (.tail _ m)) with z | z
      · have := h3 k m; omega
      · exact z
/-- what sorted(set(w)) tells -/
theorem set_sset {n : Nat} {w : List Nat} (h : inR n w) {out : List Int} (h1 : out.Pairwise (· < ·)) (h2 : ∀ k, k ∈ out ↔ k ∈ zs w) : out.map PyData.int = nI (sset n w) := by
  have e : out = zs (sset n w) := pwl_ext h1 (by
    unfold zs
    exact List.pairwise_map.mpr ((sset_pw (n := n) (l := w)).imp fun h => by omega)) fun k => by
      rw [h2, zs_mem, zs_mem]
      exact ⟨fun ⟨x, a, b⟩ => ⟨x, (sset_mem h x).mpr a, b⟩, fun ⟨x, a, b⟩ => ⟨x, (sset_mem h x).mp a, b⟩⟩
  rw [e, ← nI_zs]
theorem place_nat {k : Nat} : ∀ {l : List Nat}, k ∈ l → SeqAt.dataPlace (nI l) (.int (k : Int)) = some (l.idxOf k)
  | a :: l, h => by
    unfold SeqAt.dataPlace nI
    rw [List.map_cons, List.findIdx?_cons, eqv_nat, List.idxOf_cons]
    by_cases e : a = k
    · subst e; simp
    · rw [decide_eq_false e]
      have m : k ∈ l := (List.mem_cons.mp h).elim (fun z => absurd z.symm e) id
      have ih := place_nat m
      unfold SeqAt.dataPlace nI at ih
      have e2 : (a == k) = false := beq_eq_false_iff_ne.mpr e
      simp [ih, e2]
theorem at_natD {ds : List D} {i : Nat} (h : i < ds.length) : atI ds (i : Int) = some ds[i] := by
  unfold atI
  rw [ixN_nat h]
  exact List.getElem?_eq_getElem h
end Z
end
section
set_option Elab.async false
set_option linter.all false
set_option maxRecDepth 100000
set_option maxHeartbeats 1000000
/-! Tables of naturals, heaps of maps, what is first. -/
namespace Z
open PySem PySem.Spec L2
/-! ### what is first -/
def fst? {β : Type} (n : Nat) (f : Nat → Option β) : Option β := (List.range n).findSome? f
theorem fst_none {β : Type} {n : Nat} {f : Nat → Option β} (h : ∀ j, j < n → f j = none) : fst? n f = none := by
  unfold fst?
  rw [List.findSome?_eq_none_iff]
  exact fun x m => h x (List.mem_range.mp m)
theorem fst_hit {β : Type} {n i : Nat} {f : Nat → Option β} {b : β} (hi : i < n) (h : ∀ j, j < i → f j = none) (hb : f i = some b) : fst? n f = some b := by
  unfold fst?
  have e : List.range n = List.range i ++ (i :: (List.range (n - i - 1)).map (i + 1 + ·)) := by
    rw [show n = i + (1 + (n - i - 1)) by omega, List.range_add, List.range_add]
    simp only [show i + (1 + (n - i - 1)) - i - 1 = n - i - 1 by omega]
    simp [Function.comp_def, Nat.add_assoc]
  rw [e, List.findSome?_append]
  have : (List.range i).findSome? f = none := by
    rw [List.findSome?_eq_none_iff]; exact fun x m => h x (List.mem_range.mp m)
  rw [this, List.findSome?_cons, hb]; rfl
theorem fst_cases {β : Type} (n : Nat) (f : Nat → Option β) : (fst? n f = none ∧ ∀ j, j < n → f j = none) ∨ ∃ i b, i < n ∧ (∀ j, j < i → f j = none) ∧ f i = some b ∧ fst? n f = some b := by
  induction n with
  | zero => exact .inl ⟨rfl, fun _ h => absurd h (by omega)⟩
  | succ n ih =>
    rcases ih with ⟨_, h⟩ | ⟨i, b, hi, h1, h2, _⟩
    · cases e : f n with
      | none =>
        have : ∀ j, j < n + 1 → f j = none := fun j hj => by
          rcases Nat.lt_succ_iff_lt_or_eq.mp hj with c | rfl
          · exact h j c
          · exact e
        exact .inl ⟨fst_none this, this⟩
      | some b => exact .inr ⟨n, b, Nat.lt_succ_self n, h, e, fst_hit (Nat.lt_succ_self n) h e⟩
    · exact .inr ⟨i, b, by omega, h1, h2, fst_hit (by omega) h1 h2⟩
def fstB (n : Nat) (p : Nat → Bool) : Option Nat := fst? n fun i => if p i then some i else none
theorem filter_fst (n : Nat) (p : Nat → Bool) : ((List.range n).filter p).head? = fstB n p := by
  unfold fstB fst?
  induction List.range n with
  | nil => rfl
  | cons a l ih =>
    rw [List.findSome?_cons]
    by_cases h : p a = true
    · rw [List.filter_cons_of_pos h, if_pos h]; rfl
    · rw [List.filter_cons_of_neg h, if_neg h]; exact ih
def optD : Option Nat → D
  | none => .none
  | some k => .int (k : Nat)
/-! ### tables -/
def tbD (t : List (List Nat)) : D := .tuple (t.map nT)
def tg (t : List (List Nat)) (x y : Nat) : Nat := (t.getD x []).getD y 0
structure Tb (m : Nat) (t : List (List Nat)) : Prop where
  len : t.length = m
  row : ∀ r ∈ t, r.length = m ∧ inR m r
def mkT (m : Nat) (f : Nat → Nat → Nat) : List (List Nat) := (List.range m).map fun x => (List.range m).map fun y => f x y
theorem getD_map_range {α : Type} {m x : Nat} {g : Nat → α} {d : α} (hx : x < m) : ((List.range m).map g).getD x d = g x := by
  rw [List.getD_eq_getElem?_getD, List.getElem?_map, List.getElem?_range hx]; rfl
theorem tg_mk {m x y : Nat} {f : Nat → Nat → Nat} (hx : x < m) (hy : y < m) : tg (mkT m f) x y = f x y := by
  unfold tg mkT
  rw [getD_map_range hx, getD_map_range hy]
theorem tb_mk {m : Nat} {f : Nat → Nat → Nat} (h : ∀ x, x < m → ∀ y, y < m → f x y < m) : Tb m (mkT m f) := by
  refine ⟨by unfold mkT; simp, fun r hr => ?_⟩
  obtain ⟨x, hx, rfl⟩ := List.mem_map.mp hr
  refine ⟨by simp, fun v hv => ?_⟩
  obtain ⟨y, hy, rfl⟩ := List.mem_map.mp hv
  exact h x (List.mem_range.mp hx) y (List.mem_range.mp hy)
theorem rowD_mem {t : List (List Nat)} {x : Nat} (hx : x < t.length) : t.getD x [] ∈ t := by
  rw [List.getD_eq_getElem?_getD, List.getElem?_eq_getElem hx]; exact List.getElem_mem hx
namespace Tb
variable {m : Nat} {t u : List (List Nat)}
theorem rl (h : Tb m t) {x : Nat} (hx : x < m) : (t.getD x []).length = m := (h.row _ (rowD_mem (by rw [h.len]; exact hx))).1
theorem ri (h : Tb m t) {x : Nat} (hx : x < m) : inR m (t.getD x []) := (h.row _ (rowD_mem (by rw [h.len]; exact hx))).2
theorem lt (h : Tb m t) {x y : Nat} (hx : x < m) (hy : y < m) : tg t x y < m := h.ri hx _ (getD_mem (by rw [h.rl hx]; exact hy))
theorem ext (h1 : Tb m t) (h2 : Tb m u) (h : ∀ x, x < m → ∀ y, y < m → tg t x y = tg u x y) : t = u := by
  refine List.ext_getElem (by rw [h1.len, h2.len]) fun x hx hx2 => ?_
  have hx0 : x < m := by rw [h1.len] at hx; exact hx
  have e1 : t.getD x [] = t[x] := by rw [List.getD_eq_getElem?_getD, List.getElem?_eq_getElem hx]; rfl
  have e2 : u.getD x [] = u[x] := by rw [List.getD_eq_getElem?_getD, List.getElem?_eq_getElem hx2]; rfl
  rw [← e1, ← e2]
  refine List.ext_getElem (by rw [h1.rl hx0, h2.rl hx0]) fun y hy hy2 => ?_
  have hy0 : y < m := by rw [h1.rl hx0] at hy; exact hy
  have := h x hx0 y hy0
  unfold tg at this
  rw [List.getD_eq_getElem?_getD (l := t.getD x []), List.getElem?_eq_getElem hy, List.getD_eq_getElem?_getD (l := u.getD x []), List.getElem?_eq_getElem hy2] at this
  exact this
theorem eta (h : Tb m t) : t = mkT m (tg t) := h.ext (tb_mk fun x hx y hy => h.lt hx hy) fun x hx y hy => (tg_mk hx hy).symm
theorem rowAt (h : Tb m t) {x : Nat} (hx : x < m) : atI (t.map nT) (x : Int) = some (nT (t.getD x [])) := by
  have hx : x < t.length := by rw [h.len]; exact hx
  have hl : x < (t.map nT).length := by rw [List.length_map]; exact hx
  unfold atI
  rw [ixN_nat hl]
  show (t.map nT)[x]? = _
  rw [List.getElem?_map, List.getElem?_eq_getElem hx, List.getD_eq_getElem?_getD, List.getElem?_eq_getElem hx]; rfl
theorem get? (h : Tb m t) {x : Nat} {d : D} (e : (t.map nT)[x]? = some d) : x < m ∧ d = nT (t.getD x []) := by
  obtain ⟨hx, e⟩ := List.getElem?_eq_some_iff.mp e
  rw [List.length_map] at hx
  refine ⟨by rw [← h.len]; exact hx, ?_⟩
  rw [List.getElem_map] at e
  rw [← e, List.getD_eq_getElem?_getD, List.getElem?_eq_getElem hx]; rfl
theorem itAt (h : Tb m t) {x y : Nat} (hx : x < m) (hy : y < m) : atI (nI (t.getD x [])) (y : Int) = some (.int (tg t x y : Nat)) := nI_at (by rw [h.rl hx]; exact hy)
theorem row? (h : Tb m t) {x y : Nat} {d : D} (hx : x < m) (e : (nI (t.getD x []))[y]? = some d) : y < m ∧ d = .int (tg t x y : Nat) := by
  obtain ⟨hy, _⟩ := List.getElem?_eq_some_iff.mp e
  rw [nI_len] at hy
  rw [nI_get hy] at e
  cases e
  exact ⟨by rw [← h.rl hx]; exact hy, rfl⟩
end Tb
def Assoc (m : Nat) (t : List (List Nat)) : Prop := ∀ x, x < m → ∀ y, y < m → ∀ z, z < m → tg t (tg t x y) z = tg t x (tg t y z)
def turnT (m : Nat) (t : List (List Nat)) : List (List Nat) := mkT m fun x y => tg t y x
theorem Tb.turn {m : Nat} {t : List (List Nat)} (h : Tb m t) : Tb m (turnT m t) := tb_mk fun x hx y hy => h.lt hy hx
theorem tg_turn {m x y : Nat} {t : List (List Nat)} (hx : x < m) (hy : y < m) : tg (turnT m t) x y = tg t y x := tg_mk hx hy
theorem Assoc.turn {m : Nat} {t : List (List Nat)} (h : Tb m t) (a : Assoc m t) : Assoc m (turnT m t) := fun x hx y hy z hz => by
  rw [tg_turn hx hy, tg_turn hy hz, tg_turn (h.lt hy hx) hz, tg_turn hx (h.lt hz hy)]
  exact (a z hz y hy x hx).symm
def isUnit (m : Nat) (t : List (List Nat)) (x : Nat) : Bool := (List.range m).all fun y => decide (tg t x y = y) && decide (tg t y x = y)
def isNought (m : Nat) (t : List (List Nat)) (x : Nat) : Bool := (List.range m).all fun y => decide (tg t x y = x) && decide (tg t y x = x)
def unitF (m : Nat) (t : List (List Nat)) : Option Nat := fstB m (isUnit m t)
def noughtF (m : Nat) (t : List (List Nat)) : Option Nat := fstB m (isNought m t)
def badZ (t : List (List Nat)) (x y z : Nat) : Bool := decide (tg t (tg t x y) z ≠ tg t x (tg t y z))
def threeF (m : Nat) (t : List (List Nat)) : Option (Nat × Nat × Nat) := fst? m fun x => fst? m fun y => (fstB m (badZ t x y)).map fun z => (x, y, z)
def threeD : Option (Nat × Nat × Nat) → D
  | none => .none
  | some (x, y, z) => .tuple [.int (x : Nat), .int (y : Nat), .int (z : Nat)]
/-! ### heaps -/
inductive Gen (ms : List (List Nat)) : List Nat → Prop
  | base {m : List Nat} : m ∈ ms → Gen ms m
  | step {a m : List Nat} : Gen ms a → m ∈ ms → Gen ms (beh a m)
def MapsN (n : Nat) (ms : List (List Nat)) : Prop := ∀ f ∈ ms, f.length = n ∧ inR n f
theorem beh_ok {n : Nat} {a b : List Nat} (ha : a.length = n ∧ inR n a) (hb : b.length = n ∧ inR n b) : (beh a b).length = n ∧ inR n (beh a b) :=
  ⟨by rw [beh_len]; exact ha.1, beh_inR (by rw [hb.1]; exact ha.2) hb.2⟩
theorem gen_ok {n : Nat} {ms : List (List Nat)} (h : MapsN n ms) {f : List Nat} (g : Gen ms f) : f.length = n ∧ inR n f := by
  induction g with
  | base hm => exact h _ hm
  | step _ hm ih => exact beh_ok ih (h _ hm)
structure Heap (n : Nat) (hs : List (List Nat)) : Prop where
  ok : MapsN n hs
  nd : hs.Nodup
  ne : hs ≠ []
  cl : ∀ a ∈ hs, ∀ b ∈ hs, beh a b ∈ hs
theorem heap_of_closed {n : Nat} {ms F : List (List Nat)} (h : MapsN n ms) (h0 : ms ≠ []) (nd : F.Nodup) (sub : ∀ m ∈ ms, m ∈ F) (g : ∀ f ∈ F, Gen ms f) (cl : ∀ f ∈ F, ∀ m ∈ ms, beh f m ∈ F) : Heap n F := by
  refine ⟨fun f hf => gen_ok h (g f hf), nd, fun e => ?_, fun a ha b hb => ?_⟩
  · cases ms with
    | nil => exact h0 rfl
    | cons m _ => have := sub m (List.mem_cons_self ..); rw [e] at this; exact nomatch this
  · have key : ∀ b, Gen ms b → beh a b ∈ F := fun b gb => by
      induction gb with
      | base hm => exact cl a ha _ hm
      | step gc hm ih =>
        rw [← beh_assoc (by rw [(gen_ok h gc).1]; exact (gen_ok h (g a ha)).2)]
        exact cl _ ih _ hm
    exact key b (g b hb)
theorem Heap.perm {n : Nat} {a b : List (List Nat)} (h : Heap n a) (p : b.Perm a) : Heap n b :=
  ⟨fun f hf => h.ok f (p.mem_iff.mp hf), p.nodup_iff.mpr h.nd, fun e => by subst e; exact h.ne p.symm.eq_nil, fun x hx y hy => p.mem_iff.mpr (h.cl x (p.mem_iff.mp hx) y (p.mem_iff.mp hy))⟩
def tabOf (hs : List (List Nat)) : List (List Nat) := hs.map fun a => hs.map fun b => hs.idxOf (beh a b)
theorem tg_tabOf {hs : List (List Nat)} {x y : Nat} (hx : x < hs.length) (hy : y < hs.length) : tg (tabOf hs) x y = hs.idxOf (beh (hs.getD x []) (hs.getD y [])) := by
  unfold tg tabOf
  simp only [List.getD_eq_getElem?_getD, List.getElem?_map, List.getElem?_eq_getElem hx, List.getElem?_eq_getElem hy, Option.map_some, Option.getD_some]
theorem Heap.tab {n : Nat} {hs : List (List Nat)} (h : Heap n hs) : Tb hs.length (tabOf hs) := by
  refine ⟨by unfold tabOf; simp, fun r hr => ?_⟩
  obtain ⟨a, ha, rfl⟩ := List.mem_map.mp hr
  refine ⟨by simp, fun v hv => ?_⟩
  obtain ⟨b, hb, rfl⟩ := List.mem_map.mp hv
  exact List.idxOf_lt_length_of_mem (h.cl a ha b hb)
theorem getD_idxOf {hs : List (List Nat)} {a : List Nat} (h : a ∈ hs) : hs.getD (hs.idxOf a) [] = a := by
  have := List.idxOf_lt_length_of_mem h
  rw [List.getD_eq_getElem?_getD, List.getElem?_eq_getElem this]
  exact List.getElem_idxOf this
theorem Heap.assoc {n : Nat} {hs : List (List Nat)} (h : Heap n hs) : Assoc hs.length (tabOf hs) := fun x hx y hy z hz => by
  have mx := rowD_mem hx; have my := rowD_mem hy; have mz := rowD_mem hz
  rw [tg_tabOf (h.tab.lt hx hy) hz, tg_tabOf hx (h.tab.lt hy hz), tg_tabOf hx hy, tg_tabOf hy hz, getD_idxOf (h.cl _ mx _ my), getD_idxOf (h.cl _ my _ mz), beh_assoc (by rw [(h.ok _ my).1]; exact (h.ok _ mx).2)]
/-! ### namings -/
structure Nam (m : Nat) (nm : List Nat) : Prop where
  p : nm.Perm (List.range m)
namespace Nam
variable {m : Nat} {nm : List Nat}
theorem len (h : Nam m nm) : nm.length = m := by rw [h.p.length_eq, List.length_range]
theorem inR (h : Nam m nm) : inR m nm := fun x hx => List.mem_range.mp (h.p.mem_iff.mp hx)
theorem nd (h : Nam m nm) : nm.Nodup := h.p.nodup_iff.mpr List.nodup_range
theorem lt (h : Nam m nm) {x : Nat} (hx : x < m) : nm.getD x 0 < m := h.inR _ (getD_mem (by rw [h.len]; exact hx))
theorem sur (h : Nam m nm) {k : Nat} (hk : k < m) : ∃ x, x < m ∧ nm.getD x 0 = k := by
  have := h.p.mem_iff.mpr (List.mem_range.mpr hk)
  obtain ⟨x, hx, e⟩ := List.getElem_of_mem this
  refine ⟨x, by rw [← h.len]; exact hx, ?_⟩
  rw [List.getD_eq_getElem?_getD, List.getElem?_eq_getElem hx]; exact e
theorem inj (h : Nam m nm) {x y : Nat} (hx : x < m) (hy : y < m) (e : nm.getD x 0 = nm.getD y 0) : x = y := by
  have hx : x < nm.length := by rw [h.len]; exact hx
  have hy : y < nm.length := by rw [h.len]; exact hy
  rw [List.getD_eq_getElem?_getD, List.getElem?_eq_getElem hx, List.getD_eq_getElem?_getD, List.getElem?_eq_getElem hy] at e
  exact (List.getElem_inj h.nd).mp e
end Nam
def Ren (m : Nat) (nm : List Nat) (t u : List (List Nat)) : Prop := ∀ x, x < m → ∀ y, y < m → tg u (nm.getD x 0) (nm.getD y 0) = nm.getD (tg t x y) 0
theorem Ren.assoc {m : Nat} {nm : List Nat} {t u : List (List Nat)} (h : Nam m nm) (ht : Tb m t) (r : Ren m nm t u) (a : Assoc m t) : Assoc m u := fun x hx y hy z hz => by
  obtain ⟨x, ax, rfl⟩ := h.sur hx
  obtain ⟨y, ay, rfl⟩ := h.sur hy
  obtain ⟨z, az, rfl⟩ := h.sur hz
  rw [r x ax y ay, r y ay z az, r _ (ht.lt ax ay) z az, r x ax _ (ht.lt ay az), a x ax y ay z az]
end Z
end
section
set_option Elab.async false
set_option linter.all false
set_option maxRecDepth 100000
set_option maxHeartbeats 1000000
/-! The heap of makers, found by going; maps as keys of dicts. -/
namespace Z
open PySem PySem.Spec L2
structure HI (ms : List (List Nat)) (k' j : Nat) (F T : List (List Nat)) : Prop where
  nd : F.Nodup
  gen : ∀ f ∈ F, Gen ms f
  sub : ∀ m ∈ ms, m ∈ F
  tf : ∀ f ∈ T, f ∈ F
  dn : ∀ f ∈ F, f ∈ T ∨ ∀ m ∈ ms, beh f m ∈ F
  j0 : j = 0 → T = ms
  cnt : T = [] ∨ (T.length + k' + j = ms.length + F.length ∧ ((∀ m ∈ ms, some m = ms.head?) → ms.length = 3 → T.head? = ms.head? ∧ (1 ≤ j → ∀ f, some f = ms.head? → ∀ m ∈ ms, beh f m ∈ F)))
  fl : F.length ≤ 3 + 3 * j
  tl : T.length ≤ 3 + 3 * j
theorem HI.start {ms F : List (List Nat)} (nd : F.Nodup) (mem : ∀ m, m ∈ F ↔ m ∈ ms) (hl : ms.length ≤ 3) (fl : F.length ≤ ms.length) : HI ms F.length 0 F ms :=
  ⟨nd, fun f hf => .base ((mem f).mp hf), fun m hm => (mem m).mpr hm, fun f hf => (mem f).mpr hf, fun f hf => .inl ((mem f).mp hf), fun _ => rfl, .inr ⟨by omega, fun _ _ => ⟨rfl, fun h => absurd h (by decide)⟩⟩, by omega, by omega⟩
theorem HI.skip {ms F : List (List Nat)} {k' j : Nat} (h : HI ms k' j F []) (h0 : ms ≠ []) : HI ms k' (j + 1) F [] :=
  ⟨h.nd, h.gen, h.sub, h.tf, h.dn, fun e => absurd e (Nat.succ_ne_zero j), .inl rfl, Nat.le_trans h.fl (by omega), Nat.le_trans h.tl (by omega)⟩
theorem head_of_all {ms : List (List Nat)} (all : ∀ m ∈ ms, some m = ms.head?) {T : List (List Nat)} (e : T.head? = ms.head?) (h1 : T.length = 1) : ∀ f ∈ T, some f = ms.head? := fun f hf => by
  match T, h1 with
  | [a], _ =>
    rw [List.mem_singleton.mp hf, ← e]; rfl
theorem HI.step {ms F T0 N : List (List Nat)} {own : List Nat} {k' j : Nat} (h : HI ms k' j F (T0 ++ [own])) (hl : ms.length ≤ 3) (nd : (F ++ N).Nodup) (gN : ∀ f ∈ N, ∃ m ∈ ms, f = beh own m) (cl : ∀ m ∈ ms, beh own m ∈ F ++ N) (nl : N.length ≤ ms.length) : HI ms k' (j + 1) (F ++ N) (T0 ++ N) := by
  have ho : own ∈ F := h.tf _ (List.mem_append_right _ (List.mem_singleton_self _))
  have new : ∀ f ∈ N, f ∉ F := fun f hN hF => (List.nodup_append.mp nd).2.2 f hF f hN rfl
  refine ⟨nd, fun f hf => ?_, fun m hm => List.mem_append_left _ (h.sub m hm), fun f hf => ?_, fun f hf => ?_, fun e => absurd e (Nat.succ_ne_zero j), ?_, ?_, ?_⟩
  · rcases List.mem_append.mp hf with hf | hf
    · exact h.gen f hf
    · obtain ⟨m, hm, rfl⟩ := gN f hf
      exact .step (h.gen own ho) hm
  · rcases List.mem_append.mp hf with hf | hf
    · exact List.mem_append_left _ (h.tf f (List.mem_append_left _ hf))
    · exact List.mem_append_right _ hf
  · rcases List.mem_append.mp hf with hf | hf
    · rcases h.dn f hf with c | c
      · rcases List.mem_append.mp c with c | c
        · exact .inl (List.mem_append_left _ c)
        · rw [List.mem_singleton.mp c]; exact .inr cl
      · exact .inr fun m hm => List.mem_append_left _ (c m hm)
    · exact .inl (List.mem_append_right _ hf)
  · by_cases e : T0 ++ N = []
    · exact .inl e
    · refine .inr ?_
      rcases h.cnt with c | ⟨c1, c2⟩
      · exact absurd c (by simp)
      · refine ⟨by simp only [List.length_append, List.length_singleton] at c1 ⊢; omega, fun all h3 => ?_⟩
        obtain ⟨d1, d2⟩ := c2 all h3
        have dn' : ∀ f, some f = ms.head? → ∀ m ∈ ms, beh f m ∈ F ++ N := fun f hf m hm => by
          rcases Nat.eq_zero_or_pos j with z | z
          · have ho : own ∈ ms := by rw [← h.j0 z]; exact List.mem_append_right _ (List.mem_singleton_self _)
            have := all own ho
            rw [← hf] at this
            cases this
            exact cl m hm
          · exact List.mem_append_left _ (d2 z f hf m hm)
        refine ⟨?_, fun _ => dn'⟩
        cases T0 with
        | cons a T0 => exact d1
        | nil =>
          exfalso
          have d1 : some own = ms.head? := d1
          rcases Nat.eq_zero_or_pos j with z | z
          · have := congrArg List.length (h.j0 z)
            simp [h3] at this
          · cases N with
            | nil => exact e rfl
            | cons f N =>
              obtain ⟨m, hm, ef⟩ := gN f (List.mem_cons_self ..)
              exact new f (List.mem_cons_self ..) (ef ▸ d2 z own d1 m hm)
  · have := h.fl; rw [List.length_append]; omega
  · have := h.tl; rw [List.length_append, List.length_singleton] at this; rw [List.length_append]; omega
theorem HI.final {ms F T : List (List Nat)} {k' most : Nat} (h : HI ms k' (most + 1) F T) (hk : 1 ≤ k') (h1 : k' = 1 → ∀ m ∈ ms, some m = ms.head?) (hl : ms.length ≤ 3) (hf : F.length ≤ most) : ∀ f ∈ F, ∀ m ∈ ms, beh f m ∈ F := fun f hF => by
  rcases h.dn f hF with c | c
  · rcases h.cnt with e | ⟨c1, c2⟩
    · rw [e] at c; exact nomatch c
    · have hT : 0 < T.length := List.length_pos_of_mem c
      have k1 : k' = 1 := by omega
      obtain ⟨d1, d2⟩ := c2 (h1 k1) (by omega)
      exact d2 (by omega) f (head_of_all (h1 k1) d1 (by omega) f c)
  · exact c
theorem one_all {ms F : List (List Nat)} (mem : ∀ m, m ∈ F ↔ m ∈ ms) (e : F.length = 1) : ∀ m ∈ ms, some m = ms.head? := fun m hm => by
  match F, e with
  | [a], _ =>
    have all : ∀ x ∈ ms, x = a := fun x hx => List.mem_singleton.mp ((mem x).mpr hx)
    cases ms with
    | nil => exact nomatch hm
    | cons b ms =>
      rw [all m hm, List.head?_cons, all b (List.mem_cons_self ..)]
/-! ### maps as keys -/
def kD (F : List (List Nat)) (v : List Nat → D) : List (D × D) := F.map fun f => (nT f, v f)
theorem kD_tu {F : List (List Nat)} {v : List Nat → D} : ∀ p ∈ kD F v, isTu p.1 = true := fun p m => by
  obtain ⟨x, _, rfl⟩ := List.mem_map.mp m
  rfl
theorem kD_key {F : List (List Nat)} {v : List Nat → D} {x : List Nat} : DKey (nT x) (kD F v) := .inl ⟨keyT_nT x, kD_tu⟩
theorem kD_len {F : List (List Nat)} {v : List Nat → D} : (kD F v).length = F.length := List.length_map _
theorem kD_look {x : List Nat} {v : List Nat → D} : ∀ {F : List (List Nat)}, look (kD F v) (nT x) = if x ∈ F then some (v x) else none
  | [] => rfl
  | a :: F => by
    have ih := kD_look (x := x) (v := v) (F := F)
    unfold look kD at ih ⊢
    rw [List.map_cons, List.find?_cons]
    by_cases e : a = x
    · subst e
      simp
    · have : ¬ (nT a = nT x) := fun z => e (nT_inj z)
      rw [decide_eq_false this]
      simp only [ih]
      simp [Ne.symm e]
/-- a set of maps, as a dict -/
def kT (F : List (List Nat)) : List (D × D) := kD F fun _ => .bool true
theorem kT_look {x : List Nat} {F : List (List Nat)} : (look (kT F) (nT x)).isSome = decide (x ∈ F) := by
  unfold kT
  rw [kD_look]
  by_cases h : x ∈ F <;> simp [h]
theorem kT_put {x : List Nat} {F : List (List Nat)} (h : x ∉ F) : dput (kT F) (nT x) (.bool true) = kT (F ++ [x]) := by
  unfold dput
  rw [kT_look, decide_eq_false h]
  simp [kT, kD]
theorem kT_put_in {x : List Nat} {F : List (List Nat)} (h : x ∈ F) : dput (kT F) (nT x) (.bool true) = kT F := by
  unfold dput
  rw [kT_look, decide_eq_true h, if_pos rfl]
  unfold kT kD
  rw [List.map_map]
  refine List.map_congr_left fun f _ => ?_
  show (if nT f = nT x then (nT f, PyData.bool true) else (nT f, .bool true)) = _
  split <;> rfl
theorem putAll_kT : ∀ {ms F : List (List Nat)}, F.Nodup → ∃ G : List (List Nat), putAll (kT F) (ms.map fun f => (nT f, .bool true)) = kT G ∧ G.Nodup ∧ (∀ m, m ∈ G ↔ m ∈ F ∨ m ∈ ms) ∧ G.length ≤ F.length + ms.length
  | [], F, h => ⟨F, rfl, h, fun m => by simp, Nat.le_refl _⟩
  | m :: ms, F, h => by
    by_cases hm : m ∈ F
    · obtain ⟨G, e, h1, h2, h3⟩ := putAll_kT (ms := ms) h
      refine ⟨G, ?_, h1, fun x => ?_, by rw [List.length_cons]; omega⟩
      · show putAll (dput (kT F) (nT m) (.bool true)) _ = _
        rw [kT_put_in hm]; exact e
      · rw [h2, List.mem_cons]
        constructor
        · rintro (c | c)
          · exact .inl c
          · exact .inr (.inr c)
        · rintro (c | rfl | c)
          · exact .inl c
          · exact .inl hm
          · exact .inr c
    · obtain ⟨G, e, h1, h2, h3⟩ := putAll_kT (ms := ms) (F := F ++ [m]) (by
        rw [List.nodup_append]
        exact ⟨h, by simp, fun a ha b hb => by rw [List.mem_singleton.mp hb]; exact fun z => hm (z ▸ ha)⟩)
      refine ⟨G, ?_, h1, fun x => ?_, by rw [List.length_append, List.length_singleton] at h3; rw [List.length_cons]; omega⟩
      · show putAll (dput (kT F) (nT m) (.bool true)) _ = _
        rw [kT_put hm]; exact e
      · rw [h2, List.mem_append, List.mem_singleton, List.mem_cons, or_assoc]
theorem putAll_app : ∀ {ps ks : List (D × D)}, ((ks ++ ps).map (·.1)).Nodup → putAll ks ps = ks ++ ps
  | [], ks, _ => (List.append_nil ks).symm
  | p :: ps, ks, h => by
    have hn : look ks p.1 = none := look_none.mpr fun m => by
      rw [List.map_append, List.nodup_append] at h
      exact h.2.2 _ m _ (List.mem_map_of_mem (List.mem_cons_self ..)) rfl
    show putAll (dput ks p.1 p.2) ps = _
    have e : dput ks p.1 p.2 = ks ++ [p] := by unfold dput; rw [hn]; rfl
    rw [e, putAll_app (by rw [List.append_assoc]; exact h), List.append_assoc]; rfl
/-- the places of a heap, as a dict -/
def plD (hs : List (List Nat)) : List (D × D) := (List.range hs.length).map fun k => (nT (hs.getD k []), .int (k : Nat))
theorem plD_keys {hs : List (List Nat)} : (plD hs).map (·.1) = hs.map nT := by
  unfold plD
  rw [List.map_map]
  refine List.ext_getElem (by simp) fun i h1 h2 => ?_
  have hi : i < hs.length := by simpa using h2
  simp [List.getD_eq_getElem?_getD, hi]
theorem nodup_nT {hs : List (List Nat)} (h : hs.Nodup) : (hs.map nT).Nodup := by
  unfold List.Nodup at h ⊢
  exact List.pairwise_map.mpr (h.imp fun z e => z (nT_inj e))
theorem plD_put {hs : List (List Nat)} (h : hs.Nodup) : putAll [] (plD hs) = plD hs := by
  have := putAll_app (ps := plD hs) (ks := []) (by rw [List.nil_append, plD_keys]; exact nodup_nT h)
  exact this
theorem plD_look {hs : List (List Nat)} (h : hs.Nodup) {x : List Nat} (hx : x ∈ hs) : look (plD hs) (nT x) = some (.int (hs.idxOf x : Nat)) := by
  have hi := List.idxOf_lt_length_of_mem hx
  unfold look
  have e : (plD hs).find? (fun p => decide (p.1 = nT x)) = some (nT x, .int (hs.idxOf x : Nat)) := by
    unfold plD
    rw [List.find?_map]
    have : (List.range hs.length).find? ((fun p : D × D => decide (p.1 = nT x)) ∘ fun k => (nT (hs.getD k []), PyData.int (k : Nat))) = some (hs.idxOf x) := by
      rw [List.find?_eq_some_iff_append]
      refine ⟨decide_eq_true (by show nT (hs.getD (hs.idxOf x) []) = _; rw [getD_idxOf hx]), List.range (hs.idxOf x), (List.range (hs.length - hs.idxOf x - 1)).map (hs.idxOf x + 1 + ·), ?_, fun a ha => ?_⟩
      · rw [show hs.length = hs.idxOf x + (1 + (hs.length - hs.idxOf x - 1)) by omega, List.range_add, List.range_add]
        simp only [show hs.idxOf x + (1 + (hs.length - hs.idxOf x - 1)) - hs.idxOf x - 1 = hs.length - hs.idxOf x - 1 by omega]
        simp [Function.comp_def, Nat.add_assoc]
      · have ha := List.mem_range.mp ha
        have hal : a < hs.length := by omega
        show (!decide (nT (hs.getD a []) = nT x)) = true
        rw [decide_eq_false fun z => ?_]; rfl
        have z := nT_inj z
        rw [List.getD_eq_getElem?_getD, List.getElem?_eq_getElem hal] at z
        have z : hs[a] = x := z
        have : hs.idxOf x = a := by rw [← z]; exact h.idxOf_getElem a hal
        omega
    rw [this]
    show some (nT (hs.getD (hs.idxOf x) []), PyData.int (hs.idxOf x : Nat)) = _
    rw [getD_idxOf hx]
  rw [e]; rfl
def unT : D → List Nat
  | .tuple ds => ds.map fun d => match d with
    | .int i => i.toNat
    | _ => 0
  | _ => []
theorem unT_nT : ∀ l : List Nat, unT (nT l) = l
  | [] => rfl
  | a :: l => congrArg (a :: ·) (unT_nT l)
theorem perm_nT {out : List D} {F : List (List Nat)} (p : out.Perm (F.map nT)) : ∃ hs : List (List Nat), out = hs.map nT ∧ hs.Perm F := by
  refine ⟨out.map unT, ?_, ?_⟩
  · rw [List.map_map]
    have : ∀ d ∈ out, (nT ∘ unT) d = id d := fun d hd => by
      obtain ⟨f, _, rfl⟩ := List.mem_map.mp (p.mem_iff.mp hd)
      show nT (unT (nT f)) = nT f
      rw [unT_nT]
    rw [List.map_congr_left this, List.map_id]
  · have := p.map unT
    rw [List.map_map] at this
    have e : (unT ∘ nT) = id := funext fun l => unT_nT l
    rw [e, List.map_id] at this
    exact this
theorem ints_nT {n : Nat} {f : List Nat} (h : f.length = n ∧ inR n f) : IntsT n (n : Int) (nT f) := by
  refine ⟨f.map fun (x : Nat) => (x : Int), ?_, by rw [List.length_map]; exact h.1, ?_⟩
  · unfold nT nI
    rw [List.map_map]; rfl
  · intro i hi
    obtain ⟨x, hx, rfl⟩ := List.mem_map.mp hi
    have := h.2 x hx
    omega
end Z
end
section
set_option Elab.async false
set_option linter.all false
set_option maxRecDepth 100000
set_option maxHeartbeats 1000000
/-! Choices, factorials, partings into lots. -/
namespace Z
open PySem PySem.Spec L2
def ch : Nat → Nat → Nat
  | _, 0 => 1
  | 0, _ + 1 => 0
  | n + 1, k + 1 => ch n k + ch n (k + 1)
theorem ch_zero (n : Nat) : ch n 0 = 1 := by cases n <;> rfl
theorem ch_succ (n k : Nat) : ch (n + 1) (k + 1) = ch n k + ch n (k + 1) := rfl
theorem ch_out : ∀ {n k : Nat}, n < k → ch n k = 0
  | 0, _ + 1, _ => rfl
  | n + 1, k + 1, h => by rw [ch_succ, ch_out (show n < k by omega), ch_out (show n < k + 1 by omega)]
theorem ch_self : ∀ n : Nat, ch n n = 1
  | 0 => rfl
  | n + 1 => by rw [ch_succ, ch_self n, ch_out (Nat.lt_succ_self n)]
/-- (k + 1) C(n + 1, k + 1) = (n + 1) C(n, k) -/
theorem ch_abs : ∀ n k : Nat, (k + 1) * ch (n + 1) (k + 1) = (n + 1) * ch n k
  | 0, 0 => rfl
  | 0, k + 1 => by rw [ch_succ, ch_out (show 0 < k + 1 by omega), ch_out (show 0 < k + 2 by omega)]; simp
  | n + 1, 0 => by
    have := ch_abs n 0
    rw [ch_zero] at this
    rw [ch_succ (n + 1) 0, ch_zero]
    omega
  | n + 1, k + 1 => by
    have h1 := ch_abs n k
    have h2 := ch_abs n (k + 1)
    have e : (k + 1 + 1) * ch (n + 1 + 1) (k + 1 + 1) = ((k + 1) * ch (n + 1) (k + 1) + ch (n + 1) (k + 1)) + (k + 1 + 1) * ch (n + 1) (k + 1 + 1) := by
      rw [ch_succ (n + 1) (k + 1), Nat.mul_add, Nat.add_mul (k + 1) 1, Nat.one_mul]
    rw [e, h1, h2]
    have e2 : (n + 1 + 1) * ch (n + 1) (k + 1) = (n + 1) * (ch n k + ch n (k + 1)) + ch (n + 1) (k + 1) := by
      rw [Nat.add_mul (n + 1) 1, Nat.one_mul, ch_succ n k]
    rw [e2, Nat.mul_add]; omega
/-- C(n, k) (n - k) = C(n, k + 1) (k + 1) -/
theorem ch_step {n k : Nat} (h : k ≤ n) : ch n k * (n - k) = ch n (k + 1) * (k + 1) := by
  have h1 := ch_abs n k
  rw [ch_succ, Nat.mul_add] at h1
  have e : (n + 1) * ch n k = (k + 1) * ch n k + (n - k) * ch n k := by rw [← Nat.add_mul]; congr 1; omega
  rw [e] at h1
  have := Nat.add_left_cancel h1
  rw [Nat.mul_comm (ch n k), Nat.mul_comm (ch n (k + 1))]; exact this.symm
theorem ch_div {n k : Nat} (h : k ≤ n) : ch n k * (n - k) / (k + 1) = ch n (k + 1) := by
  rw [ch_step h]; exact Nat.mul_div_cancel _ (Nat.succ_pos k)
theorem ch_div_down {n k : Nat} (h : k + 1 ≤ n) : ch n (k + 1) * (k + 1) / (n - k) = ch n k := by
  rw [← ch_step (by omega)]; exact Nat.mul_div_cancel _ (by omega)
theorem ch_sym : ∀ {n k : Nat}, k ≤ n → ch n k = ch n (n - k)
  | 0, 0, _ => rfl
  | n + 1, 0, _ => by rw [ch_zero, Nat.sub_zero, ch_self]
  | n + 1, k + 1, h => by
    rcases Nat.eq_or_lt_of_le h with e | e
    · rw [e, ch_self, Nat.sub_self, ch_zero]
    · have e1 : n + 1 - (k + 1) = (n - (k + 1)) + 1 := by omega
      rw [e1, ch_succ, ch_succ, ch_sym (n := n) (k := k) (by omega), ch_sym (n := n) (k := k + 1) (by omega), show n - k = n - (k + 1) + 1 by omega, Nat.add_comm]
theorem ch_le : ∀ n k : Nat, ch n k ≤ 2 ^ n
  | n, 0 => by rw [ch_zero]; exact Nat.one_le_two_pow
  | 0, k + 1 => Nat.zero_le _
  | n + 1, k + 1 => by
    rw [ch_succ, Nat.pow_succ]
    have := ch_le n k
    have := ch_le n (k + 1)
    omega
def fac : Nat → Nat
  | 0 => 1
  | n + 1 => fac n * (n + 1)
theorem fac_pos : ∀ n, 0 < fac n
  | 0 => Nat.one_pos
  | n + 1 => Nat.mul_pos (fac_pos n) (Nat.succ_pos n)
def sti : Nat → Nat → Nat
  | 0, 0 => 1
  | 0, _ + 1 => 0
  | _ + 1, 0 => 0
  | n + 1, k + 1 => sti n k + (k + 1) * sti n (k + 1)
theorem sti_succ (n k : Nat) : sti (n + 1) (k + 1) = sti n k + (k + 1) * sti n (k + 1) := rfl
theorem sti_out : ∀ {n k : Nat}, n < k → sti n k = 0
  | 0, _ + 1, _ => rfl
  | n + 1, k + 1, h => by rw [sti_succ, sti_out (show n < k by omega), sti_out (show n < k + 1 by omega)]; simp
theorem sti_self : ∀ n : Nat, sti n n = 1
  | 0 => rfl
  | n + 1 => by rw [sti_succ, sti_self n, sti_out (Nat.lt_succ_self n)]; simp
theorem sti_one : ∀ n : Nat, sti (n + 1) 1 = 1
  | 0 => rfl
  | n + 1 => by rw [sti_succ, sti_one n]; rfl
/-! ### sums -/
def sumT (f : Nat → Int) : Nat → Int
  | 0 => 0
  | n + 1 => sumT f n + f n
theorem sumT_congr {f g : Nat → Int} : ∀ {n : Nat}, (∀ j, j < n → f j = g j) → sumT f n = sumT g n
  | 0, _ => rfl
  | n + 1, h => by rw [sumT, sumT, sumT_congr fun j hj => h j (by omega), h n (Nat.lt_succ_self n)]
theorem sumT_add (f g : Nat → Int) : ∀ n : Nat, sumT (fun j => f j + g j) n = sumT f n + sumT g n
  | 0 => rfl
  | n + 1 => by rw [sumT, sumT, sumT, sumT_add f g n]; omega
theorem sumT_mul (c : Int) (f : Nat → Int) : ∀ n : Nat, sumT (fun j => c * f j) n = c * sumT f n
  | 0 => (Int.mul_zero c).symm
  | n + 1 => by rw [sumT, sumT, sumT_mul c f n, Int.mul_add]
theorem sumT_shift (f : Nat → Int) : ∀ n : Nat, sumT f (n + 1) = f 0 + sumT (fun j => f (j + 1)) n
  | 0 => by show (0 : Int) + f 0 = f 0 + 0; omega
  | n + 1 => by rw [sumT, sumT_shift f n, sumT]; omega
/-- (-1)^i -/
def sg : Nat → Int
  | 0 => 1
  | n + 1 => - sg n
theorem sg_two (n : Nat) : sg (n + 2) = sg n := by show - - sg n = sg n; omega
theorem sg_dbl : ∀ k i : Nat, sg (k + k + i) = sg i
  | 0, i => by simp
  | k + 1, i => by rw [show k + 1 + (k + 1) + i = (k + k + i) + 2 by omega, sg_two, sg_dbl k i]
theorem sg_abs : ∀ n : Nat, sg n = 1 ∨ sg n = -1
  | 0 => .inl rfl
  | n + 1 => by
    show - sg n = 1 ∨ - sg n = -1
    rcases sg_abs n with h | h <;> rw [h]
    · exact .inr rfl
    · exact .inl rfl
def tm (n k j : Nat) : Int := sg (k + j) * (ch k j : Nat) * ((j ^ n : Nat) : Int)
def sur (n k : Nat) : Int := sumT (tm n k) (k + 1)
theorem alt (k : Nat) : sumT (fun j => sg (k + 1 + j) * (ch (k + 1) j : Nat)) (k + 2) = 0 := by
  rw [sumT_shift]
  have e : sumT (fun j => sg (k + 1 + (j + 1)) * (ch (k + 1) (j + 1) : Nat)) (k + 1) = sumT (fun j => sg (k + j) * (ch k j : Nat) + sg (k + j) * (ch k (j + 1) : Nat)) (k + 1) := sumT_congr fun j _ => by
    rw [show k + 1 + (j + 1) = k + j + 2 by omega, sg_two, ch_succ, Int.natCast_add, Int.mul_add]
  rw [e, sumT_add]
  have e2 : sumT (fun j => sg (k + j) * (ch k (j + 1) : Nat)) (k + 1) = - sumT (fun j => sg (k + (j + 1)) * (ch k (j + 1) : Nat)) (k + 1) := by
    have := sumT_mul (-1) (fun j => sg (k + (j + 1)) * (ch k (j + 1) : Nat)) (k + 1)
    rw [show - sumT (fun j => sg (k + (j + 1)) * (ch k (j + 1) : Nat)) (k + 1) = -1 * sumT (fun j => sg (k + (j + 1)) * (ch k (j + 1) : Nat)) (k + 1) by omega, ← this]
    refine sumT_congr fun j _ => ?_
    show _ = -1 * (- sg (k + j) * _)
    have e0 : - sg (k + j) * (ch k (j + 1) : Nat) = - (sg (k + j) * (ch k (j + 1) : Nat)) := Int.neg_mul ..
    omega
  rw [e2]
  have e3 := sumT_shift (fun j => sg (k + j) * (ch k j : Nat)) (k + 1)
  have e4 : sumT (fun j => sg (k + j) * (ch k j : Nat)) (k + 1 + 1) = sumT (fun j => sg (k + j) * (ch k j : Nat)) (k + 1) + sg (k + (k + 1)) * (ch k (k + 1) : Nat) := rfl
  rw [ch_out (Nat.lt_succ_self k)] at e4
  simp only [ch_zero, Nat.add_zero] at *
  have e5 : sg (k + 1) = - sg k := rfl
  rw [e5]
  simp only [Int.ofNat_zero, Int.mul_zero, Int.natCast_one, Int.mul_one] at *
  omega
theorem sur_zero (k : Nat) : sur 0 (k + 1) = 0 := by
  have := alt k
  unfold sur
  rw [← this]
  refine sumT_congr fun j _ => ?_
  unfold tm
  rw [Nat.pow_zero, Int.natCast_one, Int.mul_one]
theorem sur_succ (n k : Nat) : sur (n + 1) (k + 1) = ((k + 1 : Nat) : Int) * (sur n k + sur n (k + 1)) := by
  have key : ∀ j, tm (n + 1) (k + 1) j = ((k + 1 : Nat) : Int) * (tm n (k + 1) j + tm n k j) := fun j => by
    unfold tm
    have hs : sg (k + 1 + j) = - sg (k + j) := by rw [show k + 1 + j = (k + j) + 1 by omega]; rfl
    have hc : ((j * ch (k + 1) j : Nat) : Int) = ((k + 1 : Nat) : Int) * ((ch (k + 1) j : Nat) - (ch k j : Nat)) := by
      cases j with
      | zero => rw [ch_zero, ch_zero]; simp
      | succ j =>
        rw [ch_abs k j, ch_succ, Int.natCast_mul, Int.natCast_add]
        congr 1
        omega
    rw [hs, Nat.pow_succ, Int.natCast_mul]
    have e1 : - sg (k + j) * (ch (k + 1) j : Nat) * (((j ^ n : Nat) : Int) * (j : Int)) = - sg (k + j) * ((j ^ n : Nat) : Int) * ((j * ch (k + 1) j : Nat) : Int) := by
      rw [Int.natCast_mul]
      simp only [Int.mul_assoc, Int.mul_comm, Int.mul_left_comm]
    rw [e1, hc]
    generalize ((k + 1 : Nat) : Int) = K
    generalize ((ch (k + 1) j : Nat) : Int) = a
    generalize ((ch k j : Nat) : Int) = b
    generalize ((j ^ n : Nat) : Int) = p
    generalize sg (k + j) = s
    simp only [Int.neg_mul, Int.mul_sub, Int.mul_add, Int.mul_neg, Int.mul_assoc, Int.mul_comm, Int.mul_left_comm]
    omega
  unfold sur
  rw [sumT_congr fun j _ => key j, sumT_mul, sumT_add]
  have e : sumT (tm n k) (k + 1 + 1) = sumT (tm n k) (k + 1) := by
    show sumT (tm n k) (k + 1) + tm n k (k + 1) = _
    unfold tm
    rw [ch_out (Nat.lt_succ_self k)]
    simp
  rw [e]
  congr 1
  omega
theorem sur_sti : ∀ n k : Nat, sur n k = ((fac k * sti n k : Nat) : Int)
  | 0, 0 => by decide
  | 0, k + 1 => by rw [sur_zero]; rfl
  | n + 1, 0 => by
    show (0 : Int) + tm (n + 1) 0 0 = _
    unfold tm
    rw [Nat.pow_succ, Nat.mul_zero]
    simp [sti]
  | n + 1, k + 1 => by
    rw [sur_succ, sur_sti n k, sur_sti n (k + 1), ← Int.natCast_add, ← Int.natCast_mul]
    congr 1
    show (k + 1) * (fac k * sti n k + fac k * (k + 1) * sti n (k + 1)) = fac k * (k + 1) * (sti n k + (k + 1) * sti n (k + 1))
    generalize fac k = F
    generalize sti n k = a
    generalize sti n (k + 1) = b
    generalize k + 1 = K
    rw [Nat.mul_add, Nat.mul_add]
    congr 1 <;> ac_rfl
end Z
end
section
set_option Elab.async false
set_option linter.all false
set_option maxRecDepth 100000
set_option maxHeartbeats 1000000
/-! Heaps of makers found by going, with a bound of turns; one-to-one maps. -/
namespace Z
open PySem PySem.Spec L2
def Clo (ms K : List (List Nat)) : Prop := K.Nodup ∧ ∀ f, f ∈ K ↔ Gen ms f
structure HJ (ms : List (List Nat)) (k' j : Nat) (F T : List (List Nat)) : Prop where
  nd : F.Nodup
  gen : ∀ f ∈ F, Gen ms f
  sub : ∀ m ∈ ms, m ∈ F
  tf : ∀ f ∈ T, f ∈ F
  dn : ∀ f ∈ F, f ∈ T ∨ ∀ m ∈ ms, beh f m ∈ F
  cnt : T = [] ∨ T.length + k' + j = ms.length + F.length
  fl : F.length ≤ 5 + 5 * j
  tl : T.length ≤ 5 + 5 * j
theorem HJ.start {ms F : List (List Nat)} (nd : F.Nodup) (mem : ∀ m, m ∈ F ↔ m ∈ ms) (hl : ms.length ≤ 5) (fl : F.length ≤ ms.length) : HJ ms F.length 0 F ms :=
  ⟨nd, fun f hf => .base ((mem f).mp hf), fun m hm => (mem m).mpr hm, fun f hf => (mem f).mpr hf, fun f hf => .inl ((mem f).mp hf), .inr (by omega), by omega, by omega⟩
theorem HJ.skip {ms F : List (List Nat)} {k' j : Nat} (h : HJ ms k' j F []) : HJ ms k' (j + 1) F [] :=
  ⟨h.nd, h.gen, h.sub, h.tf, h.dn, .inl rfl, Nat.le_trans h.fl (by omega), Nat.le_trans h.tl (by omega)⟩
theorem HJ.step {ms F T0 N : List (List Nat)} {own : List Nat} {k' j : Nat} (h : HJ ms k' j F (T0 ++ [own])) (hl : ms.length ≤ 5) (nd : (F ++ N).Nodup) (gN : ∀ f ∈ N, ∃ m ∈ ms, f = beh own m) (cl : ∀ m ∈ ms, beh own m ∈ F ++ N) (nl : N.length ≤ ms.length) : HJ ms k' (j + 1) (F ++ N) (T0 ++ N) := by
  have ho : own ∈ F := h.tf _ (List.mem_append_right _ (List.mem_singleton_self _))
  refine ⟨nd, fun f hf => ?_, fun m hm => List.mem_append_left _ (h.sub m hm), fun f hf => ?_, fun f hf => ?_, ?_, ?_, ?_⟩
  · rcases List.mem_append.mp hf with hf | hf
    · exact h.gen f hf
    · obtain ⟨m, hm, rfl⟩ := gN f hf
      exact .step (h.gen own ho) hm
  · rcases List.mem_append.mp hf with hf | hf
    · exact List.mem_append_left _ (h.tf f (List.mem_append_left _ hf))
    · exact List.mem_append_right _ hf
  · rcases List.mem_append.mp hf with hf | hf
    · rcases h.dn f hf with c | c
      · rcases List.mem_append.mp c with c | c
        · exact .inl (List.mem_append_left _ c)
        · rw [List.mem_singleton.mp c]; exact .inr cl
      · exact .inr fun m hm => List.mem_append_left _ (c m hm)
    · exact .inl (List.mem_append_right _ hf)
  · rcases h.cnt with c | c
    · exact absurd c (by simp)
    · refine .inr ?_
      simp only [List.length_append, List.length_singleton] at c ⊢
      omega
  · have := h.fl; rw [List.length_append]; omega
  · have := h.tl; rw [List.length_append, List.length_singleton] at this; rw [List.length_append]; omega
/-- where the going ends -/
structure EndH (ms : List (List Nat)) (most : Nat) (F : List (List Nat)) : Prop where
  ex : ∃ T F0 : List (List Nat), HJ ms F0.length (most + 1) F T ∧ F0.Nodup ∧ ∀ m, m ∈ F0 ↔ m ∈ ms
theorem gen_closed {ms F : List (List Nat)} (sub : ∀ m ∈ ms, m ∈ F) (cl : ∀ f ∈ F, ∀ m ∈ ms, beh f m ∈ F) : ∀ {f : List Nat}, Gen ms f → f ∈ F := fun {f} g => by
  induction g with
  | base hm => exact sub _ hm
  | step _ hm ih => exact cl _ ih _ hm
theorem HJ.all {ms F : List (List Nat)} {k' j : Nat} (h : HJ ms k' j F []) : Clo ms F :=
  ⟨h.nd, fun f => ⟨h.gen f, gen_closed h.sub fun f hf => (h.dn f hf).resolve_left fun z => nomatch z⟩⟩
theorem clo_le {ms K F : List (List Nat)} (h : Clo ms K) (nd : F.Nodup) (g : ∀ f ∈ F, Gen ms f) : F.length ≤ K.length := len_sub nd fun f hf => (h.2 f).mpr (g f hf)
theorem clo_len {ms K L : List (List Nat)} (h : Clo ms K) (g : Clo ms L) : K.length = L.length := Nat.le_antisymm (clo_le g h.1 fun f hf => (h.2 f).mp hf) (clo_le h g.1 fun f hf => (g.2 f).mp hf)
/-- a list of as many different things that lies in another one is all of it -/
theorem full_of {K P : List (List Nat)} (nd : K.Nodup) (sub : ∀ f ∈ K, f ∈ P) (hl : P.length ≤ K.length) : ∀ f ∈ P, f ∈ K := fun f hf => by
  by_cases c : f ∈ K
  · exact c
  · have := len_sub (l := f :: K) (m := P) (List.nodup_cons.mpr ⟨c, nd⟩) fun x hx => by
      rcases List.mem_cons.mp hx with rfl | hx
      · exact hf
      · exact sub x hx
    rw [List.length_cons] at this
    omega
/-! ### one-to-one maps -/
def permB (f : List Nat) : Bool := decide f.Nodup
def prm (n : Nat) : List (List Nat) := (amT n n).filter permB
theorem prm_mem {n : Nat} {f : List Nat} (h : f.length = n ∧ inR n f) (nd : f.Nodup) : f ∈ prm n := List.mem_filter.mpr ⟨amT_mem h.1 h.2, decide_eq_true nd⟩
theorem perm_of {n : Nat} {f : List Nat} (h : f.length = n ∧ inR n f) (nd : f.Nodup) : f.Perm (List.range n) := by
  have sub : ∀ x ∈ f, x ∈ List.range n := fun x hx => List.mem_range.mpr (h.2 x hx)
  refine (List.perm_ext_iff_of_nodup nd List.nodup_range).mpr fun x => ⟨sub x, fun hx => ?_⟩
  by_cases c : x ∈ f
  · exact c
  · have := len_sub (l := x :: f) (m := List.range n) (List.nodup_cons.mpr ⟨c, nd⟩) fun y hy => by
      rcases List.mem_cons.mp hy with rfl | hy
      · exact hx
      · exact sub y hy
    rw [List.length_cons, List.length_range, h.1] at this
    omega
theorem beh_nodup {n : Nat} {a m : List Nat} (ha : a.length = n ∧ inR n a) (hm : m.length = n ∧ inR n m) (na : a.Nodup) (nm : m.Nodup) : (beh a m).Nodup := by
  unfold beh List.Nodup
  rw [List.pairwise_map]
  refine List.Pairwise.imp_of_mem (fun {x y} hx hy hxy z => hxy ?_) na
  have hx : x < m.length := by rw [hm.1]; exact ha.2 x hx
  have hy : y < m.length := by rw [hm.1]; exact ha.2 y hy
  rw [List.getD_eq_getElem?_getD, List.getElem?_eq_getElem hx, List.getD_eq_getElem?_getD, List.getElem?_eq_getElem hy] at z
  exact (List.getElem_inj nm).mp z
theorem beh_nodup_l {a m : List Nat} (h : (beh a m).Nodup) : a.Nodup := by
  unfold beh List.Nodup at h
  rw [List.pairwise_map] at h
  exact h.imp fun hxy z => hxy (by rw [z])
theorem beh_nodup_r {n : Nat} {a m : List Nat} (ha : a.length = n ∧ inR n a) (hm : m.length = n ∧ inR n m) (h : (beh a m).Nodup) : m.Nodup := by
  have pa := perm_of ha (beh_nodup_l h)
  have e : m = (List.range n).map fun t => m.getD t 0 := by
    have := unit_beh (a := m)
    rw [hm.1] at this
    exact this.symm
  rw [e]
  exact ((pa.map fun t => m.getD t 0).nodup_iff).mp h
theorem gen_nodup {n : Nat} {ms : List (List Nat)} (hm : MapsN n ms) (nd : ∀ m ∈ ms, m.Nodup) {f : List Nat} (g : Gen ms f) : f.Nodup := by
  induction g with
  | base h => exact nd _ h
  | step ga h ih => exact beh_nodup (gen_ok hm ga) (hm _ h) ih (nd _ h)
/-- what undoes a one-to-one map -/
theorem inv_ex {n : Nat} {a : List Nat} (ha : a.length = n ∧ inR n a) (na : a.Nodup) : ∃ b : List Nat, (b.length = n ∧ inR n b) ∧ beh b a = List.range n := by
  have pa := perm_of ha na
  refine ⟨(List.range n).map fun k => a.idxOf k, ⟨by simp, fun x hx => ?_⟩, ?_⟩
  · obtain ⟨k, hk, rfl⟩ := List.mem_map.mp hx
    have := List.idxOf_lt_length_of_mem (pa.mem_iff.mpr hk)
    rwa [ha.1] at this
  · unfold beh
    rw [List.map_map]
    refine (List.map_congr_left fun k hk => ?_).trans (List.map_id _)
    have h := List.idxOf_lt_length_of_mem (pa.mem_iff.mpr hk)
    show a.getD (a.idxOf k) 0 = k
    rw [List.getD_eq_getElem?_getD, List.getElem?_eq_getElem h]
    exact List.getElem_idxOf h
theorem beh_cancel {n : Nat} {y a b : List Nat} (hy : y.length = n ∧ inR n y) (ny : y.Nodup) (ha : a.length = n ∧ inR n a) (hb : b.length = n ∧ inR n b) (e : beh y a = beh y b) : a = b := by
  obtain ⟨z, hz, ez⟩ := inv_ex hy ny
  have e2 : beh z (beh y a) = beh z (beh y b) := by rw [e]
  rw [← beh_assoc (by rw [hy.1]; exact hz.2), ← beh_assoc (by rw [hy.1]; exact hz.2), ez] at e2
  have ea := unit_beh (a := a)
  have eb := unit_beh (a := b)
  rw [ha.1] at ea
  rw [hb.1] at eb
  rw [ea, eb] at e2
  exact e2
/-- makers that go past one another make such -/
theorem gen_comm {n : Nat} {ms : List (List Nat)} (hm : MapsN n ms) (hc : ∀ a ∈ ms, ∀ b ∈ ms, beh a b = beh b a) {f g : List Nat} (gf : Gen ms f) (gg : Gen ms g) : beh f g = beh g f := by
  have one : ∀ {f : List Nat}, Gen ms f → ∀ m ∈ ms, beh f m = beh m f := fun {f} gf m hmm => by
    induction gf with
    | base h => exact hc _ h _ hmm
    | @step a b ga hb ih =>
      have a1 := gen_ok hm ga
      have b1 := hm b hb
      have m1 := hm m hmm
      rw [beh_assoc (by rw [b1.1]; exact a1.2), hc b hb m hmm, ← beh_assoc (by rw [m1.1]; exact a1.2), ih, beh_assoc (by rw [a1.1]; exact m1.2)]
  induction gg with
  | base h => exact one gf _ h
  | @step a b ga hb ih =>
    have f1 := gen_ok hm gf
    have a1 := gen_ok hm ga
    have b1 := hm b hb
    rw [← beh_assoc (by rw [a1.1]; exact f1.2), ih, beh_assoc (by rw [f1.1]; exact a1.2), one gf b hb, ← beh_assoc (by rw [b1.1]; exact a1.2)]
theorem prm5 : (prm 5).length = 120 := by decide +kernel
theorem prm_len : ∀ n, n ≤ 5 → (prm n).length = fac n := by decide +kernel
end Z
end
section
set_option Elab.async false
set_option linter.all false
set_option maxRecDepth 100000
set_option maxHeartbeats 2000000
/-! Makers of all maps. -/
namespace Z
open PySem PySem.Spec L2
def rkN (n : Nat) (f : List Nat) : Nat := (sset n f).length
theorem nd_amT : ∀ n, n ≤ 3 → (amT n n).Nodup := by decide +kernel
theorem rk_turn : ∀ n, n ≤ 5 → ∀ f ∈ amT n n, (rkN n f = n ↔ f.Nodup) := by decide +kernel
theorem rk_stay : ∀ n, n ≤ 3 → ∀ a ∈ amT n n, ∀ b ∈ amT n n, rkN n a + 1 ≠ n → rkN n b + 1 ≠ n → rkN n (beh a b) + 1 ≠ n := by decide +kernel
def prods (n : Nat) (f : List Nat) : List (List Nat) := prm n ++ ((prm n).flatMap fun p => (prm n).map fun q => beh (beh p f) q) ++ ((prm n).flatMap fun p => (prm n).flatMap fun q => (prm n).map fun r => beh (beh (beh (beh p f) q) f) r)
theorem prods2 : ∀ f ∈ amT 2 2, rkN 2 f + 1 = 2 → ∀ g ∈ amT 2 2, g ∈ prods 2 f := by decide +kernel
theorem prods3 : ∀ f ∈ amT 3 3, rkN 3 f + 1 = 3 → ∀ g ∈ amT 3 3, g ∈ prods 3 f := by decide +kernel
theorem two_three {n : Nat} (h2 : 2 ≤ n) (h3 : n ≤ 3) : n = 2 ∨ n = 3 := by omega
theorem prods_all (n : Nat) (h2 : 2 ≤ n) (h3 : n ≤ 3) : ∀ f ∈ amT n n, rkN n f + 1 = n → ∀ g ∈ amT n n, g ∈ prods n f := by
  rcases two_three h2 h3 with rfl | rfl
  · exact prods2
  · exact prods3
theorem prm5_nd : (prm 5).Nodup := by decide +kernel
theorem one_less (n : Nat) (h2 : 2 ≤ n) (h3 : n ≤ 3) : ∃ f ∈ amT n n, rkN n f + 1 = n := by
  rcases two_three h2 h3 with rfl | rfl
  · exact ⟨[0, 0], by decide +kernel, by decide +kernel⟩
  · exact ⟨[0, 0, 1], by decide +kernel, by decide +kernel⟩
theorem pos_of_ne {T : List (List Nat)} (h : T ≠ []) : 1 ≤ T.length := List.length_pos_iff.mpr h
theorem in_prm {n : Nat} {ms : List (List Nat)} (hm : MapsN n ms) (nd : ∀ m ∈ ms, m.Nodup) {f : List Nat} (g : Gen ms f) : f ∈ prm n := prm_mem (gen_ok hm g) (gen_nodup hm nd g)
theorem end_full {n : Nat} {ms F : List (List Nat)} (n1 : 1 ≤ n) (n5 : n ≤ 5) (h0 : ms ≠ []) (hl : ms.length ≤ 5) (hm : MapsN n ms) (nd : ∀ m ∈ ms, m.Nodup) (e : EndH ms 120 F) :
    F.length ≤ 120 ∧ (F.length = fac n ↔ ∃ K, Clo ms K ∧ K.length = fac n) := by
  obtain ⟨T, F0, h, nd0, mem0⟩ := e.ex
  have pl := prm_len n n5
  have fl : F.length ≤ fac n := by rw [← pl]; exact len_sub h.nd fun f hf => in_prm hm nd (h.gen f hf)
  have fn : ∀ n, n ≤ 5 → fac n ≤ 120 := by decide
  have f4 : ∀ n, n ≤ 4 → fac n ≤ 24 := by decide
  refine ⟨Nat.le_trans fl (fn n n5), fun hF => ⟨F, ⟨h.nd, fun f => ⟨h.gen f, fun g => full_of h.nd (fun f hf => in_prm hm nd (h.gen f hf)) (by rw [pl, hF]; exact Nat.le_refl _) f (in_prm hm nd g)⟩⟩, hF⟩, fun ⟨K, hK, hk⟩ => ?_⟩
  by_cases hT : T = []
  · subst hT
    rw [clo_len h.all hK]; exact hk
  · have tp := pos_of_ne hT
    have c := h.cnt.resolve_left hT
    by_cases n4 : n ≤ 4
    · have := f4 n n4; omega
    · have n5 : n = 5 := by omega
      subst n5
      have f5 : fac 5 = 120 := by decide
      rw [f5] at hk fl ⊢
      by_cases hF : F.length = 120
      · exact hF
      · exfalso
        have sub : ∀ f ∈ F, f ∈ prm 5 := fun f hf => in_prm hm nd (h.gen f hf)
        have allK : ∀ f ∈ prm 5, f ∈ K := full_of hK.1 (fun f hf => in_prm hm nd ((hK.2 f).mp hf)) (by rw [prm5, hk]; exact Nat.le_refl _)
        have nc : ¬ ∀ a ∈ ms, ∀ b ∈ ms, beh a b = beh b a := fun hc => by
          have g1 := (hK.2 _).mp (allK [1, 0, 2, 3, 4] (by decide +kernel))
          have g2 := (hK.2 _).mp (allK [0, 2, 1, 3, 4] (by decide +kernel))
          exact absurd (gen_comm hm hc g1 g2) (by decide)
        have nc2 : ∃ a ∈ ms, ∃ b ∈ ms, beh a b ≠ beh b a := Classical.byContradiction fun z => nc fun a ha b hb => Classical.byContradiction fun y => z ⟨a, ha, b, hb, y⟩
        obtain ⟨a, ha, b, hb, hab⟩ := nc2
        have ane : a ≠ b := fun z => hab (by rw [z])
        have k2 : 2 ≤ F0.length := len_sub (l := [a, b]) (m := F0) (by simp [ane]) fun x hx => by
          simp only [List.mem_cons, List.not_mem_nil, or_false] at hx
          rcases hx with rfl | rfl
          · exact (mem0 _).mpr ha
          · exact (mem0 _).mpr hb
        have t1 : T.length = 1 := by omega
        have f119 : F.length = 119 := by omega
        obtain ⟨t, rfl⟩ : ∃ t, T = [t] := by
          match T, t1 with
          | [t], _ => exact ⟨t, rfl⟩
        have ex : ∃ x ∈ prm 5, x ∉ F := Classical.byContradiction fun z => by
          have : (prm 5).length ≤ F.length := len_sub prm5_nd fun x hx => Classical.byContradiction fun y => z ⟨x, hx, y⟩
          rw [prm5] at this
          omega
        obtain ⟨x, hx, hxF⟩ := ex
        have uq : ∀ y ∈ prm 5, y ∉ F → y = x := fun y hy hyF => Classical.byContradiction fun z => by
          have := len_sub (l := x :: y :: F) (m := prm 5) (by
            rw [List.nodup_cons, List.nodup_cons]
            exact ⟨fun w => by
              rcases List.mem_cons.mp w with w | w
              · exact z w.symm
              · exact hxF w, hyF, h.nd⟩) fun w hw => by
            rcases List.mem_cons.mp hw with rfl | hw
            · exact hx
            · rcases List.mem_cons.mp hw with rfl | hw
              · exact hy
              · exact sub w hw
          rw [List.length_cons, List.length_cons, prm5] at this
          omega
        have px : (x.length = 5 ∧ inR 5 x) ∧ x.Nodup := by
          have g := (hK.2 _).mp (allK x hx)
          exact ⟨gen_ok hm g, gen_nodup hm nd g⟩
        -- who is led to x by a maker
        have pre : ∀ a ∈ ms, ∃ y, y ∈ prm 5 ∧ (y.length = 5 ∧ inR 5 y) ∧ y.Nodup ∧ beh y a = x ∧ (y = t ∨ y = x) := fun a ha => by
          have ao := hm a ha
          obtain ⟨a', ha', ea⟩ := inv_ex ao (nd a ha)
          have e1 : beh (beh x a') a = x := by
            rw [beh_assoc (by rw [ha'.1]; exact px.1.2), ea]
            have := beh_unit (n := 5) (a := x) px.1.2
            exact this
          have yo : (beh x a').length = 5 ∧ inR 5 (beh x a') := beh_ok px.1 ha'
          have yn : (beh x a').Nodup := beh_nodup_l (m := a) (by rw [e1]; exact px.2)
          have yp := prm_mem yo yn
          refine ⟨beh x a', yp, yo, yn, e1, ?_⟩
          by_cases c : beh x a' ∈ F
          · rcases h.dn _ c with d | d
            · exact .inl (List.mem_singleton.mp d)
            · exact absurd (e1 ▸ d a ha) hxF
          · exact .inr (uq _ yp c)
        obtain ⟨y, _, yo, yn, ey, hy⟩ := pre a ha
        obtain ⟨z, _, zo, zn, ez, hz⟩ := pre b hb
        have unit : ∀ a, (a.length = 5 ∧ inR 5 a) → beh x a = x → a = List.range 5 := fun a ao e => by
          have := beh_unit (n := 5) (a := x) px.1.2
          exact beh_cancel px.1 px.2 ao ⟨by simp, fun v hv => List.mem_range.mp hv⟩ (e.trans this.symm)
        have lu : ∀ a : List Nat, (a.length = 5 ∧ inR 5 a) → beh (List.range 5) a = a ∧ beh a (List.range 5) = a := fun a ao => by
          have e1 := unit_beh (a := a)
          rw [ao.1] at e1
          exact ⟨e1, beh_unit ao.2⟩
        rcases hy with hy | hy
        · rcases hz with hz | hz
          · exact ane (beh_cancel yo yn (hm a ha) (hm b hb) (by rw [ey, ← ez, hy, hz]))
          · rw [hz] at ez
            have := unit b (hm b hb) ez
            exact hab (by rw [this, (lu a (hm a ha)).1, (lu a (hm a ha)).2])
        · rw [hy] at ey
          have := unit a (hm a ha) ey
          exact hab (by rw [this, (lu b (hm b hb)).1, (lu b (hm b hb)).2])
def turnsOf (n : Nat) (ms : List (List Nat)) : List (List Nat) := ms.filter fun f => decide (rkN n f = n)
/-- whether makers make all maps -/
def Full (n : Nat) (ms : List (List Nat)) : Prop := n = 1 ∨ ((∃ f ∈ ms, rkN n f + 1 = n) ∧ ∃ K, Clo (turnsOf n ms) K ∧ K.length = fac n)
theorem gen_mono {ms ns : List (List Nat)} (h : ∀ m ∈ ms, m ∈ ns) {f : List Nat} (g : Gen ms f) : Gen ns f := by
  induction g with
  | base hm => exact .base (h _ hm)
  | step _ hm ih => exact .step ih (h _ hm)
theorem gen_app {ms : List (List Nat)} {f g : List Nat} {n : Nat} (hm : MapsN n ms) (gf : Gen ms f) (gg : Gen ms g) : Gen ms (beh f g) := by
  induction gg with
  | base h => exact .step gf h
  | @step a b ga hb ih =>
    rw [← beh_assoc (by rw [(gen_ok hm ga).1]; exact (gen_ok hm gf).2)]
    exact .step ih hb
theorem am_len : ∀ n, n ≤ 3 → (amT n n).length = n ^ n := by decide +kernel
theorem end_small {n : Nat} {ms F : List (List Nat)} (n1 : 1 ≤ n) (n3 : n ≤ 3) (h0 : ms ≠ []) (hl : ms.length ≤ 5) (hm : MapsN n ms) (e : EndH ms 27 F) :
    F.length ≤ 27 ∧ (F.length = n ^ n ↔ Full n ms) := by
  obtain ⟨T, F0, h, nd0, mem0⟩ := e.ex
  have sub : ∀ f ∈ F, f ∈ amT n n := fun f hf => amT_mem (gen_ok hm (h.gen f hf)).1 (gen_ok hm (h.gen f hf)).2
  have fl : F.length ≤ n ^ n := by rw [← am_len n n3]; exact len_sub h.nd sub
  have b27 : ∀ n, n ≤ 3 → n ^ n ≤ 27 := by decide
  have hmt : MapsN n (turnsOf n ms) := fun f hf => hm f (List.mem_filter.mp hf).1
  have ndt : ∀ m ∈ turnsOf n ms, m.Nodup := fun f hf => by
    have h2 := List.mem_filter.mp hf
    have o := hm f h2.1
    exact (rk_turn n (by omega) f (amT_mem o.1 o.2)).mp (of_decide_eq_true h2.2)
  refine ⟨Nat.le_trans fl (b27 n n3), fun hF => ?_, fun hfull => ?_⟩
  · by_cases c1 : n = 1
    · exact .inl c1
    · refine .inr ⟨Classical.byContradiction fun z => ?_, prm n, ⟨?_, fun f => ⟨fun hf => ?_, in_prm hmt ndt⟩⟩, prm_len n (by omega)⟩
      · have all := full_of h.nd sub (by rw [am_len n n3, hF]; exact Nat.le_refl _)
        have ms0 : ∀ f ∈ ms, rkN n f + 1 ≠ n := fun f hf y => z ⟨f, hf, y⟩
        have no : ∀ {f : List Nat}, Gen ms f → rkN n f + 1 ≠ n := fun {f} g => by
          induction g with
          | base hmm => exact ms0 _ hmm
          | @step a b ga hb ih =>
            have ao := gen_ok hm ga
            have bo := hm b hb
            exact rk_stay n n3 a (amT_mem ao.1 ao.2) b (amT_mem bo.1 bo.2) ih (ms0 b hb)
        obtain ⟨f, hf, ef⟩ := one_less n (by omega) n3
        exact no (h.gen f (all f hf)) ef
      · unfold prm; exact List.Pairwise.filter _ (nd_amT n n3)
      · have hf2 := List.mem_filter.mp hf
        have all := full_of h.nd sub (by rw [am_len n n3, hF]; exact Nat.le_refl _)
        have key : ∀ {f : List Nat}, Gen ms f → f.Nodup → Gen (turnsOf n ms) f := fun {f} g => by
          induction g with
          | @base m hmm => intro nf; exact .base (List.mem_filter.mpr ⟨hmm, decide_eq_true ((rk_turn n (by omega) m (amT_mem (hm m hmm).1 (hm m hmm).2)).mpr nf)⟩)
          | @step a b ga hb ih =>
            intro nf
            have ao := gen_ok hm ga
            have bo := hm b hb
            exact .step (ih (beh_nodup_l nf)) (List.mem_filter.mpr ⟨hb, decide_eq_true ((rk_turn n (by omega) b (amT_mem bo.1 bo.2)).mpr (beh_nodup_r ao bo nf))⟩)
        exact key (h.gen f (all f hf2.1)) (of_decide_eq_true hf2.2)
  · by_cases c1 : n = 1
    · subst c1
      have : 0 < F.length := by
        cases ms with
        | nil => exact absurd rfl h0
        | cons a l => exact List.length_pos_of_mem (h.sub a (List.mem_cons_self ..))
      have e1 : (1 : Nat) ^ 1 = 1 := by decide
      omega
    · obtain ⟨⟨f, hf, ef⟩, K, hK, hk⟩ := hfull.resolve_left c1
      have allK : ∀ g ∈ prm n, g ∈ K := full_of hK.1 (fun g hg => in_prm hmt ndt ((hK.2 g).mp hg)) (by rw [prm_len n (by omega), hk]; exact Nat.le_refl _)
      have gp : ∀ p ∈ prm n, Gen ms p := fun p hp => gen_mono (fun m hmm => (List.mem_filter.mp hmm).1) ((hK.2 p).mp (allK p hp))
      have gf : Gen ms f := .base hf
      have fo := hm f hf
      have all : ∀ g ∈ amT n n, Gen ms g := fun g hg => by
        have := prods_all n (by omega) n3 f (amT_mem fo.1 fo.2) ef g hg
        unfold prods at this
        rcases List.mem_append.mp this with h1 | h1
        · rcases List.mem_append.mp h1 with h1 | h1
          · exact gp g h1
          · obtain ⟨p, hp, h1⟩ := List.mem_flatMap.mp h1
            obtain ⟨q, hq, rfl⟩ := List.mem_map.mp h1
            exact gen_app hm (gen_app hm (gp p hp) gf) (gp q hq)
        · obtain ⟨p, hp, h1⟩ := List.mem_flatMap.mp h1
          obtain ⟨q, hq, h1⟩ := List.mem_flatMap.mp h1
          obtain ⟨r, hr, rfl⟩ := List.mem_map.mp h1
          exact gen_app hm (gen_app hm (gen_app hm (gen_app hm (gp p hp) gf) (gp q hq)) gf) (gp r hr)
      by_cases hT : T = []
      · subst hT
        have := len_sub (nd_amT n n3) fun g hg => (h.all.2 g).mpr (all g hg)
        rw [am_len n n3] at this
        omega
      · have tp := pos_of_ne hT
        have c := h.cnt.resolve_left hT
        by_cases n2 : n = 2
        · subst n2
          have : (2 : Nat) ^ 2 = 4 := by decide
          omega
        · have n3 : n = 3 := by omega
          subst n3
          have e27 : (3 : Nat) ^ 3 = 27 := by decide
          by_cases hF : F.length = 27
          · rw [e27]; exact hF
          · exfalso
            have nc : ¬ ∀ a ∈ turnsOf 3 ms, ∀ b ∈ turnsOf 3 ms, beh a b = beh b a := fun hc => by
              have g1 := (hK.2 _).mp (allK [1, 0, 2] (by decide +kernel))
              have g2 := (hK.2 _).mp (allK [0, 2, 1] (by decide +kernel))
              exact absurd (gen_comm hmt hc g1 g2) (by decide)
            have nc2 : ∃ a ∈ turnsOf 3 ms, ∃ b ∈ turnsOf 3 ms, beh a b ≠ beh b a := Classical.byContradiction fun z => nc fun a ha b hb => Classical.byContradiction fun y => z ⟨a, ha, b, hb, y⟩
            obtain ⟨a, ha, b, hb, hab⟩ := nc2
            have ane : a ≠ b := fun z => hab (by rw [z])
            have rf : rkN 3 f = 2 := by omega
            have ra : rkN 3 a = 3 := of_decide_eq_true (List.mem_filter.mp ha).2
            have rb : rkN 3 b = 3 := of_decide_eq_true (List.mem_filter.mp hb).2
            have k3 : 3 ≤ F0.length := len_sub (l := [a, b, f]) (m := F0) (by
              have h1 : a ≠ f := fun z => by rw [z] at ra; omega
              have h2 : b ≠ f := fun z => by rw [z] at rb; omega
              simp [ane, h1, h2]) fun x hx => by
              simp only [List.mem_cons, List.not_mem_nil, or_false] at hx
              rcases hx with rfl | rfl | rfl
              · exact (mem0 _).mpr (List.mem_filter.mp ha).1
              · exact (mem0 _).mpr (List.mem_filter.mp hb).1
              · exact (mem0 _).mpr hf
            rw [e27] at fl
            omega
end Z
end
section
set_option Elab.async false
set_option linter.all false
set_option maxRecDepth 100000
set_option maxHeartbeats 1000000
namespace K27
open PySem PySem.Spec L2 Z
def topS (i : Nat) : Stmt := PySem.Challenge.pw_eggboxes_k27_whole_all_maps.main.body.getD i (.Pass ⟨0, 0, 0, 0⟩)
def dkL (q : Addr) (m t : Int) : List (Key × V) := [(.inr "great", .ref q), (.inr "mixed", .int m), (.inr "turns", .int t)]
def DkP (H : Hp) (p q : Addr) : Prop := ∃ (gs : List Int) (m t : Int), H p = some (.dK (dkL q m t)) ∧ H q = some (.lst (gs.map V.int)) ∧ (0 ≤ m ∧ m < 4294967296) ∧ gs.length ≤ 63
def DkT : Z.DkT := ⟨DkP, fun ⟨gs, m, t, h1, h2, h3⟩ e1 e2 => ⟨gs, m, t, e1.trans h1, e2.trans h2, h3⟩⟩
theorem soft : DkSoft DkT := ⟨fun ⟨gs, m, t, h1, h2, _⟩ => by
  rw [h1, h2]
  exact ⟨rfl, rfl, (by intro _ z; cases z), (by intro _ _ z; cases z), (by intro _ z; cases z), (by intro _ _ z; cases z)⟩⟩
theorem n1 : ¬ (Sum.inr ("great" : Str) : Key) = .inr "mixed" := by decide +kernel
theorem n2 : ¬ (Sum.inr ("great" : Str) : Key) = .inr "turns" := by decide +kernel
theorem n3 : ¬ (Sum.inr ("mixed" : Str) : Key) = .inr "turns" := by decide +kernel
theorem val_g {q : Addr} {m t : Int} : valV (dkL q m t) (.inr "great") = some (.ref q) := by
  unfold dkL
  rw [valV_pos rfl]
theorem val_m {q : Addr} {m t : Int} : valV (dkL q m t) (.inr "mixed") = some (.int m) := by
  unfold dkL
  rw [valV_neg n1, valV_pos rfl]
theorem val_t {q : Addr} {m t : Int} : valV (dkL q m t) (.inr "turns") = some (.int t) := by
  unfold dkL
  rw [valV_neg n2, valV_neg n3, valV_pos rfl]
theorem get_g {H : Hp} {p q : Addr} {m t : Int} (h : H p = some (.dK (dkL q m t))) : DGet H p (.str "great") (some (.ref q)) := .inl ⟨_, .inr "great", .inl h, rfl, val_g.symm⟩
theorem get_m {H : Hp} {p q : Addr} {m t : Int} (h : H p = some (.dK (dkL q m t))) : DGet H p (.str "mixed") (some (.int m)) := .inl ⟨_, .inr "mixed", .inl h, rfl, val_m.symm⟩
theorem get_t {H : Hp} {p q : Addr} {m t : Int} (h : H p = some (.dK (dkL q m t))) : DGet H p (.str "turns") (some (.int t)) := .inl ⟨_, .inr "turns", .inl h, rfl, val_t.symm⟩
theorem put_t {q : Addr} {m t u : Int} : putK (dkL q m t) (.inr "turns") (.int u) = dkL q m u := by
  unfold putK dkL
  simp only [List.any_cons, List.any_nil, decide_true, Bool.or_true, Bool.true_or, if_true, List.map_cons, List.map_nil, if_neg n2, if_neg n3]
/-- all that was there stays -/
def Kn (H H' : Hp) : Prop := ∀ b o, H b = some o → H' b = some o
theorem Kn.refl {H : Hp} : Kn H H := fun _ _ h => h
theorem Kn.new {a : Addr} {H H' : Hp} {o : HO} (h : Kn H H') (ha : H' a = none) : Kn H (upd H' a o) := fun b x e => (upd_ne (ne_of_none (h b x e) ha)).trans (h b x e)
theorem Kn.at {a : Addr} {H H' : Hp} {o : HO} (h : Kn H H') (ha : H a = none) : Kn H (upd H' a o) := fun b x e => (upd_ne (ne_of_none e ha)).trans (h b x e)
theorem Kn.sq {K : PySem.W.Frag} {a : Addr} {H H' : Hp} {xs : List V} (h : Kn H H') (s : SqL K H a xs) : SqL K H' a xs := by
  rcases s with (s | ⟨o, s⟩) | s
  · exact .inl (.inl (h _ _ s))
  · exact .inl (.inr ⟨o, h _ _ s⟩)
  · exact .inr s
theorem ints_dp {K : PySem.W.Frag} {H : Hp} : ∀ gs : List Int, DpAll K H (gs.map V.int) (gs.map PyData.int)
  | [] => .nil
  | g :: gs => .cons (.int g) (ints_dp gs)
theorem lay_ints : ∀ gs : List Int, PyData.canLayAll0 (gs.map PyData.int) = true
  | [] => rfl
  | g :: gs => lay_ints gs
theorem depth_ints : ∀ gs : List Int, PyData.depthAll (gs.map PyData.int) = 0
  | [] => rfl
  | g :: gs => by
    rw [List.map_cons]
    unfold PyData.depthAll
    rw [depth_ints gs]
    rfl
theorem shaped_ints (gs : List Int) : SeqAt.shaped (.list (gs.map PyData.int)) = true := by
  unfold SeqAt.shaped PyData.canLay0 PyData.depth
  rw [lay_ints, depth_ints]
  rfl
section
variable {P : Program} {w : World} {K : Kw} {mg : Str → Option Value} {base : Heap} {f : Addr} {fd : FuncData} {k : Nat}
theorem scD : FnScope ["deck", "many", "great", "number"] ["deck", "many"] (defScope (topS 20)) := ⟨rfl, rfl, rfl, by decide +kernel, rfl, by decide +kernel, by decide +kernel⟩
theorem draw_ok (F : Fun K.K "_law_draw" "_law_draw" (topS 20) f fd) (zi : mg "int" = none) : FnOk P w K.K mg base CX0 (k + 1) f fd ["deck", "many"] (spZ K DkT 2 cDraw) := by
  refine F.ok scD (fun vs H Q E h => h.1) (fun cdv A outer s H vs Q E hr h => ?_)
  have hu := hu_of hr
  have hu2 := hr.units
  have pInt : ∀ {X : Cx} {e : Expr} {t : TE} {p0 p1 : Pos}, Gl X "int" → X.mg "int" = none → PE X e t → noStar e = true → PE X (.Call (.Name "int" p0) [e] [] p1) (tCB _ (tCons t tNil)) := fun {X e t p0 p1} g m he hs => pe_callTy call_int1 g m (by decide +kernel) (pa_cons he pa_nil (star_cons hs)) (by decide +kernel) (by decide +kernel) (star_cons hs) rfl
  refine ⟨_, pss_cons (ps_if (pt_cmpR op_lt (pv 1) pe_int (nomark _)) (pss_one (ps_ret pe_int)) pss_nil)
      (pss_cons (ps_if (pt_cmpR (or_ne hu2) (pe_dget hu (pv 0) pe_str (fun _ _ => rfl)) (pe_lst pa_nil) (nomark _))
        (pss_cons (ps_set (i := 2) scD.nd rfl (.inl rfl) (pe_bm0 PySem.F.plainAttrs_list PySem.F.slot_list_pop PySem.F.type_list_pop mt_pop (pe_dget hu (pv 0) pe_str (fun _ _ => rfl))))
        (pss_cons (ps_if (pt_cmpR op_ge (pv 2) (pv 1) (nomark _)) (pss_one (ps_expr (pe_bm PySem.F.plainAttrs_list PySem.F.slot_list_append PySem.F.type_list_append mt_append (pe_dget hu (pv 0) pe_str (fun _ _ => rfl)) (pa_cons (pe_op op_fdivW (pv 2) (pv 1)) pa_nil)))) pss_nil)
        (pss_one (ps_ret (pe_op op_mod (pInt (by rfl) zi (pv 2) rfl) (pv 1)))))) pss_nil)
      (pss_cons (ps_dput hu (pv 0) pe_str (pe_op op_add (pe_dget hu (pv 0) pe_str (fun _ _ => rfl)) pe_int) rfl)
      (pss_cons (ps_set (i := 3) scD.nd rfl (.inl rfl) (pe_op op_mod (pInt (by rfl) zi (pe_op op_add (pe_dget hu (pv 0) pe_str (fun _ _ => rfl)) (pe_op op_mul pe_int (pe_dget hu (pv 0) pe_str (fun _ _ => rfl)))) rfl) pe_int))
      (pss_cons (ps_set (i := 3) scD.nd rfl (.inl rfl) (pe_op op_mod (pInt (by rfl) zi (pe_op op_add (pe_op op_add (pe_op op_mul (pv 3) (pv 3)) (pe_op op_mul pe_int (pe_dget hu (pv 0) pe_str (fun _ _ => rfl)))) pe_int) rfl) pe_int))
      (pss_cons (ps_set (i := 3) scD.nd rfl (.inl rfl) (pe_op op_mod (pInt (by rfl) zi (pe_op op_add (pe_op op_mul (pv 3) (pv 3)) (pe_op op_mul (pe_dget hu (pv 0) pe_str (fun _ _ => rfl)) pe_int)) rfl) pe_int))
      (pss_one (ps_ret (pe_op op_mod (pInt (by rfl) zi (pe_op op_fdivW (pv 3) pe_int) rfl) (pv 1))))))))), ?_⟩
  obtain ⟨p, q, many, rfl, hpq, ⟨gs, m, t, h1, h2, ⟨m0, m1⟩, hg⟩, hb, fin⟩ := draw_sp soft h
  refine ⟨.int many, rfl, many, 2, rfl, rfl, _, rfl, ite2 (fun c => ?_) fun c => ?_⟩
  · exact fin H 0 .refl ⟨gs, m, t, h1, h2, ⟨m0, m1⟩, hg⟩ (by decide) (.inr ⟨rfl, of_decide_eq_true c⟩)
  have c2 : 2 ≤ many := by
    have : ¬ many < 2 := fun z => c (decide_eq_true z)
    omega
  have clog : many.natAbs.log2 < 9000 := by
    have h3 : many.natAbs < 2 ^ 62 := by omega
    have := (Nat.log2_lt (by omega)).mpr h3
    omega
  refine ⟨.ref p, rfl, p, .ref q, rfl, get_g h1, Nat.zero_le _, fun l hl => ?_⟩
  have l1 : l ≠ p := fun z => by rw [z, h1] at hl; cases hl
  have l2 : l ≠ q := fun z => by rw [z, h2] at hl; cases hl
  have k1 : Kp p q H (upd H l (.lst [])) := Kp.new .refl hl
  have e1 : (upd H l (.lst [])) p = some (.dK (dkL q m t)) := (upd_ne (Ne.symm l1)).trans h1
  have e2 : (upd H l (.lst [])) q = some (.lst (gs.map V.int)) := (upd_ne (Ne.symm l2)).trans h2
  generalize hH1 : upd H l (.lst []) = H1 at k1 e1 e2
  have e3 : H1 l = some (.lst []) := by rw [← hH1]; exact upd_same
  refine .inr ⟨.list (gs.map PyData.int), .list [], .lst (.inl (.inl e2)) (ints_dp gs), .lst (.inl (.inl e3)) .nil, shaped_ints gs, rfl, _, rfl, ite2 (fun c => ?_) fun c => ?_⟩
  · -- a great one
    obtain ⟨L, z, rfl⟩ : ∃ L z, gs = L ++ [z] := by
      rcases List.eq_nil_or_concat gs with rfl | ⟨L, z, rfl⟩
      · exact absurd c (by decide)
      · exact ⟨L, z, by simp⟩
    have lst : ((L ++ [z]).map V.int)[((L ++ [z]).map V.int).length - 1]? = some (.int z) := by simp
    have dl : ((L ++ [z]).map V.int).dropLast = L.map V.int := by simp
    have hL : L.length + 1 ≤ 63 := by simpa using hg
    refine ⟨.ref p, rfl, p, .ref q, rfl, get_g e1, .inl ⟨rfl, _, .inl (.inl e2)⟩, q, _, .int z, rfl, rfl, e2, lst, ?_⟩
    rw [dl]
    have k2 : Kp p q H (upd H1 q (.lst (L.map V.int))) := k1.at (.inr rfl)
    have e4 : (upd H1 q (.lst (L.map V.int))) p = some (.dK (dkL q m t)) := (upd_ne hpq).trans e1
    have e5 : (upd H1 q (.lst (L.map V.int))) q = some (.lst (L.map V.int)) := upd_same
    generalize hH2 : upd H1 q (.lst (L.map V.int)) = H2 at k2 e4 e5
    have last : ∀ H3 : Hp, Kp p q H H3 → DkP H3 p q → Q (.int (z % many)) H3 := fun H3 k3 hP => fin H3 _ k3 hP (Int.emod_nonneg _ (by omega)) (.inl (Int.emod_lt_of_pos _ (by omega)))
    refine ⟨.int z, rfl, .int many, rfl, z, many, rfl, rfl, _, rfl, ite2 (fun c3 => ?_) fun c3 => ?_⟩
    · refine ⟨.ref p, rfl, p, .ref q, rfl, get_g e4, .inl ⟨rfl, _, .inl (.inl e5)⟩, .int z, rfl, .int many, rfl, z, many, rfl, rfl, ⟨by omega, clog⟩, q, _, .int (z / many), rfl, rfl, e5, ?_, ?_⟩
      · rw [List.length_map, Z.line_eq]; unfold Z.lineN; omega
      · refine ⟨.int z, rfl, .inl ⟨z, rfl, .int many, rfl, z, many, rfl, rfl, by omega, ?_⟩⟩
        refine last _ (k2.at (.inr rfl)) ⟨L ++ [z / many], m, t, (upd_ne hpq).trans e4, ?_, ⟨m0, m1⟩, by simpa using hL⟩
        rw [upd_same, List.map_append]; rfl
    · refine ⟨.int z, rfl, .inl ⟨z, rfl, .int many, rfl, z, many, rfl, rfl, by omega, ?_⟩⟩
      exact last H2 k2 ⟨L, m, t, e4, e5, ⟨m0, m1⟩, by omega⟩
  · -- stirred
    have hn : gs = [] := by
      cases gs with
      | nil => rfl
      | cons a b => exact absurd rfl c
    subst hn
    refine ⟨.ref p, rfl, p, .int t, rfl, get_t e1, t, 1, rfl, rfl, .ref p, rfl, p, _, rfl, DPut.k (k := .inr "turns") e1 (show 3 < sizeLine by rw [Z.line_eq]; decide), ?_⟩
    rw [put_t]
    have k2 : Kp p q H (upd H1 p (.dK (dkL q m (t + 1)))) := k1.at (.inl rfl)
    have e4 : (upd H1 p (.dK (dkL q m (t + 1)))) p = some (.dK (dkL q m (t + 1))) := upd_same
    have e5 : (upd H1 p (.dK (dkL q m (t + 1)))) q = some (.lst []) := (upd_ne (Ne.symm hpq)).trans e2
    generalize hH2 : upd H1 p (.dK (dkL q m (t + 1))) = H2 at k2 e4 e5
    refine ⟨.ref p, rfl, p, .int m, rfl, get_m e4, .ref p, rfl, p, .int (t + 1), rfl, get_t e4, _, _, rfl, rfl, .inl ⟨by decide, by decide⟩, _, _, rfl, rfl, .inl ⟨_, rfl, _, _, rfl, rfl, (show (0 : Int) < 4294967279 by decide), ?_⟩⟩
    obtain ⟨a, ha⟩ : ∃ a, (m + 2654435761 * (t + 1)) % 4294967279 = a := ⟨_, rfl⟩
    have a0 : 0 ≤ a ∧ a < 4294967279 := by subst ha; exact ⟨Int.emod_nonneg _ (by decide), Int.emod_lt_of_pos _ (by decide)⟩
    refine ⟨.int a, by rw [← ha]; rfl, .int a, by rw [← ha]; rfl, _, _, rfl, rfl, .inl ⟨by omega, by omega⟩, .ref p, rfl, p, .int (t + 1), rfl, get_t e4, _, _, rfl, rfl, .inl ⟨by decide, by decide⟩, _, _, rfl, rfl, _, _, rfl, rfl, .inl ⟨_, rfl, _, _, rfl, rfl, (show (0 : Int) < 4294967231 by decide), ?_⟩⟩
    obtain ⟨b, hb2⟩ : ∃ b, (a * a + 40692 * (t + 1) + 23) % 4294967231 = b := ⟨_, rfl⟩
    have b0 : 0 ≤ b ∧ b < 4294967231 := by subst hb2; exact ⟨Int.emod_nonneg _ (by decide), Int.emod_lt_of_pos _ (by decide)⟩
    refine ⟨.int b, by rw [← hb2]; rfl, .int b, by rw [← hb2]; rfl, _, _, rfl, rfl, .inl ⟨by omega, by omega⟩, .ref p, rfl, p, .int m, rfl, get_m e4, _, _, rfl, rfl, .inl ⟨by omega, by omega⟩, _, _, rfl, rfl, .inl ⟨_, rfl, _, _, rfl, rfl, (show (0 : Int) < 4294967197 by decide), ?_⟩⟩
    obtain ⟨d, hc2⟩ : ∃ d, (b * b + m * 11) % 4294967197 = d := ⟨_, rfl⟩
    refine ⟨.int d, by rw [← hc2]; rfl, _, _, rfl, rfl, ⟨by decide, by decide⟩, .inl ⟨_, rfl, .int many, rfl, _, _, rfl, rfl, by omega, ?_⟩⟩
    exact fin H2 _ k2 ⟨[], m, t + 1, e4, e5, ⟨m0, m1⟩, by simp⟩ (Int.emod_nonneg _ (by omega)) (.inl (Int.emod_lt_of_pos _ (by omega)))
theorem scM : FnScope ["script", "deck", "cell", "own"] ["script"] (defScope (topS 19)) := ⟨rfl, rfl, rfl, by decide +kernel, rfl, by decide +kernel, by decide +kernel⟩
theorem put_m {q : Addr} {m t u : Int} : putK (dkL q m t) (.inr "mixed") (.int u) = dkL q u t := by
  unfold putK dkL
  simp only [List.any_cons, List.any_nil, decide_true, Bool.or_true, Bool.true_or, if_true, List.map_cons, List.map_nil, if_neg n1, if_neg (Ne.symm n3)]
theorem merge_new {q : Addr} {m t : Int} : mergeK [] (dkL q m t) = dkL q m t := by
  unfold mergeK dkL putK
  simp only [List.foldl_cons, List.foldl_nil, List.any_nil, Bool.false_eq_true, if_false, List.nil_append, List.any_cons, Bool.or_false, decide_eq_true_eq, if_neg n1, if_neg n2, if_neg n3, Bool.or_eq_true, or_self, List.cons_append]
  simp only [n2, n3, or_self, if_false]
theorem make_ok (F : Fun K.K "_law_deck" "_law_deck" (topS 19) f fd) (zi : mg "int" = none) (za : mg "abs" = none) (zl : mg "len" = none) : FnOk P w K.K mg base CX0 (k + 1) f fd ["script"] (spMk DkT K.K) := by
  refine F.ok scM (fun vs H Q E h => ?_) (fun cdv A outer s H vs Q E hr h => ?_)
  · obtain ⟨a, ns, rfl, _⟩ := h; rfl
  obtain ⟨a, ns, rfl, hS, hlen, fin⟩ := h
  have hu := hu_of hr
  have pInt : ∀ {X : Cx} {e : Expr} {t : TE} {p0 p1 : Pos}, Gl X "int" → X.mg "int" = none → PE X e t → noStar e = true → PE X (.Call (.Name "int" p0) [e] [] p1) (tCB _ (tCons t tNil)) := fun {X e t p0 p1} g m he hs => pe_callTy call_int1 g m (by decide +kernel) (pa_cons he pa_nil (star_cons hs)) (by decide +kernel) (by decide +kernel) (star_cons hs) rfl
  refine ⟨_, pss_cons (ps_set (i := 1) scM.nd rfl (.inl rfl) (pe_disp (pps_cons pe_str (pe_lst pa_nil) (pps_cons pe_str (pe_op op_add pe_int (pe_callB call_len_seq (by rfl) zl PySem.boot_len (pa_cons (pe_slice sl_list (pv 0) po_none (po_some pe_int)) pa_nil))) (pps_cons pe_str pe_int pps_nil))) rfl rfl (by intro z; cases z) (by decide)))
    (pss_cons (ps_for PassesOwn.never rfl (pi_list (pe_slice sl_list (pv 0) po_none (po_some pe_int))) (pg_name (i := 2) scM.nd rfl (.inl rfl))
      (pss_cons (ps_set (i := 3) scM.nd rfl (.inl rfl) (pe_op op_add (pe_op op_mul pe_int (pe_callB call_abs (by rfl) za (by decide +kernel) (pa_cons (pv 2) pa_nil))) (pInt (by rfl) zi (pe_cmpR op_lt (pv 2) pe_int (nomark _)) rfl)))
      (pss_cons (ps_if (pt_cmpR op_ge (pv 3) (pe_op op_pow pe_int pe_int) (nomark _)) (pss_one (ps_expr (pe_bm PySem.F.plainAttrs_list PySem.F.slot_list_append PySem.F.type_list_append mt_append (pe_dget hu (pv 1) pe_str (fun _ _ => rfl)) (pa_cons (pv 3) pa_nil)))) pss_nil)
      (pss_one (ps_dput hu (pv 1) pe_str (pe_op op_mod (pInt (by rfl) zi (pe_op op_add (pe_op op_add (pe_op op_mul (pe_dget hu (pv 1) pe_str (fun _ _ => rfl)) pe_int) (pv 3)) pe_int) rfl) pe_int) rfl)))))
    (pss_one (ps_ret (pv 1)))), ?_⟩
  refine fun p hp => ⟨Nat.zero_le _, fun q hq => ?_⟩
  have hpq : p ≠ q := fun z => by rw [← z, upd_same] at hq; cases hq
  have hq0 : H q = none := by
    rw [upd_ne (Ne.symm hpq)] at hq; exact hq
  have k1 : Kn H (upd (upd H p (.dK [])) q (.lst [])) := (Kn.refl.new hp).new hq
  have p1 : (upd (upd H p (.dK [])) q (.lst [])) p = some (.dK []) := by rw [upd_ne hpq, upd_same]
  have q1 : (upd (upd H p (.dK [])) q (.lst [])) q = some (.lst []) := upd_same
  generalize hA : upd (upd H p (.dK [])) q (.lst []) = H1 at k1 p1 q1
  refine ⟨.ref a, rfl, 63, rfl, a, _, rfl, k1.sq hS, fun c1 hc1 => ?_⟩
  have n1p : p ≠ c1 := fun z => by rw [← z, p1] at hc1; cases hc1
  have n1q : q ≠ c1 := fun z => by rw [← z, q1] at hc1; cases hc1
  obtain ⟨is, his, hil⟩ : ∃ is : List Int, cutV (ns.map V.int) none (some 63) = is.map V.int ∧ is.length ≤ 63 := by
    refine ⟨(ns.drop (HT.sIx (ns.map V.int).length 0 none)).take (HT.sIx (ns.map V.int).length (ns.map V.int).length (some 63) - HT.sIx (ns.map V.int).length 0 none), ?_, ?_⟩
    · unfold cutV; rw [List.map_take, List.map_drop]
    · rw [List.length_take, List.length_drop]; omega
  have k2 := k1.new (o := .lst (cutV (ns.map V.int) none (some 63))) hc1
  have p2 : (upd H1 c1 (.lst (cutV (ns.map V.int) none (some 63)))) p = some (.dK []) := (upd_ne n1p).trans p1
  have q2 : (upd H1 c1 (.lst (cutV (ns.map V.int) none (some 63)))) q = some (.lst []) := (upd_ne n1q).trans q1
  have c2 : (upd H1 c1 (.lst (cutV (ns.map V.int) none (some 63)))) c1 = some (.lst (cutV (ns.map V.int) none (some 63))) := upd_same
  generalize hB : upd H1 c1 (.lst (cutV (ns.map V.int) none (some 63))) = H2 at k2 p2 q2 c2
  refine ⟨c1, _, rfl, .inl (.inl (.inl c2)), _, _, rfl, rfl, p2, dkL q _ 0, rfl, (show 3 ≤ 15 by decide), ?_⟩
  rw [merge_new]
  obtain ⟨m0, hm0⟩ : ∃ m0 : Int, 1958127 + ((cutV (ns.map V.int) none (some 63)).length : Int) = m0 := ⟨_, rfl⟩
  have hm1 : 0 ≤ m0 ∧ m0 < 4294967296 := by
    rw [his, List.length_map] at hm0
    omega
  rw [hm0]
  have k3 : Kn H (upd H2 p (.dK (dkL q m0 0))) := k2.at hp
  have p3 : (upd H2 p (.dK (dkL q m0 0))) p = some (.dK (dkL q m0 0)) := upd_same
  have q3 : (upd H2 p (.dK (dkL q m0 0))) q = some (.lst []) := (upd_ne (Ne.symm hpq)).trans q2
  generalize hC : upd H2 p (.dK (dkL q m0 0)) = H3 at k3 p3 q3
  refine ⟨.ref a, rfl, 63, rfl, a, _, rfl, k3.sq hS, fun c hc => ?_⟩
  have ncp : p ≠ c := fun z => by rw [← z, p3] at hc; cases hc
  have ncq : q ≠ c := fun z => by rw [← z, q3] at hc; cases hc
  have hc0 : H c = none := by
    cases e : H c with
    | none => rfl
    | some o => rw [k3 c o e] at hc; cases hc
  refine ⟨c, rfl, ⟨_, .inl (.inl upd_same)⟩, ?_⟩
  refine for_list (xs := cutV (ns.map V.int) none (some 63)) (fun i σ H' => ∃ (gs : List Int) (m : Int) (y2 y3 : Option V), σ = [some (.ref a), some (.ref p), y2, y3] ∧ Kn H H' ∧ H' c = some (.lst (cutV (ns.map V.int) none (some 63))) ∧ H' p = some (.dK (dkL q m 0)) ∧
    H' q = some (.lst (gs.map V.int)) ∧ (0 ≤ m ∧ m < 4294967296) ∧ gs.length ≤ i) ?_ ?_ ?_ ?_
  · exact ⟨[], m0, none, none, rfl, k3.new hc, upd_same, (upd_ne ncp).trans p3, (upd_ne ncq).trans q3, hm1, Nat.le_refl _⟩
  · rintro i σ H' _ ⟨gs, m, y2, y3, _, _, h, _⟩
    exact .inl (.inl h)
  · rintro i x σ H' hx ⟨gs, m, y2, y3, rfl, kn, hc', hp', hq', ⟨m1, m2⟩, hg⟩
    have hi : i < 63 := by
      have := (List.getElem?_eq_some_iff.mp hx).1
      rw [his, List.length_map] at this
      omega
    rw [his, List.getElem?_map] at hx
    obtain ⟨n, _, rfl⟩ := Option.map_eq_some_iff.mp hx
    refine ⟨.int n, rfl, n, rfl, 2, _, rfl, rfl, .inl ⟨by decide, by decide⟩, .int n, rfl, n, 0, rfl, rfl, .inr ⟨_, rfl, _, _, rfl, rfl, ?_⟩⟩
    obtain ⟨own, how⟩ : ∃ own : Int, 2 * (if n < 0 then -n else n) + (if decide (n < 0) = true then 1 else 0) = own := ⟨_, rfl⟩
    refine ⟨.int own, by rw [← how]; rfl, 10, 16, rfl, rfl, ⟨by decide, by decide, by decide⟩, own, _, rfl, rfl, _, rfl, ite2 (fun _ => ?_) fun _ => ?_⟩
    · refine ⟨.ref p, rfl, p, .ref q, rfl, get_g hp', .inl ⟨rfl, _, .inl (.inl hq')⟩, .int own, by rw [← how]; rfl, q, _, .int own, rfl, rfl, hq', ?_, ?_⟩
      · rw [List.length_map, Z.line_eq]; unfold Z.lineN; omega
      · have hp4 : (upd H' q (.lst (gs.map V.int ++ [.int own]))) p = some (.dK (dkL q m 0)) := (upd_ne hpq).trans hp'
        refine ⟨.ref p, rfl, p, .int m, rfl, get_m hp4, m, 69621, rfl, rfl, .inr ⟨by decide, by decide⟩, .int own, by rw [← how]; rfl, _, _, rfl, rfl, _, _, rfl, rfl, .inl ⟨_, rfl, _, _, rfl, rfl, (show (0 : Int) < 4294967291 by decide), ?_⟩⟩
        refine ⟨.ref p, rfl, p, _, rfl, DPut.k (k := .inr "mixed") hp4 (show 3 < sizeLine by rw [Z.line_eq]; decide), ?_⟩
        refine ⟨gs ++ [own], (m * 69621 + own + 29) % 4294967291, some (.int n), some (.int own), by rw [← how]; rfl, (kn.at hq0).at hp, ?_, ?_, ?_, ⟨Int.emod_nonneg _ (by decide), Int.lt_trans (Int.emod_lt_of_pos _ (by decide)) (by decide)⟩, by simpa using hg⟩
        · rw [upd_ne (Ne.symm ncp), upd_ne (Ne.symm ncq)]; exact hc'
        · rw [upd_same, put_m]
        · rw [upd_ne (Ne.symm hpq), upd_same, List.map_append]; rfl
    · refine ⟨.ref p, rfl, p, .int m, rfl, get_m hp', m, 69621, rfl, rfl, .inr ⟨by decide, by decide⟩, .int own, by rw [← how]; rfl, _, _, rfl, rfl, _, _, rfl, rfl, .inl ⟨_, rfl, _, _, rfl, rfl, (show (0 : Int) < 4294967291 by decide), ?_⟩⟩
      refine ⟨.ref p, rfl, p, _, rfl, DPut.k (k := .inr "mixed") hp' (show 3 < sizeLine by rw [Z.line_eq]; decide), ?_⟩
      refine ⟨gs, (m * 69621 + own + 29) % 4294967291, some (.int n), some (.int own), by rw [← how]; rfl, kn.at hp, ?_, ?_, ?_, ⟨Int.emod_nonneg _ (by decide), Int.lt_trans (Int.emod_lt_of_pos _ (by decide)) (by decide)⟩, by omega⟩
      · rw [upd_ne (Ne.symm ncp)]; exact hc'
      · rw [upd_same, put_m]
      · rw [upd_ne (Ne.symm hpq)]; exact hq'
  · rintro σ H' ⟨gs, m, y2, y3, rfl, kn, hc', hp', hq', hm, hg⟩
    rw [his, List.length_map] at hg
    have hP : DkP H' p q := ⟨gs, m, 0, hp', hq', hm, by omega⟩
    obtain ⟨s1, s2, s3, s4, s5, s6⟩ := soft.all (T := DkT) hP
    exact ⟨.ref p, rfl, fin H' p q hpq hp hq0 kn hP s1 s2 s3 s4 s5 s6⟩
end
end K27
end
section
set_option Elab.async false
set_option linter.all false
set_option maxRecDepth 100000
set_option maxHeartbeats 1000000
namespace K27
open PySem PySem.Spec L2 Z
abbrev c_law_draw : Ct := cDraw
/-- a list or a tuple -/
inductive Seqs (ds : List D) : D → Prop
  | l : Seqs ds (.list ds)
  | t : Seqs ds (.tuple ds)
def c_image_of : Ct := fun rs Q _ => ∃ (n : Nat) (f : List Nat), rs = [.val (nT f)] ∧ f.length < 64 ∧ inR n f ∧ Q (.val (nT (sset n f)))
def c_put_behind : Ct := fun rs Q _ => ∃ a b : List Nat, rs = [.val (nT a), .val (nT b)] ∧ a.length ≤ 100 ∧ b.length ≤ 100 ∧ inR b.length a ∧ Q (.val (nT (beh a b)))
def c_law_behind : Ct := c_put_behind
def c_is_turn : Ct := fun rs Q _ => ∃ (n : Nat) (f : List Nat), rs = [.val (nT f)] ∧ f.length < 64 ∧ inR n f ∧ Q (.val (.bool (decide ((sset n f).length = f.length))))
def c_power_of : Ct := fun rs Q _ => ∃ q k : Nat, rs = [.val (.int q), .val (.int k)] ∧ q ≤ 1000 ∧ k ≤ 1000 ∧ Q (.val (.int (q ^ k : Nat)))
def c_law_power : Ct := c_power_of
def c_choices : Ct := fun rs Q _ => ∃ n k : Nat, rs = [.val (.int n), .val (.int k)] ∧ k ≤ n ∧ n ≤ 1000 ∧ Q (.val (.int (ch n k : Nat)))
def c_law_choose : Ct := c_choices
def c_turns_count : Ct := fun rs Q _ => ∃ n : Nat, rs = [.val (.int n)] ∧ n ≤ 1000 ∧ Q (.val (.int (fac n : Nat)))
def c_law_factorial : Ct := c_turns_count
def c_parts_number : Ct := fun rs Q _ => ∃ n k : Nat, rs = [.val (.int n), .val (.int k)] ∧ 1 ≤ k ∧ k ≤ n ∧ n ≤ 300 ∧ Q (.val (.int (sti n k : Nat)))
def c_law_parts : Ct := c_parts_number
def c_full_box : Ct := fun rs Q _ => ∃ n k : Nat, rs = [.val (.int n), .val (.int k)] ∧ 1 ≤ k ∧ k ≤ n ∧ n ≤ 300 ∧ Q (.val (.tuple [.int (sti n k : Nat), .int (ch n k : Nat), .int (fac k : Nat)]))
def c_staying_number : Ct := fun rs Q _ => ∃ n k : Nat, rs = [.val (.int n), .val (.int k)] ∧ k ≤ n ∧ n ≤ 1000 ∧ Q (.val (.int (ch n k * k ^ (n - k) : Nat)))
def threeM (n : Nat) : List (List Nat) := if n = 1 then [[0], [0], [0]] else [(List.range n).map fun t => (t + 1) % n, 1 :: 0 :: (List.range n).drop 2, 0 :: 0 :: (List.range n).drop 2]
def c_three_makers : Ct := fun rs Q _ => ∃ n : Nat, rs = [.val (.int n)] ∧ 1 ≤ n ∧ n ≤ 1000 ∧ Q (.val (.tuple ((threeM n).map nT)))
def c_two_are_few : Ct := fun rs Q _ => ∃ n : Nat, rs = [.val (.int n)] ∧ Q (.val (.bool (decide (3 ≤ n))))
def c_turns_made : Ct := fun rs Q _ => ∃ (n : Nat) (ms : List (List Nat)), rs = [.val (.list (ms.map nT))] ∧ n ≤ 5 ∧ ms.length ≤ 5 ∧ MapsN n ms ∧ (∀ m ∈ ms, m.Nodup) ∧ ∀ K, Clo ms K → Q (.val (.int (K.length : Nat)))
def c_is_full : Ct := fun rs Q _ => ∃ (n : Nat) (ms : List (List Nat)), rs = [.val (.tuple (ms.map nT))] ∧ 1 ≤ n ∧ n ≤ 5 ∧ ms ≠ [] ∧ ms.length ≤ 5 ∧ MapsN n ms ∧ ∀ b : Bool, (b = true ↔ Full n ms) → Q (.val (.bool b))
def c_law_is_full : Ct := c_is_full
def c_law_pick : Ct := fun rs Q _ => ∃ (ds : List D) (d : D), rs = [.deck, .val d] ∧ Seqs ds d ∧ ds ≠ [] ∧ ds.length ≤ 100 ∧ ∀ d ∈ ds, Q (.val d)
def c_law_heap : Ct := fun rs Q _ => ∃ (n : Nat) (ms : List (List Nat)) (most : Nat) (d : D), rs = [.val d, .val (.int most)] ∧ Seqs (ms.map nT) d ∧ 1 ≤ n ∧ n ≤ 5 ∧ ms ≠ [] ∧ ms.length ≤ 5 ∧ MapsN n ms ∧ most ≤ 120 ∧ (∀ F, EndH ms most F → F.length ≤ most → ∀ hs : List (List Nat), hs.Perm F → Q (.val (.tuple (hs.map nT)))) ∧ (∀ F, EndH ms most F → most < F.length → Q (.val .none))
def c_law_drawn_map : Ct := fun rs Q _ => ∃ n : Nat, rs = [.deck, .val (.int n)] ∧ 0 < n ∧ n ≤ 100 ∧ ∀ led : List Nat, led.length = n → inR n led → Q (.val (nT led))
/-! image_of(led): 0 led -/
def g_image_of : List Str := ["tuple", "sorted", "set"]
def N_image_of : List Str := ["led"]
def k_image_of : List (Str × D) := []
theorem sc_image_of : FnScope N_image_of ["led"] (defScope (topS 1)) := ⟨rfl, rfl, rfl, by decide +kernel, rfl, by decide +kernel, by decide +kernel⟩
def f_image_of : List FnI := []
def z_image_of : ZS := (zSeq (zRet (zBlt fTuple (zArgs zKeep [(zBlt fSortSet (zArgs zKeep [(zNm 0)]))]))) zNext)
theorem b_image_of : evB ⟨N_image_of, f_image_of, g_image_of, k_image_of⟩ 20 ⟨defScope (topS 1), fun _ => true⟩ (defBody (topS 1)) = z_image_of := by kernel_rfl
/-! put_behind(one, other): 0 one, 1 other, 2 thing -/
def g_put_behind : List Str := ["tuple"]
def N_put_behind : List Str := ["one", "other", "thing"]
def k_put_behind : List (Str × D) := []
theorem sc_put_behind : FnScope N_put_behind ["one", "other"] (defScope (topS 3)) := ⟨rfl, rfl, rfl, by decide +kernel, rfl, by decide +kernel, by decide +kernel⟩
def f_put_behind : List FnI := []
def z_put_behind : ZS := (zSeq (zRet (zBlt fTuple (zArgs zKeep [(zLc (zIt (zNm 0)) [2] (zTn 2) zYes (zD2 fIx (zNm 1) (zNm 2)))]))) zNext)
theorem b_put_behind : evB ⟨N_put_behind, f_put_behind, g_put_behind, k_put_behind⟩ 20 ⟨defScope (topS 3), fun _ => true⟩ (defBody (topS 3)) = z_put_behind := by kernel_rfl
/-! is_turn(led): 0 led -/
def g_is_turn : List Str := ["len", "set"]
def N_is_turn : List Str := ["led"]
def k_is_turn : List (Str × D) := []
theorem sc_is_turn : FnScope N_is_turn ["led"] (defScope (topS 4)) := ⟨rfl, rfl, rfl, by decide +kernel, rfl, by decide +kernel, by decide +kernel⟩
def f_is_turn : List FnI := []
def z_is_turn : ZS := (zSeq (zRet (zD2 fEq (zBlt fLenSet (zArgs zKeep [(zNm 0)])) (zBlt fLen (zArgs zKeep [(zNm 0)])))) zNext)
theorem b_is_turn : evB ⟨N_is_turn, f_is_turn, g_is_turn, k_is_turn⟩ 20 ⟨defScope (topS 4), fun _ => true⟩ (defBody (topS 4)) = z_is_turn := by kernel_rfl
/-! power_of(number, often): 0 number, 1 often, 2 found, 3 step -/
def g_power_of : List Str := ["range"]
def N_power_of : List Str := ["number", "often", "found", "step"]
def k_power_of : List (Str × D) := []
theorem sc_power_of : FnScope N_power_of ["number", "often"] (defScope (topS 6)) := ⟨rfl, rfl, rfl, by decide +kernel, rfl, by decide +kernel, by decide +kernel⟩
def f_power_of : List FnI := []
def z_power_of : ZS := (zSeq (zSet 2 (zC (.int 1))) (zSeq (zFor (zRg1 (zArgs zVal [(zNm 1)])) (zTn 3) (zSeq (zSet 2 (zD2 fMul (zNm 2) (zNm 0))) zNext)) (zSeq (zRet (zNm 2)) zNext)))
theorem b_power_of : evB ⟨N_power_of, f_power_of, g_power_of, k_power_of⟩ 20 ⟨defScope (topS 6), fun _ => true⟩ (defBody (topS 6)) = z_power_of := by kernel_rfl
/-! choices(n, k): 0 n, 1 k, 2 found, 3 step -/
def g_choices : List Str := ["range"]
def N_choices : List Str := ["n", "k", "found", "step"]
def k_choices : List (Str × D) := []
theorem sc_choices : FnScope N_choices ["n", "k"] (defScope (topS 7)) := ⟨rfl, rfl, rfl, by decide +kernel, rfl, by decide +kernel, by decide +kernel⟩
def f_choices : List FnI := []
def z_choices : ZS := (zSeq (zSet 2 (zC (.int 1))) (zSeq (zFor (zRg1 (zArgs zVal [(zNm 1)])) (zTn 3) (zSeq (zSet 2 (zD2 fDiv (zD2 fMul (zNm 2) (zD2 fSub (zNm 0) (zNm 3))) (zD2 fAdd (zNm 3) (zC (.int 1))))) zNext)) (zSeq (zRet (zNm 2)) zNext)))
theorem b_choices : evB ⟨N_choices, f_choices, g_choices, k_choices⟩ 20 ⟨defScope (topS 7), fun _ => true⟩ (defBody (topS 7)) = z_choices := by kernel_rfl
/-! turns_count(n): 0 n, 1 found, 2 own -/
def g_turns_count : List Str := ["range"]
def N_turns_count : List Str := ["n", "found", "own"]
def k_turns_count : List (Str × D) := []
theorem sc_turns_count : FnScope N_turns_count ["n"] (defScope (topS 8)) := ⟨rfl, rfl, rfl, by decide +kernel, rfl, by decide +kernel, by decide +kernel⟩
def f_turns_count : List FnI := []
def z_turns_count : ZS := (zSeq (zSet 1 (zC (.int 1))) (zSeq (zFor (zRg2 (zArgs zVal [(zC (.int 2)), (zD2 fAdd (zNm 0) (zC (.int 1)))])) (zTn 2) (zSeq (zSet 1 (zD2 fMul (zNm 1) (zNm 2))) zNext)) (zSeq (zRet (zNm 1)) zNext)))
theorem b_turns_count : evB ⟨N_turns_count, f_turns_count, g_turns_count, k_turns_count⟩ 20 ⟨defScope (topS 8), fun _ => true⟩ (defBody (topS 8)) = z_turns_count := by kernel_rfl
/-! parts_number(n, k): 0 n, 1 k, 2 row, 3 many, 4 longer, 5 lots -/
def g_parts_number : List Str := ["range"]
def N_parts_number : List Str := ["n", "k", "row", "many", "longer", "lots"]
def k_parts_number : List (Str × D) := []
theorem sc_parts_number : FnScope N_parts_number ["n", "k"] (defScope (topS 10)) := ⟨rfl, rfl, rfl, by decide +kernel, rfl, by decide +kernel, by decide +kernel⟩
def f_parts_number : List FnI := []
def z_parts_number : ZS := (zSeq (zSet 2 (zLst (zArgs zVal [(zC (.int 1))]))) (zSeq (zFor (zRg2 (zArgs zVal [(zC (.int 2)), (zD2 fAdd (zNm 0) (zC (.int 1)))])) (zTn 3) (zSeq (zSet 4 (zLst (zArgs zVal [(zC (.int 1))]))) (zSeq (zFor (zRg2 (zArgs zVal [(zC (.int 2)), (zNm 3)])) (zTn 5) (zSeq (zDrop (zMeth [mAppend] (zNm 4) [(zD2 fAdd (zD2 fIx (zNm 2) (zD2 fSub (zNm 5) (zC (.int 2)))) (zD2 fMul (zNm 5) (zD2 fIx (zNm 2) (zD2 fSub (zNm 5) (zC (.int 1))))))])) zNext)) (zSeq (zSet 2 (zD2 fAdd (zNm 4) (zLst (zArgs zVal [(zC (.int 1))])))) zNext)))) (zSeq (zRet (zD2 fIx (zNm 2) (zD2 fSub (zNm 1) (zC (.int 1))))) zNext)))
theorem b_parts_number : evB ⟨N_parts_number, f_parts_number, g_parts_number, k_parts_number⟩ 20 ⟨defScope (topS 10), fun _ => true⟩ (defBody (topS 10)) = z_parts_number := by kernel_rfl
/-! full_box(n, k): 0 n, 1 k -/
def g_full_box : List Str := []
def N_full_box : List Str := ["n", "k"]
def k_full_box : List (Str × D) := []
theorem sc_full_box : FnScope N_full_box ["n", "k"] (defScope (topS 11)) := ⟨rfl, rfl, rfl, by decide +kernel, rfl, by decide +kernel, by decide +kernel⟩
def f_full_box : List FnI := [⟨"parts_number", ["n", "k"], c_parts_number⟩, ⟨"choices", ["n", "k"], c_choices⟩, ⟨"turns_count", ["n"], c_turns_count⟩]
def z_full_box : ZS := (zSeq (zRet (zTup (zArgs zVal [(zCall c_parts_number [0, 1] (zArgs zPass [(zNm 0), (zNm 1)]) (zArgs zPass [])), (zCall c_choices [0, 1] (zArgs zPass [(zNm 0), (zNm 1)]) (zArgs zPass [])), (zCall c_turns_count [0] (zArgs zPass [(zNm 1)]) (zArgs zPass []))]))) zNext)
theorem b_full_box : evB ⟨N_full_box, f_full_box, g_full_box, k_full_box⟩ 20 ⟨defScope (topS 11), fun _ => true⟩ (defBody (topS 11)) = z_full_box := by kernel_rfl
/-! staying_number(n, k): 0 n, 1 k -/
def g_staying_number : List Str := []
def N_staying_number : List Str := ["n", "k"]
def k_staying_number : List (Str × D) := []
theorem sc_staying_number : FnScope N_staying_number ["n", "k"] (defScope (topS 12)) := ⟨rfl, rfl, rfl, by decide +kernel, rfl, by decide +kernel, by decide +kernel⟩
def f_staying_number : List FnI := [⟨"choices", ["n", "k"], c_choices⟩, ⟨"power_of", ["number", "often"], c_power_of⟩]
def z_staying_number : ZS := (zSeq (zRet (zD2 fMul (zCall c_choices [0, 1] (zArgs zPass [(zNm 0), (zNm 1)]) (zArgs zPass [])) (zCall c_power_of [0, 1] (zArgs zPass [(zNm 1), (zD2 fSub (zNm 0) (zNm 1))]) (zArgs zPass [])))) zNext)
theorem b_staying_number : evB ⟨N_staying_number, f_staying_number, g_staying_number, k_staying_number⟩ 20 ⟨defScope (topS 12), fun _ => true⟩ (defBody (topS 12)) = z_staying_number := by kernel_rfl
/-! three_makers(n): 0 n, 1 rest -/
def g_three_makers : List Str := ["tuple", "range"]
def N_three_makers : List Str := ["n", "rest"]
def k_three_makers : List (Str × D) := []
theorem sc_three_makers : FnScope N_three_makers ["n"] (defScope (topS 14)) := ⟨rfl, rfl, rfl, by decide +kernel, rfl, by decide +kernel, by decide +kernel⟩
def f_three_makers : List FnI := []
def z_three_makers : ZS := (zSeq (zIfS (zB (zD2 fEq (zNm 0) (zC (.int 1)))) (zSeq (zRet (zTup (zArgs zVal [(zTup (zArgs zVal [(zC (.int 0))])), (zTup (zArgs zVal [(zC (.int 0))])), (zTup (zArgs zVal [(zC (.int 0))]))]))) zNext) zNext) (zSeq (zSet 1 (zTupR (zR2 (zC (.int 2)) (zNm 0)))) (zSeq (zRet (zTup (zArgs zVal [(zD2 fAdd (zTupR (zR2 (zC (.int 1)) (zNm 0))) (zTup (zArgs zVal [(zC (.int 0))]))), (zD2 fAdd (zTup (zArgs zVal [(zC (.int 1)), (zC (.int 0))])) (zNm 1)), (zD2 fAdd (zTup (zArgs zVal [(zC (.int 0)), (zC (.int 0))])) (zNm 1))]))) zNext)))
theorem b_three_makers : evB ⟨N_three_makers, f_three_makers, g_three_makers, k_three_makers⟩ 20 ⟨defScope (topS 14), fun _ => true⟩ (defBody (topS 14)) = z_three_makers := by kernel_rfl
/-! turns_made(makers): 0 makers, 1 known, 2 waiting, 3 maker, 4 led, 5 further -/
def g_turns_made : List Str := ["len", "list"]
def N_turns_made : List Str := ["makers", "known", "waiting", "maker", "led", "further"]
def k_turns_made : List (Str × D) := []
theorem sc_turns_made : FnScope N_turns_made ["makers"] (defScope (topS 15)) := ⟨rfl, rfl, rfl, by decide +kernel, rfl, by decide +kernel, by decide +kernel⟩
def f_turns_made : List FnI := [⟨"put_behind", ["one", "other"], c_put_behind⟩]
def z_turns_made : ZS := (zSeq (zPar [1, 2] (zArgs zGood [(zDc (zIt (zNm 0)) [3] (zTn 3) zYes (zNm 3) (zC (.bool true))), (zBlt fListZ (zArgs zKeep [(zNm 0)]))])) (zSeq (zWhile (zB (zD2 fNe (zNm 2) (zLst (zArgs zVal [])))) (zSeq (zSet 4 (zMeth [mPop] (zNm 2) [])) (zSeq (zFor (zIt (zNm 0)) (zTn 3) (zSeq (zSet 5 (zCall c_put_behind [0, 1] (zArgs zPass [(zNm 4), (zNm 3)]) (zArgs zPass []))) (zSeq (zIfS (zB (zD2 (fInS true) (zNm 5) (zNm 1))) (zSeq (zSub (zC (.bool true)) (zNm 1) (zNm 5)) (zSeq (zDrop (zMeth [mAppend] (zNm 2) [(zNm 5)])) zNext)) zNext) zNext))) zNext))) (zSeq (zRet (zBlt fLen (zArgs zKeep [(zNm 1)]))) zNext)))
theorem b_turns_made : evB ⟨N_turns_made, f_turns_made, g_turns_made, k_turns_made⟩ 20 ⟨defScope (topS 15), fun _ => true⟩ (defBody (topS 15)) = z_turns_made := by kernel_rfl
/-! is_full(makers): 0 makers, 1 n, 2 maker -/
def g_is_full : List Str := ["len", "any"]
def N_is_full : List Str := ["makers", "n", "maker"]
def k_is_full : List (Str × D) := []
theorem sc_is_full : FnScope N_is_full ["makers"] (defScope (topS 16)) := ⟨rfl, rfl, rfl, by decide +kernel, rfl, by decide +kernel, by decide +kernel⟩
def f_is_full : List FnI := [⟨"turns_made", ["makers"], c_turns_made⟩, ⟨"turns_count", ["n"], c_turns_count⟩, ⟨"is_turn", ["led"], c_is_turn⟩, ⟨"image_of", ["led"], c_image_of⟩]
def z_is_full : ZS := (zSeq (zSet 1 (zBlt fLen (zArgs zKeep [(zD2 fIx (zNm 0) (zC (.int 0)))]))) (zSeq (zIfS (zB (zD2 fEq (zNm 1) (zC (.int 1)))) (zSeq (zRet (zC (.bool true))) zNext) zNext) (zSeq (zIfS (zNot (zTru (zBlt fAny (zArgs zKeep [(zLc (zIt (zNm 0)) [2] (zTn 2) zYes (zD2 fEq (zBlt fLen (zArgs zKeep [(zCall c_image_of [0] (zArgs zPass [(zNm 2)]) (zArgs zPass []))])) (zD2 fSub (zNm 1) (zC (.int 1)))))])))) (zSeq (zRet (zC (.bool false))) zNext) zNext) (zSeq (zRet (zD2 fEq (zCall c_turns_made [0] (zArgs zPass [(zLc (zIt (zNm 0)) [2] (zTn 2) (zTru (zCall c_is_turn [0] (zArgs zPass [(zNm 2)]) (zArgs zPass []))) (zNm 2))]) (zArgs zPass [])) (zCall c_turns_count [0] (zArgs zPass [(zNm 1)]) (zArgs zPass [])))) zNext))))
theorem b_is_full : evB ⟨N_is_full, f_is_full, g_is_full, k_is_full⟩ 20 ⟨defScope (topS 16), fun _ => true⟩ (defBody (topS 16)) = z_is_full := by kernel_rfl
/-! two_are_few(n): 0 n -/
def g_two_are_few : List Str := []
def N_two_are_few : List Str := ["n"]
def k_two_are_few : List (Str × D) := []
theorem sc_two_are_few : FnScope N_two_are_few ["n"] (defScope (topS 17)) := ⟨rfl, rfl, rfl, by decide +kernel, rfl, by decide +kernel, by decide +kernel⟩
def f_two_are_few : List FnI := []
def z_two_are_few : ZS := (zSeq (zRet (zD2 fGe (zNm 0) (zC (.int 3)))) zNext)
theorem b_two_are_few : evB ⟨N_two_are_few, f_two_are_few, g_two_are_few, k_two_are_few⟩ 20 ⟨defScope (topS 17), fun _ => true⟩ (defBody (topS 17)) = z_two_are_few := by kernel_rfl
/-! _law_pick(deck, row): 0 deck, 1 row -/
def g_law_pick : List Str := ["len"]
def N_law_pick : List Str := ["deck", "row"]
def k_law_pick : List (Str × D) := []
theorem sc_law_pick : FnScope N_law_pick ["deck", "row"] (defScope (topS 21)) := ⟨rfl, rfl, rfl, by decide +kernel, rfl, by decide +kernel, by decide +kernel⟩
def f_law_pick : List FnI := [⟨"_law_draw", ["deck", "many"], c_law_draw⟩]
def z_law_pick : ZS := (zSeq (zRet (zD2 fIx (zNm 1) (zCall c_law_draw [0, 1] (zArgs zPass [(zNm 0), (zBlt fLen (zArgs zKeep [(zNm 1)]))]) (zArgs zPass [])))) zNext)
theorem b_law_pick : evB ⟨N_law_pick, f_law_pick, g_law_pick, k_law_pick⟩ 20 ⟨defScope (topS 21), fun _ => true⟩ (defBody (topS 21)) = z_law_pick := by kernel_rfl
/-! _law_behind(one, other): 0 one, 1 other, 2 thing -/
def g_law_behind : List Str := ["tuple"]
def N_law_behind : List Str := ["one", "other", "thing"]
def k_law_behind : List (Str × D) := []
theorem sc_law_behind : FnScope N_law_behind ["one", "other"] (defScope (topS 22)) := ⟨rfl, rfl, rfl, by decide +kernel, rfl, by decide +kernel, by decide +kernel⟩
def f_law_behind : List FnI := []
def z_law_behind : ZS := (zSeq (zRet (zBlt fTuple (zArgs zKeep [(zLc (zIt (zNm 0)) [2] (zTn 2) zYes (zD2 fIx (zNm 1) (zNm 2)))]))) zNext)
theorem b_law_behind : evB ⟨N_law_behind, f_law_behind, g_law_behind, k_law_behind⟩ 20 ⟨defScope (topS 22), fun _ => true⟩ (defBody (topS 22)) = z_law_behind := by kernel_rfl
/-! _law_heap(makers, most): 0 makers, 1 most, 2 found, 3 todo, 4 own, 5 turn, 6 maker, 7 later -/
def g_law_heap : List Str := ["range", "dict", "list", "tuple", "len", "sorted"]
def N_law_heap : List Str := ["makers", "most", "found", "todo", "own", "turn", "maker", "later"]
def k_law_heap : List (Str × D) := []
theorem sc_law_heap : FnScope N_law_heap ["makers", "most"] (defScope (topS 23)) := ⟨rfl, rfl, rfl, by decide +kernel, rfl, by decide +kernel, by decide +kernel⟩
def f_law_heap : List FnI := [⟨"_law_behind", ["one", "other"], c_law_behind⟩]
def z_law_heap : ZS := (zSeq (zPar [2, 3] (zArgs zGood [(zBlt fDict1 (zArgs zKeep [(zLc (zIt (zNm 0)) [4] (zTn 4) zYes (zTup (zArgs zVal [(zNm 4), (zC (.bool true))])))])), (zBlt fListZ (zArgs zKeep [(zNm 0)]))])) (zSeq (zFor (zRg1 (zArgs zVal [(zD2 fAdd (zNm 1) (zC (.int 1)))])) (zTn 5) (zSeq (zIfS (zB (zD2 fNe (zNm 3) (zLst (zArgs zVal [])))) (zSeq (zSet 4 (zMeth [mPop] (zNm 3) [])) (zSeq (zFor (zIt (zNm 0)) (zTn 6) (zSeq (zSet 7 (zCall c_law_behind [0, 1] (zArgs zPass [(zNm 4), (zNm 6)]) (zArgs zPass []))) (zSeq (zIfS (zB (zD2 (fInS true) (zNm 7) (zNm 2))) (zSeq (zSub (zC (.bool true)) (zNm 2) (zNm 7)) (zSeq (zDrop (zMeth [mAppend] (zNm 3) [(zNm 7)])) zNext)) zNext) zNext))) zNext)) zNext) zNext)) (zSeq (zRet (zIf (zB (zD2 fLe (zBlt fLen (zArgs zKeep [(zNm 2)])) (zNm 1))) (zBlt fTuple (zArgs zKeep [(zBlt fSorted (zArgs zKeep [(zNm 2)]))])) (zC .none))) zNext)))
theorem b_law_heap : evB ⟨N_law_heap, f_law_heap, g_law_heap, k_law_heap⟩ 20 ⟨defScope (topS 23), fun _ => true⟩ (defBody (topS 23)) = z_law_heap := by kernel_rfl
/-! _law_drawn_map(deck, n): 0 deck, 1 n, 2 way, 3 left, 4 found, 5 few, 6 place, 7 thing -/
def g_law_drawn_map : List Str := ["tuple", "list", "range", "len"]
def N_law_drawn_map : List Str := ["deck", "n", "way", "left", "found", "few", "place", "thing"]
def k_law_drawn_map : List (Str × D) := []
theorem sc_law_drawn_map : FnScope N_law_drawn_map ["deck", "n"] (defScope (topS 24)) := ⟨rfl, rfl, rfl, by decide +kernel, rfl, by decide +kernel, by decide +kernel⟩
def f_law_drawn_map : List FnI := [⟨"_law_draw", ["deck", "many"], c_law_draw⟩, ⟨"_law_pick", ["deck", "row"], c_law_pick⟩]
def z_law_drawn_map : ZS := (zSeq (zSet 2 (zCall c_law_draw [0, 1] (zArgs zPass [(zNm 0), (zC (.int 4))]) (zArgs zPass []))) (zSeq (zIfS (zB (zD2 fEq (zNm 2) (zC (.int 0)))) (zSeq (zPar [3, 4] (zArgs zGood [(zLstR (zR1 (zNm 1))), (zLst (zArgs zVal []))])) (zSeq (zWhile (zB (zD2 fNe (zNm 3) (zLst (zArgs zVal [])))) (zSeq (zDrop (zMeth [mAppend] (zNm 4) [(zMeth [mPop] (zNm 3) [(zCall c_law_draw [0, 1] (zArgs zPass [(zNm 0), (zBlt fLen (zArgs zKeep [(zNm 3)]))]) (zArgs zPass []))])])) zNext)) (zSeq (zRet (zBlt fTuple (zArgs zKeep [(zNm 4)]))) zNext))) zNext) (zSeq (zSet 5 (zLc (zRg1 (zArgs zVal [(zD2 fAdd (zC (.int 1)) (zCall c_law_draw [0, 1] (zArgs zPass [(zNm 0), (zNm 1)]) (zArgs zPass [])))])) [6] (zTn 6) zYes (zCall c_law_draw [0, 1] (zArgs zPass [(zNm 0), (zNm 1)]) (zArgs zPass [])))) (zSeq (zRet (zBlt fTuple (zArgs zKeep [(zLc (zRg1 (zArgs zVal [(zNm 1)])) [7] (zTn 7) zYes (zIf (zB (zD2 fLt (zNm 2) (zC (.int 3)))) (zCall c_law_draw [0, 1] (zArgs zPass [(zNm 0), (zNm 1)]) (zArgs zPass [])) (zCall c_law_pick [0, 1] (zArgs zPass [(zNm 0), (zNm 5)]) (zArgs zPass []))))]))) zNext))))
theorem b_law_drawn_map : evB ⟨N_law_drawn_map, f_law_drawn_map, g_law_drawn_map, k_law_drawn_map⟩ 20 ⟨defScope (topS 24), fun _ => true⟩ (defBody (topS 24)) = z_law_drawn_map := by kernel_rfl
/-! _law_power(base, often): 0 base, 1 often, 2 found, 3 left, 4 here -/
def g_law_power : List Str := []
def N_law_power : List Str := ["base", "often", "found", "left", "here"]
def k_law_power : List (Str × D) := []
theorem sc_law_power : FnScope N_law_power ["base", "often"] (defScope (topS 25)) := ⟨rfl, rfl, rfl, by decide +kernel, rfl, by decide +kernel, by decide +kernel⟩
def f_law_power : List FnI := []
def z_law_power : ZS := (zSeq (zPar [2, 3, 4] (zArgs zGood [(zC (.int 1)), (zNm 1), (zNm 0)])) (zSeq (zWhile (zB (zD2 fGt (zNm 3) (zC (.int 0)))) (zSeq (zSet 2 (zIf (zB (zD2 fEq (zD2 fAnd (zNm 3) (zC (.int 1))) (zC (.int 1)))) (zD2 fMul (zNm 2) (zNm 4)) (zNm 2))) (zSeq (zPar [4, 3] (zArgs zGood [(zD2 fMul (zNm 4) (zNm 4)), (zD2 fDiv (zNm 3) (zC (.int 2)))])) zNext))) (zSeq (zRet (zNm 2)) zNext)))
theorem b_law_power : evB ⟨N_law_power, f_law_power, g_law_power, k_law_power⟩ 20 ⟨defScope (topS 25), fun _ => true⟩ (defBody (topS 25)) = z_law_power := by kernel_rfl
/-! _law_choose(n, k): 0 n, 1 k, 2 found, 3 i -/
def g_law_choose : List Str := ["range", "min"]
def N_law_choose : List Str := ["n", "k", "found", "i"]
def k_law_choose : List (Str × D) := []
theorem sc_law_choose : FnScope N_law_choose ["n", "k"] (defScope (topS 26)) := ⟨rfl, rfl, rfl, by decide +kernel, rfl, by decide +kernel, by decide +kernel⟩
def f_law_choose : List FnI := []
def z_law_choose : ZS := (zSeq (zSet 2 (zC (.int 1))) (zSeq (zFor (zRg1 (zArgs zVal [(zBlt fMin2 (zArgs zKeep [(zNm 1), (zD2 fSub (zNm 0) (zNm 1))]))])) (zTn 3) (zSeq (zSet 2 (zD2 fDiv (zD2 fMul (zNm 2) (zD2 fSub (zNm 0) (zNm 3))) (zD2 fAdd (zNm 3) (zC (.int 1))))) zNext)) (zSeq (zRet (zNm 2)) zNext)))
theorem b_law_choose : evB ⟨N_law_choose, f_law_choose, g_law_choose, k_law_choose⟩ 20 ⟨defScope (topS 26), fun _ => true⟩ (defBody (topS 26)) = z_law_choose := by kernel_rfl
/-! _law_factorial(n): 0 n, 1 found, 2 k -/
def g_law_factorial : List Str := ["range"]
def N_law_factorial : List Str := ["n", "found", "k"]
def k_law_factorial : List (Str × D) := []
theorem sc_law_factorial : FnScope N_law_factorial ["n"] (defScope (topS 27)) := ⟨rfl, rfl, rfl, by decide +kernel, rfl, by decide +kernel, by decide +kernel⟩
def f_law_factorial : List FnI := []
def z_law_factorial : ZS := (zSeq (zSet 1 (zC (.int 1))) (zSeq (zFor (zRg2 (zArgs zVal [(zC (.int 2)), (zD2 fAdd (zNm 0) (zC (.int 1)))])) (zTn 2) (zSeq (zSet 1 (zD2 fMul (zNm 1) (zNm 2))) zNext)) (zSeq (zRet (zNm 1)) zNext)))
theorem b_law_factorial : evB ⟨N_law_factorial, f_law_factorial, g_law_factorial, k_law_factorial⟩ 20 ⟨defScope (topS 27), fun _ => true⟩ (defBody (topS 27)) = z_law_factorial := by kernel_rfl
/-! _law_parts(n, k): 0 n, 1 k, 2 total, 3 sign, 4 many, 5 j -/
def g_law_parts : List Str := ["range"]
def N_law_parts : List Str := ["n", "k", "total", "sign", "many", "j"]
def k_law_parts : List (Str × D) := []
theorem sc_law_parts : FnScope N_law_parts ["n", "k"] (defScope (topS 28)) := ⟨rfl, rfl, rfl, by decide +kernel, rfl, by decide +kernel, by decide +kernel⟩
def f_law_parts : List FnI := [⟨"_law_factorial", ["n"], c_law_factorial⟩, ⟨"_law_power", ["base", "often"], c_law_power⟩]
def z_law_parts : ZS := (zSeq (zPar [2, 3, 4] (zArgs zGood [(zC (.int 0)), (zC (.int 1)), (zC (.int 1))])) (zSeq (zFor (zRg3 (zArgs zVal [(zNm 1), (zC (.int 0)), (zUn fNeg (zC (.int 1)))])) (zTn 5) (zSeq (zSet 2 (zD2 fAdd (zNm 2) (zD2 fMul (zD2 fMul (zNm 3) (zNm 4)) (zCall c_law_power [0, 1] (zArgs zPass [(zNm 5), (zNm 0)]) (zArgs zPass []))))) (zSeq (zPar [3, 4] (zArgs zGood [(zUn fNeg (zNm 3)), (zD2 fDiv (zD2 fMul (zNm 4) (zNm 5)) (zD2 fAdd (zD2 fSub (zNm 1) (zNm 5)) (zC (.int 1))))])) zNext))) (zSeq (zRet (zD2 fDiv (zNm 2) (zCall c_law_factorial [0] (zArgs zPass [(zNm 1)]) (zArgs zPass [])))) zNext)))
theorem b_law_parts : evB ⟨N_law_parts, f_law_parts, g_law_parts, k_law_parts⟩ 20 ⟨defScope (topS 28), fun _ => true⟩ (defBody (topS 28)) = z_law_parts := by kernel_rfl
/-! _law_is_full(makers): 0 makers, 1 n, 2 turns, 3 own, 4 group -/
def g_law_is_full : List Str := ["len", "any", "sorted", "set"]
def N_law_is_full : List Str := ["makers", "n", "turns", "own", "group"]
def k_law_is_full : List (Str × D) := []
theorem sc_law_is_full : FnScope N_law_is_full ["makers"] (defScope (topS 29)) := ⟨rfl, rfl, rfl, by decide +kernel, rfl, by decide +kernel, by decide +kernel⟩
def f_law_is_full : List FnI := [⟨"_law_heap", ["makers", "most"], c_law_heap⟩, ⟨"_law_factorial", ["n"], c_law_factorial⟩]
def z_law_is_full : ZS := (zSeq (zSet 1 (zBlt fLen (zArgs zKeep [(zD2 fIx (zNm 0) (zC (.int 0)))]))) (zSeq (zIfS (zB (zD2 fEq (zNm 1) (zC (.int 1)))) (zSeq (zRet (zC (.bool true))) zNext) zNext) (zSeq (zSet 2 (zLc (zIt (zNm 0)) [3] (zTn 3) (zB (zD2 fEq (zBlt fLen (zArgs zKeep [(zBlt fSortSet (zArgs zKeep [(zNm 3)]))])) (zNm 1))) (zNm 3))) (zSeq (zIfS (zOr (zNot (zTru (zBlt fAny (zArgs zKeep [(zLc (zIt (zNm 0)) [3] (zTn 3) zYes (zD2 fEq (zBlt fLen (zArgs zKeep [(zBlt fSortSet (zArgs zKeep [(zNm 3)]))])) (zD2 fSub (zNm 1) (zC (.int 1)))))])))) (zB (zD2 fEq (zNm 2) (zLst (zArgs zVal []))))) (zSeq (zRet (zC (.bool false))) zNext) zNext) (zSeq (zSet 4 (zCall c_law_heap [0, 1] (zArgs zPass [(zNm 2), (zC (.int 120))]) (zArgs zPass []))) (zSeq (zRet (zAndV (zD2 fIsNot (zNm 4) (zC .none)) (zD2 fEq (zBlt fLen (zArgs zKeep [(zNm 4)])) (zCall c_law_factorial [0] (zArgs zPass [(zNm 1)]) (zArgs zPass []))))) zNext))))))
theorem b_law_is_full : evB ⟨N_law_is_full, f_law_is_full, g_law_is_full, k_law_is_full⟩ 20 ⟨defScope (topS 29), fun _ => true⟩ (defBody (topS 29)) = z_law_is_full := by kernel_rfl
/-! law(script): 0 script, 1 deck, 2 turn, 3 n, 4 k, 5 parts, 6 lots, 7 dues, 8 told, 9 rest, 10 three, 11 thing, 12 makers, 13 way, 14 again, 15 kept, 16 due, 17 heap -/
def g_law : List Str := ["range", "tuple", "list", "repr", "len", "int"]
def N_law : List Str := ["script", "deck", "turn", "n", "k", "parts", "lots", "dues", "told", "rest", "three", "thing", "makers", "way", "again", "kept", "due", "heap"]
def k_law : List (Str × D) := []
theorem sc_law : FnScope N_law ["script"] (defScope (topS 30)) := ⟨rfl, rfl, rfl, by decide +kernel, rfl, by decide +kernel, by decide +kernel⟩
def f_law : List FnI := [⟨"three_makers", ["n"], c_three_makers⟩, ⟨"_law_draw", ["deck", "many"], c_law_draw⟩, ⟨"_law_parts", ["n", "k"], c_law_parts⟩, ⟨"_law_choose", ["n", "k"], c_law_choose⟩, ⟨"parts_number", ["n", "k"], c_parts_number⟩, ⟨"full_box", ["n", "k"], c_full_box⟩, ⟨"staying_number", ["n", "k"], c_staying_number⟩, ⟨"_law_is_full", ["makers"], c_law_is_full⟩, ⟨"_law_heap", ["makers", "most"], c_law_heap⟩, ⟨"_law_pick", ["deck", "row"], c_law_pick⟩, ⟨"_law_factorial", ["n"], c_law_factorial⟩, ⟨"_law_power", ["base", "often"], c_law_power⟩, ⟨"_law_drawn_map", ["deck", "n"], c_law_drawn_map⟩, ⟨"two_are_few", ["n"], c_two_are_few⟩, ⟨"is_full", ["makers"], c_is_full⟩]
def z_law : ZS := (zSeq (zFor (zRg1 (zArgs zVal [(zC (.int 2))])) (zTn 2) (zSeq (zSet 3 (zD2 fAdd (zC (.int 1)) (zCall c_law_draw [0, 1] (zArgs zPass [(zNm 1), (zCall c_law_pick [0, 1] (zArgs zPass [(zNm 1), (zLst (zArgs zVal [(zC (.int 7)), (zC (.int 30)), (zC (.int 200))]))]) (zArgs zPass []))]) (zArgs zPass [])))) (zSeq (zSet 4 (zD2 fAdd (zC (.int 1)) (zCall c_law_draw [0, 1] (zArgs zPass [(zNm 1), (zNm 3)]) (zArgs zPass [])))) (zSeq (zPar [5, 6] (zArgs zGood [(zCall c_law_parts [0, 1] (zArgs zPass [(zNm 3), (zNm 4)]) (zArgs zPass [])), (zCall c_law_choose [0, 1] (zArgs zPass [(zNm 3), (zNm 4)]) (zArgs zPass []))])) (zSeq (zSet 7 (zLst (zArgs zVal [(zNm 5), (zTup (zArgs zVal [(zNm 5), (zNm 6), (zCall c_law_factorial [0] (zArgs zPass [(zNm 4)]) (zArgs zPass []))])), (zD2 fMul (zNm 6) (zCall c_law_power [0, 1] (zArgs zPass [(zNm 4), (zD2 fSub (zNm 3) (zNm 4))]) (zArgs zPass [])))]))) (zSeq (zSet 8 (zLst (zArgs zVal [(zCall c_parts_number [0, 1] (zArgs zPass [(zNm 3), (zNm 4)]) (zArgs zPass [])), (zCall c_full_box [0, 1] (zArgs zPass [(zNm 3), (zNm 4)]) (zArgs zPass [])), (zCall c_staying_number [0, 1] (zArgs zPass [(zNm 3), (zNm 4)]) (zArgs zPass []))]))) (zSeq (zIfS (zB (zD2 fNe (zBlt fRepr (zArgs zKeep [(zLst (zArgs zVal [(zNm 8), (zLst (zArgs zVal [(zCall c_parts_number [1, 0] (zArgs zPass []) (zArgs zPass [(zNm 4), (zNm 3)])), (zCall c_full_box [1, 0] (zArgs zPass []) (zArgs zPass [(zNm 4), (zNm 3)])), (zCall c_staying_number [1, 0] (zArgs zPass []) (zArgs zPass [(zNm 4), (zNm 3)]))]))]))])) (zBlt fRepr (zArgs zKeep [(zLst (zArgs zVal [(zNm 7), (zNm 7)]))])))) (zSeq (zRet (zC (.bool false))) zNext) zNext) zNext))))))) (zSeq (zFor (zRg1 (zArgs zVal [(zC (.int 3))])) (zTn 2) (zSeq (zSet 3 (zD2 fAdd (zC (.int 1)) (zCall c_law_draw [0, 1] (zArgs zPass [(zNm 1), (zC (.int 7))]) (zArgs zPass [])))) (zSeq (zSet 9 (zTupR (zR2 (zC (.int 2)) (zNm 3)))) (zSeq (zSet 10 (zTup (zArgs zVal [(zBlt fTuple (zArgs zKeep [(zLc (zRg1 (zArgs zVal [(zNm 3)])) [11] (zTn 11) zYes (zD2 fMod (zBlt fInt1 (zArgs zKeep [(zD2 fAdd (zNm 11) (zC (.int 1)))])) (zNm 3)))])), (zD2 fAdd (zTup (zArgs zVal [(zC (.int 1)), (zC (.int 0))])) (zNm 9)), (zD2 fAdd (zTup (zArgs zVal [(zC (.int 0)), (zC (.int 0))])) (zNm 9))]))) (zSeq (zSet 10 (zIf (zB (zD2 fGt (zNm 3) (zC (.int 1)))) (zNm 10) (zD2 fMul (zTup (zArgs zVal [(zTup (zArgs zVal [(zC (.int 0))]))])) (zC (.int 3))))) (zSeq (zIfS (zB (zD2 fNe (zBlt fRepr (zArgs zKeep [(zLst (zArgs zVal [(zCall c_three_makers [0] (zArgs zPass [(zNm 3)]) (zArgs zPass [])), (zCall c_three_makers [0] (zArgs zPass []) (zArgs zPass [(zNm 3)]))]))])) (zBlt fRepr (zArgs zKeep [(zLst (zArgs zVal [(zNm 10), (zNm 10)]))])))) (zSeq (zRet (zC (.bool false))) zNext) zNext) (zSeq (zIfS (zB (zD2 fNe (zBlt fRepr (zArgs zKeep [(zLst (zArgs zVal [(zCall c_two_are_few [0] (zArgs zPass [(zNm 3)]) (zArgs zPass [])), (zCall c_two_are_few [0] (zArgs zPass []) (zArgs zPass [(zNm 3)]))]))])) (zBlt fRepr (zArgs zKeep [(zD2 fMul (zLst (zArgs zVal [(zD2 fGt (zNm 3) (zC (.int 2)))])) (zC (.int 2)))])))) (zSeq (zRet (zC (.bool false))) zNext) zNext) (zSeq (zSet 3 (zD2 fAdd (zC (.int 1)) (zCall c_law_draw [0, 1] (zArgs zPass [(zNm 1), (zIf (zB (zD2 fEq (zNm 2) (zC (.int 0)))) (zC (.int 5)) (zC (.int 4)))]) (zArgs zPass [])))) (zSeq (zSet 10 (zCall c_three_makers [0] (zArgs zPass [(zNm 3)]) (zArgs zPass []))) (zSeq (zSet 12 (zBlt fListZ (zArgs zKeep [(zNm 10)]))) (zSeq (zSet 13 (zCall c_law_draw [0, 1] (zArgs zPass [(zNm 1), (zC (.int 4))]) (zArgs zPass []))) (zSeq (zIfS (zB (zD2 fEq (zNm 13) (zC (.int 0)))) (zSeq (zDrop (zMeth [mPop] (zNm 12) [(zCall c_law_draw [0, 1] (zArgs zPass [(zNm 1), (zC (.int 3))]) (zArgs zPass []))])) zNext) zNext) (zSeq (zIfS (zB (zD2 fGt (zNm 13) (zC (.int 1)))) (zSeq (zSet 12 (zLc (zRg1 (zArgs zVal [(zD2 fAdd (zC (.int 1)) (zCall c_law_draw [0, 1] (zArgs zPass [(zNm 1), (zC (.int 4))]) (zArgs zPass [])))])) [14] (zTn 14) zYes (zCall c_law_drawn_map [0, 1] (zArgs zPass [(zNm 1), (zNm 3)]) (zArgs zPass [])))) (zSeq (zSet 12 (zIf (zB (zD2 fEq (zNm 13) (zC (.int 2)))) (zD2 fAdd (zNm 12) (zLst (zArgs zVal [(zCall c_law_pick [0, 1] (zArgs zPass [(zNm 1), (zNm 10)]) (zArgs zPass []))]))) (zNm 12))) zNext)) zNext) (zSeq (zSet 12 (zBlt fTuple (zArgs zKeep [(zNm 12)]))) (zSeq (zPar [15, 16] (zArgs zGood [(zBlt fRepr (zArgs zKeep [(zNm 12)])), (zCall c_law_is_full [0] (zArgs zPass [(zNm 12)]) (zArgs zPass []))])) (zSeq (zIfS (zOr (zB (zD2 fNe (zBlt fRepr (zArgs zKeep [(zLst (zArgs zVal [(zCall c_is_full [0] (zArgs zPass [(zNm 12)]) (zArgs zPass [])), (zCall c_is_full [0] (zArgs zPass []) (zArgs zPass [(zNm 12)]))]))])) (zBlt fRepr (zArgs zKeep [(zLst (zArgs zVal [(zNm 16), (zNm 16)]))])))) (zB (zD2 fNe (zBlt fRepr (zArgs zKeep [(zNm 12)])) (zNm 15)))) (zSeq (zRet (zC (.bool false))) zNext) zNext) (zSeq (zIfS (zB (zD2 fLt (zNm 3) (zC (.int 4)))) (zSeq (zSet 17 (zCall c_law_heap [0, 1] (zArgs zPass [(zNm 12), (zC (.int 27))]) (zArgs zPass []))) (zSeq (zIfS (zB (zD2 fNe (zNm 16) (zD2 fEq (zBlt fLen (zArgs zKeep [(zNm 17)])) (zCall c_law_power [0, 1] (zArgs zPass [(zNm 3), (zNm 3)]) (zArgs zPass []))))) (zSeq (zRet (zC (.bool false))) zNext) zNext) zNext)) zNext) zNext))))))))))))))))) (zSeq (zRet (zC (.bool true))) zNext)))
theorem b_law : evB ⟨N_law, f_law, g_law, k_law⟩ 20 ⟨defScope (topS 30), fun _ => true⟩ ((defBody (topS 30)).drop 1) = z_law := by kernel_rfl
end K27
end
section
set_option Elab.async false
set_option linter.all false
set_option maxRecDepth 100000
set_option maxHeartbeats 1000000
namespace K27
open PySem PySem.Spec L2 Z
theorem at_nat {ds : List D} {i : Nat} (h : i < ds.length) : atI ds (i : Int) = some ds[i] := by
  unfold atI
  rw [ixN_nat h]
  exact List.getElem?_eq_getElem h
theorem seqs_pick {ds : List D} {d : D} (h : Seqs ds d) : d = .list ds ∨ d = .tuple ds := by
  cases h
  · exact .inl rfl
  · exact .inr rfl
theorem p_law_pick : ∀ rs QQ, c_law_pick rs QQ (fun _ => False) → z_law_pick (outE QQ) (startD 2 rs) := by
  rintro _ QQ ⟨ds, d, rfl, hs, h0, hn, q⟩
  have hp : 0 < ds.length := List.length_pos_iff.mpr h0
  rcases seqs_pick hs with rfl | rfl
  · refine ⟨_, rfl, ?_, fun r hr0 hr1 => ?_⟩
    · show ((ds.length : Nat) : Int) < _
      omega
    · have hr : r.toNat < ds.length := by omega
      have e : r = (r.toNat : Int) := by omega
      rw [e]
      exact ⟨_, at_nat hr, q _ (List.getElem_mem hr)⟩
  · refine ⟨_, rfl, ?_, fun r hr0 hr1 => ?_⟩
    · show ((ds.length : Nat) : Int) < _
      omega
    · have hr : r.toNat < ds.length := by omega
      have e : r = (r.toNat : Int) := by omega
      rw [e]
      exact ⟨_, at_nat hr, q _ (List.getElem_mem hr)⟩
theorem p_put_behind : ∀ rs QQ, c_put_behind rs QQ (fun _ => False) → z_put_behind (outE QQ) (startD 3 rs) := by
  rintro _ QQ ⟨a, b, rfl, ha, hb, hr, q⟩
  refine ⟨rfl, ?_⟩
  refine lc_over a (fun (n : Nat) => .int n) (fun t => .int (b.getD t 0 : Nat)) (by unfold lineN; omega) (fun t acc K ht hacc h => ?_) ?_
  · exact ⟨ltT, rfl, _, nI_at (hr t ht), hacc, rfl, h⟩
  · have e : a.map (fun t => PyData.int (b.getD t 0 : Nat)) = nI (beh a b) := by
      unfold nI beh
      rw [List.map_map]
      rfl
    rw [e]
    exact q
theorem p_law_behind : ∀ rs QQ, c_law_behind rs QQ (fun _ => False) → z_law_behind (outE QQ) (startD 3 rs) := p_put_behind
theorem nI_ne {l : List Nat} (h : l ≠ []) : nI l ≠ [] := fun z => by cases l with
  | nil => exact h rfl
  | cons a l => cases z
theorem p_law_drawn_map : ∀ rs QQ, c_law_drawn_map rs QQ (fun _ => False) → z_law_drawn_map (outE QQ) (startD 8 rs) := by
  rintro _ QQ ⟨n, rfl, h0, hn, q⟩
  have hln : n ≤ lineN := by unfold lineN; omega
  refine ⟨_, rfl, by omega, fun way w0 w1 => ⟨ltT, rfl, ⟨rfl, rfl⟩, ite2 (fun c => ?_) fun c => ?_⟩⟩
  · refine ⟨⟨⟨by omega, by omega⟩, ⟨by omega, by omega⟩, by unfold lineN; omega⟩, leT, ltT, rfl, ltT, rfl, ?_⟩
    rw [rgDs_nI]
    refine while_ix (fun m δ => ∃ left found : List Nat, left.length = m ∧ found.length + m = n ∧ inR n left ∧ inR n found ∧ δ = [some .deck, some (.val (.int n)), some (.val (.int way)), some (.own (nL left)), some (.own (nL found)), none, none, none]) n ⟨List.range n, [], List.length_range, by simp, (inR_range n), (fun _ m => nomatch m), rfl⟩ (fun m δ K hI hK => ?_)
    obtain ⟨left, found, hl, hf, rl, rf, rfl⟩ := hI
    refine ⟨leT, ⟨shaped_nL _, shaped_nL []⟩, ?_⟩
    have e : (!PyData.eqv (nL left) (.list [])) = decide (left ≠ []) := by
      have := eqv_nL left []
      have e2 : PyData.eqv (nL left) (.list []) = decide (left = []) := this
      rw [e2]; by_cases h : left = [] <;> simp [h]
    rw [e]
    refine ite2 (fun c2 => ?_) fun c2 => ?_
    · have c2 : left ≠ [] := of_decide_eq_true c2
      have hp : 0 < left.length := List.length_pos_iff.mpr c2
      refine ⟨_, rfl, by rw [nI_len]; omega, fun r r0 r1 => ?_⟩
      rw [nI_len] at r1
      have hr : r < left.length := by omega
      have hk : r.toNat < left.length := by omega
      refine ⟨r.toNat, _, by rw [nI_len]; exact seqIx r0 hr, nI_get hk, ⟨by omega, by omega⟩, ?_, ?_⟩
      · rw [nI_len]; unfold lineN; omega
      · have hm : left.getD r.toNat 0 ∈ left := by
          rw [List.getD_eq_getElem?_getD, List.getElem?_eq_getElem hk]
          exact List.getElem_mem hk
        refine hK (m - 1) _ (by omega) ⟨left.eraseIdx r.toNat, found ++ [left.getD r.toNat 0], ?_, ?_, fun x hx => rl x (List.mem_of_mem_eraseIdx hx), fun x hx => ?_, ?_⟩
        · rw [List.length_eraseIdx_of_lt hk]; omega
        · rw [List.length_append, List.length_singleton]; omega
        · rcases List.mem_append.mp hx with hx | hx
          · exact rf x hx
          · rw [List.mem_singleton.mp hx]; exact rl _ hm
        · unfold nL
          rw [nI_append, ← nI_erase]
          rfl
    · have c2 : left = [] := Decidable.byContradiction fun z => c2 (decide_eq_true z)
      subst c2
      have : m = 0 := hl.symm
      exact q found (by omega) rf
  · refine ⟨_, rfl, by omega, fun k k0 k1 => ⟨⟨by omega, by omega⟩, rfl, ?_⟩⟩
    have hk : (1 + k).toNat ≤ n := by omega
    refine lc_ix (fun i acc δ => ∃ few : List Nat, few.length = i ∧ inR n few ∧ acc = nI few ∧ δ = [some .deck, some (.val (.int n)), some (.val (.int way)), none, none, none, none, none]) ⟨[], rfl, (fun _ m => nomatch m), rfl, rfl⟩ (fun i d acc δ K hd hI hK => ?_) (fun acc δ hI => ?_)
    · obtain ⟨few, hl, rf, rfl, rfl⟩ := hI
      have hi : i < (1 + k).toNat := by
        have := (List.getElem?_eq_some_iff.mp hd).1
        rwa [rg_len] at this
      refine ⟨ltT, rfl, _, rfl, by omega, fun r r0 r1 => ⟨by rw [nI_len]; unfold lineN; omega, rfl, hK _ _ ⟨few ++ [r.toNat], by simp [hl], fun x hx => ?_, ?_, rfl⟩⟩⟩
      · rcases List.mem_append.mp hx with hx | hx
        · exact rf x hx
        · rw [List.mem_singleton.mp hx]; omega
      · rw [nI_append]
        have : r = (r.toNat : Int) := by omega
        show nI few ++ [.int r] = nI few ++ [.int (r.toNat : Int)]
        rw [← this]
    · obtain ⟨few, hl, rf, rfl, rfl⟩ := hI
      rw [rg_len] at hl
      have hf0 : few ≠ [] := fun z => by subst z; simp at hl; omega
      refine ⟨ltT, rfl, ⟨by omega, by omega⟩, rfl, ?_⟩
      refine lc_ix (fun i acc δ => ∃ (led : List Nat) (b : Bool), led.length = i ∧ inR n led ∧ acc = nI led ∧ δ = [some .deck, some (.val (.int n)), some (.val (.int way)), none, none, some (if b then .own (nL few) else .val (nL few)), none, none]) ⟨[], true, rfl, (fun _ m => nomatch m), rfl, rfl⟩ (fun i d acc δ K hd hI hK => ?_) (fun acc δ hI => ?_)
      · obtain ⟨led, b, hl2, rl, rfl, rfl⟩ := hI
        have hi : i < n := by
          have := (List.getElem?_eq_some_iff.mp hd).1
          rwa [rg_len] at this
        have next : ∀ (b : Bool) (r : Nat), r < n → K (nI led ++ [.int (r : Int)]) [some .deck, some (.val (.int n)), some (.val (.int way)), none, none, some (if b then .own (nL few) else .val (nL few)), none, none] := fun b r hr => hK _ _ ⟨led ++ [r], b, by simp [hl2], fun x hx => by
          rcases List.mem_append.mp hx with hx | hx
          · exact rl x hx
          · rw [List.mem_singleton.mp hx]; exact hr, by rw [nI_append]; rfl, rfl⟩
        have hla : (nI led).length < lineN := by rw [nI_len]; unfold lineN; omega
        refine ⟨ltT, rfl, ite2 (fun c3 => ?_) fun c3 => ?_⟩
        · refine ⟨_, rfl, by omega, fun r r0 r1 => ?_⟩
          have e : r = (r.toNat : Int) := by omega
          have nx := next b r.toNat (by omega)
          rw [← e] at nx
          cases b with
          | true => exact ⟨hla, rfl, nx⟩
          | false => exact ⟨hla, rfl, nx⟩
        · cases b with
          | true => exact ⟨nI few, _, rfl, .l, nI_ne hf0, by rw [nI_len]; omega, fun d hd => by obtain ⟨x, hx, rfl⟩ := nI_mem hd; exact ⟨hla, rfl, next false x (rf x hx)⟩⟩
          | false => exact ⟨nI few, _, rfl, .l, nI_ne hf0, by rw [nI_len]; omega, fun d hd => by obtain ⟨x, hx, rfl⟩ := nI_mem hd; exact ⟨hla, rfl, next false x (rf x hx)⟩⟩
      · obtain ⟨led, b, hl2, rl, rfl, rfl⟩ := hI
        rw [rg_len] at hl2
        exact q led hl2 rl
theorem p_is_turn : ∀ rs QQ, c_is_turn rs QQ (fun _ => False) → z_is_turn (outE QQ) (startD 1 rs) := by
  rintro _ QQ ⟨n, led, rfl, hl, hr, q⟩
  refine ⟨zs led, nI_zs led, by rw [zs_len]; exact hl, fun out hp hm => ⟨⟨rfl, rfl⟩, ?_⟩⟩
  rw [out_len hr hp hm, nI_len, eqv_nat]
  exact q
theorem p_image_of : ∀ rs QQ, c_image_of rs QQ (fun _ => False) → z_image_of (outE QQ) (startD 1 rs) := by
  rintro _ QQ ⟨n, led, rfl, hl, hr, q⟩
  refine ⟨zs led, nI_zs led, by rw [zs_len]; exact hl, fun out hp hm => ?_⟩
  rw [set_sset hr hp hm]
  exact q
theorem log_lt {n k : Nat} (h : n < 2 ^ k) (hk : 0 < k) : (n : Int).natAbs.log2 < k := log2_lt (by rw [Int.natAbs_natCast]; exact h) hk
theorem mul_ok {a b : Nat} (ha : a < 2 ^ 100000) (hb : b < 2 ^ 100000) : MulOk (a : Int) (b : Int) := by
  refine .inr ?_
  have h1 := log_lt ha (by decide)
  have h2 := log_lt hb (by decide)
  show _ + _ < 1000000
  omega
theorem pow_lt {q k : Nat} (hq : q ≤ 1000) (hk : k ≤ 2000) : q ^ k < 2 ^ 100000 := by
  have h1 : q ^ k ≤ (2 ^ 10) ^ k := Nat.pow_le_pow_left (by omega) k
  rw [← Nat.pow_mul] at h1
  exact Nat.lt_of_le_of_lt h1 (Nat.pow_lt_pow_right (by decide) (by omega))
theorem p_power_of : ∀ rs QQ, c_power_of rs QQ (fun _ => False) → z_power_of (outE QQ) (startD 4 rs) := by
  rintro _ QQ ⟨q, k, rfl, hq, hk, fin⟩
  refine ⟨ltT, rfl, ⟨by omega, by omega⟩, ?_⟩
  rw [show (k : Int).toNat = k from rfl]
  refine loop_rg (n := k) (fun i δ => ∃ y3 : Option D, δ = [some (.val (.int (q : Nat))), some (.val (.int (k : Nat))), some (.val (.int (q ^ i : Nat))), oV y3]) ⟨none, rfl⟩ (fun i δ K hi hI hK => ?_) (fun δ hI => ?_)
  · obtain ⟨y3, rfl⟩ := hI
    refine ⟨ltT, oV_lck, mulR ⟨by omega, by omega⟩, ltT, rfl, hK _ ⟨some (.int (0 + (i : Int) * 1)), ?_⟩⟩
    rw [Nat.pow_succ, Int.natCast_mul]; rfl
  · obtain ⟨y3, rfl⟩ := hI
    exact fin
theorem p_choices : ∀ rs QQ, c_choices rs QQ (fun _ => False) → z_choices (outE QQ) (startD 4 rs) := by
  rintro _ QQ ⟨n, k, rfl, hk, hn, fin⟩
  refine ⟨ltT, rfl, ⟨by omega, by omega⟩, ?_⟩
  rw [show (k : Int).toNat = k from rfl]
  refine loop_rg (n := k) (fun i δ => ∃ y3 : Option D, δ = [some (.val (.int (n : Nat))), some (.val (.int (k : Nat))), some (.val (.int (ch n i : Nat))), oV y3]) ⟨none, by rw [ch_zero]; rfl⟩ (fun i δ K hi hI hK => ?_) (fun δ hI => ?_)
  · obtain ⟨y3, rfl⟩ := hI
    have ei : (0 : Int) + (i : Int) * 1 = (i : Int) := by omega
    rw [ei]
    have e : ((ch n i : Nat) : Int) * ((n : Int) - (i : Int)) / ((i : Int) + 1) = ((ch n (i + 1) : Nat) : Int) := by
      rw [show (n : Int) - (i : Int) = ((n - i : Nat) : Int) by omega, show (i : Int) + 1 = ((i + 1 : Nat) : Int) by omega, ← Int.natCast_mul, ← Int.natCast_ediv, ch_div (by omega)]
    refine ⟨ltT, oV_lck, mulR ⟨by omega, by omega⟩, divS ⟨by omega, by omega⟩, ltT, rfl, hK _ ⟨some (.int (i : Int)), ?_⟩⟩
    show [some (RV.val (PyData.int (n : Int))), some (RV.val (PyData.int (k : Int))), some (RV.val (PyData.int (((ch n i : Nat) : Int) * ((n : Int) - (i : Int)) / ((i : Int) + 1)))), some (RV.val (PyData.int (i : Int)))] = _
    rw [e]
    rfl
  · obtain ⟨y3, rfl⟩ := hI
    exact fin
theorem p_law_choose : ∀ rs QQ, c_law_choose rs QQ (fun _ => False) → z_law_choose (outE QQ) (startD 4 rs) := by
  rintro _ QQ ⟨n, k, rfl, hk, hn, fin⟩
  have em : (if (n : Int) - (k : Int) < (k : Int) then (n : Int) - (k : Int) else (k : Int)) = ((min k (n - k) : Nat) : Int) := by split <;> omega
  have ec : ch n (min k (n - k)) = ch n k := by
    rcases Nat.le_total k (n - k) with h | h
    · rw [Nat.min_eq_left h]
    · rw [Nat.min_eq_right h, ← ch_sym hk]
  refine ⟨ltT, rfl, by rw [em]; exact ⟨by omega, by omega⟩, ?_⟩
  rw [em, show ((min k (n - k) : Nat) : Int).toNat = min k (n - k) from rfl]
  refine loop_rg (n := min k (n - k)) (fun i δ => ∃ y3 : Option D, δ = [some (.val (.int (n : Nat))), some (.val (.int (k : Nat))), some (.val (.int (ch n i : Nat))), oV y3]) ⟨none, by rw [ch_zero]; rfl⟩ (fun i δ K hi hI hK => ?_) (fun δ hI => ?_)
  · obtain ⟨y3, rfl⟩ := hI
    have ei : (0 : Int) + (i : Int) * 1 = (i : Int) := by omega
    rw [ei]
    have e : ((ch n i : Nat) : Int) * ((n : Int) - (i : Int)) / ((i : Int) + 1) = ((ch n (i + 1) : Nat) : Int) := by
      rw [show (n : Int) - (i : Int) = ((n - i : Nat) : Int) by omega, show (i : Int) + 1 = ((i + 1 : Nat) : Int) by omega, ← Int.natCast_mul, ← Int.natCast_ediv, ch_div (by omega)]
    refine ⟨ltT, oV_lck, mulR ⟨by omega, by omega⟩, divS ⟨by omega, by omega⟩, ltT, rfl, hK _ ⟨some (.int (i : Int)), ?_⟩⟩
    show [some (RV.val (PyData.int (n : Int))), some (RV.val (PyData.int (k : Int))), some (RV.val (PyData.int (((ch n i : Nat) : Int) * ((n : Int) - (i : Int)) / ((i : Int) + 1)))), some (RV.val (PyData.int (i : Int)))] = _
    rw [e]
    rfl
  · obtain ⟨y3, rfl⟩ := hI
    rw [ec]
    exact fin
theorem p_turns_count : ∀ rs QQ, c_turns_count rs QQ (fun _ => False) → z_turns_count (outE QQ) (startD 3 rs) := by
  rintro _ QQ ⟨n, rfl, hn, fin⟩
  refine ⟨ltT, rfl, ⟨⟨by decide, by decide⟩, ⟨by omega, by omega⟩⟩, ?_⟩
  have e : ((n : Int) + 1 - 2).toNat = n - 1 := by omega
  rw [e]
  refine loop_rg (n := n - 1) (fun i δ => ∃ y2 : Option D, δ = [some (.val (.int (n : Nat))), some (.val (.int (fac (i + 1) : Nat))), oV y2]) ⟨none, rfl⟩ (fun i δ K hi hI hK => ?_) (fun δ hI => ?_)
  · obtain ⟨y2, rfl⟩ := hI
    have ei : (2 : Int) + (i : Int) * 1 = ((i + 2 : Nat) : Int) := by omega
    rw [ei]
    refine ⟨ltT, oV_lck, mulR ⟨by omega, by omega⟩, ltT, rfl, hK _ ⟨some (.int ((i + 2 : Nat) : Int)), ?_⟩⟩
    rw [← Int.natCast_mul]; rfl
  · obtain ⟨y2, rfl⟩ := hI
    cases n with
    | zero => exact fin
    | succ n => exact fin
theorem p_law_factorial : ∀ rs QQ, c_law_factorial rs QQ (fun _ => False) → z_law_factorial (outE QQ) (startD 3 rs) := p_turns_count
theorem p_full_box : ∀ rs QQ, c_full_box rs QQ (fun _ => False) → z_full_box (outE QQ) (startD 2 rs) := by
  rintro _ QQ ⟨n, k, rfl, h1, hk, hn, fin⟩
  exact ⟨n, k, rfl, h1, hk, hn, n, k, rfl, hk, by omega, k, rfl, by omega, leT, fin⟩
theorem ch_lt {n k : Nat} (hn : n ≤ 1000) : ch n k < 2 ^ 100000 := Nat.lt_of_le_of_lt (ch_le n k) (Nat.pow_lt_pow_right (by decide) (by omega))
theorem p_staying_number : ∀ rs QQ, c_staying_number rs QQ (fun _ => False) → z_staying_number (outE QQ) (startD 2 rs) := by
  rintro _ QQ ⟨n, k, rfl, hk, hn, fin⟩
  have e : (n : Int) - (k : Int) = ((n - k : Nat) : Int) := by omega
  refine ⟨n, k, rfl, hk, hn, k, n - k, by rw [← e]; rfl, by omega, by omega, mul_ok (ch_lt hn) (pow_lt (by omega) (by omega)), ?_⟩
  rw [← Int.natCast_mul]
  exact fin
theorem p_two_are_few : ∀ rs QQ, c_two_are_few rs QQ (fun _ => False) → z_two_are_few (outE QQ) (startD 1 rs) := by
  rintro _ QQ ⟨n, rfl, fin⟩
  have e : decide ((3 : Int) ≤ (n : Int)) = decide (3 ≤ n) := decide_eq_decide.mpr (by omega)
  rw [← e] at fin
  exact fin
theorem p_law_power : ∀ rs QQ, c_law_power rs QQ (fun _ => False) → z_law_power (outE QQ) (startD 5 rs) := by
  rintro _ QQ ⟨q, k, rfl, hq, hk, fin⟩
  refine ⟨ltT, rfl, ltT, rfl, ltT, rfl, ?_⟩
  refine while_ix (fun left δ => ∃ d e : Nat, d + e * left = k ∧ δ = [some (.val (.int (q : Nat))), some (.val (.int (k : Nat))), some (.val (.int (q ^ d : Nat))), some (.val (.int (left : Nat))), some (.val (.int (q ^ e : Nat)))]) k ⟨0, 1, by omega, by rw [Nat.pow_zero, Nat.pow_one]; rfl⟩ (fun left δ K hI hK => ?_)
  obtain ⟨d, e, h1, rfl⟩ := hI
  refine ite2 (fun c => ?_) fun c => ?_
  · have c := of_decide_eq_true c
    have hl : 0 < left := by omega
    have he : e ≤ e * left := Nat.le_mul_of_pos_right e hl
    have bd := pow_lt hq (k := d) (by omega)
    have be := pow_lt hq (k := e) (by omega)
    have hh : ((q ^ e : Nat) : Int) * ((q ^ e : Nat) : Int) = ((q ^ (e + e) : Nat) : Int) := by rw [← Int.natCast_mul, Nat.pow_add]
    have hd : (left : Int) / 2 = ((left / 2 : Nat) : Int) := by omega
    have an : Builtin.bitAnd (left : Int) 1 = ((left % 2 : Nat) : Int) := by
      show ((left &&& 1 : Nat) : Int) = _
      rw [Nat.and_one_is_mod]
    have ee : (e + e) * (left / 2) = e * (2 * (left / 2)) := by rw [← Nat.two_mul, Nat.mul_assoc, Nat.mul_left_comm]
    have ean : PyData.eqv (.int (Builtin.bitAnd (left : Int) 1)) (.int 1) = decide (left % 2 = 1) := by
      rw [an]; exact eqv_nat (b := 1)
    refine ⟨⟨rfl, rfl⟩, ite2 (c := PyData.eqv (.int (Builtin.bitAnd (left : Int) 1)) (.int 1) = true) (fun c2 => ?_) fun c2 => ?_⟩
    · rw [ean] at c2
      have c2 := of_decide_eq_true c2
      have hf : ((q ^ d : Nat) : Int) * ((q ^ e : Nat) : Int) = ((q ^ (d + e) : Nat) : Int) := by rw [← Int.natCast_mul, Nat.pow_add]
      refine ⟨mul_ok bd be, ltT, rfl, mul_ok be be, divS ⟨by decide, by decide⟩, ltT, rfl, ltT, rfl, hK (left / 2) _ (by omega) ⟨d + e, e + e, ?_, ?_⟩⟩
      · rw [ee]
        have : e * left = e * (2 * (left / 2)) + e := by
          have : left = 2 * (left / 2) + 1 := by omega
          conv => lhs; rw [this]
          rw [Nat.mul_add, Nat.mul_one]
        omega
      · show [_, _, some (RV.val (PyData.int (((q ^ d : Nat) : Int) * ((q ^ e : Nat) : Int)))), some (RV.val (PyData.int ((left : Int) / 2))), some (RV.val (PyData.int (((q ^ e : Nat) : Int) * ((q ^ e : Nat) : Int))))] = _
        rw [hf, hh, hd]
    · rw [ean] at c2
      have c2 : ¬ left % 2 = 1 := fun z => c2 (decide_eq_true z)
      refine ⟨ltT, rfl, mul_ok be be, divS ⟨by decide, by decide⟩, ltT, rfl, ltT, rfl, hK (left / 2) _ (by omega) ⟨d, e + e, ?_, ?_⟩⟩
      · rw [ee]
        have : left = 2 * (left / 2) := by omega
        rw [← this]; exact h1
      · show [_, _, some (RV.val (PyData.int ((q ^ d : Nat) : Int))), some (RV.val (PyData.int ((left : Int) / 2))), some (RV.val (PyData.int (((q ^ e : Nat) : Int) * ((q ^ e : Nat) : Int))))] = _
        rw [hh, hd]
  · have c : ¬ (0 : Int) < (left : Int) := fun z => c (decide_eq_true z)
    have hl : left = 0 := by omega
    subst hl
    rw [Nat.mul_zero, Nat.add_zero] at h1
    rw [← h1] at fin
    exact fin
end K27
end
section
set_option Elab.async false
set_option linter.all false
set_option maxRecDepth 100000
set_option maxHeartbeats 1000000
namespace K27
open PySem PySem.Spec L2 Z
def rowS (m : Nat) : List Nat := (List.range m).map fun c => sti m (c + 1)
theorem rowS_get {m i : Nat} (h : i < m) : (rowS m).getD i 0 = sti m (i + 1) := getD_map_range h
theorem rowS_len (m : Nat) : (rowS m).length = m := by unfold rowS; simp
theorem p_parts_number : ∀ rs QQ, c_parts_number rs QQ (fun _ => False) → z_parts_number (outE QQ) (startD 6 rs) := by
  rintro _ QQ ⟨n, k, rfl, h1, hk, hn, fin⟩
  refine ⟨leT, ltT, rfl, ⟨⟨by decide, by decide⟩, ⟨by omega, by omega⟩⟩, ?_⟩
  have e : ((n : Int) + 1 - 2).toNat = n - 1 := by omega
  rw [e]
  refine loop_rg (n := n - 1) (fun i δ => ∃ (y3 y5 : Option D) (y4 : Option RV), RV.isLck (some y4) = false ∧ δ = [some (.val (.int (n : Nat))), some (.val (.int (k : Nat))), some (.own (nL (rowS (i + 1)))), oV y3, y4, oV y5]) ⟨none, none, none, rfl, rfl⟩ (fun i δ K hi hI hK => ?_) (fun δ hI => ?_)
  · obtain ⟨y3, y5, y4, g4, rfl⟩ := hI
    have ei : (2 : Int) + (i : Int) * 1 = ((i + 2 : Nat) : Int) := by omega
    rw [ei]
    refine ⟨ltT, oV_lck, leT, ltT, g4, ⟨⟨by decide, by decide⟩, ⟨by omega, by omega⟩⟩, ?_⟩
    have e2 : (((i + 2 : Nat) : Int) - 2).toNat = i := by omega
    rw [e2]
    refine loop_rg (n := i) (fun l δ => ∃ y5 : Option D, δ = [some (.val (.int (n : Nat))), some (.val (.int (k : Nat))), some (.own (nL (rowS (i + 1)))), some (.val (.int ((i + 2 : Nat) : Int))), some (.own (nL ((List.range (l + 1)).map fun c => sti (i + 2) (c + 1)))), oV y5]) ⟨y5, by rw [List.range_one, List.map_singleton, sti_one]; rfl⟩ (fun l δ K2 hl hI hK2 => ?_) (fun δ hI => ?_)
    · obtain ⟨y5, rfl⟩ := hI
      have el : (2 : Int) + (l : Int) * 1 = ((l + 2 : Nat) : Int) := by omega
      rw [el]
      have ea : ((l + 2 : Nat) : Int) - 2 = (l : Int) := by omega
      have eb : ((l + 2 : Nat) : Int) - 1 = ((l + 1 : Nat) : Int) := by omega
      have g1 : atI (nI (rowS (i + 1))) (((l + 2 : Nat) : Int) - 2) = some (.int (sti (i + 1) (l + 1) : Nat)) := by
        rw [ea, nI_at (by rw [rowS_len]; omega), rowS_get (by omega)]
      have g2 : atI (nI (rowS (i + 1))) (((l + 2 : Nat) : Int) - 1) = some (.int (sti (i + 1) (l + 2) : Nat)) := by
        rw [eb, nI_at (by rw [rowS_len]; omega), rowS_get (by omega)]
      have es : ((sti (i + 1) (l + 1) : Nat) : Int) + ((l + 2 : Nat) : Int) * ((sti (i + 1) (l + 2) : Nat) : Int) = ((sti (i + 2) (l + 2) : Nat) : Int) := by
        rw [← Int.natCast_mul, ← Int.natCast_add]; rfl
      refine ⟨ltT, oV_lck, _, g1, _, g2, mulL ⟨by omega, by omega⟩, by rw [nI_len, List.length_map, List.length_range]; unfold lineN; omega, hK2 _ ⟨some (.int ((l + 2 : Nat) : Int)), ?_⟩⟩
      show [_, _, _, _, some (RV.own (PyData.list (nI ((List.range (l + 1)).map fun c => sti (i + 2) (c + 1)) ++ [.int (((sti (i + 1) (l + 1) : Nat) : Int) + ((l + 2 : Nat) : Int) * ((sti (i + 1) (l + 2) : Nat) : Int))]))), _] = _
      rw [es, List.range_succ (n := l + 1), List.map_append]
      show [_, _, _, _, some (RV.own (PyData.list _)), _] = [_, _, _, _, some (RV.own (PyData.list (nI (_ ++ _)))), _]
      rw [nI_append]
      rfl
    · obtain ⟨y5, rfl⟩ := hI
      refine ⟨leT, by rw [nI_len, List.length_map, List.length_range]; show i + 1 + 1 ≤ lineN; unfold lineN; omega, ltT, rfl, hK _ ⟨some (.int ((i + 2 : Nat) : Int)), y5, some (.own (nL ((List.range (i + 1)).map fun c => sti (i + 2) (c + 1)))), ?_, ?_⟩⟩
      · rfl
      · have er : nI (rowS (i + 1 + 1)) = nI ((List.range (i + 1)).map fun c => sti (i + 2) (c + 1)) ++ [.int 1] := by
          unfold rowS
          rw [List.range_succ (n := i + 1), List.map_append, nI_append]
          congr 1
          show nI [sti (i + 1 + 1) (i + 1 + 1)] = _
          rw [sti_self]; rfl
        show _ = [_, _, some (RV.own (PyData.list (nI (rowS (i + 1 + 1))))), _, _, _]
        rw [er]
        rfl
  · obtain ⟨y3, y5, y4, g4, rfl⟩ := hI
    have en : n - 1 + 1 = n := by omega
    rw [en]
    have g : atI (nI (rowS n)) ((k : Int) - 1) = some (.int (sti n k : Nat)) := by
      rw [show (k : Int) - 1 = ((k - 1 : Nat) : Int) by omega, nI_at (by rw [rowS_len]; omega), rowS_get (by omega), show k - 1 + 1 = k by omega]
    exact ⟨_, g, fin⟩
theorem fac_le : ∀ k, k ≤ 511 → fac k ≤ 2 ^ (9 * k)
  | 0, _ => Nat.le_refl _
  | k + 1, h => by
    have h1 := fac_le k (by omega)
    have h2 : k + 1 ≤ 2 ^ 9 := by omega
    have := Nat.mul_le_mul h1 h2
    rw [← Nat.pow_add] at this
    exact this
theorem fac_log {k : Nat} (h : k ≤ 300) : ((fac k : Nat) : Int).natAbs.log2 < 9000 := Nat.lt_of_lt_of_le (log_lt (k := 9 * k + 1) (Nat.lt_of_le_of_lt (fac_le k (by omega)) (Nat.pow_lt_pow_right (by decide) (Nat.lt_succ_self _))) (Nat.succ_pos _)) (by omega)
theorem sg_int (i : Nat) : -18446744073709551616 < sg i ∧ sg i < 18446744073709551616 := by
  rcases sg_abs i with h | h <;> rw [h] <;> exact ⟨by decide, by decide⟩
theorem p_law_parts : ∀ rs QQ, c_law_parts rs QQ (fun _ => False) → z_law_parts (outE QQ) (startD 6 rs) := by
  rintro _ QQ ⟨n, k, rfl, h1, hk, hn, fin⟩
  refine ⟨ltT, rfl, ltT, rfl, ltT, rfl, ⟨rfl, ⟨by omega, by omega⟩, ⟨by decide, by decide⟩⟩, ?_⟩
  rw [show ((k : Int) - 0).toNat = k by omega]
  refine loop_rg (n := k) (fun i δ => ∃ (tot : Int) (y5 : Option D), tot + sumT (tm n k) (k - i + 1) = sur n k ∧ δ = [some (.val (.int (n : Nat))), some (.val (.int (k : Nat))), some (.val (.int tot)), some (.val (.int (sg i))), some (.val (.int (ch k (k - i) : Nat))), oV y5]) ⟨0, none, by rw [Nat.sub_zero, Int.zero_add]; rfl, by rw [Nat.sub_zero, ch_self]; rfl⟩ (fun i δ K hi hI hK => ?_) (fun δ hI => ?_)
  · obtain ⟨tot, y5, ht, rfl⟩ := hI
    have ej : (k : Int) + (i : Int) * -1 = ((k - i : Nat) : Int) := by omega
    rw [ej]
    have eterm : sg i * ((ch k (k - i) : Nat) : Int) * (((k - i) ^ n : Nat) : Int) = tm n k (k - i) := by
      unfold tm
      have : sg (k + (k - i)) = sg i := by
        have h := sg_dbl (k - i) i
        rw [show k - i + (k - i) + i = k + (k - i) by omega] at h
        exact h
      rw [this]
    have ediv : ((ch k (k - i) : Nat) : Int) * ((k - i : Nat) : Int) / ((k : Int) - ((k - i : Nat) : Int) + 1) = ((ch k (k - (i + 1)) : Nat) : Int) := by
      have h := ch_div_down (n := k) (k := k - (i + 1)) (by omega)
      rw [show k - (i + 1) + 1 = k - i by omega] at h
      rw [show (k : Int) - ((k - i : Nat) : Int) + 1 = ((k - (k - (i + 1)) : Nat) : Int) by omega, ← Int.natCast_mul, ← Int.natCast_ediv, h]
    have hsum : sumT (tm n k) (k - i + 1) = sumT (tm n k) (k - (i + 1) + 1) + tm n k (k - i) := by
      rw [show k - (i + 1) + 1 = k - i by omega]; rfl
    have cl := ch_lt (n := k) (k := k - i) (by omega)
    have pl := pow_lt (q := k - i) (k := n) (by omega) (by omega)
    refine ⟨ltT, oV_lck, mulL (sg_int i), k - i, n, rfl, by omega, by omega, ?_, ltT, rfl, mulR ⟨by omega, by omega⟩, divS ⟨by omega, by omega⟩, ltT, rfl, ltT, rfl, hK _ ⟨tot + tm n k (k - i), some (.int ((k - i : Nat) : Int)), ?_, ?_⟩⟩
    · refine .inr ?_
      have h1 := log_lt cl (by decide)
      have h2 := log_lt pl (by decide)
      have h3 : (sg i * ((ch k (k - i) : Nat) : Int)).natAbs = ((ch k (k - i) : Nat) : Int).natAbs := by
        rw [Int.natAbs_mul]
        rcases sg_abs i with h | h <;> rw [h] <;> simp
      show (sg i * ((ch k (k - i) : Nat) : Int)).natAbs.log2 + (((k - i) ^ n : Nat) : Int).natAbs.log2 < 1000000
      rw [h3]
      omega
    · rw [hsum] at ht
      omega
    · show [_, _, some (RV.val (PyData.int (tot + sg i * ((ch k (k - i) : Nat) : Int) * (((k - i) ^ n : Nat) : Int)))), some (RV.val (PyData.int (- sg i))), some (RV.val (PyData.int (((ch k (k - i) : Nat) : Int) * ((k - i : Nat) : Int) / ((k : Int) - ((k - i : Nat) : Int) + 1)))), _] = _
      rw [eterm, ediv]
      rfl
  · obtain ⟨tot, y5, ht, rfl⟩ := hI
    rw [Nat.sub_self] at ht
    have t0 : sumT (tm n k) (0 + 1) = 0 := by
      show (0 : Int) + tm n k 0 = 0
      unfold tm
      rw [Nat.zero_pow (by omega)]
      simp
    rw [t0, Int.add_zero, sur_sti] at ht
    subst ht
    have ef : ((fac k * sti n k : Nat) : Int) / ((fac k : Nat) : Int) = ((sti n k : Nat) : Int) := by
      rw [← Int.natCast_ediv, Nat.mul_div_cancel_left _ (fac_pos k)]
    refine ⟨k, rfl, by omega, ⟨by have := fac_pos k; omega, fac_log (by omega)⟩, ?_⟩
    show QQ (.val (.int (((fac k * sti n k : Nat) : Int) / ((fac k : Nat) : Int))))
    rw [ef]
    exact fin
theorem drop_rg {a n : Nat} (h : a ≤ n) : rgDs (a : Int) (n : Int) = nI ((List.range n).drop a) := by
  unfold rgDs nI
  refine List.ext_getElem (by simp) fun i h1 h2 => ?_
  simp
theorem p_three_makers : ∀ rs QQ, c_three_makers rs QQ (fun _ => False) → z_three_makers (outE QQ) (startD 2 rs) := by
  rintro _ QQ ⟨n, rfl, h1, hn, fin⟩
  refine ⟨⟨rfl, rfl⟩, ite2 (fun c => ?_) fun c => ?_⟩
  · have c : n = 1 := by
      have c : PyData.eqv (.int (n : Int)) (.int ((1 : Nat) : Int)) = true := c
      rw [eqv_nat] at c
      exact of_decide_eq_true c
    subst c
    exact ⟨leT, leT, leT, leT, fin⟩
  · have c : ¬ n = 1 := fun z => c (by
      show PyData.eqv (.int (n : Int)) (.int ((1 : Nat) : Int)) = true
      rw [eqv_nat]; exact decide_eq_true z)
    have e2 : rgDs 2 (n : Int) = nI ((List.range n).drop 2) := drop_rg (a := 2) (by omega)
    have e1 : rgDs 1 (n : Int) = nI ((List.range n).drop 1) := drop_rg (a := 1) (by omega)
    have l2 : (rgDs 2 (n : Int)).length ≤ n := by rw [e2, nI_len, List.length_drop, List.length_range]; omega
    have l1 : (rgDs 1 (n : Int)).length ≤ n := by rw [e1, nI_len, List.length_drop, List.length_range]; omega
    have et : nI ((List.range n).drop 1) ++ [.int 0] = nI ((List.range n).map fun t => (t + 1) % n) := by
      have : (List.range n).drop 1 ++ [0] = (List.range n).map fun t => (t + 1) % n := by
        refine List.ext_getElem (by simp; omega) fun i g1 g2 => ?_
        have hi : i < n := by simpa using g2
        by_cases c2 : i + 1 < n
        · rw [List.getElem_append_left (by rw [List.length_drop, List.length_range]; omega)]
          simp only [List.getElem_drop, List.getElem_range, List.getElem_map]
          rw [Nat.mod_eq_of_lt c2]; omega
        · rw [List.getElem_append_right (by rw [List.length_drop, List.length_range]; omega)]
          simp only [List.getElem_map, List.getElem_range]
          have : i + 1 = n := by omega
          rw [this, Nat.mod_self]
          simp
      rw [← this, nI_append]; rfl
    have e0 : threeM n = [(List.range n).map fun t => (t + 1) % n, 1 :: 0 :: (List.range n).drop 2, 0 :: 0 :: (List.range n).drop 2] := if_neg c
    rw [e0] at fin
    refine ⟨⟨⟨by decide, by decide⟩, ⟨by omega, by omega⟩, by unfold lineN; omega⟩, ltT, rfl, ⟨⟨by decide, by decide⟩, ⟨by omega, by omega⟩, by unfold lineN; omega⟩, leT, by show _ + 1 ≤ lineN; unfold lineN; omega, leT, by show 2 + _ ≤ lineN; unfold lineN; omega, leT, by show 2 + _ ≤ lineN; unfold lineN; omega, leT, ?_⟩
    show QQ (.val (.tuple [.tuple (rgDs 1 (n : Int) ++ [.int 0]), .tuple ([.int 1, .int 0] ++ rgDs 2 (n : Int)), .tuple ([.int 0, .int 0] ++ rgDs 2 (n : Int))]))
    rw [e1, et, e2]
    exact fin
end K27
end
section
set_option Elab.async false
set_option linter.all false
set_option maxRecDepth 100000
set_option maxHeartbeats 1000000
namespace K27
open PySem PySem.Spec L2 Z
theorem okR_maps {n : Nat} {T : List (List Nat)} (h : ∀ f ∈ T, f.length = n ∧ inR n f) (hn : n ≤ 5) : ∀ d ∈ T.map nT, OkR 1 128 d := fun d m => by
  obtain ⟨f, hf, rfl⟩ := List.mem_map.mp m
  obtain ⟨h1, h2⟩ := h f hf
  exact (okR_nT fun x hx => by have := h2 x hx; omega).le (Nat.le_refl _) (by omega)
theorem shaped_maps {n : Nat} {T : List (List Nat)} (h : ∀ f ∈ T, f.length = n ∧ inR n f) (hn : n ≤ 5) : SeqAt.shaped (.list (T.map nT)) = true := (okR_list (okR_maps h hn)).shaped (by decide)
theorem eqv_maps_nil (T : List (List Nat)) : (!PyData.eqv (.list (T.map nT)) (.list [])) = !T.isEmpty := by
  cases T <;> rfl
theorem p_law_heap_list {n most : Nat} {ms : List (List Nat)} {QQ : RV → Prop} (n1 : 1 ≤ n) (n4 : n ≤ 5) (h0 : ms ≠ []) (hl : ms.length ≤ 5) (hm : MapsN n ms) (m12 : most ≤ 120) (q : ∀ F, EndH ms most F → F.length ≤ most → ∀ hs : List (List Nat), hs.Perm F → QQ (.val (.tuple (hs.map nT)))) (qn : ∀ F, EndH ms most F → most < F.length → QQ (.val .none)) : z_law_heap (outE QQ) (startD 8 [.val (.list (ms.map nT)), .val (.int (most : Nat))]) := by
  refine ⟨rfl, ?_⟩
  refine lc_over ms nT (fun f => .tuple [nT f, .bool true]) (by unfold lineN; omega) (fun f acc K hf hacc h => ?_) ?_
  · exact ⟨ltT, rfl, leT, hacc, rfl, h⟩
  · refine ⟨ms.map fun f => (nT f, .bool true), by rw [List.map_map]; rfl, fun p hp => by obtain ⟨f, _, rfl⟩ := List.mem_map.mp hp; exact keyT_nT f, ?_⟩
    obtain ⟨F0, e0, nd0, mem0, len0⟩ := putAll_kT (ms := ms) (F := []) List.nodup_nil
    have e0 : putAll [] (ms.map fun f => (nT f, PyData.bool true)) = kT F0 := e0
    rw [e0]
    have mem0 : ∀ m, m ∈ F0 ↔ m ∈ ms := fun m => by rw [mem0]; simp
    have len0 : F0.length ≤ ms.length := by simpa using len0
    refine ⟨ltT, rfl, ltT, rfl, ⟨by omega, by omega⟩, ?_⟩
    rw [show ((most : Int) + 1).toNat = most + 1 by omega]
    refine loop_rg (n := most + 1) (fun j δ => ∃ (F T : List (List Nat)) (y4 y5 y6 y7 : Option D), δ = [some (.val (.list (ms.map nT))), some (.val (.int most)), some (.own (.dict (kT F))), some (.own (.list (T.map nT))), oV y4, oV y5, oV y6, oV y7] ∧ HJ ms F0.length j F T) ⟨F0, ms, none, none, none, none, rfl, HJ.start nd0 mem0 hl len0⟩ (fun j δ K hj hI hK => ?_) (fun δ hI => ?_)
    · obtain ⟨F, T, y4, y5, y6, y7, rfl, hi⟩ := hI
      have okT : ∀ f ∈ F, f.length = n ∧ inR n f := fun f hf => gen_ok hm (hi.gen f hf)
      refine ⟨ltT, oV_lck, leT, ⟨shaped_maps (fun f hf => okT f (hi.tf f hf)) n4, rfl⟩, ?_⟩
      rw [eqv_maps_nil]
      refine ite2 (fun c => ?_) fun c => ?_
      · have c : T ≠ [] := fun z => by subst z; cases c
        obtain ⟨T0, own, rfl⟩ : ∃ T0 own, T = T0 ++ [own] := ⟨T.dropLast, T.getLast c, (List.dropLast_concat_getLast c).symm⟩
        have ow := okT own (hi.tf own (List.mem_append_right _ (List.mem_singleton_self _)))
        refine ⟨nT own, by simp, ltT, oV_lck, ?_⟩
        have edl : (List.map nT (T0 ++ [own])).dropLast = T0.map nT := by simp
        rw [edl]
        refine loop_over ms nT (fun i δ => ∃ (N : List (List Nat)) (y6 y7 : Option D), δ = [some (.val (.list (ms.map nT))), some (.val (.int most)), some (.own (.dict (kT (F ++ N)))), some (.own (.list ((T0 ++ N).map nT))), some (.val (nT own)), some (.val (.int (0 + (j : Int) * 1))), oV y6, oV y7] ∧
          (F ++ N).Nodup ∧ (∀ f ∈ N, ∃ m ∈ ms, f = beh own m) ∧ (∀ m ∈ ms.take i, beh own m ∈ F ++ N) ∧ N.length ≤ i) ⟨[], y6, y7, by simp, by simpa using hi.nd, (fun _ h => nomatch h), (fun _ h => nomatch h), Nat.zero_le _⟩ (fun i m δ K' him hI hK' => ?_) (fun δ hI => ?_)
        · obtain ⟨N, y6, y7, rfl, nd, gN, cl, nl⟩ := hI
          have hmm : m ∈ ms := List.mem_of_getElem? him
          have mo := hm m hmm
          have hti : ms.take (i + 1) = ms.take i ++ [m] := by
            obtain ⟨h1, h2⟩ := List.getElem?_eq_some_iff.mp him
            rw [List.take_add_one, him]; rfl
          have hil : i < 5 := by
            have := (List.getElem?_eq_some_iff.mp him).1
            omega
          have fl := hi.fl
          have tl := hi.tl
          rw [List.length_append, List.length_singleton] at tl
          refine ⟨ltT, oV_lck, own, m, rfl, by omega, by omega, by rw [mo.1]; exact ow.2, ltT, oV_lck, kD_key, ?_⟩
          rw [kT_look]
          refine ite2 (fun c => ?_) fun c => ?_
          · have c : beh own m ∉ F ++ N := fun z => by rw [decide_eq_true z] at c; cases c
            have ndN : (F ++ (N ++ [beh own m])).Nodup := by
              rw [← List.append_assoc, List.nodup_append]
              exact ⟨nd, by simp, fun a ha b hb => by rw [List.mem_singleton.mp hb]; exact fun z => c (z ▸ ha)⟩
            refine ⟨kD_key, by show (kD _ _).length < _; rw [kD_len, List.length_append]; unfold lineN; omega, ?_⟩
            rw [kT_put c]
            refine ⟨by rw [List.length_map, List.length_append]; unfold lineN; omega, ?_⟩
            refine hK' _ ⟨N ++ [beh own m], some (nT m), some (nT (beh own m)), ?_, ndN, fun f hf => ?_, fun x hx => ?_, by rw [List.length_append, List.length_singleton]; omega⟩
            · show _ = [_, _, some (RV.own (.dict (kT (F ++ (N ++ [beh own m]))))), some (RV.own (.list ((T0 ++ (N ++ [beh own m])).map nT))), _, _, oV (some (nT m)), oV (some (nT (beh own m)))]
              rw [← List.append_assoc, ← List.append_assoc, List.map_append (l₁ := T0 ++ N)]
              rfl
            · rcases List.mem_append.mp hf with hf | hf
              · exact gN f hf
              · rw [List.mem_singleton.mp hf]; exact ⟨m, hmm, rfl⟩
            · rw [hti] at hx
              rw [← List.append_assoc]
              rcases List.mem_append.mp hx with hx | hx
              · exact List.mem_append_left _ (cl x hx)
              · rw [List.mem_singleton.mp hx]; exact List.mem_append_right _ (List.mem_singleton_self _)
          · have c : beh own m ∈ F ++ N := Decidable.byContradiction fun z => c (by rw [decide_eq_false z]; rfl)
            refine hK' _ ⟨N, some (nT m), some (nT (beh own m)), rfl, nd, gN, fun x hx => ?_, by omega⟩
            rw [hti] at hx
            rcases List.mem_append.mp hx with hx | hx
            · exact cl x hx
            · rw [List.mem_singleton.mp hx]; exact c
        · obtain ⟨N, y6, y7, rfl, nd, gN, cl, nl⟩ := hI
          rw [List.take_length] at cl
          exact hK _ ⟨F ++ N, T0 ++ N, some (nT own), some (.int (0 + (j : Int) * 1)), y6, y7, rfl, hi.step hl nd gN cl nl⟩
      · have c : T = [] := by
          cases T with
          | nil => rfl
          | cons a l => exact absurd rfl c
        subst c
        exact hK _ ⟨F, [], y4, some (.int (0 + (j : Int) * 1)), y6, y7, rfl, hi.skip⟩
    · obtain ⟨F, T, y4, y5, y6, y7, rfl, hi⟩ := hI
      have lenF : (kT F).length = F.length := kD_len
      refine ite2 (c := decide ((((kT F).length : Nat) : Int) ≤ (most : Int)) = true) (fun c => ?_) fun c => ?_
      · have c := of_decide_eq_true c
        have hF : F.length ≤ most := by rw [lenF] at c; omega
        have fl := hi.fl
        refine ⟨by rw [lenF]; unfold lineN; omega, n, (n : Int), n1, fun p hp' => ?_, fun out p _ => ?_⟩
        · obtain ⟨f, hf, rfl⟩ := List.mem_map.mp hp'
          exact ints_nT (gen_ok hm (hi.gen f hf))
        · have e : (kT F).map (·.1) = F.map nT := by unfold kT kD; rw [List.map_map]; rfl
          rw [e] at p
          obtain ⟨hs, rfl, ph⟩ := perm_nT p
          exact q F ⟨T, F0, hi, nd0, mem0⟩ hF hs ph
      · have c : ¬ (((kT F).length : Nat) : Int) ≤ (most : Int) := fun z => c (decide_eq_true z)
        rw [lenF] at c
        exact qn F ⟨T, F0, hi, nd0, mem0⟩ (by omega)
theorem p_law_heap_tuple {n most : Nat} {ms : List (List Nat)} {QQ : RV → Prop} (n1 : 1 ≤ n) (n4 : n ≤ 5) (h0 : ms ≠ []) (hl : ms.length ≤ 5) (hm : MapsN n ms) (m12 : most ≤ 120) (q : ∀ F, EndH ms most F → F.length ≤ most → ∀ hs : List (List Nat), hs.Perm F → QQ (.val (.tuple (hs.map nT)))) (qn : ∀ F, EndH ms most F → most < F.length → QQ (.val .none)) : z_law_heap (outE QQ) (startD 8 [.val (.tuple (ms.map nT)), .val (.int (most : Nat))]) := by
  refine ⟨rfl, ?_⟩
  refine lc_over ms nT (fun f => .tuple [nT f, .bool true]) (by unfold lineN; omega) (fun f acc K hf hacc h => ?_) ?_
  · exact ⟨ltT, rfl, leT, hacc, rfl, h⟩
  · refine ⟨ms.map fun f => (nT f, .bool true), by rw [List.map_map]; rfl, fun p hp => by obtain ⟨f, _, rfl⟩ := List.mem_map.mp hp; exact keyT_nT f, ?_⟩
    obtain ⟨F0, e0, nd0, mem0, len0⟩ := putAll_kT (ms := ms) (F := []) List.nodup_nil
    have e0 : putAll [] (ms.map fun f => (nT f, PyData.bool true)) = kT F0 := e0
    rw [e0]
    have mem0 : ∀ m, m ∈ F0 ↔ m ∈ ms := fun m => by rw [mem0]; simp
    have len0 : F0.length ≤ ms.length := by simpa using len0
    refine ⟨ltT, rfl, ltT, rfl, ⟨by omega, by omega⟩, ?_⟩
    rw [show ((most : Int) + 1).toNat = most + 1 by omega]
    refine loop_rg (n := most + 1) (fun j δ => ∃ (F T : List (List Nat)) (y4 y5 y6 y7 : Option D), δ = [some (.val (.tuple (ms.map nT))), some (.val (.int most)), some (.own (.dict (kT F))), some (.own (.list (T.map nT))), oV y4, oV y5, oV y6, oV y7] ∧ HJ ms F0.length j F T) ⟨F0, ms, none, none, none, none, rfl, HJ.start nd0 mem0 hl len0⟩ (fun j δ K hj hI hK => ?_) (fun δ hI => ?_)
    · obtain ⟨F, T, y4, y5, y6, y7, rfl, hi⟩ := hI
      have okT : ∀ f ∈ F, f.length = n ∧ inR n f := fun f hf => gen_ok hm (hi.gen f hf)
      refine ⟨ltT, oV_lck, leT, ⟨shaped_maps (fun f hf => okT f (hi.tf f hf)) n4, rfl⟩, ?_⟩
      rw [eqv_maps_nil]
      refine ite2 (fun c => ?_) fun c => ?_
      · have c : T ≠ [] := fun z => by subst z; cases c
        obtain ⟨T0, own, rfl⟩ : ∃ T0 own, T = T0 ++ [own] := ⟨T.dropLast, T.getLast c, (List.dropLast_concat_getLast c).symm⟩
        have ow := okT own (hi.tf own (List.mem_append_right _ (List.mem_singleton_self _)))
        refine ⟨nT own, by simp, ltT, oV_lck, ?_⟩
        have edl : (List.map nT (T0 ++ [own])).dropLast = T0.map nT := by simp
        rw [edl]
        refine loop_over ms nT (fun i δ => ∃ (N : List (List Nat)) (y6 y7 : Option D), δ = [some (.val (.tuple (ms.map nT))), some (.val (.int most)), some (.own (.dict (kT (F ++ N)))), some (.own (.list ((T0 ++ N).map nT))), some (.val (nT own)), some (.val (.int (0 + (j : Int) * 1))), oV y6, oV y7] ∧
          (F ++ N).Nodup ∧ (∀ f ∈ N, ∃ m ∈ ms, f = beh own m) ∧ (∀ m ∈ ms.take i, beh own m ∈ F ++ N) ∧ N.length ≤ i) ⟨[], y6, y7, by simp, by simpa using hi.nd, (fun _ h => nomatch h), (fun _ h => nomatch h), Nat.zero_le _⟩ (fun i m δ K' him hI hK' => ?_) (fun δ hI => ?_)
        · obtain ⟨N, y6, y7, rfl, nd, gN, cl, nl⟩ := hI
          have hmm : m ∈ ms := List.mem_of_getElem? him
          have mo := hm m hmm
          have hti : ms.take (i + 1) = ms.take i ++ [m] := by
            obtain ⟨h1, h2⟩ := List.getElem?_eq_some_iff.mp him
            rw [List.take_add_one, him]; rfl
          have hil : i < 5 := by
            have := (List.getElem?_eq_some_iff.mp him).1
            omega
          have fl := hi.fl
          have tl := hi.tl
          rw [List.length_append, List.length_singleton] at tl
          refine ⟨ltT, oV_lck, own, m, rfl, by omega, by omega, by rw [mo.1]; exact ow.2, ltT, oV_lck, kD_key, ?_⟩
          rw [kT_look]
          refine ite2 (fun c => ?_) fun c => ?_
          · have c : beh own m ∉ F ++ N := fun z => by rw [decide_eq_true z] at c; cases c
            have ndN : (F ++ (N ++ [beh own m])).Nodup := by
              rw [← List.append_assoc, List.nodup_append]
              exact ⟨nd, by simp, fun a ha b hb => by rw [List.mem_singleton.mp hb]; exact fun z => c (z ▸ ha)⟩
            refine ⟨kD_key, by show (kD _ _).length < _; rw [kD_len, List.length_append]; unfold lineN; omega, ?_⟩
            rw [kT_put c]
            refine ⟨by rw [List.length_map, List.length_append]; unfold lineN; omega, ?_⟩
            refine hK' _ ⟨N ++ [beh own m], some (nT m), some (nT (beh own m)), ?_, ndN, fun f hf => ?_, fun x hx => ?_, by rw [List.length_append, List.length_singleton]; omega⟩
            · show _ = [_, _, some (RV.own (.dict (kT (F ++ (N ++ [beh own m]))))), some (RV.own (.list ((T0 ++ (N ++ [beh own m])).map nT))), _, _, oV (some (nT m)), oV (some (nT (beh own m)))]
              rw [← List.append_assoc, ← List.append_assoc, List.map_append (l₁ := T0 ++ N)]
              rfl
            · rcases List.mem_append.mp hf with hf | hf
              · exact gN f hf
              · rw [List.mem_singleton.mp hf]; exact ⟨m, hmm, rfl⟩
            · rw [hti] at hx
              rw [← List.append_assoc]
              rcases List.mem_append.mp hx with hx | hx
              · exact List.mem_append_left _ (cl x hx)
              · rw [List.mem_singleton.mp hx]; exact List.mem_append_right _ (List.mem_singleton_self _)
          · have c : beh own m ∈ F ++ N := Decidable.byContradiction fun z => c (by rw [decide_eq_false z]; rfl)
            refine hK' _ ⟨N, some (nT m), some (nT (beh own m)), rfl, nd, gN, fun x hx => ?_, by omega⟩
            rw [hti] at hx
            rcases List.mem_append.mp hx with hx | hx
            · exact cl x hx
            · rw [List.mem_singleton.mp hx]; exact c
        · obtain ⟨N, y6, y7, rfl, nd, gN, cl, nl⟩ := hI
          rw [List.take_length] at cl
          exact hK _ ⟨F ++ N, T0 ++ N, some (nT own), some (.int (0 + (j : Int) * 1)), y6, y7, rfl, hi.step hl nd gN cl nl⟩
      · have c : T = [] := by
          cases T with
          | nil => rfl
          | cons a l => exact absurd rfl c
        subst c
        exact hK _ ⟨F, [], y4, some (.int (0 + (j : Int) * 1)), y6, y7, rfl, hi.skip⟩
    · obtain ⟨F, T, y4, y5, y6, y7, rfl, hi⟩ := hI
      have lenF : (kT F).length = F.length := kD_len
      refine ite2 (c := decide ((((kT F).length : Nat) : Int) ≤ (most : Int)) = true) (fun c => ?_) fun c => ?_
      · have c := of_decide_eq_true c
        have hF : F.length ≤ most := by rw [lenF] at c; omega
        have fl := hi.fl
        refine ⟨by rw [lenF]; unfold lineN; omega, n, (n : Int), n1, fun p hp' => ?_, fun out p _ => ?_⟩
        · obtain ⟨f, hf, rfl⟩ := List.mem_map.mp hp'
          exact ints_nT (gen_ok hm (hi.gen f hf))
        · have e : (kT F).map (·.1) = F.map nT := by unfold kT kD; rw [List.map_map]; rfl
          rw [e] at p
          obtain ⟨hs, rfl, ph⟩ := perm_nT p
          exact q F ⟨T, F0, hi, nd0, mem0⟩ hF hs ph
      · have c : ¬ (((kT F).length : Nat) : Int) ≤ (most : Int) := fun z => c (decide_eq_true z)
        rw [lenF] at c
        exact qn F ⟨T, F0, hi, nd0, mem0⟩ (by omega)
theorem p_law_heap : ∀ rs QQ, c_law_heap rs QQ (fun _ => False) → z_law_heap (outE QQ) (startD 8 rs) := by
  rintro _ QQ ⟨n, ms, most, d, rfl, hs, n1, n5, h0, hl, hm, m12, q, qn⟩
  rcases seqs_pick hs with rfl | rfl
  · exact p_law_heap_list n1 n5 h0 hl hm m12 q qn
  · exact p_law_heap_tuple n1 n5 h0 hl hm m12 q qn
end K27
end
section
set_option Elab.async false
set_option linter.all false
set_option maxRecDepth 100000
set_option maxHeartbeats 1000000
namespace K27
open PySem PySem.Spec L2 Z
theorem p_turns_made : ∀ rs QQ, c_turns_made rs QQ (fun _ => False) → z_turns_made (outE QQ) (startD 6 rs) := by
  rintro _ QQ ⟨n, ms, rfl, n5, hl, hm, hnd, q⟩
  refine ⟨rfl, ?_⟩
  refine dc_ix (ds := ms.map nT) (fun i kvs δ => ∃ G : List (List Nat), kvs = kT G ∧ G.Nodup ∧ (∀ m, m ∈ G ↔ m ∈ ms.take i) ∧ G.length ≤ i ∧ δ = [some (.val (.list (ms.map nT))), none, none, none, none, none]) ⟨[], rfl, List.nodup_nil, fun m => by simp, Nat.le_refl _, rfl⟩ (fun i d kvs δ K hd hI hK => ?_) (fun kvs δ hI => ?_)
  · obtain ⟨G, rfl, nd, mem, gl, rfl⟩ := hI
    rw [List.getElem?_map] at hd
    obtain ⟨f, hf, rfl⟩ := Option.map_eq_some_iff.mp hd
    have hti : ms.take (i + 1) = ms.take i ++ [f] := by rw [List.take_add_one, hf]; rfl
    have hil : i < 5 := by
      have := (List.getElem?_eq_some_iff.mp hf).1
      omega
    refine ⟨ltT, rfl, kD_key, by show (kD _ _).length < _; rw [kD_len]; unfold lineN; omega, rfl, ?_⟩
    by_cases c : f ∈ G
    · rw [kT_put_in c]
      refine hK _ _ ⟨G, rfl, nd, fun m => ?_, by omega, rfl⟩
      rw [hti, List.mem_append, List.mem_singleton, mem]
      constructor
      · exact .inl
      · rintro (h | rfl)
        · exact h
        · exact (mem _).mp c
    · rw [kT_put c]
      refine hK _ _ ⟨G ++ [f], rfl, ?_, fun m => ?_, by rw [List.length_append, List.length_singleton]; omega, rfl⟩
      · rw [List.nodup_append]
        exact ⟨nd, by simp, fun a ha b hb => by rw [List.mem_singleton.mp hb]; exact fun z => c (z ▸ ha)⟩
      · rw [hti, List.mem_append, List.mem_append, mem]
  · obtain ⟨F0, rfl, nd0, mem0, gl, rfl⟩ := hI
    rw [List.length_map] at mem0 gl
    rw [List.take_length] at mem0
    refine ⟨ltT, rfl, ltT, rfl, ?_⟩
    have fb : ∀ {j : Nat} {F T : List (List Nat)}, HJ ms F0.length j F T → F.length ≤ 120 := fun {j F T} h => by
      have := len_sub h.nd fun f hf => in_prm hm hnd (h.gen f hf)
      rw [prm_len n n5] at this
      have fn : ∀ n, n ≤ 5 → fac n ≤ 120 := by decide
      exact Nat.le_trans this (fn n n5)
    refine while_ix (fun k δ => ∃ (j : Nat) (F T : List (List Nat)) (y3 y4 y5 : Option D), HJ ms F0.length j F T ∧ 2 * (120 - F.length) + T.length = k ∧ δ = [some (.val (.list (ms.map nT))), some (.own (.dict (kT F))), some (.own (.list (T.map nT))), oV y3, oV y4, oV y5]) (2 * (120 - F0.length) + ms.length) ⟨0, F0, ms, none, none, none, HJ.start nd0 mem0 hl gl, rfl, rfl⟩ (fun k δ K hI hK => ?_)
    obtain ⟨j, F, T, y3, y4, y5, hi, hk, rfl⟩ := hI
    have okT : ∀ f ∈ F, f.length = n ∧ inR n f := fun f hf => gen_ok hm (hi.gen f hf)
    refine ⟨leT, ⟨shaped_maps (fun f hf => okT f (hi.tf f hf)) n5, rfl⟩, ?_⟩
    rw [eqv_maps_nil]
    refine ite2 (fun c => ?_) fun c => ?_
    · have c : T ≠ [] := fun z => by subst z; cases c
      obtain ⟨T0, own, rfl⟩ : ∃ T0 own, T = T0 ++ [own] := ⟨T.dropLast, T.getLast c, (List.dropLast_concat_getLast c).symm⟩
      have ow := okT own (hi.tf own (List.mem_append_right _ (List.mem_singleton_self _)))
      refine ⟨nT own, by simp, ltT, oV_lck, ?_⟩
      have edl : (List.map nT (T0 ++ [own])).dropLast = T0.map nT := by simp
      rw [edl]
      have tl : T0.length + 1 ≤ 125 := by
        have h1 := hi.cnt.resolve_left (by simp)
        have h2 := fb hi
        rw [List.length_append, List.length_singleton] at h1
        omega
      refine loop_over ms nT (fun i δ => ∃ (N : List (List Nat)) (y3 y5 : Option D), δ = [some (.val (.list (ms.map nT))), some (.own (.dict (kT (F ++ N)))), some (.own (.list ((T0 ++ N).map nT))), oV y3, some (.val (nT own)), oV y5] ∧
        (F ++ N).Nodup ∧ (∀ f ∈ N, ∃ m ∈ ms, f = beh own m) ∧ (∀ m ∈ ms.take i, beh own m ∈ F ++ N) ∧ N.length ≤ i) ⟨[], y3, y5, by simp, by simpa using hi.nd, (fun _ h => nomatch h), (fun _ h => nomatch h), Nat.zero_le _⟩ (fun i m δ K' him hI hK' => ?_) (fun δ hI => ?_)
      · obtain ⟨N, y3, y5, rfl, nd, gN, cl, nl⟩ := hI
        have hmm : m ∈ ms := List.mem_of_getElem? him
        have mo := hm m hmm
        have hti : ms.take (i + 1) = ms.take i ++ [m] := by
          rw [List.take_add_one, him]; rfl
        have hil : i < 5 := by
          have := (List.getElem?_eq_some_iff.mp him).1
          omega
        have fl := fb hi
        refine ⟨ltT, oV_lck, own, m, rfl, by omega, by omega, by rw [mo.1]; exact ow.2, ltT, oV_lck, kD_key, ?_⟩
        rw [kT_look]
        refine ite2 (fun c => ?_) fun c => ?_
        · have c : beh own m ∉ F ++ N := fun z => by rw [decide_eq_true z] at c; cases c
          have ndN : (F ++ (N ++ [beh own m])).Nodup := by
            rw [← List.append_assoc, List.nodup_append]
            exact ⟨nd, by simp, fun a ha b hb => by rw [List.mem_singleton.mp hb]; exact fun z => c (z ▸ ha)⟩
          refine ⟨kD_key, by show (kD _ _).length < _; rw [kD_len, List.length_append]; unfold lineN; omega, ?_⟩
          rw [kT_put c]
          refine ⟨by rw [List.length_map, List.length_append]; unfold lineN; omega, ?_⟩
          refine hK' _ ⟨N ++ [beh own m], some (nT m), some (nT (beh own m)), ?_, ndN, fun f hf => ?_, fun x hx => ?_, by rw [List.length_append, List.length_singleton]; omega⟩
          · show _ = [_, some (RV.own (.dict (kT (F ++ (N ++ [beh own m]))))), some (RV.own (.list ((T0 ++ (N ++ [beh own m])).map nT))), oV (some (nT m)), _, oV (some (nT (beh own m)))]
            rw [← List.append_assoc, ← List.append_assoc, List.map_append (l₁ := T0 ++ N)]
            rfl
          · rcases List.mem_append.mp hf with hf | hf
            · exact gN f hf
            · rw [List.mem_singleton.mp hf]; exact ⟨m, hmm, rfl⟩
          · rw [hti] at hx
            rw [← List.append_assoc]
            rcases List.mem_append.mp hx with hx | hx
            · exact List.mem_append_left _ (cl x hx)
            · rw [List.mem_singleton.mp hx]; exact List.mem_append_right _ (List.mem_singleton_self _)
        · have c : beh own m ∈ F ++ N := Decidable.byContradiction fun z => c (by rw [decide_eq_false z]; rfl)
          refine hK' _ ⟨N, some (nT m), some (nT (beh own m)), rfl, nd, gN, fun x hx => ?_, by omega⟩
          rw [hti] at hx
          rcases List.mem_append.mp hx with hx | hx
          · exact cl x hx
          · rw [List.mem_singleton.mp hx]; exact c
      · obtain ⟨N, y3, y5, rfl, nd, gN, cl, nl⟩ := hI
        rw [List.take_length] at cl
        have st := hi.step hl nd gN cl nl
        have fb2 := fb st
        rw [List.length_append] at fb2
        rw [List.length_append, List.length_singleton] at hk
        exact hK (2 * (120 - (F ++ N).length) + (T0 ++ N).length) _ (by rw [List.length_append, List.length_append]; omega) ⟨j + 1, F ++ N, T0 ++ N, y3, some (nT own), y5, st, rfl, rfl⟩
    · have c : T = [] := by
        cases T with
        | nil => rfl
        | cons a l => exact absurd rfl c
      subst c
      have := q F hi.all
      rw [← kD_len (F := F) (v := fun _ => .bool true)] at this
      exact this
theorem first_at {ms : List (List Nat)} (h0 : ms ≠ []) : ∃ f ∈ ms, atI (ms.map nT) 0 = some (nT f) := by
  cases ms with
  | nil => exact absurd rfl h0
  | cons f ms => exact ⟨f, List.mem_cons_self .., at_nat (ds := (f :: ms).map nT) (i := 0) (Nat.succ_pos _)⟩
theorem less_dec {a n : Nat} (h : 1 ≤ n) : PyData.eqv (.int (a : Nat)) (.int ((n : Int) - 1)) = decide (a + 1 = n) := by
  rw [show (n : Int) - 1 = ((n - 1 : Nat) : Int) by omega, eqv_nat]
  exact decide_eq_decide.mpr (by omega)
theorem p_is_full : ∀ rs QQ, c_is_full rs QQ (fun _ => False) → z_is_full (outE QQ) (startD 3 rs) := by
  rintro _ QQ ⟨n, ms, rfl, n1, n5, h0, hl, hm, q⟩
  obtain ⟨f0, hf0, hat⟩ := first_at h0
  have e0 : (nI f0).length = n := by rw [nI_len]; exact (hm f0 hf0).1
  refine ⟨_, hat, ltT, rfl, ⟨rfl, rfl⟩, ?_⟩
  rw [e0]
  refine ite2 (c := PyData.eqv (.int (n : Int)) (.int ((1 : Nat) : Int)) = true) (fun c => ?_) fun c => ?_
  · rw [eqv_nat] at c
    exact q true ⟨fun _ => .inl (of_decide_eq_true c), fun _ => rfl⟩
  · have c1 : ¬ n = 1 := fun z => c (by rw [eqv_nat]; exact decide_eq_true z)
    refine ⟨rfl, ?_⟩
    refine lc_over ms nT (fun f => .bool (decide (rkN n f + 1 = n))) (by unfold lineN; omega) (fun f acc K hf hacc h => ?_) ?_
    · have fo := hm f hf
      refine ⟨ltT, rfl, n, f, rfl, by omega, fo.2, ⟨rfl, rfl⟩, ?_⟩
      rw [nI_len, less_dec n1]
      exact ⟨hacc, rfl, h⟩
    · refine ⟨ms.map fun f => decide (rkN n f + 1 = n), by rw [List.map_map]; rfl, ?_⟩
      have ea : (ms.map fun f => decide (rkN n f + 1 = n)).any id = true ↔ ∃ f ∈ ms, rkN n f + 1 = n := by
        rw [List.any_eq_true]
        constructor
        · rintro ⟨b, hb, e⟩
          obtain ⟨f, hf, rfl⟩ := List.mem_map.mp hb
          exact ⟨f, hf, of_decide_eq_true e⟩
        · rintro ⟨f, hf, e⟩
          exact ⟨_, List.mem_map.mpr ⟨f, hf, rfl⟩, decide_eq_true e⟩
      refine ite2 (c := (!((ms.map fun f => decide (rkN n f + 1 = n)).any id)) = true) (fun c => ?_) fun c => ?_
      · have c : ¬ ∃ f ∈ ms, rkN n f + 1 = n := fun z => by rw [ea.mpr z] at c; cases c
        exact q false ⟨(fun z => nomatch z), fun z => (z.resolve_left c1).1.elim fun f hf => absurd ⟨f, hf.1, hf.2⟩ c⟩
      · have c : ∃ f ∈ ms, rkN n f + 1 = n := ea.mp (by
          cases e : (ms.map fun f => decide (rkN n f + 1 = n)).any id with
          | true => rfl
          | false => rw [e] at c; exact absurd rfl c)
        refine ⟨rfl, ?_⟩
        refine lc_sel ms nT nT (fun f => decide (rkN n f = n)) (by unfold lineN; omega) (fun f acc K hf hacc h1 h2 => ?_) ?_
        · have fo := hm f hf
          refine ⟨ltT, rfl, n, f, rfl, by omega, fo.2, ?_⟩
          rw [fo.1]
          exact ite2 (fun c => ⟨hacc, rfl, h1 c⟩) fun c => ⟨rfl, h2 (Bool.eq_false_iff.mpr c)⟩
        · refine ⟨n, turnsOf n ms, rfl, n5, Nat.le_trans (List.length_filter_le _ _) hl, fun f hf => hm f (List.mem_filter.mp hf).1, fun f hf => ?_, fun K hK => ⟨n, rfl, by omega, ⟨rfl, rfl⟩, ?_⟩⟩
          · have h2 := List.mem_filter.mp hf
            have o := hm f h2.1
            exact (rk_turn n n5 f (amT_mem o.1 o.2)).mp (of_decide_eq_true h2.2)
          · rw [eqv_nat]
            exact q _ ⟨fun e => .inr ⟨c, K, hK, of_decide_eq_true e⟩, fun z => by
              obtain ⟨_, K', hK', e⟩ := z.resolve_left c1
              exact decide_eq_true ((clo_len hK hK').trans e)⟩
theorem p_law_is_full : ∀ rs QQ, c_law_is_full rs QQ (fun _ => False) → z_law_is_full (outE QQ) (startD 5 rs) := by
  rintro _ QQ ⟨n, ms, rfl, n1, n5, h0, hl, hm, q⟩
  obtain ⟨f0, hf0, hat⟩ := first_at h0
  have e0 : (nI f0).length = n := by rw [nI_len]; exact (hm f0 hf0).1
  refine ⟨_, hat, ltT, rfl, ⟨rfl, rfl⟩, ?_⟩
  rw [e0]
  refine ite2 (c := PyData.eqv (.int (n : Int)) (.int ((1 : Nat) : Int)) = true) (fun c => ?_) fun c => ?_
  · rw [eqv_nat] at c
    exact q true ⟨fun _ => .inl (of_decide_eq_true c), fun _ => rfl⟩
  · have c1 : ¬ n = 1 := fun z => c (by rw [eqv_nat]; exact decide_eq_true z)
    refine ⟨rfl, ?_⟩
    refine lc_sel ms nT nT (fun f => decide (rkN n f = n)) (by unfold lineN; omega) (fun f acc K hf hacc h1 h2 => ?_) ?_
    · have fo := hm f hf
      refine ⟨ltT, rfl, zs f, nI_zs f, by rw [zs_len]; omega, fun out hp hmm => ⟨⟨rfl, rfl⟩, ?_⟩⟩
      rw [set_sset fo.2 hp hmm, nI_len, eqv_nat]
      exact ite2 (fun c => ⟨hacc, rfl, h1 c⟩) fun c => ⟨rfl, h2 (Bool.eq_false_iff.mpr c)⟩
    · have hmt : MapsN n (turnsOf n ms) := fun f hf => hm f (List.mem_filter.mp hf).1
      have hnd : ∀ f ∈ turnsOf n ms, f.Nodup := fun f hf => by
        have h2 := List.mem_filter.mp hf
        have o := hm f h2.1
        exact (rk_turn n n5 f (amT_mem o.1 o.2)).mp (of_decide_eq_true h2.2)
      have htl : (turnsOf n ms).length ≤ 5 := Nat.le_trans (List.length_filter_le _ _) hl
      refine ⟨ltT, rfl, rfl, ?_⟩
      refine lc_over ms nT (fun f => .bool (decide (rkN n f + 1 = n))) (by unfold lineN; omega) (fun f acc K hf hacc h => ?_) ?_
      · have fo := hm f hf
        refine ⟨ltT, rfl, zs f, nI_zs f, by rw [zs_len]; omega, fun out hp hmm => ⟨⟨rfl, rfl⟩, ?_⟩⟩
        rw [set_sset fo.2 hp hmm, nI_len, less_dec n1]
        exact ⟨hacc, rfl, h⟩
      · refine ⟨ms.map fun f => decide (rkN n f + 1 = n), by rw [List.map_map]; rfl, ?_⟩
        have ea : (ms.map fun f => decide (rkN n f + 1 = n)).any id = true ↔ ∃ f ∈ ms, rkN n f + 1 = n := by
          rw [List.any_eq_true]
          constructor
          · rintro ⟨b, hb, e⟩
            obtain ⟨f, hf, rfl⟩ := List.mem_map.mp hb
            exact ⟨f, hf, of_decide_eq_true e⟩
          · rintro ⟨f, hf, e⟩
            exact ⟨_, List.mem_map.mpr ⟨f, hf, rfl⟩, decide_eq_true e⟩
        refine ite2 (c := (!((ms.map fun f => decide (rkN n f + 1 = n)).any id)) = true) (fun c => ?_) fun c => ?_
        · have c : ¬ ∃ f ∈ ms, rkN n f + 1 = n := fun z => by rw [ea.mpr z] at c; cases c
          exact q false ⟨(fun z => nomatch z), fun z => (z.resolve_left c1).1.elim fun f hf => absurd ⟨f, hf.1, hf.2⟩ c⟩
        · have c : ∃ f ∈ ms, rkN n f + 1 = n := ea.mp (by
            cases e : (ms.map fun f => decide (rkN n f + 1 = n)).any id with
            | true => rfl
            | false => rw [e] at c; exact absurd rfl c)
          refine ⟨leT, ⟨shaped_maps hmt n5, rfl⟩, ?_⟩
          have en := eqv_maps_nil (turnsOf n ms)
          refine ite2 (c := PyData.eqv (.list ((turnsOf n ms).map nT)) (.list []) = true) (fun c2 => ?_) fun c2 => ?_
          · have t0 : turnsOf n ms = [] := by
              cases e : turnsOf n ms with
              | nil => rfl
              | cons a l => rw [e] at c2; cases c2
            refine q false ⟨(fun z => nomatch z), fun z => ?_⟩
            obtain ⟨_, K, hK, hk⟩ := z.resolve_left c1
            rw [t0] at hK
            have k0 : K = [] := by
              cases K with
              | nil => rfl
              | cons a l =>
                have := (hK.2 a).mp (List.mem_cons_self ..)
                exfalso
                have no : ∀ {f : List Nat}, Gen [] f → False := fun {f} g => by
                  induction g with
                  | base h => exact nomatch h
                  | step _ h _ => exact nomatch h
                exact no this
            rw [k0] at hk
            have := fac_pos n
            rw [← hk] at this
            exact absurd this (by decide)
          · have t0 : turnsOf n ms ≠ [] := fun z => c2 (by rw [z]; rfl)
            have ef := fun F e => end_full (F := F) n1 n5 t0 htl hmt hnd e
            refine ⟨n, turnsOf n ms, 120, _, rfl, .l, n1, n5, t0, htl, hmt, Nat.le_refl _, fun F e hF hs ph => ⟨ltT, rfl, n, rfl, by omega, ⟨rfl, rfl⟩, ?_⟩, fun F e hF => absurd (ef F e).1 (by omega)⟩
            rw [List.length_map, ph.length_eq, eqv_nat]
            refine q _ ⟨fun z => ?_, fun z => ?_⟩
            · exact .inr ⟨c, (ef F e).2.mp (of_decide_eq_true z)⟩
            · exact decide_eq_true ((ef F e).2.mpr (z.resolve_left c1).2)
end K27
end
section
set_option Elab.async false
set_option linter.all false
set_option maxRecDepth 100000
set_option maxHeartbeats 2000000
namespace K27
open PySem PySem.Spec L2 Z
def z_a0 : ZS := (zSet 3 (zD2 fAdd (zC (.int 1)) (zCall c_law_draw [0, 1] (zArgs zPass [(zNm 1), (zCall c_law_pick [0, 1] (zArgs zPass [(zNm 1), (zLst (zArgs zVal [(zC (.int 7)), (zC (.int 30)), (zC (.int 200))]))]) (zArgs zPass []))]) (zArgs zPass []))))
def z_a1 : ZS := (zSet 4 (zD2 fAdd (zC (.int 1)) (zCall c_law_draw [0, 1] (zArgs zPass [(zNm 1), (zNm 3)]) (zArgs zPass []))))
def z_a2 : ZS := (zPar [5, 6] (zArgs zGood [(zCall c_law_parts [0, 1] (zArgs zPass [(zNm 3), (zNm 4)]) (zArgs zPass [])), (zCall c_law_choose [0, 1] (zArgs zPass [(zNm 3), (zNm 4)]) (zArgs zPass []))]))
def z_a3 : ZS := (zSet 7 (zLst (zArgs zVal [(zNm 5), (zTup (zArgs zVal [(zNm 5), (zNm 6), (zCall c_law_factorial [0] (zArgs zPass [(zNm 4)]) (zArgs zPass []))])), (zD2 fMul (zNm 6) (zCall c_law_power [0, 1] (zArgs zPass [(zNm 4), (zD2 fSub (zNm 3) (zNm 4))]) (zArgs zPass [])))])))
def z_a4 : ZS := (zSet 8 (zLst (zArgs zVal [(zCall c_parts_number [0, 1] (zArgs zPass [(zNm 3), (zNm 4)]) (zArgs zPass [])), (zCall c_full_box [0, 1] (zArgs zPass [(zNm 3), (zNm 4)]) (zArgs zPass [])), (zCall c_staying_number [0, 1] (zArgs zPass [(zNm 3), (zNm 4)]) (zArgs zPass []))])))
def z_a5 : ZS := (zIfS (zB (zD2 fNe (zBlt fRepr (zArgs zKeep [(zLst (zArgs zVal [(zNm 8), (zLst (zArgs zVal [(zCall c_parts_number [1, 0] (zArgs zPass []) (zArgs zPass [(zNm 4), (zNm 3)])), (zCall c_full_box [1, 0] (zArgs zPass []) (zArgs zPass [(zNm 4), (zNm 3)])), (zCall c_staying_number [1, 0] (zArgs zPass []) (zArgs zPass [(zNm 4), (zNm 3)]))]))]))])) (zBlt fRepr (zArgs zKeep [(zLst (zArgs zVal [(zNm 7), (zNm 7)]))])))) (zSeq (zRet (zC (.bool false))) zNext) zNext)
theorem strEq (s : Str) : PyData.eqv (.str s) (.str s) = true := by
  show (s == s) = true
  exact beq_self_eq_true _
theorem noStr {s : Str} {P : Prop} (c : (!PyData.eqv (.str s) (.str s)) = true) : P := by rw [strEq] at c; cases c
theorem okR_big {n : Nat} (h : n < 2 ^ 1900) : OkR 0 1902 (.int (n : Nat)) := by
  have := log_lt h (by decide)
  exact ⟨by rw [nums]; exact decide_eq_true (by omega), Nat.le_refl _, by rw [shw]; omega⟩
theorem sti_le : ∀ n k : Nat, sti n k ≤ (k + 1) ^ n
  | 0, 0 => Nat.le_refl _
  | 0, k + 1 => Nat.zero_le _
  | n + 1, 0 => Nat.zero_le _
  | n + 1, k + 1 => by
    have h1 := sti_le n k
    have h2 := sti_le n (k + 1)
    have h3 : (k + 1) ^ n ≤ (k + 1 + 1) ^ n := Nat.pow_le_pow_left (by omega) n
    have h4 := Nat.mul_le_mul_left (k + 1) h2
    rw [sti_succ, Nat.pow_succ, Nat.mul_comm ((k + 1 + 1) ^ n), Nat.add_mul (k + 1) 1, Nat.one_mul]
    omega
theorem two_pow {a b : Nat} (h : a ≤ b) : 2 ^ a ≤ 2 ^ b := Nat.pow_le_pow_right (by decide) h
theorem small_pow {q k : Nat} (hq : q ≤ 256) (hk : k ≤ 200) : q ^ k ≤ 2 ^ 1600 := by
  have h1 : q ^ k ≤ (2 ^ 8) ^ k := Nat.pow_le_pow_left (by omega) k
  rw [← Nat.pow_mul] at h1
  exact Nat.le_trans h1 (two_pow (by omega))
theorem lt1900 {a : Nat} (h : a ≤ 2 ^ 1800) : a < 2 ^ 1900 := Nat.lt_of_le_of_lt h (Nat.pow_lt_pow_right (by decide) (by decide))
def LL (n k : Nat) : List D := [.int (sti n k : Nat), .tuple [.int (sti n k : Nat), .int (ch n k : Nat), .int (fac k : Nat)], .int (ch n k * k ^ (n - k) : Nat)]
theorem ll_ok {n k : Nat} (hn : n ≤ 200) (hk : k ≤ n) : OkR 2 20000 (.list (LL n k)) := by
  have o1 : OkR 0 1902 (.int (sti n k : Nat)) := okR_big (lt1900 (Nat.le_trans (Nat.le_trans (sti_le n k) (small_pow (by omega) hn)) (two_pow (by decide))))
  have o2 : OkR 0 1902 (.int (ch n k : Nat)) := okR_big (lt1900 (Nat.le_trans (ch_le n k) (two_pow (by omega))))
  have o3 : OkR 0 1902 (.int (fac k : Nat)) := okR_big (lt1900 (Nat.le_trans (fac_le k (by omega)) (two_pow (by omega))))
  have o4 : OkR 0 1902 (.int (ch n k * k ^ (n - k) : Nat)) := okR_big (lt1900 (by
    have := Nat.mul_le_mul (ch_le n k) (small_pow (q := k) (k := n - k) (by omega) (by omega))
    rw [← Nat.pow_add] at this
    exact Nat.le_trans this (two_pow (by omega))))
  have ot : OkR 1 6000 (.tuple [.int (sti n k : Nat), .int (ch n k : Nat), .int (fac k : Nat)]) := (okR_tuple (k := 0) (w := 1902) fun d hd => by
    simp only [List.mem_cons, List.not_mem_nil, or_false] at hd
    rcases hd with rfl | rfl | rfl
    · exact o1
    · exact o2
    · exact o3).le (Nat.le_refl _) (by show 3 * 1904 + 3 ≤ 6000; decide)
  refine (okR_list (k := 1) (w := 6000) fun d hd => ?_).le (Nat.le_refl _) (by show 3 * 6002 + 2 ≤ 20000; decide)
  simp only [LL, List.mem_cons, List.not_mem_nil, or_false] at hd
  rcases hd with rfl | rfl | rfl
  · exact o1.le (by decide) (by decide)
  · exact ot
  · exact o4.le (by decide) (by decide)
theorem p_a0 {E : Zend} {x0 x2 x3 x4 x5 x6 x7 x8 x9 x10 x12 x13 x15 x16 x17 : Option RV} (h3 : RV.isLck (some x3) = false) (k : ∀ n : Nat, 1 ≤ n → n ≤ 200 → E.nx [x0, some .deck, x2, some (.val (.int (n : Nat))), x4, x5, x6, x7, x8, x9, x10, none, x12, x13, none, x15, x16, x17]) : z_a0 E [x0, some .deck, x2, x3, x4, x5, x6, x7, x8, x9, x10, none, x12, x13, none, x15, x16, x17] := by
  refine ⟨leT, [.int 7, .int 30, .int 200], _, rfl, .l, (fun z => nomatch z), (by decide), fun d hd => ?_⟩
  have fin : ∀ r : Int, 0 ≤ r → r < 200 → E.nx [x0, some .deck, x2, some (.val (.int (1 + r))), x4, x5, x6, x7, x8, x9, x10, none, x12, x13, none, x15, x16, x17] := fun r r0 r1 => by
    rw [show 1 + r = ((1 + r).toNat : Int) by omega]
    exact k _ (by omega) (by omega)
  simp only [List.mem_cons, List.not_mem_nil, or_false] at hd
  rcases hd with rfl | rfl | rfl
  · exact ⟨7, rfl, by decide, fun r r0 r1 => ⟨ltT, h3, fin r r0 (by omega)⟩⟩
  · exact ⟨30, rfl, by decide, fun r r0 r1 => ⟨ltT, h3, fin r r0 (by omega)⟩⟩
  · exact ⟨200, rfl, by decide, fun r r0 r1 => ⟨ltT, h3, fin r r0 (by omega)⟩⟩
theorem p_a1 {E : Zend} {n : Nat} (n1 : 1 ≤ n) (n200 : n ≤ 200) {x0 x2 x4 x5 x6 x7 x8 x9 x10 x12 x13 x15 x16 x17 : Option RV} (h4 : RV.isLck (some x4) = false) (fin : ∀ k : Nat, 1 ≤ k → k ≤ n → E.nx [x0, some .deck, x2, some (.val (.int (n : Nat))), some (.val (.int (k : Nat))), x5, x6, x7, x8, x9, x10, none, x12, x13, none, x15, x16, x17]) : z_a1 E [x0, some .deck, x2, some (.val (.int (n : Nat))), x4, x5, x6, x7, x8, x9, x10, none, x12, x13, none, x15, x16, x17] := by
  refine ⟨_, rfl, by omega, fun r r0 r1 => ⟨ltT, h4, ?_⟩⟩
  have e : 1 + r = ((1 + r).toNat : Int) := by omega
  show E.nx [x0, some .deck, x2, some (.val (.int (n : Nat))), some (.val (.int (1 + r))), x5, x6, x7, x8, x9, x10, none, x12, x13, none, x15, x16, x17]
  rw [e]
  exact fin _ (by omega) (by omega)
theorem p_a2 {E : Zend} {n k : Nat} (k1 : 1 ≤ k) (kn : k ≤ n) (n200 : n ≤ 200) {x0 x2 x5 x6 x7 x8 x9 x10 x12 x13 x15 x16 x17 : Option RV} (h5 : RV.isLck (some x5) = false) (h6 : RV.isLck (some x6) = false) (fin : E.nx [x0, some .deck, x2, some (.val (.int (n : Nat))), some (.val (.int (k : Nat))), some (.val (.int (sti n k : Nat))), some (.val (.int (ch n k : Nat))), x7, x8, x9, x10, none, x12, x13, none, x15, x16, x17]) : z_a2 E [x0, some .deck, x2, some (.val (.int (n : Nat))), some (.val (.int (k : Nat))), x5, x6, x7, x8, x9, x10, none, x12, x13, none, x15, x16, x17] := by
  exact ⟨n, k, rfl, k1, kn, by omega, n, k, rfl, kn, by omega, ltT, h5, ltT, h6, fin⟩
theorem p_a3 {E : Zend} {n k : Nat} (k1 : 1 ≤ k) (kn : k ≤ n) (n200 : n ≤ 200) {x0 x2 x7 x8 x9 x10 x12 x13 x15 x16 x17 : Option RV} (h7 : RV.isLck (some x7) = false) (fin : E.nx [x0, some .deck, x2, some (.val (.int (n : Nat))), some (.val (.int (k : Nat))), some (.val (.int (sti n k : Nat))), some (.val (.int (ch n k : Nat))), some (.own (.list (LL n k))), x8, x9, x10, none, x12, x13, none, x15, x16, x17]) : z_a3 E [x0, some .deck, x2, some (.val (.int (n : Nat))), some (.val (.int (k : Nat))), some (.val (.int (sti n k : Nat))), some (.val (.int (ch n k : Nat))), x7, x8, x9, x10, none, x12, x13, none, x15, x16, x17] := by
  have e : (n : Int) - (k : Int) = ((n - k : Nat) : Int) := by omega
  refine ⟨k, rfl, by omega, leT, k, n - k, by rw [← e]; rfl, by omega, by omega, mul_ok (ch_lt (by omega)) (pow_lt (by omega) (by omega)), leT, ltT, h7, ?_⟩
  rw [← Int.natCast_mul]
  exact fin
theorem p_a4 {E : Zend} {n k : Nat} (k1 : 1 ≤ k) (kn : k ≤ n) (n200 : n ≤ 200) {x0 x2 x8 x9 x10 x12 x13 x15 x16 x17 : Option RV} (h8 : RV.isLck (some x8) = false) (fin : E.nx [x0, some .deck, x2, some (.val (.int (n : Nat))), some (.val (.int (k : Nat))), some (.val (.int (sti n k : Nat))), some (.val (.int (ch n k : Nat))), some (.own (.list (LL n k))), some (.own (.list (LL n k))), x9, x10, none, x12, x13, none, x15, x16, x17]) : z_a4 E [x0, some .deck, x2, some (.val (.int (n : Nat))), some (.val (.int (k : Nat))), some (.val (.int (sti n k : Nat))), some (.val (.int (ch n k : Nat))), some (.own (.list (LL n k))), x8, x9, x10, none, x12, x13, none, x15, x16, x17] := by
  exact ⟨n, k, rfl, k1, kn, by omega, n, k, rfl, k1, kn, by omega, n, k, rfl, kn, by omega, leT, ltT, h8, fin⟩
theorem p_a5 {E : Zend} {n k : Nat} (k1 : 1 ≤ k) (kn : k ≤ n) (n200 : n ≤ 200) {x0 x2 x9 x10 x12 x13 x15 x16 x17 : Option RV} (fin : E.nx [x0, some .deck, x2, some (.val (.int (n : Nat))), some (.val (.int (k : Nat))), some (.val (.int (sti n k : Nat))), some (.val (.int (ch n k : Nat))), some (.val (.list (LL n k))), some (.val (.list (LL n k))), x9, x10, none, x12, x13, none, x15, x16, x17]) : z_a5 E [x0, some .deck, x2, some (.val (.int (n : Nat))), some (.val (.int (k : Nat))), some (.val (.int (sti n k : Nat))), some (.val (.int (ch n k : Nat))), some (.own (.list (LL n k))), some (.own (.list (LL n k))), x9, x10, none, x12, x13, none, x15, x16, x17] := by
  have o := ll_ok n200 kn
  have hr : ReprOk (.list [.list (LL n k), .list (LL n k)]) := (okR_two o o).repr (by decide) (by unfold lineN; decide)
  refine ⟨n, k, rfl, k1, kn, by omega, n, k, rfl, k1, kn, by omega, n, k, rfl, kn, by omega, leT, leT, ?_⟩
  unfold LL at *
  generalize PyData.int ((sti n k : Nat) : Int) = A at *
  generalize PyData.int ((ch n k : Nat) : Int) = B at *
  generalize PyData.int ((fac k : Nat) : Int) = C at *
  generalize PyData.int ((ch n k * k ^ (n - k) : Nat) : Int) = G at *
  exact ⟨hr, leT, hr, ite2 (fun c => noStr c) fun _ => fin⟩
end K27
end
section
set_option Elab.async false
set_option linter.all false
set_option maxRecDepth 100000
set_option maxHeartbeats 2000000
namespace K27
open PySem PySem.Spec L2 Z
def z_b0 : ZS := (zSet 3 (zD2 fAdd (zC (.int 1)) (zCall c_law_draw [0, 1] (zArgs zPass [(zNm 1), (zC (.int 7))]) (zArgs zPass []))))
def z_b1 : ZS := (zSet 9 (zTupR (zR2 (zC (.int 2)) (zNm 3))))
def z_b2 : ZS := (zSet 10 (zTup (zArgs zVal [(zBlt fTuple (zArgs zKeep [(zLc (zRg1 (zArgs zVal [(zNm 3)])) [11] (zTn 11) zYes (zD2 fMod (zBlt fInt1 (zArgs zKeep [(zD2 fAdd (zNm 11) (zC (.int 1)))])) (zNm 3)))])), (zD2 fAdd (zTup (zArgs zVal [(zC (.int 1)), (zC (.int 0))])) (zNm 9)), (zD2 fAdd (zTup (zArgs zVal [(zC (.int 0)), (zC (.int 0))])) (zNm 9))])))
def z_b3 : ZS := (zSet 10 (zIf (zB (zD2 fGt (zNm 3) (zC (.int 1)))) (zNm 10) (zD2 fMul (zTup (zArgs zVal [(zTup (zArgs zVal [(zC (.int 0))]))])) (zC (.int 3)))))
def z_b4 : ZS := (zIfS (zB (zD2 fNe (zBlt fRepr (zArgs zKeep [(zLst (zArgs zVal [(zCall c_three_makers [0] (zArgs zPass [(zNm 3)]) (zArgs zPass [])), (zCall c_three_makers [0] (zArgs zPass []) (zArgs zPass [(zNm 3)]))]))])) (zBlt fRepr (zArgs zKeep [(zLst (zArgs zVal [(zNm 10), (zNm 10)]))])))) (zSeq (zRet (zC (.bool false))) zNext) zNext)
def z_b5 : ZS := (zIfS (zB (zD2 fNe (zBlt fRepr (zArgs zKeep [(zLst (zArgs zVal [(zCall c_two_are_few [0] (zArgs zPass [(zNm 3)]) (zArgs zPass [])), (zCall c_two_are_few [0] (zArgs zPass []) (zArgs zPass [(zNm 3)]))]))])) (zBlt fRepr (zArgs zKeep [(zD2 fMul (zLst (zArgs zVal [(zD2 fGt (zNm 3) (zC (.int 2)))])) (zC (.int 2)))])))) (zSeq (zRet (zC (.bool false))) zNext) zNext)
def z_b6 : ZS := (zSet 3 (zD2 fAdd (zC (.int 1)) (zCall c_law_draw [0, 1] (zArgs zPass [(zNm 1), (zIf (zB (zD2 fEq (zNm 2) (zC (.int 0)))) (zC (.int 5)) (zC (.int 4)))]) (zArgs zPass []))))
def z_b7 : ZS := (zSet 10 (zCall c_three_makers [0] (zArgs zPass [(zNm 3)]) (zArgs zPass [])))
def z_b8 : ZS := (zSet 12 (zBlt fListZ (zArgs zKeep [(zNm 10)])))
def z_b9 : ZS := (zSet 13 (zCall c_law_draw [0, 1] (zArgs zPass [(zNm 1), (zC (.int 4))]) (zArgs zPass [])))
def z_b10 : ZS := (zIfS (zB (zD2 fEq (zNm 13) (zC (.int 0)))) (zSeq (zDrop (zMeth [mPop] (zNm 12) [(zCall c_law_draw [0, 1] (zArgs zPass [(zNm 1), (zC (.int 3))]) (zArgs zPass []))])) zNext) zNext)
def z_b11 : ZS := (zIfS (zB (zD2 fGt (zNm 13) (zC (.int 1)))) (zSeq (zSet 12 (zLc (zRg1 (zArgs zVal [(zD2 fAdd (zC (.int 1)) (zCall c_law_draw [0, 1] (zArgs zPass [(zNm 1), (zC (.int 4))]) (zArgs zPass [])))])) [14] (zTn 14) zYes (zCall c_law_drawn_map [0, 1] (zArgs zPass [(zNm 1), (zNm 3)]) (zArgs zPass [])))) (zSeq (zSet 12 (zIf (zB (zD2 fEq (zNm 13) (zC (.int 2)))) (zD2 fAdd (zNm 12) (zLst (zArgs zVal [(zCall c_law_pick [0, 1] (zArgs zPass [(zNm 1), (zNm 10)]) (zArgs zPass []))]))) (zNm 12))) zNext)) zNext)
def z_b12 : ZS := (zSet 12 (zBlt fTuple (zArgs zKeep [(zNm 12)])))
def z_b13 : ZS := (zPar [15, 16] (zArgs zGood [(zBlt fRepr (zArgs zKeep [(zNm 12)])), (zCall c_law_is_full [0] (zArgs zPass [(zNm 12)]) (zArgs zPass []))]))
def z_b14 : ZS := (zIfS (zOr (zB (zD2 fNe (zBlt fRepr (zArgs zKeep [(zLst (zArgs zVal [(zCall c_is_full [0] (zArgs zPass [(zNm 12)]) (zArgs zPass [])), (zCall c_is_full [0] (zArgs zPass []) (zArgs zPass [(zNm 12)]))]))])) (zBlt fRepr (zArgs zKeep [(zLst (zArgs zVal [(zNm 16), (zNm 16)]))])))) (zB (zD2 fNe (zBlt fRepr (zArgs zKeep [(zNm 12)])) (zNm 15)))) (zSeq (zRet (zC (.bool false))) zNext) zNext)
def z_b15 : ZS := (zIfS (zB (zD2 fLt (zNm 3) (zC (.int 4)))) (zSeq (zSet 17 (zCall c_law_heap [0, 1] (zArgs zPass [(zNm 12), (zC (.int 27))]) (zArgs zPass []))) (zSeq (zIfS (zB (zD2 fNe (zNm 16) (zD2 fEq (zBlt fLen (zArgs zKeep [(zNm 17)])) (zCall c_law_power [0, 1] (zArgs zPass [(zNm 3), (zNm 3)]) (zArgs zPass []))))) (zSeq (zRet (zC (.bool false))) zNext) zNext) zNext)) zNext)
theorem map_erase : ∀ (l : List (List Nat)) (k : Nat), (l.map nT).eraseIdx k = (l.eraseIdx k).map nT
  | [], _ => rfl
  | _ :: _, 0 => rfl
  | a :: l, k + 1 => congrArg (nT a :: ·) (map_erase l k)
structure Mk (n : Nat) (ms : List (List Nat)) : Prop where
  n1 : 1 ≤ n
  n5 : n ≤ 5
  h0 : ms ≠ []
  hl : ms.length ≤ 5
  hm : MapsN n ms
theorem three_maps {n : Nat} (n1 : 1 ≤ n) : MapsN n (threeM n) := fun f hf => by
  unfold threeM at hf
  by_cases c : n = 1
  · rw [if_pos c] at hf
    subst c
    have : f = [0] := by simpa using hf
    subst this
    exact ⟨rfl, fun x hx => by rw [List.mem_singleton.mp hx]; omega⟩
  · rw [if_neg c] at hf
    have hd : ∀ x ∈ (List.range n).drop 2, x < n := fun x hx => List.mem_range.mp (List.mem_of_mem_drop hx)
    have hl : ((List.range n).drop 2).length = n - 2 := by rw [List.length_drop, List.length_range]
    simp only [List.mem_cons, List.not_mem_nil, or_false] at hf
    rcases hf with rfl | rfl | rfl
    · refine ⟨by simp, fun x hx => ?_⟩
      obtain ⟨t, _, rfl⟩ := List.mem_map.mp hx
      exact Nat.mod_lt _ (by omega)
    · refine ⟨by rw [List.length_cons, List.length_cons, hl]; omega, fun x hx => ?_⟩
      rcases List.mem_cons.mp hx with rfl | hx
      · omega
      · rcases List.mem_cons.mp hx with rfl | hx
        · omega
        · exact hd x hx
    · refine ⟨by rw [List.length_cons, List.length_cons, hl]; omega, fun x hx => ?_⟩
      rcases List.mem_cons.mp hx with rfl | hx
      · omega
      · rcases List.mem_cons.mp hx with rfl | hx
        · omega
        · exact hd x hx
theorem three_len (n : Nat) : (threeM n).length = 3 := by unfold threeM; split <;> rfl
theorem three_mk {n : Nat} (n1 : 1 ≤ n) (n5 : n ≤ 5) : Mk n (threeM n) := ⟨n1, n5, fun z => by have := three_len n; rw [z] at this; exact absurd this (by decide), by rw [three_len]; decide, three_maps n1⟩
theorem three_ok {n : Nat} (n1 : 1 ≤ n) (n7 : n ≤ 7) : OkR 2 1000 (.tuple ((threeM n).map nT)) := by
  refine (okR_tuple (k := 1) (w := 178) fun d hd => ?_).le (Nat.le_refl _) (by rw [List.length_map, three_len]; decide)
  obtain ⟨f, hf, rfl⟩ := List.mem_map.mp hd
  obtain ⟨h1, h2⟩ := three_maps n1 f hf
  exact (okR_nT fun x hx => by have := h2 x hx; omega).le (Nat.le_refl _) (by omega)
theorem leaf_b (b : Bool) : OkR 0 100 (.bool b) := ⟨rfl, Nat.le_refl _, by rw [shw]; decide⟩
theorem bools_ok (a b : Bool) : ReprOk (.list [.bool a, .bool b]) := (okR_two (leaf_b a) (leaf_b b)).repr (by decide) (by decide)
theorem Mk.ok {n : Nat} {ms : List (List Nat)} (h : Mk n ms) : ReprOk (.tuple (ms.map nT)) := by
  have := h.hl
  exact ((okR_tuple (okR_maps h.hm h.n5)).le (Nat.le_refl _) (show _ ≤ 700 by rw [List.length_map]; omega)).repr (by decide) (by decide)
theorem bool_eq {a b : Bool} {P : Prop} (ha : a = true ↔ P) (hb : b = true ↔ P) : a = b := by
  cases a <;> cases b
  · rfl
  · exact (ha.mpr (hb.mp rfl)).symm ▸ rfl
  · exact (hb.mpr (ha.mp rfl)) ▸ rfl
  · rfl
theorem p_b0 {E : Zend} {x0 x2 x3 x4 x5 x6 x7 x8 x9 x10 x12 x13 x15 x16 x17 : Option RV} (h3 : RV.isLck (some x3) = false) (fin : ∀ n : Nat, 1 ≤ n → n ≤ 7 → E.nx [x0, some .deck, x2, some (.val (.int (n : Nat))), x4, x5, x6, x7, x8, x9, x10, none, x12, x13, none, x15, x16, x17]) : z_b0 E [x0, some .deck, x2, x3, x4, x5, x6, x7, x8, x9, x10, none, x12, x13, none, x15, x16, x17] := by
  refine ⟨7, rfl, by decide, fun r r0 r1 => ⟨ltT, h3, ?_⟩⟩
  have e : 1 + r = ((1 + r).toNat : Int) := by omega
  show E.nx [x0, some .deck, x2, some (.val (.int (1 + r))), x4, x5, x6, x7, x8, x9, x10, none, x12, x13, none, x15, x16, x17]
  rw [e]
  exact fin _ (by omega) (by omega)
theorem p_b1 {E : Zend} {n : Nat} (n1 : 1 ≤ n) (n7 : n ≤ 7) {x0 x2 x4 x5 x6 x7 x8 x9 x10 x12 x13 x15 x16 x17 : Option RV} (h9 : RV.isLck (some x9) = false) (fin : E.nx [x0, some .deck, x2, some (.val (.int (n : Nat))), x4, x5, x6, x7, x8, some (.val (.tuple (rgDs 2 (n : Int)))), x10, none, x12, x13, none, x15, x16, x17]) : z_b1 E [x0, some .deck, x2, some (.val (.int (n : Nat))), x4, x5, x6, x7, x8, x9, x10, none, x12, x13, none, x15, x16, x17] := by
  exact ⟨⟨⟨by decide, by decide⟩, ⟨by omega, by omega⟩, by unfold lineN; omega⟩, ltT, h9, fin⟩
theorem p_b2 {E : Zend} {n : Nat} (n1 : 1 ≤ n) (n7 : n ≤ 7) {x0 x2 x4 x5 x6 x7 x8 x10 x12 x13 x15 x16 x17 : Option RV} (h10 : RV.isLck (some x10) = false) (fin : E.nx [x0, some .deck, x2, some (.val (.int (n : Nat))), x4, x5, x6, x7, x8, some (.val (.tuple (rgDs 2 (n : Int)))), some (.val (.tuple [nT ((List.range n).map fun t => (t + 1) % n), .tuple ([.int 1, .int 0] ++ rgDs 2 (n : Int)), .tuple ([.int 0, .int 0] ++ rgDs 2 (n : Int))])), none, x12, x13, none, x15, x16, x17]) : z_b2 E [x0, some .deck, x2, some (.val (.int (n : Nat))), x4, x5, x6, x7, x8, some (.val (.tuple (rgDs 2 (n : Int)))), x10, none, x12, x13, none, x15, x16, x17] := by
  have l2 : (rgDs 2 (n : Int)).length ≤ n := by unfold rgDs; rw [List.length_map, List.length_range]; omega
  refine ⟨⟨by omega, by omega⟩, rfl, ?_⟩
  rw [show (n : Int).toNat = n from rfl, rgD_nI]
  refine lc_over (List.range n) (fun (n : Nat) => .int n) (fun t => .int ((t + 1) % n : Nat)) (by rw [List.length_range]; unfold lineN; omega) (fun t acc K ht hacc h => ?_) ?_
  · have e : ((t : Int) + 1) % (n : Int) = (((t + 1) % n : Nat) : Int) := by rw [Int.natCast_emod, Int.natCast_add]; rfl
    rw [← e] at h
    exact ⟨ltT, rfl, by show (0 : Int) < (n : Int); omega, hacc, rfl, h⟩
  · have e : ((List.range n).map fun t => PyData.int ((t + 1) % n : Nat)) = nI ((List.range n).map fun t => (t + 1) % n) := by unfold nI; rw [List.map_map]; rfl
    rw [e]
    exact ⟨leT, by show 2 + _ ≤ lineN; unfold lineN; omega, leT, by show 2 + _ ≤ lineN; unfold lineN; omega, leT, ltT, h10, fin⟩
theorem p_b3 {E : Zend} {n : Nat} (n1 : 1 ≤ n) (n7 : n ≤ 7) {x0 x2 x4 x5 x6 x7 x8 x12 x13 x15 x16 x17 : Option RV} (fin : E.nx [x0, some .deck, x2, some (.val (.int (n : Nat))), x4, x5, x6, x7, x8, some (.val (.tuple (rgDs 2 (n : Int)))), some (.val (.tuple ((threeM n).map nT))), none, x12, x13, none, x15, x16, x17]) : z_b3 E [x0, some .deck, x2, some (.val (.int (n : Nat))), x4, x5, x6, x7, x8, some (.val (.tuple (rgDs 2 (n : Int)))), some (.val (.tuple [nT ((List.range n).map fun t => (t + 1) % n), .tuple ([.int 1, .int 0] ++ rgDs 2 (n : Int)), .tuple ([.int 0, .int 0] ++ rgDs 2 (n : Int))])), none, x12, x13, none, x15, x16, x17] := by
  refine ite2 (c := decide ((1 : Int) < (n : Int)) = true) (fun c => ?_) fun c => ?_
  · have c := of_decide_eq_true c
    have e2 : rgDs 2 (n : Int) = nI ((List.range n).drop 2) := drop_rg (a := 2) (by omega)
    have et : threeM n = [(List.range n).map fun t => (t + 1) % n, 1 :: 0 :: (List.range n).drop 2, 0 :: 0 :: (List.range n).drop 2] := if_neg (by omega)
    refine ⟨ltT, rfl, ?_⟩
    have ev : PyData.tuple [nT ((List.range n).map fun t => (t + 1) % n), .tuple ([.int 1, .int 0] ++ rgDs 2 (n : Int)), .tuple ([.int 0, .int 0] ++ rgDs 2 (n : Int))] = .tuple ((threeM n).map nT) := by
      rw [et, e2]; rfl
    show E.nx [x0, some .deck, x2, some (.val (.int (n : Nat))), x4, x5, x6, x7, x8, some (.val (.tuple (rgDs 2 (n : Int)))), some (.val (.tuple [nT ((List.range n).map fun t => (t + 1) % n), .tuple ([.int 1, .int 0] ++ rgDs 2 (n : Int)), .tuple ([.int 0, .int 0] ++ rgDs 2 (n : Int))])), none, x12, x13, none, x15, x16, x17]
    rw [ev]
    exact fin
  · have c : ¬ (1 : Int) < (n : Int) := fun z => c (decide_eq_true z)
    have n1 : n = 1 := by omega
    subst n1
    exact ⟨leT, leT, .inr ⟨(fun z => nomatch z), by decide, by decide, by decide⟩, ltT, rfl, fin⟩
theorem p_b4 {E : Zend} {n : Nat} (n1 : 1 ≤ n) (n7 : n ≤ 7) {x0 x2 x4 x5 x6 x7 x8 x12 x13 x15 x16 x17 : Option RV} (fin : E.nx [x0, some .deck, x2, some (.val (.int (n : Nat))), x4, x5, x6, x7, x8, some (.val (.tuple (rgDs 2 (n : Int)))), some (.val (.tuple ((threeM n).map nT))), none, x12, x13, none, x15, x16, x17]) : z_b4 E [x0, some .deck, x2, some (.val (.int (n : Nat))), x4, x5, x6, x7, x8, some (.val (.tuple (rgDs 2 (n : Int)))), some (.val (.tuple ((threeM n).map nT))), none, x12, x13, none, x15, x16, x17] := by
  have o := three_ok n1 n7
  have hr : ReprOk (.list [.tuple ((threeM n).map nT), .tuple ((threeM n).map nT)]) := (okR_two o o).repr (by decide) (by decide)
  refine ⟨n, rfl, n1, by omega, n, rfl, n1, by omega, leT, ?_⟩
  generalize PyData.tuple ((threeM n).map nT) = A at *
  exact ⟨hr, leT, hr, ite2 (fun c => noStr c) fun _ => fin⟩
theorem p_b5 {E : Zend} {n : Nat} {x0 x2 x4 x5 x6 x7 x8 x12 x13 x15 x16 x17 : Option RV} (fin : E.nx [x0, some .deck, x2, some (.val (.int (n : Nat))), x4, x5, x6, x7, x8, some (.val (.tuple (rgDs 2 (n : Int)))), some (.val (.tuple ((threeM n).map nT))), none, x12, x13, none, x15, x16, x17]) : z_b5 E [x0, some .deck, x2, some (.val (.int (n : Nat))), x4, x5, x6, x7, x8, some (.val (.tuple (rgDs 2 (n : Int)))), some (.val (.tuple ((threeM n).map nT))), none, x12, x13, none, x15, x16, x17] := by
  have e : decide ((2 : Int) < (n : Int)) = decide (3 ≤ n) := decide_eq_decide.mpr (by omega)
  have hr := bools_ok (decide (3 ≤ n)) (decide (3 ≤ n))
  refine ⟨n, rfl, n, rfl, leT, hr, leT, by unfold lineN; decide, by show 1 * 2 ≤ lineN; unfold lineN; decide, by unfold lineN; decide, ?_⟩
  show ReprOk (.list [.bool (decide ((2 : Int) < (n : Int))), .bool (decide ((2 : Int) < (n : Int)))]) ∧ (if (!PyData.eqv (.str (PyData.list [.bool (decide (3 ≤ n)), .bool (decide (3 ≤ n))]).shown) (.str (PyData.list [.bool (decide ((2 : Int) < (n : Int))), .bool (decide ((2 : Int) < (n : Int)))]).shown)) = true then _ else _)
  rw [e]
  exact ⟨hr, ite2 (fun c => noStr c) fun _ => fin⟩
theorem p_b6 {E : Zend} {i : Nat} {x0 x3 x4 x5 x6 x7 x8 x9 x10 x12 x13 x15 x16 x17 : Option RV} (h3 : RV.isLck (some x3) = false) (fin : ∀ n : Nat, 1 ≤ n → n ≤ 5 → E.nx [x0, some .deck, some (.val (.int (i : Nat))), some (.val (.int (n : Nat))), x4, x5, x6, x7, x8, x9, x10, none, x12, x13, none, x15, x16, x17]) : z_b6 E [x0, some .deck, some (.val (.int (i : Nat))), x3, x4, x5, x6, x7, x8, x9, x10, none, x12, x13, none, x15, x16, x17] := by
  have go : ∀ r : Int, 0 ≤ r → r < 5 → E.nx [x0, some .deck, some (.val (.int (i : Nat))), some (.val (.int (1 + r))), x4, x5, x6, x7, x8, x9, x10, none, x12, x13, none, x15, x16, x17] := fun r r0 r1 => by
    rw [show 1 + r = ((1 + r).toNat : Int) by omega]
    exact fin _ (by omega) (by omega)
  refine ⟨⟨rfl, rfl⟩, ite2 (fun c => ?_) fun c => ?_⟩
  · exact ⟨5, rfl, by decide, fun r r0 r1 => ⟨ltT, h3, go r r0 (by omega)⟩⟩
  · exact ⟨4, rfl, by decide, fun r r0 r1 => ⟨ltT, h3, go r r0 (by omega)⟩⟩
theorem p_b7 {E : Zend} {n : Nat} (n1 : 1 ≤ n) (n5 : n ≤ 5) {x0 x2 x4 x5 x6 x7 x8 x9 x10 x12 x13 x15 x16 x17 : Option RV} (h10 : RV.isLck (some x10) = false) (fin : E.nx [x0, some .deck, x2, some (.val (.int (n : Nat))), x4, x5, x6, x7, x8, x9, some (.val (.tuple ((threeM n).map nT))), none, x12, x13, none, x15, x16, x17]) : z_b7 E [x0, some .deck, x2, some (.val (.int (n : Nat))), x4, x5, x6, x7, x8, x9, x10, none, x12, x13, none, x15, x16, x17] := by
  exact ⟨n, rfl, n1, by omega, ltT, h10, fin⟩
theorem p_b8 {E : Zend} {n : Nat} {x0 x2 x4 x5 x6 x7 x8 x9 x12 x13 x15 x16 x17 : Option RV} (h12 : RV.isLck (some x12) = false) (fin : E.nx [x0, some .deck, x2, some (.val (.int (n : Nat))), x4, x5, x6, x7, x8, x9, some (.val (.tuple ((threeM n).map nT))), none, some (.own (.list ((threeM n).map nT))), x13, none, x15, x16, x17]) : z_b8 E [x0, some .deck, x2, some (.val (.int (n : Nat))), x4, x5, x6, x7, x8, x9, some (.val (.tuple ((threeM n).map nT))), none, x12, x13, none, x15, x16, x17] := by
  exact ⟨ltT, h12, fin⟩
theorem p_b9 {E : Zend} {n : Nat} {x0 x2 x4 x5 x6 x7 x8 x9 x13 x15 x16 x17 : Option RV} (h13 : RV.isLck (some x13) = false) (fin : ∀ w : Nat, E.nx [x0, some .deck, x2, some (.val (.int (n : Nat))), x4, x5, x6, x7, x8, x9, some (.val (.tuple ((threeM n).map nT))), none, some (.own (.list ((threeM n).map nT))), some (.val (.int (w : Nat))), none, x15, x16, x17]) : z_b9 E [x0, some .deck, x2, some (.val (.int (n : Nat))), x4, x5, x6, x7, x8, x9, some (.val (.tuple ((threeM n).map nT))), none, some (.own (.list ((threeM n).map nT))), x13, none, x15, x16, x17] := by
  refine ⟨4, rfl, by decide, fun r r0 r1 => ⟨ltT, h13, ?_⟩⟩
  obtain ⟨w, rfl⟩ : ∃ w : Nat, r = (w : Int) := ⟨r.toNat, by omega⟩
  exact fin w
theorem p_b10 {E : Zend} {n w : Nat} (n1 : 1 ≤ n) (n5 : n ≤ 5) {x0 x2 x4 x5 x6 x7 x8 x9 x15 x16 x17 : Option RV} (fin : ∀ ms, Mk n ms → E.nx [x0, some .deck, x2, some (.val (.int (n : Nat))), x4, x5, x6, x7, x8, x9, some (.val (.tuple ((threeM n).map nT))), none, some (.own (.list (ms.map nT))), some (.val (.int (w : Nat))), none, x15, x16, x17]) : z_b10 E [x0, some .deck, x2, some (.val (.int (n : Nat))), x4, x5, x6, x7, x8, x9, some (.val (.tuple ((threeM n).map nT))), none, some (.own (.list ((threeM n).map nT))), some (.val (.int (w : Nat))), none, x15, x16, x17] := by
  have mk := three_mk n1 n5
  have l3 : ((threeM n).map nT).length = 3 := by rw [List.length_map, three_len]
  refine ⟨⟨rfl, rfl⟩, ite2 (fun c => ?_) fun c => ?_⟩
  · refine ⟨3, rfl, by decide, fun r r0 r1 => ?_⟩
    have hr : r.toNat < ((threeM n).map nT).length := by rw [l3]; omega
    refine ⟨r.toNat, _, seqIx r0 (by rw [l3]; omega), List.getElem?_eq_getElem hr, ⟨by omega, by omega⟩, ?_⟩
    have e : ((threeM n).map nT).eraseIdx r.toNat = ((threeM n).eraseIdx r.toNat).map nT := map_erase _ _
    show E.nx [x0, some .deck, x2, some (.val (.int (n : Nat))), x4, x5, x6, x7, x8, x9, some (.val (.tuple ((threeM n).map nT))), none, some (.own (.list (((threeM n).map nT).eraseIdx r.toNat))), some (.val (.int (w : Nat))), none, x15, x16, x17]
    rw [e]
    have hr2 : r.toNat < (threeM n).length := by rw [three_len]; omega
    have hl := List.length_eraseIdx_of_lt hr2
    rw [three_len] at hl
    exact fin _ ⟨n1, n5, fun z => by rw [z] at hl; exact absurd hl (by decide), by omega, fun f hf => mk.hm f (List.mem_of_mem_eraseIdx hf)⟩
  · exact fin _ mk
theorem p_b11 {E : Zend} {n w : Nat} {ms : List (List Nat)} (mk : Mk n ms) {x0 x2 x4 x5 x6 x7 x8 x9 x15 x16 x17 : Option RV} (fin : ∀ (ms : List (List Nat)) (o : Bool), Mk n ms → E.nx [x0, some .deck, x2, some (.val (.int (n : Nat))), x4, x5, x6, x7, x8, x9, some (.val (.tuple ((threeM n).map nT))), none, some (if o then .own (.list (ms.map nT)) else .val (.list (ms.map nT))), some (.val (.int (w : Nat))), none, x15, x16, x17]) : z_b11 E [x0, some .deck, x2, some (.val (.int (n : Nat))), x4, x5, x6, x7, x8, x9, some (.val (.tuple ((threeM n).map nT))), none, some (.own (.list (ms.map nT))), some (.val (.int (w : Nat))), none, x15, x16, x17] := by
  have n1 := mk.n1
  have n5 := mk.n5
  refine ite2 (fun c => ?_) fun c => ?_
  · refine ⟨4, rfl, by decide, fun r r0 r1 => ⟨⟨by omega, by omega⟩, rfl, ?_⟩⟩
    generalize ms.map nT = L0
    refine lc_ix (fun i acc δ => ∃ ms : List (List Nat), ms.length = i ∧ MapsN n ms ∧ acc = ms.map nT ∧ δ = [x0, some .deck, x2, some (.val (.int (n : Nat))), x4, x5, x6, x7, x8, x9, some (.val (.tuple ((threeM n).map nT))), none, some (.own (.list L0)), some (.val (.int (w : Nat))), none, x15, x16, x17]) ⟨[], rfl, (fun _ h => nomatch h), rfl, rfl⟩ (fun i d acc δ K2 hd hI hK2 => ?_) (fun acc δ hI => ?_)
    · obtain ⟨ms, hl, hm, rfl, rfl⟩ := hI
      have hi : i < 4 := by
        have := (List.getElem?_eq_some_iff.mp hd).1
        rw [rg_len] at this; omega
      refine ⟨ltT, rfl, n, rfl, by omega, by omega, fun led h1 h2 => ⟨by rw [List.length_map]; unfold lineN; omega, rfl, hK2 _ _ ⟨ms ++ [led], by rw [List.length_append, hl]; rfl, fun f hf => ?_, by rw [List.map_append]; rfl, rfl⟩⟩⟩
      rcases List.mem_append.mp hf with hf | hf
      · exact hm f hf
      · rw [List.mem_singleton.mp hf]; exact ⟨h1, h2⟩
    · obtain ⟨ms, hl, hm, rfl, rfl⟩ := hI
      rw [rg_len] at hl
      have hl0 : 1 ≤ ms.length := by omega
      have hl4 : ms.length ≤ 4 := by omega
      have ne : ms ≠ [] := fun z => by rw [z] at hl0; exact absurd hl0 (by decide)
      refine ⟨ltT, rfl, ⟨rfl, rfl⟩, ite2 (fun c2 => ?_) fun c2 => ?_⟩
      · refine ⟨(threeM n).map nT, _, rfl, .t, fun z => by have := congrArg List.length z; rw [List.length_map, three_len] at this; exact absurd this (by decide), by rw [List.length_map, three_len]; decide, fun d hd => ?_⟩
        obtain ⟨f, hf, rfl⟩ := List.mem_map.mp hd
        refine ⟨leT, by rw [List.length_map]; show _ + 1 ≤ lineN; unfold lineN; omega, ltT, rfl, ?_⟩
        have e : ms.map nT ++ [nT f] = (ms ++ [f]).map nT := by rw [List.map_append]; rfl
        show E.nx [x0, some .deck, x2, some (.val (.int (n : Nat))), x4, x5, x6, x7, x8, x9, some (.val (.tuple ((threeM n).map nT))), none, some (.own (.list (ms.map nT ++ [nT f]))), some (.val (.int (w : Nat))), none, x15, x16, x17]
        rw [e]
        refine fin (ms ++ [f]) true ⟨n1, n5, by simp, by rw [List.length_append, List.length_singleton]; omega, fun g hg => ?_⟩
        rcases List.mem_append.mp hg with hg | hg
        · exact hm g hg
        · rw [List.mem_singleton.mp hg]; exact three_maps n1 f hf
      · exact ⟨ltT, rfl, fin ms false ⟨n1, n5, ne, by omega, hm⟩⟩
  · exact fin ms true mk
theorem p_b12 {E : Zend} {n w : Nat} {ms : List (List Nat)} {o : Bool} {x0 x2 x4 x5 x6 x7 x8 x9 x15 x16 x17 : Option RV} (fin : E.nx [x0, some .deck, x2, some (.val (.int (n : Nat))), x4, x5, x6, x7, x8, x9, some (.val (.tuple ((threeM n).map nT))), none, some (.val (.tuple (ms.map nT))), some (.val (.int (w : Nat))), none, x15, x16, x17]) : z_b12 E [x0, some .deck, x2, some (.val (.int (n : Nat))), x4, x5, x6, x7, x8, x9, some (.val (.tuple ((threeM n).map nT))), none, some (if o then .own (.list (ms.map nT)) else .val (.list (ms.map nT))), some (.val (.int (w : Nat))), none, x15, x16, x17] := by
  cases o with
  | true => exact ⟨ltT, rfl, fin⟩
  | false => exact ⟨ltT, rfl, fin⟩
theorem p_b13 {E : Zend} {n w : Nat} {ms : List (List Nat)} (mk : Mk n ms) {x0 x2 x4 x5 x6 x7 x8 x9 x15 x16 x17 : Option RV} (h15 : RV.isLck (some x15) = false) (h16 : RV.isLck (some x16) = false) (fin : ∀ b : Bool, (b = true ↔ Full n ms) → E.nx [x0, some .deck, x2, some (.val (.int (n : Nat))), x4, x5, x6, x7, x8, x9, some (.val (.tuple ((threeM n).map nT))), none, some (.val (.tuple (ms.map nT))), some (.val (.int (w : Nat))), none, some (.val (.str (PyData.tuple (ms.map nT)).shown)), some (.val (.bool b)), x17]) : z_b13 E [x0, some .deck, x2, some (.val (.int (n : Nat))), x4, x5, x6, x7, x8, x9, some (.val (.tuple ((threeM n).map nT))), none, some (.val (.tuple (ms.map nT))), some (.val (.int (w : Nat))), none, x15, x16, x17] := by
  exact ⟨mk.ok, n, ms, rfl, mk.n1, mk.n5, mk.h0, mk.hl, mk.hm, fun b hb => ⟨ltT, h15, ltT, h16, fin b hb⟩⟩
theorem p_b14 {E : Zend} {n w : Nat} {ms : List (List Nat)} (mk : Mk n ms) {b : Bool} (hb : b = true ↔ Full n ms) {x0 x2 x4 x5 x6 x7 x8 x9 x17 : Option RV} (fin : E.nx [x0, some .deck, x2, some (.val (.int (n : Nat))), x4, x5, x6, x7, x8, x9, some (.val (.tuple ((threeM n).map nT))), none, some (.val (.tuple (ms.map nT))), some (.val (.int (w : Nat))), none, some (.val (.str (PyData.tuple (ms.map nT)).shown)), some (.val (.bool b)), x17]) : z_b14 E [x0, some .deck, x2, some (.val (.int (n : Nat))), x4, x5, x6, x7, x8, x9, some (.val (.tuple ((threeM n).map nT))), none, some (.val (.tuple (ms.map nT))), some (.val (.int (w : Nat))), none, some (.val (.str (PyData.tuple (ms.map nT)).shown)), some (.val (.bool b)), x17] := by
  refine ⟨n, ms, rfl, mk.n1, mk.n5, mk.h0, mk.hl, mk.hm, fun b1 h1 => ⟨n, ms, rfl, mk.n1, mk.n5, mk.h0, mk.hl, mk.hm, fun b2 h2 => ?_⟩⟩
  obtain rfl := bool_eq h1 hb
  obtain rfl := bool_eq h2 hb
  exact ⟨leT, bools_ok _ _, leT, bools_ok _ _, ite2 (fun c => noStr c) fun _ => ⟨mk.ok, ite2 (fun c => noStr c) fun _ => fin⟩⟩
theorem p_b15 {E : Zend} {n w : Nat} {ms : List (List Nat)} (mk : Mk n ms) {b : Bool} (hb : b = true ↔ Full n ms) {x0 x2 x4 x5 x6 x7 x8 x9 x17 : Option RV} (h17 : RV.isLck (some x17) = false) (fin : ∀ x17, RV.isLck (some x17) = false → E.nx [x0, some .deck, x2, some (.val (.int (n : Nat))), x4, x5, x6, x7, x8, x9, some (.val (.tuple ((threeM n).map nT))), none, some (.val (.tuple (ms.map nT))), some (.val (.int (w : Nat))), none, some (.val (.str (PyData.tuple (ms.map nT)).shown)), some (.val (.bool b)), x17]) : z_b15 E [x0, some .deck, x2, some (.val (.int (n : Nat))), x4, x5, x6, x7, x8, x9, some (.val (.tuple ((threeM n).map nT))), none, some (.val (.tuple (ms.map nT))), some (.val (.int (w : Nat))), none, some (.val (.str (PyData.tuple (ms.map nT)).shown)), some (.val (.bool b)), x17] := by
  refine ite2 (c := decide ((n : Int) < 4) = true) (fun c => ?_) fun c => ?_
  · have n3 : n ≤ 3 := by have := of_decide_eq_true c; omega
    have es := fun F e => end_small (F := F) mk.n1 n3 mk.h0 mk.hl mk.hm e
    refine ⟨n, ms, 27, _, rfl, .t, mk.n1, mk.n5, mk.h0, mk.hl, mk.hm, by decide, fun F e hF hs ph => ?_, fun F e hF => absurd (es F e).1 (by omega)⟩
    refine ⟨ltT, h17, n, n, rfl, by omega, by omega, ⟨rfl, rfl⟩, ⟨rfl, rfl⟩, ?_⟩
    have eb : b = decide (F.length = n ^ n) := bool_eq hb ⟨fun z => (es F e).2.mp (of_decide_eq_true z), fun z => decide_eq_true ((es F e).2.mpr z)⟩
    have e1 : PyData.eqv (.int (((hs.map nT).length : Nat) : Int)) (.int ((n ^ n : Nat) : Int)) = b := by rw [eqv_nat, List.length_map, ph.length_eq, eb]
    rw [e1]
    have ebb : PyData.eqv (.bool b) (.bool b) = true := by cases b <;> rfl
    refine ite2 (fun c2 => ?_) fun _ => fin _ rfl
    have c2 : (!PyData.eqv (.bool b) (.bool b)) = true := c2
    rw [ebb] at c2
    cases c2
  · exact fin x17 h17
theorem p_law : z_law lawE (lawD 18) := by
  refine ⟨⟨by decide, by decide⟩, ?_⟩
  refine loop_rg (n := 2) (fun i δ => ∃ a0 a2 a3 a4 a5 a6 a7 a8 a9 a10 a12 a13 a15 a16 a17, RV.isLck (some a2) = false ∧ RV.isLck (some a3) = false ∧ RV.isLck (some a4) = false ∧ RV.isLck (some a5) = false ∧ RV.isLck (some a6) = false ∧ RV.isLck (some a7) = false ∧ RV.isLck (some a8) = false ∧ RV.isLck (some a9) = false ∧ RV.isLck (some a10) = false ∧ RV.isLck (some a12) = false ∧ RV.isLck (some a13) = false ∧ RV.isLck (some a15) = false ∧ RV.isLck (some a16) = false ∧ RV.isLck (some a17) = false ∧ δ = [a0, some .deck, a2, a3, a4, a5, a6, a7, a8, a9, a10, none, a12, a13, none, a15, a16, a17]) ⟨_, none, none, none, none, none, none, none, none, none, none, none, none, none, none, rfl, rfl, rfl, rfl, rfl, rfl, rfl, rfl, rfl, rfl, rfl, rfl, rfl, rfl, rfl⟩ (fun i δ K hi hI hK => ?_) (fun δ hI => ?_)
  · obtain ⟨a0, a2, a3, a4, a5, a6, a7, a8, a9, a10, a12, a13, a15, a16, a17, g2, g3, g4, g5, g6, g7, g8, g9, g10, g12, g13, g15, g16, g17, rfl⟩ := hI
    refine ⟨ltT, g2, ?_⟩
    refine p_a0 g3 fun n n1 n200 => ?_
    refine p_a1 n1 n200 g4 fun k k1 kn => ?_
    refine p_a2 k1 kn n200 g5 g6 ?_
    refine p_a3 k1 kn n200 g7 ?_
    refine p_a4 k1 kn n200 g8 ?_
    refine p_a5 k1 kn n200 ?_
    exact hK _ ⟨_, _, _, _, _, _, _, _, _, _, _, _, _, _, _, rfl, rfl, rfl, rfl, rfl, rfl, rfl, g9, g10, g12, g13, g15, g16, g17, rfl⟩
  · obtain ⟨a0, a2, a3, a4, a5, a6, a7, a8, a9, a10, a12, a13, a15, a16, a17, g2, g3, g4, g5, g6, g7, g8, g9, g10, g12, g13, g15, g16, g17, rfl⟩ := hI
    refine ⟨⟨by decide, by decide⟩, ?_⟩
    refine loop_rg (n := 3) (fun i δ => ∃ a0 a2 a3 a4 a5 a6 a7 a8 a9 a10 a12 a13 a15 a16 a17, RV.isLck (some a2) = false ∧ RV.isLck (some a3) = false ∧ RV.isLck (some a4) = false ∧ RV.isLck (some a5) = false ∧ RV.isLck (some a6) = false ∧ RV.isLck (some a7) = false ∧ RV.isLck (some a8) = false ∧ RV.isLck (some a9) = false ∧ RV.isLck (some a10) = false ∧ RV.isLck (some a12) = false ∧ RV.isLck (some a13) = false ∧ RV.isLck (some a15) = false ∧ RV.isLck (some a16) = false ∧ RV.isLck (some a17) = false ∧ δ = [a0, some .deck, a2, a3, a4, a5, a6, a7, a8, a9, a10, none, a12, a13, none, a15, a16, a17]) ⟨a0, a2, a3, a4, a5, a6, a7, a8, a9, a10, a12, a13, a15, a16, a17, g2, g3, g4, g5, g6, g7, g8, g9, g10, g12, g13, g15, g16, g17, rfl⟩ (fun i δ K hi hI hK => ?_) (fun δ hI => ?_)
    · obtain ⟨a0, a2, a3, a4, a5, a6, a7, a8, a9, a10, a12, a13, a15, a16, a17, g2, g3, g4, g5, g6, g7, g8, g9, g10, g12, g13, g15, g16, g17, rfl⟩ := hI
      refine ⟨ltT, g2, ?_⟩
      have ei : (0 : Int) + (i : Int) * 1 = (i : Int) := by omega
      rw [ei]
      refine p_b0 g3 fun n n1 n7 => ?_
      refine p_b1 n1 n7 g9 ?_
      refine p_b2 n1 n7 g10 ?_
      refine p_b3 n1 n7 ?_
      refine p_b4 n1 n7 ?_
      refine p_b5 ?_
      refine p_b6 (i := i) rfl fun n n1 n5 => ?_
      refine p_b7 n1 n5 rfl ?_
      refine p_b8 g12 ?_
      refine p_b9 g13 fun w => ?_
      refine p_b10 n1 n5 fun ms mk => ?_
      refine p_b11 mk fun ms o mk => ?_
      refine p_b12 ?_
      refine p_b13 mk g15 g16 fun b hb => ?_
      refine p_b14 mk hb ?_
      refine p_b15 mk hb g17 fun x17 g17 => ?_
      exact hK _ ⟨_, _, _, _, _, _, _, _, _, _, _, _, _, _, _, rfl, rfl, g4, g5, g6, g7, g8, rfl, rfl, rfl, rfl, rfl, rfl, g17, rfl⟩
    · obtain ⟨a0, a2, a3, a4, a5, a6, a7, a8, a9, a10, a12, a13, a15, a16, a17, g2, g3, g4, g5, g6, g7, g8, g9, g10, g12, g13, g15, g16, g17, rfl⟩ := hI
      rfl
end K27
end
section
set_option Elab.async false
set_option linter.all false
set_option maxRecDepth 100000
set_option maxHeartbeats 2000000
namespace K27
open PySem PySem.Spec L2 Z
theorem b_law' : evB ⟨["script", "deck", "turn", "n", "k", "parts", "lots", "dues", "told", "rest", "three", "thing", "makers", "way", "again", "kept", "due", "heap"], f_law, g_law, k_law⟩ 20 ⟨defScope (topS 30), fun _ => true⟩ ((defBody (topS 30)).drop 1) = z_law := b_law
theorem all_mk {l : PySem.W.OpenLaw} {w : World} {K : PySem.W.Frag} {h : Heap} {mg : Str → Option Value} {fa : Addr} (X : K.In h) (G : h.Ns mainGlobals mg) (hfa : mg "law" = some (.ref fa))
    {f1 : Addr} {od1 an1 : Option Addr} {sl1 : Array (Option Value)} {oc1 kV1 dc1 pm1 cd1 ct1 : Value}
    (a1 : PySem.W.nsIn K mainGlobals "image_of" = some (some (.ref f1))) (l1 : K.lookup f1 = some ⟨oc1, od1, .func (PySem.W.fnOf "image_of" "image_of" (defArgs (topS 1)) (defBody (topS 1)) (defScope (topS 1)) .none kV1 dc1 pm1 an1 cd1 ct1), sl1⟩) (c1 : PySem.W.codeIn K cd1 "image_of" = true) (k1 : PySem.W.keepIn K (.ref f1) = true)
    {f2 : Addr} {od2 an2 : Option Addr} {sl2 : Array (Option Value)} {oc2 kV2 dc2 pm2 cd2 ct2 : Value}
    (a2 : PySem.W.nsIn K mainGlobals "put_behind" = some (some (.ref f2))) (l2 : K.lookup f2 = some ⟨oc2, od2, .func (PySem.W.fnOf "put_behind" "put_behind" (defArgs (topS 3)) (defBody (topS 3)) (defScope (topS 3)) .none kV2 dc2 pm2 an2 cd2 ct2), sl2⟩) (c2 : PySem.W.codeIn K cd2 "put_behind" = true) (k2 : PySem.W.keepIn K (.ref f2) = true)
    {f3 : Addr} {od3 an3 : Option Addr} {sl3 : Array (Option Value)} {oc3 kV3 dc3 pm3 cd3 ct3 : Value}
    (a3 : PySem.W.nsIn K mainGlobals "is_turn" = some (some (.ref f3))) (l3 : K.lookup f3 = some ⟨oc3, od3, .func (PySem.W.fnOf "is_turn" "is_turn" (defArgs (topS 4)) (defBody (topS 4)) (defScope (topS 4)) .none kV3 dc3 pm3 an3 cd3 ct3), sl3⟩) (c3 : PySem.W.codeIn K cd3 "is_turn" = true) (k3 : PySem.W.keepIn K (.ref f3) = true)
    {f4 : Addr} {od4 an4 : Option Addr} {sl4 : Array (Option Value)} {oc4 kV4 dc4 pm4 cd4 ct4 : Value}
    (a4 : PySem.W.nsIn K mainGlobals "power_of" = some (some (.ref f4))) (l4 : K.lookup f4 = some ⟨oc4, od4, .func (PySem.W.fnOf "power_of" "power_of" (defArgs (topS 6)) (defBody (topS 6)) (defScope (topS 6)) .none kV4 dc4 pm4 an4 cd4 ct4), sl4⟩) (c4 : PySem.W.codeIn K cd4 "power_of" = true) (k4 : PySem.W.keepIn K (.ref f4) = true)
    {f5 : Addr} {od5 an5 : Option Addr} {sl5 : Array (Option Value)} {oc5 kV5 dc5 pm5 cd5 ct5 : Value}
    (a5 : PySem.W.nsIn K mainGlobals "choices" = some (some (.ref f5))) (l5 : K.lookup f5 = some ⟨oc5, od5, .func (PySem.W.fnOf "choices" "choices" (defArgs (topS 7)) (defBody (topS 7)) (defScope (topS 7)) .none kV5 dc5 pm5 an5 cd5 ct5), sl5⟩) (c5 : PySem.W.codeIn K cd5 "choices" = true) (k5 : PySem.W.keepIn K (.ref f5) = true)
    {f6 : Addr} {od6 an6 : Option Addr} {sl6 : Array (Option Value)} {oc6 kV6 dc6 pm6 cd6 ct6 : Value}
    (a6 : PySem.W.nsIn K mainGlobals "turns_count" = some (some (.ref f6))) (l6 : K.lookup f6 = some ⟨oc6, od6, .func (PySem.W.fnOf "turns_count" "turns_count" (defArgs (topS 8)) (defBody (topS 8)) (defScope (topS 8)) .none kV6 dc6 pm6 an6 cd6 ct6), sl6⟩) (c6 : PySem.W.codeIn K cd6 "turns_count" = true) (k6 : PySem.W.keepIn K (.ref f6) = true)
    {f7 : Addr} {od7 an7 : Option Addr} {sl7 : Array (Option Value)} {oc7 kV7 dc7 pm7 cd7 ct7 : Value}
    (a7 : PySem.W.nsIn K mainGlobals "parts_number" = some (some (.ref f7))) (l7 : K.lookup f7 = some ⟨oc7, od7, .func (PySem.W.fnOf "parts_number" "parts_number" (defArgs (topS 10)) (defBody (topS 10)) (defScope (topS 10)) .none kV7 dc7 pm7 an7 cd7 ct7), sl7⟩) (c7 : PySem.W.codeIn K cd7 "parts_number" = true) (k7 : PySem.W.keepIn K (.ref f7) = true)
    {f8 : Addr} {od8 an8 : Option Addr} {sl8 : Array (Option Value)} {oc8 kV8 dc8 pm8 cd8 ct8 : Value}
    (a8 : PySem.W.nsIn K mainGlobals "full_box" = some (some (.ref f8))) (l8 : K.lookup f8 = some ⟨oc8, od8, .func (PySem.W.fnOf "full_box" "full_box" (defArgs (topS 11)) (defBody (topS 11)) (defScope (topS 11)) .none kV8 dc8 pm8 an8 cd8 ct8), sl8⟩) (c8 : PySem.W.codeIn K cd8 "full_box" = true) (k8 : PySem.W.keepIn K (.ref f8) = true)
    {f9 : Addr} {od9 an9 : Option Addr} {sl9 : Array (Option Value)} {oc9 kV9 dc9 pm9 cd9 ct9 : Value}
    (a9 : PySem.W.nsIn K mainGlobals "staying_number" = some (some (.ref f9))) (l9 : K.lookup f9 = some ⟨oc9, od9, .func (PySem.W.fnOf "staying_number" "staying_number" (defArgs (topS 12)) (defBody (topS 12)) (defScope (topS 12)) .none kV9 dc9 pm9 an9 cd9 ct9), sl9⟩) (c9 : PySem.W.codeIn K cd9 "staying_number" = true) (k9 : PySem.W.keepIn K (.ref f9) = true)
    {f10 : Addr} {od10 an10 : Option Addr} {sl10 : Array (Option Value)} {oc10 kV10 dc10 pm10 cd10 ct10 : Value}
    (a10 : PySem.W.nsIn K mainGlobals "three_makers" = some (some (.ref f10))) (l10 : K.lookup f10 = some ⟨oc10, od10, .func (PySem.W.fnOf "three_makers" "three_makers" (defArgs (topS 14)) (defBody (topS 14)) (defScope (topS 14)) .none kV10 dc10 pm10 an10 cd10 ct10), sl10⟩) (c10 : PySem.W.codeIn K cd10 "three_makers" = true) (k10 : PySem.W.keepIn K (.ref f10) = true)
    {f11 : Addr} {od11 an11 : Option Addr} {sl11 : Array (Option Value)} {oc11 kV11 dc11 pm11 cd11 ct11 : Value}
    (a11 : PySem.W.nsIn K mainGlobals "turns_made" = some (some (.ref f11))) (l11 : K.lookup f11 = some ⟨oc11, od11, .func (PySem.W.fnOf "turns_made" "turns_made" (defArgs (topS 15)) (defBody (topS 15)) (defScope (topS 15)) .none kV11 dc11 pm11 an11 cd11 ct11), sl11⟩) (c11 : PySem.W.codeIn K cd11 "turns_made" = true) (k11 : PySem.W.keepIn K (.ref f11) = true)
    {f12 : Addr} {od12 an12 : Option Addr} {sl12 : Array (Option Value)} {oc12 kV12 dc12 pm12 cd12 ct12 : Value}
    (a12 : PySem.W.nsIn K mainGlobals "is_full" = some (some (.ref f12))) (l12 : K.lookup f12 = some ⟨oc12, od12, .func (PySem.W.fnOf "is_full" "is_full" (defArgs (topS 16)) (defBody (topS 16)) (defScope (topS 16)) .none kV12 dc12 pm12 an12 cd12 ct12), sl12⟩) (c12 : PySem.W.codeIn K cd12 "is_full" = true) (k12 : PySem.W.keepIn K (.ref f12) = true)
    {f13 : Addr} {od13 an13 : Option Addr} {sl13 : Array (Option Value)} {oc13 kV13 dc13 pm13 cd13 ct13 : Value}
    (a13 : PySem.W.nsIn K mainGlobals "two_are_few" = some (some (.ref f13))) (l13 : K.lookup f13 = some ⟨oc13, od13, .func (PySem.W.fnOf "two_are_few" "two_are_few" (defArgs (topS 17)) (defBody (topS 17)) (defScope (topS 17)) .none kV13 dc13 pm13 an13 cd13 ct13), sl13⟩) (c13 : PySem.W.codeIn K cd13 "two_are_few" = true) (k13 : PySem.W.keepIn K (.ref f13) = true)
    {f14 : Addr} {od14 an14 : Option Addr} {sl14 : Array (Option Value)} {oc14 kV14 dc14 pm14 cd14 ct14 : Value}
    (a14 : PySem.W.nsIn K mainGlobals "_law_deck" = some (some (.ref f14))) (l14 : K.lookup f14 = some ⟨oc14, od14, .func (PySem.W.fnOf "_law_deck" "_law_deck" (defArgs (topS 19)) (defBody (topS 19)) (defScope (topS 19)) .none kV14 dc14 pm14 an14 cd14 ct14), sl14⟩) (c14 : PySem.W.codeIn K cd14 "_law_deck" = true) (k14 : PySem.W.keepIn K (.ref f14) = true)
    {f15 : Addr} {od15 an15 : Option Addr} {sl15 : Array (Option Value)} {oc15 kV15 dc15 pm15 cd15 ct15 : Value}
    (a15 : PySem.W.nsIn K mainGlobals "_law_draw" = some (some (.ref f15))) (l15 : K.lookup f15 = some ⟨oc15, od15, .func (PySem.W.fnOf "_law_draw" "_law_draw" (defArgs (topS 20)) (defBody (topS 20)) (defScope (topS 20)) .none kV15 dc15 pm15 an15 cd15 ct15), sl15⟩) (c15 : PySem.W.codeIn K cd15 "_law_draw" = true) (k15 : PySem.W.keepIn K (.ref f15) = true)
    {f16 : Addr} {od16 an16 : Option Addr} {sl16 : Array (Option Value)} {oc16 kV16 dc16 pm16 cd16 ct16 : Value}
    (a16 : PySem.W.nsIn K mainGlobals "_law_pick" = some (some (.ref f16))) (l16 : K.lookup f16 = some ⟨oc16, od16, .func (PySem.W.fnOf "_law_pick" "_law_pick" (defArgs (topS 21)) (defBody (topS 21)) (defScope (topS 21)) .none kV16 dc16 pm16 an16 cd16 ct16), sl16⟩) (c16 : PySem.W.codeIn K cd16 "_law_pick" = true) (k16 : PySem.W.keepIn K (.ref f16) = true)
    {f17 : Addr} {od17 an17 : Option Addr} {sl17 : Array (Option Value)} {oc17 kV17 dc17 pm17 cd17 ct17 : Value}
    (a17 : PySem.W.nsIn K mainGlobals "_law_behind" = some (some (.ref f17))) (l17 : K.lookup f17 = some ⟨oc17, od17, .func (PySem.W.fnOf "_law_behind" "_law_behind" (defArgs (topS 22)) (defBody (topS 22)) (defScope (topS 22)) .none kV17 dc17 pm17 an17 cd17 ct17), sl17⟩) (c17 : PySem.W.codeIn K cd17 "_law_behind" = true) (k17 : PySem.W.keepIn K (.ref f17) = true)
    {f18 : Addr} {od18 an18 : Option Addr} {sl18 : Array (Option Value)} {oc18 kV18 dc18 pm18 cd18 ct18 : Value}
    (a18 : PySem.W.nsIn K mainGlobals "_law_heap" = some (some (.ref f18))) (l18 : K.lookup f18 = some ⟨oc18, od18, .func (PySem.W.fnOf "_law_heap" "_law_heap" (defArgs (topS 23)) (defBody (topS 23)) (defScope (topS 23)) .none kV18 dc18 pm18 an18 cd18 ct18), sl18⟩) (c18 : PySem.W.codeIn K cd18 "_law_heap" = true) (k18 : PySem.W.keepIn K (.ref f18) = true)
    {f19 : Addr} {od19 an19 : Option Addr} {sl19 : Array (Option Value)} {oc19 kV19 dc19 pm19 cd19 ct19 : Value}
    (a19 : PySem.W.nsIn K mainGlobals "_law_drawn_map" = some (some (.ref f19))) (l19 : K.lookup f19 = some ⟨oc19, od19, .func (PySem.W.fnOf "_law_drawn_map" "_law_drawn_map" (defArgs (topS 24)) (defBody (topS 24)) (defScope (topS 24)) .none kV19 dc19 pm19 an19 cd19 ct19), sl19⟩) (c19 : PySem.W.codeIn K cd19 "_law_drawn_map" = true) (k19 : PySem.W.keepIn K (.ref f19) = true)
    {f20 : Addr} {od20 an20 : Option Addr} {sl20 : Array (Option Value)} {oc20 kV20 dc20 pm20 cd20 ct20 : Value}
    (a20 : PySem.W.nsIn K mainGlobals "_law_power" = some (some (.ref f20))) (l20 : K.lookup f20 = some ⟨oc20, od20, .func (PySem.W.fnOf "_law_power" "_law_power" (defArgs (topS 25)) (defBody (topS 25)) (defScope (topS 25)) .none kV20 dc20 pm20 an20 cd20 ct20), sl20⟩) (c20 : PySem.W.codeIn K cd20 "_law_power" = true) (k20 : PySem.W.keepIn K (.ref f20) = true)
    {f21 : Addr} {od21 an21 : Option Addr} {sl21 : Array (Option Value)} {oc21 kV21 dc21 pm21 cd21 ct21 : Value}
    (a21 : PySem.W.nsIn K mainGlobals "_law_choose" = some (some (.ref f21))) (l21 : K.lookup f21 = some ⟨oc21, od21, .func (PySem.W.fnOf "_law_choose" "_law_choose" (defArgs (topS 26)) (defBody (topS 26)) (defScope (topS 26)) .none kV21 dc21 pm21 an21 cd21 ct21), sl21⟩) (c21 : PySem.W.codeIn K cd21 "_law_choose" = true) (k21 : PySem.W.keepIn K (.ref f21) = true)
    {f22 : Addr} {od22 an22 : Option Addr} {sl22 : Array (Option Value)} {oc22 kV22 dc22 pm22 cd22 ct22 : Value}
    (a22 : PySem.W.nsIn K mainGlobals "_law_factorial" = some (some (.ref f22))) (l22 : K.lookup f22 = some ⟨oc22, od22, .func (PySem.W.fnOf "_law_factorial" "_law_factorial" (defArgs (topS 27)) (defBody (topS 27)) (defScope (topS 27)) .none kV22 dc22 pm22 an22 cd22 ct22), sl22⟩) (c22 : PySem.W.codeIn K cd22 "_law_factorial" = true) (k22 : PySem.W.keepIn K (.ref f22) = true)
    {f23 : Addr} {od23 an23 : Option Addr} {sl23 : Array (Option Value)} {oc23 kV23 dc23 pm23 cd23 ct23 : Value}
    (a23 : PySem.W.nsIn K mainGlobals "_law_parts" = some (some (.ref f23))) (l23 : K.lookup f23 = some ⟨oc23, od23, .func (PySem.W.fnOf "_law_parts" "_law_parts" (defArgs (topS 28)) (defBody (topS 28)) (defScope (topS 28)) .none kV23 dc23 pm23 an23 cd23 ct23), sl23⟩) (c23 : PySem.W.codeIn K cd23 "_law_parts" = true) (k23 : PySem.W.keepIn K (.ref f23) = true)
    {f24 : Addr} {od24 an24 : Option Addr} {sl24 : Array (Option Value)} {oc24 kV24 dc24 pm24 cd24 ct24 : Value}
    (a24 : PySem.W.nsIn K mainGlobals "_law_is_full" = some (some (.ref f24))) (l24 : K.lookup f24 = some ⟨oc24, od24, .func (PySem.W.fnOf "_law_is_full" "_law_is_full" (defArgs (topS 29)) (defBody (topS 29)) (defScope (topS 29)) .none kV24 dc24 pm24 an24 cd24 ct24), sl24⟩) (c24 : PySem.W.codeIn K cd24 "_law_is_full" = true) (k24 : PySem.W.keepIn K (.ref f24) = true)
    {f25 : Addr} {od25 an25 : Option Addr} {sl25 : Array (Option Value)} {oc25 kV25 dc25 pm25 cd25 ct25 : Value}
    (a25 : PySem.W.nsIn K mainGlobals "law" = some (some (.ref f25))) (l25 : K.lookup f25 = some ⟨oc25, od25, .func (PySem.W.fnOf "law" "law" (defArgs (topS 30)) (defBody (topS 30)) (defScope (topS 30)) .none kV25 dc25 pm25 an25 cd25 ct25), sl25⟩) (c25 : PySem.W.codeIn K cd25 "law" = true) (k25 : PySem.W.keepIn K (.ref f25) = true)
    (z1 : PySem.W.nsIn K mainGlobals "tuple" = some none)
    (z2 : PySem.W.nsIn K mainGlobals "sorted" = some none)
    (z3 : PySem.W.nsIn K mainGlobals "set" = some none)
    (z4 : PySem.W.nsIn K mainGlobals "len" = some none)
    (z5 : PySem.W.nsIn K mainGlobals "range" = some none)
    (z6 : PySem.W.nsIn K mainGlobals "list" = some none)
    (z7 : PySem.W.nsIn K mainGlobals "any" = some none)
    (z8 : PySem.W.nsIn K mainGlobals "int" = some none)
    (z9 : PySem.W.nsIn K mainGlobals "abs" = some none)
    (z10 : PySem.W.nsIn K mainGlobals "dict" = some none)
    (z11 : PySem.W.nsIn K mainGlobals "min" = some none)
    (z12 : PySem.W.nsIn K mainGlobals "repr" = some none)
    : ∃ fd : FuncData, (∀ (s : Shared) (v : Value), BindsTo s fd ⟨[v], []⟩ [("script", v)]) ∧ ∀ base : Heap, K.In base → base.Ns mainGlobals mg → FnG l.prog w K mg base CX0 4 fa fd ["script"] (spLaw K) := by
  have e := hfa.symm.trans (PySem.W.mg_of X G a25)
  cases e
  have F1 := fun_mk (st := topS 1) l1 c1 k1
  have F2 := fun_mk (st := topS 3) l2 c2 k2
  have F3 := fun_mk (st := topS 4) l3 c3 k3
  have F4 := fun_mk (st := topS 6) l4 c4 k4
  have F5 := fun_mk (st := topS 7) l5 c5 k5
  have F6 := fun_mk (st := topS 8) l6 c6 k6
  have F7 := fun_mk (st := topS 10) l7 c7 k7
  have F8 := fun_mk (st := topS 11) l8 c8 k8
  have F9 := fun_mk (st := topS 12) l9 c9 k9
  have F10 := fun_mk (st := topS 14) l10 c10 k10
  have F11 := fun_mk (st := topS 15) l11 c11 k11
  have F12 := fun_mk (st := topS 16) l12 c12 k12
  have F13 := fun_mk (st := topS 17) l13 c13 k13
  have F14 := fun_mk (st := topS 19) l14 c14 k14
  have F15 := fun_mk (st := topS 20) l15 c15 k15
  have F16 := fun_mk (st := topS 21) l16 c16 k16
  have F17 := fun_mk (st := topS 22) l17 c17 k17
  have F18 := fun_mk (st := topS 23) l18 c18 k18
  have F19 := fun_mk (st := topS 24) l19 c19 k19
  have F20 := fun_mk (st := topS 25) l20 c20 k20
  have F21 := fun_mk (st := topS 26) l21 c21 k21
  have F22 := fun_mk (st := topS 27) l22 c22 k22
  have F23 := fun_mk (st := topS 28) l23 c23 k23
  have F24 := fun_mk (st := topS 29) l24 c24 k24
  have F25 := fun_mk (st := topS 30) l25 c25 k25
  have m1 := PySem.W.mg_of X G a1
  have m2 := PySem.W.mg_of X G a2
  have m3 := PySem.W.mg_of X G a3
  have m4 := PySem.W.mg_of X G a4
  have m5 := PySem.W.mg_of X G a5
  have m6 := PySem.W.mg_of X G a6
  have m7 := PySem.W.mg_of X G a7
  have m8 := PySem.W.mg_of X G a8
  have m9 := PySem.W.mg_of X G a9
  have m10 := PySem.W.mg_of X G a10
  have m11 := PySem.W.mg_of X G a11
  have m12 := PySem.W.mg_of X G a12
  have m13 := PySem.W.mg_of X G a13
  have m14 := PySem.W.mg_of X G a14
  have m15 := PySem.W.mg_of X G a15
  have m16 := PySem.W.mg_of X G a16
  have m17 := PySem.W.mg_of X G a17
  have m18 := PySem.W.mg_of X G a18
  have m19 := PySem.W.mg_of X G a19
  have m20 := PySem.W.mg_of X G a20
  have m21 := PySem.W.mg_of X G a21
  have m22 := PySem.W.mg_of X G a22
  have m23 := PySem.W.mg_of X G a23
  have m24 := PySem.W.mg_of X G a24
  have m25 := PySem.W.mg_of X G a25
  have y1 := PySem.W.mg_none_of X G z1
  have y2 := PySem.W.mg_none_of X G z2
  have y3 := PySem.W.mg_none_of X G z3
  have y4 := PySem.W.mg_none_of X G z4
  have y5 := PySem.W.mg_none_of X G z5
  have y6 := PySem.W.mg_none_of X G z6
  have y7 := PySem.W.mg_none_of X G z7
  have y8 := PySem.W.mg_none_of X G z8
  have y9 := PySem.W.mg_none_of X G z9
  have y10 := PySem.W.mg_none_of X G z10
  have y11 := PySem.W.mg_none_of X G z11
  have y12 := PySem.W.mg_none_of X G z12
  refine ⟨PySem.W.fnOf "law" "law" (defArgs (topS 30)) (defBody (topS 30)) (defScope (topS 30)) .none kV25 dc25 pm25 an25 cd25 ct25, fun s v => .of_eq rfl, fun base _ _ => ?_⟩
  have C1 : Callee l.prog w ⟨K, w⟩ mg base DkT 1 ⟨"image_of", ["led"], c_image_of⟩ := callee_of (m := 20) (fns := f_image_of) (glb := g_image_of) (cst := k_image_of) (N := N_image_of) F1 m1 sc_image_of (plain_fun F1 rfl rfl rfl rfl rfl) (k := 0) ⟨(mem_none), (mem_each y1 (mem_each y2 (mem_each y3 (mem_none)))), rfl, (mem_none)⟩ fun rs QQ _ q => by rw [b_image_of]; exact p_image_of rs QQ q
  have C2 : Callee l.prog w ⟨K, w⟩ mg base DkT 1 ⟨"put_behind", ["one", "other"], c_put_behind⟩ := callee_of (m := 20) (fns := f_put_behind) (glb := g_put_behind) (cst := k_put_behind) (N := N_put_behind) F2 m2 sc_put_behind (plain_fun F2 rfl rfl rfl rfl rfl) (k := 0) ⟨(mem_none), (mem_each y1 (mem_none)), rfl, (mem_none)⟩ fun rs QQ _ q => by rw [b_put_behind]; exact p_put_behind rs QQ q
  have C3 : Callee l.prog w ⟨K, w⟩ mg base DkT 1 ⟨"is_turn", ["led"], c_is_turn⟩ := callee_of (m := 20) (fns := f_is_turn) (glb := g_is_turn) (cst := k_is_turn) (N := N_is_turn) F3 m3 sc_is_turn (plain_fun F3 rfl rfl rfl rfl rfl) (k := 0) ⟨(mem_none), (mem_each y4 (mem_each y3 (mem_none))), rfl, (mem_none)⟩ fun rs QQ _ q => by rw [b_is_turn]; exact p_is_turn rs QQ q
  have C4 : Callee l.prog w ⟨K, w⟩ mg base DkT 1 ⟨"power_of", ["number", "often"], c_power_of⟩ := callee_of (m := 20) (fns := f_power_of) (glb := g_power_of) (cst := k_power_of) (N := N_power_of) F4 m4 sc_power_of (plain_fun F4 rfl rfl rfl rfl rfl) (k := 0) ⟨(mem_none), (mem_each y5 (mem_none)), rfl, (mem_none)⟩ fun rs QQ _ q => by rw [b_power_of]; exact p_power_of rs QQ q
  have C5 : Callee l.prog w ⟨K, w⟩ mg base DkT 1 ⟨"choices", ["n", "k"], c_choices⟩ := callee_of (m := 20) (fns := f_choices) (glb := g_choices) (cst := k_choices) (N := N_choices) F5 m5 sc_choices (plain_fun F5 rfl rfl rfl rfl rfl) (k := 0) ⟨(mem_none), (mem_each y5 (mem_none)), rfl, (mem_none)⟩ fun rs QQ _ q => by rw [b_choices]; exact p_choices rs QQ q
  have C6 : Callee l.prog w ⟨K, w⟩ mg base DkT 1 ⟨"turns_count", ["n"], c_turns_count⟩ := callee_of (m := 20) (fns := f_turns_count) (glb := g_turns_count) (cst := k_turns_count) (N := N_turns_count) F6 m6 sc_turns_count (plain_fun F6 rfl rfl rfl rfl rfl) (k := 0) ⟨(mem_none), (mem_each y5 (mem_none)), rfl, (mem_none)⟩ fun rs QQ _ q => by rw [b_turns_count]; exact p_turns_count rs QQ q
  have C7 : Callee l.prog w ⟨K, w⟩ mg base DkT 1 ⟨"parts_number", ["n", "k"], c_parts_number⟩ := callee_of (m := 20) (fns := f_parts_number) (glb := g_parts_number) (cst := k_parts_number) (N := N_parts_number) F7 m7 sc_parts_number (plain_fun F7 rfl rfl rfl rfl rfl) (k := 0) ⟨(mem_none), (mem_each y5 (mem_none)), rfl, (mem_none)⟩ fun rs QQ _ q => by rw [b_parts_number]; exact p_parts_number rs QQ q
  have C10 : Callee l.prog w ⟨K, w⟩ mg base DkT 1 ⟨"three_makers", ["n"], c_three_makers⟩ := callee_of (m := 20) (fns := f_three_makers) (glb := g_three_makers) (cst := k_three_makers) (N := N_three_makers) F10 m10 sc_three_makers (plain_fun F10 rfl rfl rfl rfl rfl) (k := 0) ⟨(mem_none), (mem_each y1 (mem_each y5 (mem_none))), rfl, (mem_none)⟩ fun rs QQ _ q => by rw [b_three_makers]; exact p_three_makers rs QQ q
  have C13 : Callee l.prog w ⟨K, w⟩ mg base DkT 1 ⟨"two_are_few", ["n"], c_two_are_few⟩ := callee_of (m := 20) (fns := f_two_are_few) (glb := g_two_are_few) (cst := k_two_are_few) (N := N_two_are_few) F13 m13 sc_two_are_few (plain_fun F13 rfl rfl rfl rfl rfl) (k := 0) ⟨(mem_none), (mem_none), rfl, (mem_none)⟩ fun rs QQ _ q => by rw [b_two_are_few]; exact p_two_are_few rs QQ q
  have C15 : Callee l.prog w ⟨K, w⟩ mg base DkT 1 ⟨"_law_draw", ["deck", "many"], c_law_draw⟩ := callee_ok (draw_ok (K := ⟨K, w⟩) (k := 0) F15 y8) m15 F15.kp (plain_fun F15 rfl rfl rfl rfl rfl)
  have C17 : Callee l.prog w ⟨K, w⟩ mg base DkT 1 ⟨"_law_behind", ["one", "other"], c_law_behind⟩ := callee_of (m := 20) (fns := f_law_behind) (glb := g_law_behind) (cst := k_law_behind) (N := N_law_behind) F17 m17 sc_law_behind (plain_fun F17 rfl rfl rfl rfl rfl) (k := 0) ⟨(mem_none), (mem_each y1 (mem_none)), rfl, (mem_none)⟩ fun rs QQ _ q => by rw [b_law_behind]; exact p_law_behind rs QQ q
  have C20 : Callee l.prog w ⟨K, w⟩ mg base DkT 1 ⟨"_law_power", ["base", "often"], c_law_power⟩ := callee_of (m := 20) (fns := f_law_power) (glb := g_law_power) (cst := k_law_power) (N := N_law_power) F20 m20 sc_law_power (plain_fun F20 rfl rfl rfl rfl rfl) (k := 0) ⟨(mem_none), (mem_none), rfl, (mem_none)⟩ fun rs QQ _ q => by rw [b_law_power]; exact p_law_power rs QQ q
  have C21 : Callee l.prog w ⟨K, w⟩ mg base DkT 1 ⟨"_law_choose", ["n", "k"], c_law_choose⟩ := callee_of (m := 20) (fns := f_law_choose) (glb := g_law_choose) (cst := k_law_choose) (N := N_law_choose) F21 m21 sc_law_choose (plain_fun F21 rfl rfl rfl rfl rfl) (k := 0) ⟨(mem_none), (mem_each y5 (mem_each y11 (mem_none))), rfl, (mem_none)⟩ fun rs QQ _ q => by rw [b_law_choose]; exact p_law_choose rs QQ q
  have C22 : Callee l.prog w ⟨K, w⟩ mg base DkT 1 ⟨"_law_factorial", ["n"], c_law_factorial⟩ := callee_of (m := 20) (fns := f_law_factorial) (glb := g_law_factorial) (cst := k_law_factorial) (N := N_law_factorial) F22 m22 sc_law_factorial (plain_fun F22 rfl rfl rfl rfl rfl) (k := 0) ⟨(mem_none), (mem_each y5 (mem_none)), rfl, (mem_none)⟩ fun rs QQ _ q => by rw [b_law_factorial]; exact p_law_factorial rs QQ q
  have C8 : Callee l.prog w ⟨K, w⟩ mg base DkT 2 ⟨"full_box", ["n", "k"], c_full_box⟩ := callee_of (m := 20) (fns := f_full_box) (glb := g_full_box) (cst := k_full_box) (N := N_full_box) F8 m8 sc_full_box (plain_fun F8 rfl rfl rfl rfl rfl) (k := 1) ⟨(mem_each (C7.mono (by decide)) (mem_each (C5.mono (by decide)) (mem_each (C6.mono (by decide)) (mem_none)))), (mem_none), rfl, (mem_none)⟩ fun rs QQ _ q => by rw [b_full_box]; exact p_full_box rs QQ q
  have C9 : Callee l.prog w ⟨K, w⟩ mg base DkT 2 ⟨"staying_number", ["n", "k"], c_staying_number⟩ := callee_of (m := 20) (fns := f_staying_number) (glb := g_staying_number) (cst := k_staying_number) (N := N_staying_number) F9 m9 sc_staying_number (plain_fun F9 rfl rfl rfl rfl rfl) (k := 1) ⟨(mem_each (C5.mono (by decide)) (mem_each (C4.mono (by decide)) (mem_none))), (mem_none), rfl, (mem_none)⟩ fun rs QQ _ q => by rw [b_staying_number]; exact p_staying_number rs QQ q
  have C11 : Callee l.prog w ⟨K, w⟩ mg base DkT 2 ⟨"turns_made", ["makers"], c_turns_made⟩ := callee_of (m := 20) (fns := f_turns_made) (glb := g_turns_made) (cst := k_turns_made) (N := N_turns_made) F11 m11 sc_turns_made (plain_fun F11 rfl rfl rfl rfl rfl) (k := 1) ⟨(mem_each (C2.mono (by decide)) (mem_none)), (mem_each y4 (mem_each y6 (mem_none))), rfl, (mem_none)⟩ fun rs QQ _ q => by rw [b_turns_made]; exact p_turns_made rs QQ q
  have C16 : Callee l.prog w ⟨K, w⟩ mg base DkT 2 ⟨"_law_pick", ["deck", "row"], c_law_pick⟩ := callee_of (m := 20) (fns := f_law_pick) (glb := g_law_pick) (cst := k_law_pick) (N := N_law_pick) F16 m16 sc_law_pick (plain_fun F16 rfl rfl rfl rfl rfl) (k := 1) ⟨(mem_each (C15.mono (by decide)) (mem_none)), (mem_each y4 (mem_none)), rfl, (mem_none)⟩ fun rs QQ _ q => by rw [b_law_pick]; exact p_law_pick rs QQ q
  have C18 : Callee l.prog w ⟨K, w⟩ mg base DkT 2 ⟨"_law_heap", ["makers", "most"], c_law_heap⟩ := callee_of (m := 20) (fns := f_law_heap) (glb := g_law_heap) (cst := k_law_heap) (N := N_law_heap) F18 m18 sc_law_heap (plain_fun F18 rfl rfl rfl rfl rfl) (k := 1) ⟨(mem_each (C17.mono (by decide)) (mem_none)), (mem_each y5 (mem_each y10 (mem_each y6 (mem_each y1 (mem_each y4 (mem_each y2 (mem_none))))))), rfl, (mem_none)⟩ fun rs QQ _ q => by rw [b_law_heap]; exact p_law_heap rs QQ q
  have C23 : Callee l.prog w ⟨K, w⟩ mg base DkT 2 ⟨"_law_parts", ["n", "k"], c_law_parts⟩ := callee_of (m := 20) (fns := f_law_parts) (glb := g_law_parts) (cst := k_law_parts) (N := N_law_parts) F23 m23 sc_law_parts (plain_fun F23 rfl rfl rfl rfl rfl) (k := 1) ⟨(mem_each (C22.mono (by decide)) (mem_each (C20.mono (by decide)) (mem_none))), (mem_each y5 (mem_none)), rfl, (mem_none)⟩ fun rs QQ _ q => by rw [b_law_parts]; exact p_law_parts rs QQ q
  have C12 : Callee l.prog w ⟨K, w⟩ mg base DkT 3 ⟨"is_full", ["makers"], c_is_full⟩ := callee_of (m := 20) (fns := f_is_full) (glb := g_is_full) (cst := k_is_full) (N := N_is_full) F12 m12 sc_is_full (plain_fun F12 rfl rfl rfl rfl rfl) (k := 2) ⟨(mem_each (C11.mono (by decide)) (mem_each (C6.mono (by decide)) (mem_each (C3.mono (by decide)) (mem_each (C1.mono (by decide)) (mem_none))))), (mem_each y4 (mem_each y7 (mem_none))), rfl, (mem_none)⟩ fun rs QQ _ q => by rw [b_is_full]; exact p_is_full rs QQ q
  have C19 : Callee l.prog w ⟨K, w⟩ mg base DkT 3 ⟨"_law_drawn_map", ["deck", "n"], c_law_drawn_map⟩ := callee_of (m := 20) (fns := f_law_drawn_map) (glb := g_law_drawn_map) (cst := k_law_drawn_map) (N := N_law_drawn_map) F19 m19 sc_law_drawn_map (plain_fun F19 rfl rfl rfl rfl rfl) (k := 2) ⟨(mem_each (C15.mono (by decide)) (mem_each (C16.mono (by decide)) (mem_none))), (mem_each y1 (mem_each y6 (mem_each y5 (mem_each y4 (mem_none))))), rfl, (mem_none)⟩ fun rs QQ _ q => by rw [b_law_drawn_map]; exact p_law_drawn_map rs QQ q
  have C24 : Callee l.prog w ⟨K, w⟩ mg base DkT 3 ⟨"_law_is_full", ["makers"], c_law_is_full⟩ := callee_of (m := 20) (fns := f_law_is_full) (glb := g_law_is_full) (cst := k_law_is_full) (N := N_law_is_full) F24 m24 sc_law_is_full (plain_fun F24 rfl rfl rfl rfl rfl) (k := 2) ⟨(mem_each (C18.mono (by decide)) (mem_each (C22.mono (by decide)) (mem_none))), (mem_each y4 (mem_each y7 (mem_each y2 (mem_each y3 (mem_none))))), rfl, (mem_none)⟩ fun rs QQ _ q => by rw [b_law_is_full]; exact p_law_is_full rs QQ q
  exact law_ok (m := 20) (y := "deck") (mk := "_law_deck") F25 sc_law (T := DkT) (k := 3) (fns := f_law) (glb := g_law) (cst := k_law) ⟨(mem_each (C10.mono (by decide)) (mem_each (C15.mono (by decide)) (mem_each (C23.mono (by decide)) (mem_each (C21.mono (by decide)) (mem_each (C7.mono (by decide)) (mem_each (C8.mono (by decide)) (mem_each (C9.mono (by decide)) (mem_each (C24.mono (by decide)) (mem_each (C18.mono (by decide)) (mem_each (C16.mono (by decide)) (mem_each (C22.mono (by decide)) (mem_each (C20.mono (by decide)) (mem_each (C19.mono (by decide)) (mem_each (C13.mono (by decide)) (mem_each (C12.mono (by decide)) (mem_none)))))))))))))))), (mem_each y5 (mem_each y1 (mem_each y6 (mem_each y12 (mem_each y4 (mem_each y8 (mem_none))))))), rfl, (mem_none)⟩ rfl (rest := (defBody (topS 30)).drop 1) rfl (by first | exact .inl rfl | exact .inr rfl) (by first | exact .inl rfl | exact .inr (.inl rfl)) rfl (by decide +kernel) (make_ok (K := ⟨K, w⟩) (k := 2) F14 y8 y9 y4) m14 F14.kp (F14.binds fun _ _ _ _ _ _ us hl => match us, hl with | [_], _ => rfl) (by rw [b_law']; exact p_law)
end K27
open PySem PySem.W PyProof.Rows
set_option maxHeartbeats 0 in
theorem PySem.Challenge.cw_eggboxes_k27_whole_all_maps_holds : PySem.Challenge.rw_eggboxes_k27_whole_all_maps.Holds := by
  w_on; o_law; k_head; (case hw => w_witness2)
  k_fill
  refine Z.walkG (l := PySem.Challenge.rw_eggboxes_k27_whole_all_maps) (n := 63) (k := 4) (x := "script") (sp := fun w => Z.spLaw _) rfl (by decide) rfl ⟨rfl, by decide, by decide⟩ (fun w h Y => PySem.W.kIn_of Y) ?F (fun _ _ a ns hl _ hS => ⟨a, ns, rfl, hS, hl, fun _ => rfl⟩)
  case F =>
    intro w mg fa h KX G hmg
    refine' K27.all_mk KX G hmg ?a1 ?l1 ?c1 ?k1 ?a2 ?l2 ?c2 ?k2 ?a3 ?l3 ?c3 ?k3 ?a4 ?l4 ?c4 ?k4 ?a5 ?l5 ?c5 ?k5 ?a6 ?l6 ?c6 ?k6 ?a7 ?l7 ?c7 ?k7 ?a8 ?l8 ?c8 ?k8 ?a9 ?l9 ?c9 ?k9 ?a10 ?l10 ?c10 ?k10 ?a11 ?l11 ?c11 ?k11 ?a12 ?l12 ?c12 ?k12 ?a13 ?l13 ?c13 ?k13 ?a14 ?l14 ?c14 ?k14 ?a15 ?l15 ?c15 ?k15 ?a16 ?l16 ?c16 ?k16 ?a17 ?l17 ?c17 ?k17 ?a18 ?l18 ?c18 ?k18 ?a19 ?l19 ?c19 ?k19 ?a20 ?l20 ?c20 ?k20 ?a21 ?l21 ?c21 ?k21 ?a22 ?l22 ?c22 ?k22 ?a23 ?l23 ?c23 ?k23 ?a24 ?l24 ?c24 ?k24 ?a25 ?l25 ?c25 ?k25 ?z1 ?z2 ?z3 ?z4 ?z5 ?z6 ?z7 ?z8 ?z9 ?z10 ?z11 ?z12
    (case a1 => k_is); (case l1 => k_is); (case c1 => k_is); (case k1 => k_is); (case a2 => k_is); (case l2 => k_is); (case c2 => k_is); (case k2 => k_is); (case a3 => k_is); (case l3 => k_is); (case c3 => k_is); (case k3 => k_is)
    (case a4 => k_is); (case l4 => k_is); (case c4 => k_is); (case k4 => k_is); (case a5 => k_is); (case l5 => k_is); (case c5 => k_is); (case k5 => k_is); (case a6 => k_is); (case l6 => k_is); (case c6 => k_is); (case k6 => k_is)
    (case a7 => k_is); (case l7 => k_is); (case c7 => k_is); (case k7 => k_is); (case a8 => k_is); (case l8 => k_is); (case c8 => k_is); (case k8 => k_is); (case a9 => k_is); (case l9 => k_is); (case c9 => k_is); (case k9 => k_is)
    (case a10 => k_is); (case l10 => k_is); (case c10 => k_is); (case k10 => k_is); (case a11 => k_is); (case l11 => k_is); (case c11 => k_is); (case k11 => k_is); (case a12 => k_is); (case l12 => k_is); (case c12 => k_is); (case k12 => k_is)
    (case a13 => k_is); (case l13 => k_is); (case c13 => k_is); (case k13 => k_is); (case a14 => k_is); (case l14 => k_is); (case c14 => k_is); (case k14 => k_is); (case a15 => k_is); (case l15 => k_is); (case c15 => k_is); (case k15 => k_is)
    (case a16 => k_is); (case l16 => k_is); (case c16 => k_is); (case k16 => k_is); (case a17 => k_is); (case l17 => k_is); (case c17 => k_is); (case k17 => k_is); (case a18 => k_is); (case l18 => k_is); (case c18 => k_is); (case k18 => k_is)
    (case a19 => k_is); (case l19 => k_is); (case c19 => k_is); (case k19 => k_is); (case a20 => k_is); (case l20 => k_is); (case c20 => k_is); (case k20 => k_is); (case a21 => k_is); (case l21 => k_is); (case c21 => k_is); (case k21 => k_is)
    (case a22 => k_is); (case l22 => k_is); (case c22 => k_is); (case k22 => k_is); (case a23 => k_is); (case l23 => k_is); (case c23 => k_is); (case k23 => k_is); (case a24 => k_is); (case l24 => k_is); (case c24 => k_is); (case k24 => k_is)
    (case a25 => k_is); (case l25 => k_is); (case c25 => k_is); (case k25 => k_is); (case z1 => k_is); (case z2 => k_is); (case z3 => k_is); (case z4 => k_is); (case z5 => k_is); (case z6 => k_is); (case z7 => k_is); (case z8 => k_is)
    (case z9 => k_is); (case z10 => k_is); (case z11 => k_is); (case z12 => k_is)
end
