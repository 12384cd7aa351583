import PyProof.Rows.All
import Wide.All
import OpenK.AllK
import Wide.FinOn
import HandS.Base
import HandS.Call
import HandS.List
import HandS.Comp
import HandS.Ends
import HandS.Dict
import HandS.Iter
import HandS.Text
import HandS.More
import HandS.Words
import HandS.WordsList
import HandS.Defaults
import HandS.IsInst
import HandS.Zip
import HandS.Style
import HandS.Star
import HandS.Strs
import HandS.Wide
import HandS.WideBits
import HandS.Walk
import HandS.Property
import HandS.TupAny
import KE.SortData
import KE.GoesEnum
import KE.KStateDown
import HandS.Head0
import HandS.Head1
import HandS.Head2
import HandS.HeadEnd
import HandS.HeadHook1
import HandS.HeadHook2
import HandS.HeadNt
import HandS.SetFor
import KE.KTupSum
import PySem.Challenge.RW_mintlots_k92_whole_ways_of_counting_meet
set_option Elab.async false
set_option linter.all false
set_option maxRecDepth 100000
set_option maxHeartbeats 0
/-! The ground: the text by places, a def's promise, heaps that grow, numbers and tables as values. -/
namespace Cn
open PySem PySem.Spec PyProof.Rows L2

def topS (i : Nat) : Stmt := PySem.Challenge.pw_mintlots_k92_whole_ways_of_counting_meet.main.body.getD i (.Pass ⟨0, 0, 0, 0⟩)
abbrev FnP (K : PySem.W.Frag) (x : Str) (st : Stmt) (f : Addr) (fd : FuncData) : Prop := FunD K x x (defArgs st) (defBody st) (defScope st) [] [] f fd

/-- the def of the name x stands in the module -/
structure At (K : PySem.W.Frag) (mg : Str → Option Value) (x : Str) (st : Stmt) : Prop where
  ex : ∃ f fd, FnP K x st f fd ∧ mg x = some (.ref f)
/-- .. and keeps a promise -/
structure DefOk (P : Program) (w : World) (K : PySem.W.Frag) (mg : Str → Option Value) (base : Heap) (x : Str) (k : Nat) (ps : List Str) (sp : Sp) : Prop where
  ex : ∃ f fd, FnOk P w K mg base CX0 k f fd ps sp ∧ mg x = some (.ref f) ∧ PySem.W.keepIn K (.ref f) = true ∧ Binds K fd ps []
section
variable {P : Program} {w : World} {K : PySem.W.Frag} {mg : Str → Option Value} {base : Heap} {x : Str} {k : Nat} {N ps : List Str} {sp : Sp} {st : Stmt}
theorem mkDef (A : At K mg x st) (S : FnScope N ps (defScope st))
    (hb : ∀ (kV doc pm : Value) (an : Option Addr) (cdv ct : Value) (us : List Value), us.length = ps.length → bindArgs (PySem.W.fnOf x x (defArgs st) (defBody st) (defScope st) .none kV doc pm an cdv ct) ⟨us, []⟩ = pure (ps.zip us))
    (len : ∀ vs H Q E, sp vs H Q E → vs.length = ps.length)
    (hbody : ∀ (f : Addr) (cdv : Value) (A : Around) (outer : List Env) (s : Shared) (H : Hp) (vs : List V) (Q : VK) (E : XK), Room k (A.deeper (envOfC x (defScope st) s.heap.objs.size f cdv)) → sp vs H Q E →
      ∃ t, PSs (cxOf CX0 P w K mg base N x (defScope st) f cdv A outer s H E).nox (defBody st) t ∧ t { nx := fun _ H' => Q .non H', rt := Q } (start N vs) H) : DefOk P w K mg base x (k + 1) ps sp := by
  obtain ⟨f, fd, F, m⟩ := A.ex
  exact ⟨f, fd, F.ok S len (fun cdv A outer s H vs Q E hr h => by
    obtain ⟨t, a, b⟩ := hbody f cdv A outer s H vs Q E hr h
    exact ⟨t, a.nox, b⟩), m, F.kp, F.bindsN hb⟩
theorem DefOk.imp {sp' : Sp} (D : DefOk P w K mg base x k ps sp) (h : ∀ vs H Q E, sp' vs H Q E → sp vs H Q E) : DefOk P w K mg base x k ps sp' := by
  obtain ⟨f, fd, F, m, c, b⟩ := D.ex
  exact ⟨f, fd, F.imp h, m, c, b⟩
end
/-! ### a call -/
def tCallD (sp : Sp) (t : TA) : TE := fun σ H Q => t σ H fun vs H1 => sp vs H1 Q E0
section
variable {X : Cx} {x : Str} {k : Nat} {ps : List Str} {sp : Sp} {e : Expr} {es : List Expr} {t : TA} {p pos : Pos}
theorem pe_callD (D : DefOk X.prog X.w X.K X.mg X.base x k ps sp) {j : Nat} (hr : Room j X.A) (hg : Gl X x) (ha : PA X (e :: es) t) (hj : k ≤ j := by first | decide | omega) (hd : (x == ("__debug__" : Str)) = false := by decide)
    (he : starEach (e :: es) X.env = (false, eval e X.env) :: starEach es X.env := by rfl) (hpl : (backTo pos (starEach es X.env)).any (·.1) = false := by rfl) : PE X (.Call (.Name x p) (e :: es) [] pos) (tCallD sp t) := by
  obtain ⟨f, fd, F, m, c, b⟩ := D.ex
  have h : PE X (.Call (.Name x p) (e :: es) [] pos) (tCall sp [] E0 t) := pe_call F (hr.mono hj) hg m c b .nil pass0 ha (hdb := hd) (he := he) (hpl := hpl)
  have e2 : tCall sp [] E0 t = tCallD sp t := by
    funext σ H Q
    show t σ H (fun vs H1 => sp (vs ++ []) H1 Q E0) = t σ H (fun vs H1 => sp vs H1 Q E0)
    congr 1
    funext vs H1
    rw [List.append_nil]
  rw [← e2]
  exact h
end
/-! ### module constants -/
structure GInt (mg : Str → Option Value) (x : Str) (i : Int) : Prop where
  h : ∃ t, mg x = some (.int i t)
theorem pe_gint {X : Cx} {x : Str} {i : Int} {pos : Pos} (hg : Gl X x) (h : GInt X.mg x i) (hd : (x == ("__debug__" : Str)) = false := by decide) : PE X (.Name x pos) (tC (.int i)) := by
  obtain ⟨t, h⟩ := h.h
  exact pe_glob hg h ⟨t, rfl⟩ hd
/-! ### the built-in names, the constants -/
structure Bl (mg : Str → Option Value) : Prop where
  z_isinstance : mg "isinstance" = none
  z_int : mg "int" = none
  z_bool : mg "bool" = none
  z_tuple : mg "tuple" = none
  z_list : mg "list" = none
  z_set : mg "set" = none
  z_str : mg "str" = none
  z_len : mg "len" = none
  z_range : mg "range" = none
  z_enumerate : mg "enumerate" = none
  z_zip : mg "zip" = none
  z_sum : mg "sum" = none
  z_min : mg "min" = none
  z_max : mg "max" = none
  z_divmod : mg "divmod" = none
  z_sorted : mg "sorted" = none
  z_abs : mg "abs" = none
  z_all : mg "all" = none
  MOST_COIN : GInt mg "MOST_COIN" 60
  MOST_COINS : GInt mg "MOST_COINS" 15
  MOST_AMOUNT : GInt mg "MOST_AMOUNT" (10 ^ 30)
  MOST_SMALL : GInt mg "MOST_SMALL" 400
  MOST_LISTED : GInt mg "MOST_LISTED" 400
  MOST_PERIOD : GInt mg "MOST_PERIOD" 2520
  MOST_WAYS : GInt mg "MOST_WAYS" 4
  MOST_TOLD_SUM : GInt mg "MOST_TOLD_SUM" 4000
/-! ### the class -/
structure LotC (K : PySem.W.Frag) (mg : Str → Option Value) (C : Addr) : Prop where
  lot : mg "Lot" = some (.ref C)
  cl : Cls K C
  nK : NoAttr K C "kinds"
  ha : PySem.W.findIn K (.ref C) "__class__" = some (some (.builtin "object.__class__"))
  hn : PySem.W.specialIn K (.builtin "object.__class__") "__get__" = some (some (.builtin "getset_descriptor.__get__"))
  htk : PySem.W.takesIn K (.builtin "object.__class__") = some true
  hm : PySem.W.mroIn K C (.type "object") = some true
  is : PySem.W.kitOne K (.ref C) (.ref C) = some true
/-- the def of the property coins -/
structure LotG (P : Program) (w : World) (K : PySem.W.Frag) (mg : Str → Option Value) (base : Heap) (C : Addr) : Prop where
  c : LotC K mg C
  ex : ∃ p g fd, PropOf K C "coins" p g ∧ FnOk P w K mg base CX0 1 g fd ["self"] (getSp C "kinds") ∧ Binds K fd ["self"] []
theorem look_kinds {v : V} : ([(("kinds" : Str), v)] : List (Str × V)).lookup ("kinds" : Str) = some v := by
  rw [List.lookup_cons, beq_self_eq_true]
def tCoins (C : Addr) (ta : TE) : TE := fun σ H Q => ta σ H fun x H1 => ∃ a dx v, x = .ref a ∧ H1 a = some (.ins C dx [("kinds", v)]) ∧ Q v H1
theorem pe_coins {X : Cx} {C : Addr} {e : Expr} {ta : TE} {pos : Pos} (G : LotG X.prog X.w X.K X.mg X.base C) {j : Nat} (hr : Room j X.A) (he : PE X e ta) (hj : 2 ≤ j := by first | decide | omega)
    (hab : attributeBase e "coins" X.env (eval e X.env) = eval e X.env := by rfl) : PE X (.Attribute e "coins" pos) (tCoins C ta) := by
  obtain ⟨p, g, fd, hp, F, b⟩ := G.ex
  refine ⟨fun pins s σ H Q I h => ?_⟩
  refine attr_of hab (thn (he.run pins s σ H _ I h) fun u s1 ⟨x, H1, I1, rx, a, dx, v, ex, ea, q⟩ => ?_)
  subst ex
  obtain rfl : u = Value.ref a := rx
  exact getprop_ok (E := E0) I1 ea G.c.cl hp F (hr.mono hj) b .nil pass0 ⟨a, dx, _, v, rfl, ea, look_kinds, q⟩
/-! ### heaps -/
theorem same_upd {H : Hp} {p : Addr} {o : HO} (h : H p = none) : Same H (upd H p o) := fun b x e => by
  rw [upd_ne (ne_of_none e h)]
  exact e
/-- an object that was not there may change -/
theorem _root_.L2.Same.mut {H H' : Hp} {p : Addr} {o : HO} (s : Same H H') (h : H p = none) : Same H (upd H' p o) := fun b x e => by
  rw [upd_ne (ne_of_none e h)]
  exact s b x e
theorem _root_.L2.Same.new {H H' : Hp} {p : Addr} {o : HO} (s : Same H H') (h : H' p = none) : Same H (upd H' p o) := s.mut (s.free h)
theorem _root_.L2.Same.rd {H H' : Hp} {a : Addr} {u : HO} (e : Same H H') (h : Rd H a u) : Rd H' a u := by
  rcases h with h | ⟨o, h⟩
  · exact .inl (e a _ h)
  · exact .inr ⟨o, e a _ h⟩
theorem _root_.L2.Same.seqT {K : PySem.W.Frag} {H H' : Hp} {a : Addr} {xs : List V} (e : Same H H') (h : SqT K H a xs) : SqT K H' a xs := by
  rcases h with h | h
  · exact .inl (e.rd h)
  · exact .inr h
/-- the heap without what stands at p -/
def del (H : Hp) (p : Addr) : Hp := fun a => if a = p then none else H a
theorem del_self {H : Hp} {p : Addr} : del H p p = none := if_pos rfl
theorem del_ne {H : Hp} {p a : Addr} (h : a ≠ p) : del H p a = H a := if_neg h
theorem del_same {H : Hp} {p : Addr} : Same (del H p) H := fun b o e => by
  by_cases h : b = p
  · rw [h, del_self] at e
    cases e
  · rw [del_ne h] at e
    exact e
theorem del_upd {H : Hp} {p : Addr} {o : HO} : del (upd H p o) p = del H p := by
  funext a
  by_cases h : a = p
  · rw [h, del_self, del_self]
  · rw [del_ne h, del_ne h, upd_ne h]
theorem _root_.L2.Same.del {H H' : Hp} {p : Addr} (s : Same H H') : Same (del H p) (del H' p) := fun b o e => by
  by_cases h : b = p
  · rw [h, del_self] at e
    cases e
  · rw [del_ne h] at e ⊢
    exact s b o e
theorem _root_.L2.Same.to_del {H H' : Hp} {p : Addr} (s : Same H H') (h : H p = none) : Same H (Cn.del H' p) := fun b o e => by
  rw [del_ne (ne_of_none e h)]
  exact s b o e
/-! ### numbers as values -/
abbrev vN (n : Nat) : V := .int (n : Int)
def vO : Option Nat → V
  | none => .non
  | some n => .int (n : Int)
theorem vN_map_get {ns : List Nat} {i : Nat} {n : Nat} (h : ns[i]? = some n) : (ns.map vN)[i]? = some (vN n) := by
  rw [List.getElem?_map, h]
  rfl
theorem get_of_map {ns : List Nat} {i : Nat} {v : V} (h : (ns.map vN)[i]? = some v) : ∃ n, ns[i]? = some n ∧ v = vN n := by
  rw [List.getElem?_map] at h
  cases e : ns[i]? with
  | none =>
    rw [e] at h
    cases h
  | some n =>
    rw [e] at h
    exact ⟨n, rfl, (Option.some.inj h).symm⟩
/-- f 0, f 1, .. below n, as a list of values -/
def tab (n : Nat) (f : Nat → V) : List V := (List.range n).map f
theorem tab_len (n : Nat) (f : Nat → V) : (tab n f).length = n := by
  unfold tab
  rw [List.length_map, List.length_range]
theorem tab_get {n i : Nat} {f : Nat → V} (h : i < n) : (tab n f)[i]? = some (f i) := by
  unfold tab
  rw [List.getElem?_map, List.getElem?_range h]
  rfl
theorem tab_at {n i : Nat} {f : Nat → V} {z : Int} (e : z = (i : Int)) (h : i < n) : atI (tab n f) z = some (f i) := at_of e (tab_get h)
theorem tab_congr {n : Nat} {f g : Nat → V} (h : ∀ i, i < n → f i = g i) : tab n f = tab n g := by
  unfold tab
  exact List.map_congr_left fun i hi => h i (List.mem_range.mp hi)
theorem tab_set {n i : Nat} {f : Nat → V} {v : V} : (tab n f).set i v = tab n fun j => if j = i then v else f j := by
  apply List.ext_getElem?
  intro j
  by_cases hj : j < n
  · rw [tab_get hj, List.getElem?_set, tab_len]
    by_cases e : i = j
    · subst e
      rw [if_pos rfl, if_pos hj, if_pos rfl]
    · rw [if_neg e, tab_get hj, if_neg (Ne.symm e)]
  · rw [List.getElem?_eq_none (by rw [List.length_set, tab_len]; omega), List.getElem?_eq_none (by rw [tab_len]; omega)]
theorem tab_succ (n : Nat) (f : Nat → V) : tab (n + 1) f = tab n f ++ [f n] := by
  unfold tab
  rw [List.range_succ, List.map_append]
  rfl
theorem tab_zero (f : Nat → V) : tab 0 f = [] := rfl
theorem rep_tab (n : Nat) (v : V) : List.replicate n v = tab n fun _ => v := by
  apply List.ext_getElem?
  intro j
  by_cases hj : j < n
  · rw [tab_get hj, List.getElem?_replicate, if_pos hj]
  · rw [List.getElem?_eq_none (by rw [List.length_replicate]; omega), List.getElem?_eq_none (by rw [tab_len]; omega)]
theorem ixN_tab {n i : Nat} {z : Int} (e : z = (i : Int)) (h : i < n) : ixN n z = some i := by
  subst e
  unfold ixN
  rw [if_pos (by omega), if_pos (by omega)]
  simp
theorem sz (n : Nat) (h : n ≤ 16000000) : n ≤ sizeLine := Nat.le_trans h (by decide)
theorem szl (n : Nat) (h : n < 16000000) : n < sizeLine := Nat.lt_of_lt_of_le h (by decide)
/-! ### tuples and lists of numbers, of such -/
def TupN (K : PySem.W.Frag) (H : Hp) (v : V) (ns : List Nat) : Prop := ∃ a, v = .ref a ∧ SqT K H a (ns.map vN)
def LstN (K : PySem.W.Frag) (H : Hp) (v : V) (ns : List Nat) : Prop := ∃ a, v = .ref a ∧ SqL K H a (ns.map vN)
theorem TupN.mono {K : PySem.W.Frag} {H H' : Hp} {v : V} {ns : List Nat} (s : Same H H') (h : TupN K H v ns) : TupN K H' v ns := by
  obtain ⟨a, e, q⟩ := h
  exact ⟨a, e, s.seqT q⟩
theorem LstN.mono {K : PySem.W.Frag} {H H' : Hp} {v : V} {ns : List Nat} (s : Same H H') (h : LstN K H v ns) : LstN K H' v ns := by
  obtain ⟨a, e, q⟩ := h
  exact ⟨a, e, s.seq q⟩
theorem pget {α β : Type} {R : α → β → Prop} : ∀ {xs : List α} {ys : List β} {i : Nat} {x : α}, Paired R xs ys → xs[i]? = some x → ∃ y, ys[i]? = some y ∧ R x y
  | _, _, _, _, .nil, e => by simp at e
  | _, _, 0, _, .cons r _, e => by simp at e; subst e; exact ⟨_, rfl, r⟩
  | _, _, i + 1, _, .cons _ t, e => by
    obtain ⟨y, h1, h2⟩ := pget (i := i) t (by simpa using e)
    exact ⟨y, by simpa using h1, h2⟩
theorem pget' {α β : Type} {R : α → β → Prop} : ∀ {xs : List α} {ys : List β} {i : Nat} {y : β}, Paired R xs ys → ys[i]? = some y → ∃ x, xs[i]? = some x ∧ R x y
  | _, _, _, _, .nil, e => by simp at e
  | _, _, 0, _, .cons r _, e => by simp at e; subst e; exact ⟨_, rfl, r⟩
  | _, _, i + 1, _, .cons _ t, e => by
    obtain ⟨y, h1, h2⟩ := pget' (i := i) t (by simpa using e)
    exact ⟨y, by simpa using h1, h2⟩
theorem papp {α β : Type} {R : α → β → Prop} : ∀ {xs : List α} {ys : List β} {xs' : List α} {ys' : List β}, Paired R xs ys → Paired R xs' ys' → Paired R (xs ++ xs') (ys ++ ys')
  | _, _, _, _, .nil, h => h
  | _, _, _, _, .cons r t, h => .cons r (papp t h)
theorem pone {α β : Type} {R : α → β → Prop} {x : α} {y : β} (h : R x y) : Paired R [x] [y] := .cons h .nil
theorem prev {α β : Type} {R : α → β → Prop} : ∀ {xs : List α} {ys : List β}, Paired R xs ys → Paired R xs.reverse ys.reverse
  | _, _, .nil => .nil
  | _, _, .cons r t => by
    rw [List.reverse_cons, List.reverse_cons]
    exact papp (prev t) (pone r)
end Cn
/-! The head: what stands behind the top, by names; the run; the law. -/
namespace Cn
open PySem PySem.Spec PyProof.Rows L2
def inClass : Stmt → Nat → Stmt
  | .ClassDef _ _ _ body .., i => body.getD i (.Pass ⟨0, 0, 0, 0⟩)
  | s, _ => s
def loose0 : List Str := ["WrongValue", "InvalidText", "InvalidAmount", "InvalidNumber", "NotALot", "InvalidCoins", "InvalidPayment", "NotPossible", "TooMany", "NoEnd", "Missed", "MOST_COIN", "MOST_COINS", "MOST_AMOUNT", "MOST_SMALL", "MOST_LISTED", "MOST_PERIOD", "MOST_WAYS", "DIGITS", "is_integer", "is_within_bounds", "check_within", "check_amount", "check_small", "number_told", "common_divisor", "common_multiple", "MOST_DIGITS", "first_wrong", "are_coins"]
def loose1 : List Str := ["coins_told", "text_of", "Lot", "check_lot", "least_table", "is_paid_by", "is_paid", "sum_of", "first_wrong_often", "check_often", "check_payment", "with_coin", "count_table", "tail_tables", "listed_from", "payment_list", "payment_with", "place_among", "first_of", "last_of", "period_of", "chosen", "short_counts", "great_count_of", "count_payments", "payments", "nth_payment", "place_of", "check_paid", "first_payment"]
def loose2 : List Str := ["last_payment", "great_count", "least_lengths", "most_lengths", "eased", "least_costs", "least_losses", "least_gains", "least_bound", "most_bound", "least_length", "most_length", "least", "most", "lengths", "losses", "gains", "ways_tables", "certify_ways", "MOST_TOLD_SUM", "most_often", "bound_for", "capped_table", "few_list", "check_two_coins", "few_sums", "check_told_payment", "other_of", "is_single", "_law_pot"]
def loose3 : List Str := ["_law_draw", "_law_drawn_lot", "_law_shared", "_law_gathered", "_law_period", "_law_counts_right", "_law_places_right", "_law_lengths_right", "_law_right"]
def loose : List Str := loose0 ++ loose1 ++ loose2 ++ loose3
def fa0 : List He.Fa := [.glo "is_integer",
  .glo "is_within_bounds",
  .glo "check_within",
  .glo "check_amount",
  .glo "check_small",
  .glo "common_divisor",
  .glo "common_multiple",
  .glo "first_wrong",
  .glo "check_lot",
  .glo "least_table",
  .glo "is_paid_by",
  .glo "is_paid",
  .glo "sum_of",
  .glo "first_wrong_often",
  .glo "check_often",
  .glo "check_payment",
  .glo "with_coin",
  .glo "count_table",
  .glo "tail_tables",
  .glo "listed_from",
  .glo "payment_list",
  .glo "payment_with",
  .glo "place_among",
  .glo "first_of",
  .glo "last_of",
  .glo "period_of",
  .glo "chosen",
  .glo "short_counts",
  .glo "great_count_of",
  .glo "count_payments"]
def fa1 : List He.Fa := [.glo "payments",
  .glo "nth_payment",
  .glo "place_of",
  .glo "check_paid",
  .glo "first_payment",
  .glo "last_payment",
  .glo "great_count",
  .glo "least_lengths",
  .glo "most_lengths",
  .glo "eased",
  .glo "least_costs",
  .glo "least_losses",
  .glo "least_gains",
  .glo "least_bound",
  .glo "most_bound",
  .glo "least_length",
  .glo "most_length",
  .glo "least",
  .glo "most",
  .glo "losses",
  .glo "gains",
  .glo "lengths",
  .glo "text_of",
  .glo "ways_tables",
  .glo "certify_ways",
  .glo "most_often",
  .glo "bound_for",
  .glo "capped_table",
  .glo "few_list",
  .glo "check_two_coins"]
def fa2 : List He.Fa := [.glo "few_sums",
  .glo "check_told_payment",
  .glo "other_of",
  .glo "is_single",
  .glo "_law_pot",
  .glo "_law_draw",
  .glo "_law_drawn_lot",
  .glo "_law_shared",
  .glo "_law_period",
  .glo "_law_gathered",
  .glo "_law_counts_right",
  .glo "_law_places_right",
  .glo "_law_lengths_right",
  .glo "_law_right",
  .glo "law",
  .free "isinstance",
  .free "int",
  .free "bool",
  .free "tuple",
  .free "list",
  .free "set",
  .free "str",
  .free "len",
  .free "range",
  .free "enumerate",
  .free "zip",
  .free "sum",
  .free "min",
  .free "max",
  .free "divmod"]
def fa3 : List He.Fa := [.free "sorted",
  .free "abs",
  .free "all",
  .int "MOST_COIN" 60,
  .int "MOST_COINS" 15,
  .int "MOST_AMOUNT" (10 ^ 30),
  .int "MOST_SMALL" 400,
  .int "MOST_LISTED" 400,
  .int "MOST_PERIOD" 2520,
  .int "MOST_WAYS" 4,
  .int "MOST_TOLD_SUM" 4000,
  .glo "Lot",
  .cls "Lot",
  .noat "Lot" "kinds",
  .mkr "Lot"]
def fa : List He.Fa := fa0 ++ fa1 ++ fa2 ++ fa3
def fn0 : List He5.DefA := [⟨fun K => He.ga K "is_integer", "is_integer", "is_integer", defArgs (topS 21), defBody (topS 21), defScope (topS 21), [], []⟩,
  ⟨fun K => He.ga K "is_within_bounds", "is_within_bounds", "is_within_bounds", defArgs (topS 22), defBody (topS 22), defScope (topS 22), [], []⟩,
  ⟨fun K => He.ga K "check_within", "check_within", "check_within", defArgs (topS 23), defBody (topS 23), defScope (topS 23), [], []⟩,
  ⟨fun K => He.ga K "check_amount", "check_amount", "check_amount", defArgs (topS 24), defBody (topS 24), defScope (topS 24), [], []⟩,
  ⟨fun K => He.ga K "check_small", "check_small", "check_small", defArgs (topS 25), defBody (topS 25), defScope (topS 25), [], []⟩,
  ⟨fun K => He.ga K "common_divisor", "common_divisor", "common_divisor", defArgs (topS 27), defBody (topS 27), defScope (topS 27), [], []⟩,
  ⟨fun K => He.ga K "common_multiple", "common_multiple", "common_multiple", defArgs (topS 28), defBody (topS 28), defScope (topS 28), [], []⟩,
  ⟨fun K => He.ga K "first_wrong", "first_wrong", "first_wrong", defArgs (topS 31), defBody (topS 31), defScope (topS 31), [], []⟩,
  ⟨fun K => He.ga K "check_lot", "check_lot", "check_lot", defArgs (topS 36), defBody (topS 36), defScope (topS 36), [], []⟩,
  ⟨fun K => He.ga K "least_table", "least_table", "least_table", defArgs (topS 37), defBody (topS 37), defScope (topS 37), [], []⟩,
  ⟨fun K => He.ga K "is_paid_by", "is_paid_by", "is_paid_by", defArgs (topS 38), defBody (topS 38), defScope (topS 38), [], []⟩,
  ⟨fun K => He.ga K "is_paid", "is_paid", "is_paid", defArgs (topS 39), defBody (topS 39), defScope (topS 39), [], []⟩,
  ⟨fun K => He.ga K "sum_of", "sum_of", "sum_of", defArgs (topS 41), defBody (topS 41), defScope (topS 41), [], []⟩,
  ⟨fun K => He.ga K "first_wrong_often", "first_wrong_often", "first_wrong_often", defArgs (topS 42), defBody (topS 42), defScope (topS 42), [], []⟩,
  ⟨fun K => He.ga K "check_often", "check_often", "check_often", defArgs (topS 43), defBody (topS 43), defScope (topS 43), [], []⟩,
  ⟨fun K => He.ga K "check_payment", "check_payment", "check_payment", defArgs (topS 44), defBody (topS 44), defScope (topS 44), [], []⟩,
  ⟨fun K => He.ga K "with_coin", "with_coin", "with_coin", defArgs (topS 45), defBody (topS 45), defScope (topS 45), [], []⟩,
  ⟨fun K => He.ga K "count_table", "count_table", "count_table", defArgs (topS 46), defBody (topS 46), defScope (topS 46), [], []⟩,
  ⟨fun K => He.ga K "tail_tables", "tail_tables", "tail_tables", defArgs (topS 47), defBody (topS 47), defScope (topS 47), [], []⟩,
  ⟨fun K => He.ga K "listed_from", "listed_from", "listed_from", defArgs (topS 48), defBody (topS 48), defScope (topS 48), [], []⟩,
  ⟨fun K => He.ga K "payment_list", "payment_list", "payment_list", defArgs (topS 49), defBody (topS 49), defScope (topS 49), [], []⟩,
  ⟨fun K => He.ga K "payment_with", "payment_with", "payment_with", defArgs (topS 50), defBody (topS 50), defScope (topS 50), [], []⟩,
  ⟨fun K => He.ga K "place_among", "place_among", "place_among", defArgs (topS 51), defBody (topS 51), defScope (topS 51), [], []⟩,
  ⟨fun K => He.ga K "first_of", "first_of", "first_of", defArgs (topS 52), defBody (topS 52), defScope (topS 52), [], []⟩,
  ⟨fun K => He.ga K "last_of", "last_of", "last_of", defArgs (topS 53), defBody (topS 53), defScope (topS 53), [], []⟩,
  ⟨fun K => He.ga K "period_of", "period_of", "period_of", defArgs (topS 54), defBody (topS 54), defScope (topS 54), [], []⟩,
  ⟨fun K => He.ga K "chosen", "chosen", "chosen", defArgs (topS 55), defBody (topS 55), defScope (topS 55), [], []⟩,
  ⟨fun K => He.ga K "short_counts", "short_counts", "short_counts", defArgs (topS 56), defBody (topS 56), defScope (topS 56), [], []⟩,
  ⟨fun K => He.ga K "great_count_of", "great_count_of", "great_count_of", defArgs (topS 57), defBody (topS 57), defScope (topS 57), [], []⟩,
  ⟨fun K => He.ga K "count_payments", "count_payments", "count_payments", defArgs (topS 58), defBody (topS 58), defScope (topS 58), [], []⟩]
def fn1 : List He5.DefA := [⟨fun K => He.ga K "payments", "payments", "payments", defArgs (topS 59), defBody (topS 59), defScope (topS 59), [], []⟩,
  ⟨fun K => He.ga K "nth_payment", "nth_payment", "nth_payment", defArgs (topS 60), defBody (topS 60), defScope (topS 60), [], []⟩,
  ⟨fun K => He.ga K "place_of", "place_of", "place_of", defArgs (topS 61), defBody (topS 61), defScope (topS 61), [], []⟩,
  ⟨fun K => He.ga K "check_paid", "check_paid", "check_paid", defArgs (topS 62), defBody (topS 62), defScope (topS 62), [], []⟩,
  ⟨fun K => He.ga K "first_payment", "first_payment", "first_payment", defArgs (topS 63), defBody (topS 63), defScope (topS 63), [], []⟩,
  ⟨fun K => He.ga K "last_payment", "last_payment", "last_payment", defArgs (topS 64), defBody (topS 64), defScope (topS 64), [], []⟩,
  ⟨fun K => He.ga K "great_count", "great_count", "great_count", defArgs (topS 65), defBody (topS 65), defScope (topS 65), [], []⟩,
  ⟨fun K => He.ga K "least_lengths", "least_lengths", "least_lengths", defArgs (topS 67), defBody (topS 67), defScope (topS 67), [], []⟩,
  ⟨fun K => He.ga K "most_lengths", "most_lengths", "most_lengths", defArgs (topS 68), defBody (topS 68), defScope (topS 68), [], []⟩,
  ⟨fun K => He.ga K "eased", "eased", "eased", defArgs (topS 69), defBody (topS 69), defScope (topS 69), [], []⟩,
  ⟨fun K => He.ga K "least_costs", "least_costs", "least_costs", defArgs (topS 70), defBody (topS 70), defScope (topS 70), [], []⟩,
  ⟨fun K => He.ga K "least_losses", "least_losses", "least_losses", defArgs (topS 71), defBody (topS 71), defScope (topS 71), [], []⟩,
  ⟨fun K => He.ga K "least_gains", "least_gains", "least_gains", defArgs (topS 72), defBody (topS 72), defScope (topS 72), [], []⟩,
  ⟨fun K => He.ga K "least_bound", "least_bound", "least_bound", defArgs (topS 73), defBody (topS 73), defScope (topS 73), [], []⟩,
  ⟨fun K => He.ga K "most_bound", "most_bound", "most_bound", defArgs (topS 74), defBody (topS 74), defScope (topS 74), [], []⟩,
  ⟨fun K => He.ga K "least_length", "least_length", "least_length", defArgs (topS 75), defBody (topS 75), defScope (topS 75), [], []⟩,
  ⟨fun K => He.ga K "most_length", "most_length", "most_length", defArgs (topS 76), defBody (topS 76), defScope (topS 76), [], []⟩,
  ⟨fun K => He.ga K "least", "least", "least", defArgs (topS 77), defBody (topS 77), defScope (topS 77), [], []⟩,
  ⟨fun K => He.ga K "most", "most", "most", defArgs (topS 78), defBody (topS 78), defScope (topS 78), [], []⟩,
  ⟨fun K => He.ga K "losses", "losses", "losses", defArgs (topS 80), defBody (topS 80), defScope (topS 80), [], []⟩,
  ⟨fun K => He.ga K "gains", "gains", "gains", defArgs (topS 81), defBody (topS 81), defScope (topS 81), [], []⟩,
  ⟨fun K => He.ga K "lengths", "lengths", "lengths", defArgs (topS 79), defBody (topS 79), defScope (topS 79), [], []⟩,
  ⟨fun K => He.ga K "text_of", "text_of", "text_of", defArgs (topS 34), defBody (topS 34), defScope (topS 34), [], []⟩,
  ⟨fun K => He.ga K "ways_tables", "ways_tables", "ways_tables", defArgs (topS 83), defBody (topS 83), defScope (topS 83), [], []⟩,
  ⟨fun K => He.ga K "certify_ways", "certify_ways", "certify_ways", defArgs (topS 85), defBody (topS 85), defScope (topS 85), [], []⟩,
  ⟨fun K => He.ga K "most_often", "most_often", "most_often", defArgs (topS 88), defBody (topS 88), defScope (topS 88), [], []⟩,
  ⟨fun K => He.ga K "bound_for", "bound_for", "bound_for", defArgs (topS 89), defBody (topS 89), defScope (topS 89), [], []⟩,
  ⟨fun K => He.ga K "capped_table", "capped_table", "capped_table", defArgs (topS 90), defBody (topS 90), defScope (topS 90), [], []⟩,
  ⟨fun K => He.ga K "few_list", "few_list", "few_list", defArgs (topS 91), defBody (topS 91), defScope (topS 91), [], []⟩,
  ⟨fun K => He.ga K "check_two_coins", "check_two_coins", "check_two_coins", defArgs (topS 92), defBody (topS 92), defScope (topS 92), [], []⟩]
def fn2 : List He5.DefA := [⟨fun K => He.ga K "few_sums", "few_sums", "few_sums", defArgs (topS 93), defBody (topS 93), defScope (topS 93), [], []⟩,
  ⟨fun K => He.ga K "check_told_payment", "check_told_payment", "check_told_payment", defArgs (topS 94), defBody (topS 94), defScope (topS 94), [], []⟩,
  ⟨fun K => He.ga K "other_of", "other_of", "other_of", defArgs (topS 95), defBody (topS 95), defScope (topS 95), [], []⟩,
  ⟨fun K => He.ga K "is_single", "is_single", "is_single", defArgs (topS 96), defBody (topS 96), defScope (topS 96), [], []⟩,
  ⟨fun K => He.ga K "_law_pot", "_law_pot", "_law_pot", defArgs (topS 98), defBody (topS 98), defScope (topS 98), [], []⟩,
  ⟨fun K => He.ga K "_law_draw", "_law_draw", "_law_draw", defArgs (topS 99), defBody (topS 99), defScope (topS 99), [], []⟩,
  ⟨fun K => He.ga K "_law_drawn_lot", "_law_drawn_lot", "_law_drawn_lot", defArgs (topS 100), defBody (topS 100), defScope (topS 100), [], []⟩,
  ⟨fun K => He.ga K "_law_shared", "_law_shared", "_law_shared", defArgs (topS 101), defBody (topS 101), defScope (topS 101), [], []⟩,
  ⟨fun K => He.ga K "_law_period", "_law_period", "_law_period", defArgs (topS 103), defBody (topS 103), defScope (topS 103), [], []⟩,
  ⟨fun K => He.ga K "_law_gathered", "_law_gathered", "_law_gathered", defArgs (topS 102), defBody (topS 102), defScope (topS 102), [], []⟩,
  ⟨fun K => He.ga K "_law_counts_right", "_law_counts_right", "_law_counts_right", defArgs (topS 104), defBody (topS 104), defScope (topS 104), [], []⟩,
  ⟨fun K => He.ga K "_law_places_right", "_law_places_right", "_law_places_right", defArgs (topS 105), defBody (topS 105), defScope (topS 105), [], []⟩,
  ⟨fun K => He.ga K "_law_lengths_right", "_law_lengths_right", "_law_lengths_right", defArgs (topS 106), defBody (topS 106), defScope (topS 106), [], []⟩,
  ⟨fun K => He.ga K "_law_right", "_law_right", "_law_right", defArgs (topS 107), defBody (topS 107), defScope (topS 107), [], []⟩,
  ⟨fun K => He.ga K "law", "law", "law", defArgs (topS 108), defBody (topS 108), defScope (topS 108), [], []⟩,
  ⟨fun K => He.ma K (He.ga K "Lot") "__init__", "__init__", "Lot.__init__", defArgs (inClass (topS 35) 0), defBody (inClass (topS 35) 0), defScope (inClass (topS 35) 0), [], []⟩,
  ⟨fun K => He5.wf K (He.ga K "Lot") "property" "coins", "coins", "Lot.coins", defArgs (inClass (topS 35) 2), defBody (inClass (topS 35) 2), defScope (inClass (topS 35) 2), [], []⟩]
def fn : List He5.DefA := fn0 ++ fn1 ++ fn2
def pC (K : PySem.W.Frag) : Addr := He.ma K (He.ga K "Lot") "coins"
/-- what is looked at of the class, beyond the facts by names -/
def ex (K : PySem.W.Frag) : Bool := He.eqO (PySem.W.findIn K (.ref (He.ga K "Lot")) "__class__") (some (some (.builtin "object.__class__"))) &&
  (He.eqO (PySem.W.specialIn K (.builtin "object.__class__") "__get__") (some (some (.builtin "getset_descriptor.__get__"))) && (decide (PySem.W.takesIn K (.builtin "object.__class__") = some true) &&
  (decide (PySem.W.mroIn K (He.ga K "Lot") (.type "object") = some true) && (decide (PySem.W.kitOne K (.ref (He.ga K "Lot")) (.ref (He.ga K "Lot")) = some true) &&
  (He.eqO (PySem.W.findIn K (.ref (He.ga K "Lot")) "coins") (some (some (.ref (pC K)))) && (He.eqO (PySem.W.specialIn K (.ref (pC K)) "__get__") (some (some (.builtin "property.__get__"))) &&
  (decide (PySem.W.takesIn K (.ref (pC K)) = some true) && (match PySem.W.recIn K (pC K) "property" with
    | some (.ref _ :: _) => true
    | _ => false))))))))
/-! ### what is looked at behind the top -/
def obsK (K : PySem.W.Frag) : He.AlD := ((fa.all fun f => f.ok K) && ((fn.all fun d => d.ok K) && ex K), fn.map fun d => He5.fnA K (d.at_ K))
def valK : He.AlD := (true, fn.map He5.DefA.val)
def SaysK (K : PySem.W.Frag) : Prop := obsK K = valK
/-- what the objects at these addresses name -/
def refsL (g : Addr → Option Obj) (as : List Addr) : List Addr := as.flatMap fun a => match g a with
  | some o => He.refsD o
  | none => []
def dicts (g : Addr → Option Obj) (as : List Addr) : List Addr := as.filter fun a => match g a with
  | some ⟨_, _, .dict _ _, _⟩ => true
  | _ => false
def funcs (g : Addr → Option Obj) (as : List Addr) : List Addr := as.filter fun a => match g a with
  | some ⟨_, _, .func _, _⟩ => true
  | _ => false
def reach2 (g : Addr → Option Obj) (l1 l2 l3 : List Addr) : List Addr := mainGlobals :: (l1 ++ (l2 ++ (l3 ++ (refsL g l3 ++ refsL g (funcs g (refsL g l3))))))
def reach1 (g : Addr → Option Obj) (l1 l2 : List Addr) : List Addr := reach2 g l1 l2 (refsL g (dicts g l2))
def reach0 (g : Addr → Option Obj) (l1 : List Addr) : List Addr := reach1 g l1 (refsL g l1)
def reach (g : Addr → Option Obj) : List Addr := reach0 g (refsL g [mainGlobals])
def obsKG (g : Addr → Option Obj) : He.AlD := obsK (He.frG g (reach g))
def hk : PySem.W.Hook where
  α := He.AlD
  obs := fun s => obsKG s.heap.get?
  val := fun _ => valK
  says := fun _ h => ∃ K : PySem.W.Frag, K.In h ∧ SaysK K
  of := fun _ _ e => ⟨_, He.frG_in, e⟩
  keeps := fun _ _ _ ⟨K, hK, c⟩ k => ⟨K, PySem.W.Frag.In.keeps hK k, c⟩
abbrev R : PySem.W.OpenRow := PySem.W.OpenLaw.row PySem.Challenge.rw_mintlots_k92_whole_ways_of_counting_meet
def ob (s : PySem.W.SharedT) : He.AlD := obsKG (HandSHeadRun.getT s)
theorem ob_eq (s : PySem.W.SharedT) : ob s = hk.obs s.abs := by
  show obsKG (HandSHeadRun.getT s) = obsKG s.abs.heap.get?
  rw [show HandSHeadRun.getT s = s.abs.heap.get? from funext (HandSHeadRun.getT_eq s)]
theorem run (w : World) : HandSHeadRun.RunEq R (PySem.W.view R.prog [108]) hk ob 6000 loose w := by
  intro os
  kernel_rfl
end Cn
/-! payments, counted and listed: plain mathematics -/
namespace Mp
/-- all payments of a sum by some coins, ascending -/
def pays : List Nat → Nat → List (List Nat)
  | [], t => if t = 0 then [[]] else []
  | c :: cs, t => (List.range (t / c + 1)).flatMap fun k => (pays cs (t - k * c)).map (k :: ·)
def cnt (cs : List Nat) (t : Nat) : Nat := (pays cs t).length
def val : List Nat → List Nat → Nat
  | c :: cs, k :: ks => c * k + val cs ks
  | _, _ => 0
theorem cnt_nil (t : Nat) : cnt [] t = if t = 0 then 1 else 0 := by
  unfold cnt pays
  split <;> rfl
theorem len_fm {α β : Type} (f : α → List β) : ∀ l : List α, (l.flatMap f).length = (l.map fun a => (f a).length).sum := fun l => by
  rw [List.length_flatMap]
/-- the greedy recursion on the first coin -/
theorem cnt_cons {c : Nat} (hc : 0 < c) (cs : List Nat) (t : Nat) : cnt (c :: cs) t = cnt cs t + if c ≤ t then cnt (c :: cs) (t - c) else 0 := by
  unfold cnt
  simp only [pays, len_fm, List.length_map]
  rw [List.range_succ_eq_map, List.map_cons, List.sum_cons, List.map_map, Nat.zero_mul, Nat.sub_zero]
  congr 1
  split
  · rename_i h
    have e : t / c = (t - c) / c + 1 := by
      rw [Nat.div_eq_sub_div hc h]
    rw [e]
    congr 1
    apply List.map_congr_left
    intro k _
    show (pays cs (t - (k + 1) * c)).length = (pays cs (t - c - k * c)).length
    congr 2
    rw [Nat.add_mul]
    omega
  · rename_i h
    rw [Nat.div_eq_of_lt (by omega)]
    rfl
theorem mem_pays : ∀ {cs : List Nat} {t : Nat} {p : List Nat}, (∀ c ∈ cs, 0 < c) → (p ∈ pays cs t ↔ p.length = cs.length ∧ val cs p = t)
  | [], t, p, _ => by
    unfold pays
    split
    · rename_i h
      subst h
      simp only [List.mem_singleton]
      constructor
      · intro e
        subst e
        exact ⟨rfl, rfl⟩
      · intro ⟨e, _⟩
        exact List.eq_nil_of_length_eq_zero e
    · rename_i h
      simp only [List.not_mem_nil, false_iff]
      intro ⟨e, q⟩
      have e := List.eq_nil_of_length_eq_zero e
      subst e
      exact h q.symm
  | c :: cs, t, p, hp => by
    have hc : 0 < c := hp c List.mem_cons_self
    have ih := fun (u : Nat) (q : List Nat) => mem_pays (cs := cs) (t := u) (p := q) fun d hd => hp d (List.mem_cons_of_mem _ hd)
    simp only [pays, List.mem_flatMap, List.mem_range, List.mem_map]
    constructor
    · rintro ⟨k, hk, q, hq, rfl⟩
      obtain ⟨h1, h2⟩ := (ih _ _).mp hq
      have h3 : k * c ≤ t := by
        have := Nat.div_mul_le_self t c
        have h4 : k * c ≤ t / c * c := Nat.mul_le_mul_right c (by omega)
        omega
      refine ⟨by simp [h1], ?_⟩
      show c * k + val cs q = t
      rw [h2, Nat.mul_comm]
      omega
    · rintro ⟨h1, h2⟩
      cases p with
      | nil => simp at h1
      | cons k q =>
        have h2' : c * k + val cs q = t := h2
        refine ⟨k, ?_, q, (ih _ _).mpr ⟨by simpa using h1, ?_⟩, rfl⟩
        · have : k ≤ t / c := (Nat.le_div_iff_mul_le hc).mpr (by rw [Nat.mul_comm]; omega)
          omega
        · rw [Nat.mul_comm k c]
          omega
/-- ascending, as tuples are compared -/
def lt : List Nat → List Nat → Prop
  | [], [] => False
  | [], _ :: _ => True
  | _ :: _, [] => False
  | a :: as, b :: bs => a < b ∨ (a = b ∧ lt as bs)
theorem lt_irrefl : ∀ a : List Nat, ¬ lt a a
  | [], h => h
  | a :: as, h => by
    rcases h with h | ⟨_, h⟩
    · omega
    · exact lt_irrefl as h
theorem lt_asymm : ∀ {a b : List Nat}, lt a b → ¬ lt b a
  | [], [], h, _ => h
  | [], _ :: _, _, h => h
  | _ :: _, [], h, _ => h
  | a :: as, b :: bs, h, h' => by
    rcases h with h | ⟨e, h⟩ <;> rcases h' with h' | ⟨e', h'⟩
    · omega
    · omega
    · omega
    · exact lt_asymm h h'
theorem pays_sorted : ∀ (cs : List Nat) (t : Nat), (pays cs t).Pairwise lt
  | [], t => by
    unfold pays
    split
    · exact List.pairwise_singleton _ _
    · exact List.Pairwise.nil
  | c :: cs, t => by
    simp only [pays]
    rw [List.pairwise_flatMap]
    refine ⟨fun k _ => ?_, ?_⟩
    · rw [List.pairwise_map]
      exact (pays_sorted cs _).imp fun h => .inr ⟨rfl, h⟩
    · refine List.pairwise_lt_range.imp fun {k l} h x hx y hy => ?_
      obtain ⟨q, _, rfl⟩ := List.mem_map.mp hx
      obtain ⟨r, _, rfl⟩ := List.mem_map.mp hy
      exact .inl h
theorem pays_nodup (cs : List Nat) (t : Nat) : (pays cs t).Nodup := (pays_sorted cs t).imp fun {a b} h e => by
  subst e
  exact lt_irrefl _ h

/-! ### tables -/
/-- a coin more, at the end: f with it -/
def addc (c : Nat) (f : Nat → Nat) (t : Nat) : Nat := if h : c ≤ t ∧ 0 < c then f t + addc c f (t - c) else f t
termination_by t
decreasing_by omega
theorem addc_lt {c : Nat} {f : Nat → Nat} {t : Nat} (h : t < c) : addc c f t = f t := by
  rw [addc]
  rw [dif_neg (by omega)]
theorem addc_ge {c : Nat} {f : Nat → Nat} {t : Nat} (hc : 0 < c) (h : c ≤ t) : addc c f t = f t + addc c f (t - c) := by
  rw [addc]
  rw [dif_pos ⟨h, hc⟩]
theorem addc_no {c : Nat} {f : Nat → Nat} {t : Nat} (h : ¬ (c ≤ t ∧ 0 < c)) : addc c f t = f t := by
  rw [addc]
  rw [dif_neg h]
theorem addc_congr {c : Nat} {f g : Nat → Nat} : ∀ (t : Nat), (∀ s, s ≤ t → f s = g s) → addc c f t = addc c g t := by
  intro t
  induction t using Nat.strongRecOn with
  | _ t ih =>
    intro h
    by_cases hh : c ≤ t ∧ 0 < c
    · rw [addc_ge hh.2 hh.1, addc_ge hh.2 hh.1, h t (Nat.le_refl _), ih (t - c) (by omega) fun s hs => h s (by omega)]
    · rw [addc_no hh, addc_no hh]
      exact h t (Nat.le_refl _)
theorem cnt_addc {c : Nat} (hc : 0 < c) (cs : List Nat) : ∀ t, cnt (c :: cs) t = addc c (cnt cs) t := by
  intro t
  induction t using Nat.strongRecOn with
  | _ t ih =>
    rw [cnt_cons hc]
    by_cases h : c ≤ t
    · rw [if_pos h, addc_ge hc h, ih (t - c) (by omega)]
    · rw [if_neg h, addc_lt (by omega), Nat.add_zero]
/-- by the sums of f and the shift -/
theorem addc_add {c : Nat} {f g : Nat → Nat} : ∀ t, addc c (fun s => f s + g s) t = addc c f t + addc c g t := by
  intro t
  induction t using Nat.strongRecOn with
  | _ t ih =>
    by_cases h : c ≤ t ∧ 0 < c
    · rw [addc_ge h.2 h.1, addc_ge h.2 h.1, addc_ge h.2 h.1, ih (t - c) (by omega)]
      omega
    · rw [addc_no h, addc_no h, addc_no h]
def shift (d : Nat) (h : Nat → Nat) (t : Nat) : Nat := if d ≤ t then h (t - d) else 0
theorem addc_shift {c d : Nat} (h : Nat → Nat) : ∀ t, addc c (shift d h) t = shift d (addc c h) t := by
  intro t
  induction t using Nat.strongRecOn with
  | _ t ih =>
    by_cases hc : c ≤ t ∧ 0 < c
    · rw [addc_ge hc.2 hc.1, ih (t - c) (by omega)]
      unfold shift
      by_cases hd : d ≤ t
      · rw [if_pos hd, if_pos hd]
        by_cases hd2 : d ≤ t - c
        · rw [if_pos hd2, addc_ge (t := t - d) hc.2 (by omega), show t - c - d = t - d - c by omega]
        · rw [if_neg hd2, addc_lt (t := t - d) (by omega), Nat.add_zero]
      · rw [if_neg hd, if_neg hd, if_neg (by omega)]
    · rw [addc_no hc]
      unfold shift
      split
      · rw [addc_no (by omega)]
      · rfl
theorem addc_comm {c d : Nat} (hc : 0 < c) (hd : 0 < d) (f : Nat → Nat) : ∀ t, addc c (addc d f) t = addc d (addc c f) t := by
  intro t
  induction t using Nat.strongRecOn with
  | _ t ih =>
    have e1 : addc c (addc d f) t = addc d f t + shift c (addc c (addc d f)) t := by
      unfold shift
      by_cases h : c ≤ t
      · rw [addc_ge hc h, if_pos h]
      · rw [addc_lt (by omega), if_neg h, Nat.add_zero]
    have e2 : addc d (addc c f) t = addc d (fun s => f s + shift c (addc c f) s) t := by
      refine addc_congr t fun s _ => ?_
      unfold shift
      by_cases h : c ≤ s
      · rw [addc_ge hc h, if_pos h]
      · rw [addc_lt (by omega), if_neg h, Nat.add_zero]
    rw [e1, e2, addc_add, addc_shift]
    congr 1
    unfold shift
    by_cases h : c ≤ t
    · rw [if_pos h, if_pos h, ih (t - c) (by omega)]
    · rw [if_neg h, if_neg h]
/-- coins put in from the first to the last -/
def fromFirst (cs : List Nat) : Nat → Nat := cs.foldl (fun f c => addc c f) (cnt [])
theorem foldl_addc {c : Nat} (hc : 0 < c) : ∀ (cs : List Nat) (f : Nat → Nat), (∀ d ∈ cs, 0 < d) → ∀ t, cs.foldl (fun f c => addc c f) (addc c f) t = addc c (cs.foldl (fun f c => addc c f) f) t
  | [], f, _, t => rfl
  | d :: cs, f, h, t => by
    have hd : 0 < d := h d List.mem_cons_self
    have e : addc d (addc c f) = addc c (addc d f) := funext fun s => addc_comm hd hc f s
    show cs.foldl (fun f c => addc c f) (addc d (addc c f)) t = _
    rw [e]
    exact foldl_addc hc cs (addc d f) (fun x hx => h x (List.mem_cons_of_mem _ hx)) t
theorem fromFirst_cnt : ∀ (cs : List Nat), (∀ c ∈ cs, 0 < c) → ∀ t, fromFirst cs t = cnt cs t
  | [], _, t => rfl
  | c :: cs, h, t => by
    have hc : 0 < c := h c List.mem_cons_self
    show cs.foldl (fun f c => addc c f) (addc c (cnt [])) t = _
    rw [foldl_addc hc cs _ (fun d hd => h d (List.mem_cons_of_mem _ hd)), cnt_addc hc]
    exact addc_congr t fun s _ => fromFirst_cnt cs (fun d hd => h d (List.mem_cons_of_mem _ hd)) s
end Mp
/-! The mirror of what is reckoned by rests: plain functions. -/
namespace Mp
abbrev OT := List (Option Nat)
/-- one step from a rest to the next -/
def est (m step cost : Nat) (tr : OT × Nat) : OT × Nat :=
  (match tr.1.getD tr.2 none with
   | none => tr.1
   | some v => match tr.1.getD ((tr.2 + step) % m) none with
     | none => tr.1.set ((tr.2 + step) % m) (some (v + cost))
     | some w => if v + cost < w then tr.1.set ((tr.2 + step) % m) (some (v + cost)) else tr.1, (tr.2 + step) % m)
def estN (m step cost : Nat) : Nat → OT × Nat → OT × Nat
  | 0, x => x
  | n + 1, x => est m step cost (estN m step cost n x)
def easeN (m step cost k : Nat) : Nat → OT → OT
  | 0, t => t
  | n + 1, t => (estN m step cost k (easeN m step cost k n t, n)).1
/-- all rounds of a step -/
def ease (m step cost : Nat) (t : OT) : OT := easeN m step cost (2 * (m / Nat.gcd step m)) (Nat.gcd step m) t
def start (m : Nat) : OT := some 0 :: List.replicate (m - 1) none
def leastTab (cs : List Nat) (m : Nat) : OT := cs.foldl (fun t c => ease m c c t) (start m)
def isPaid (cs : List Nat) (t : Nat) : Bool := match (leastTab cs (cs.getD 0 0)).getD (t % cs.getD 0 0) none with
  | none => false
  | some v => decide (v ≤ t)
theorem est_len (m step cost : Nat) (x : OT × Nat) : (est m step cost x).1.length = x.1.length := by
  unfold est
  dsimp only
  split
  · rfl
  · split
    · rw [List.length_set]
    · split
      · rw [List.length_set]
      · rfl
theorem estN_len (m step cost : Nat) : ∀ (n : Nat) (x : OT × Nat), (estN m step cost n x).1.length = x.1.length
  | 0, x => rfl
  | n + 1, x => by
    show (est m step cost (estN m step cost n x)).1.length = _
    rw [est_len, estN_len m step cost n x]
theorem est_lt {m step cost : Nat} (hm : 0 < m) (x : OT × Nat) : (est m step cost x).2 < m := Nat.mod_lt _ hm
theorem estN_lt {m step cost : Nat} (hm : 0 < m) : ∀ (n : Nat) (x : OT × Nat), x.2 < m → (estN m step cost n x).2 < m
  | 0, x, h => h
  | n + 1, x, _ => est_lt hm _
theorem easeN_len (m step cost k : Nat) : ∀ (n : Nat) (t : OT), (easeN m step cost k n t).length = t.length
  | 0, t => rfl
  | n + 1, t => by
    show (estN m step cost k (easeN m step cost k n t, n)).1.length = _
    rw [estN_len]
    exact easeN_len m step cost k n t
theorem ease_len (m step cost : Nat) (t : OT) : (ease m step cost t).length = t.length := easeN_len ..
theorem start_len {m : Nat} (hm : 0 < m) : (start m).length = m := by
  unfold start
  rw [List.length_cons, List.length_replicate]
  omega
theorem foldl_ease_len {α : Type} (m : Nat) (f g : α → Nat) : ∀ (l : List α) (t : OT), (l.foldl (fun t c => ease m (f c) (g c) t) t).length = t.length
  | [], t => rfl
  | c :: l, t => by
    show (l.foldl (fun t c => ease m (f c) (g c) t) (ease m (f c) (g c) t)).length = _
    rw [foldl_ease_len m f g l, ease_len]
theorem leastTab_len (cs : List Nat) {m : Nat} (hm : 0 < m) : (leastTab cs m).length = m := by
  unfold leastTab
  rw [foldl_ease_len m (fun c => c) (fun c => c), start_len hm]
theorem foldl_take {α β : Type} (f : β → α → β) (b : β) {l : List α} {i : Nat} {x : α} (h : l[i]? = some x) : (l.take (i + 1)).foldl f b = f ((l.take i).foldl f b) x := by
  rw [List.take_add_one, h, List.foldl_append]
  rfl
/-- a list, it without its first, and so on, down to none -/
def sufs : List Nat → List (List Nat)
  | [] => [[]]
  | c :: cs => (c :: cs) :: sufs cs
theorem sufs_len : ∀ cs : List Nat, (sufs cs).length = cs.length + 1
  | [] => rfl
  | c :: cs => by
    show (sufs cs).length + 1 = _
    rw [sufs_len cs]
    rfl
theorem sufs_get : ∀ (cs : List Nat) (i : Nat), i ≤ cs.length → (sufs cs)[i]? = some (cs.drop i)
  | [], 0, _ => rfl
  | c :: cs, 0, _ => rfl
  | [], i + 1, h => by
    rw [List.length_nil] at h
    omega
  | c :: cs, i + 1, h => by
    show (sufs cs)[i]? = some (cs.drop i)
    exact sufs_get cs i (by
      rw [List.length_cons] at h
      omega)
/-- what each coin comes to -/
def prods (cs ps : List Nat) : List Nat := List.zipWith (fun c k => c * k) cs ps
theorem val_prods : ∀ (cs ps : List Nat), (prods cs ps).sum = val cs ps
  | [], ps => by
    unfold prods val
    cases ps <;> rfl
  | c :: cs, [] => rfl
  | c :: cs, k :: ps => by
    show (c * k :: prods cs ps).sum = c * k + val cs ps
    rw [List.sum_cons, val_prods cs ps]
theorem sum_cast : ∀ l : List Nat, ((l.map fun n : Nat => (n : Int)).sum : Int) = ((l.sum : Nat) : Int)
  | [] => rfl
  | n :: l => by
    rw [List.map_cons, List.sum_cons, List.sum_cons, sum_cast l]
    omega
end Mp
/-! The listing of payments: parts of it, places in it. -/
namespace Mp
/-- the payments with fewer than k first coins -/
def pre (c : Nat) (ds : List Nat) (t k : Nat) : List (List Nat) := (List.range k).flatMap fun j => (pays ds (t - j * c)).map (j :: ·)
theorem pre_succ (c : Nat) (ds : List Nat) (t k : Nat) : pre c ds t (k + 1) = pre c ds t k ++ (pays ds (t - k * c)).map (k :: ·) := by
  unfold pre
  rw [List.range_succ, List.flatMap_append, List.flatMap_singleton]
theorem pays_pre (c : Nat) (ds : List Nat) (t : Nat) : pays (c :: ds) t = pre c ds t (t / c + 1) := rfl
theorem pre_mono (c : Nat) (ds : List Nat) (t : Nat) : ∀ d k : Nat, (pre c ds t k).length ≤ (pre c ds t (k + d)).length
  | 0, k => Nat.le_refl _
  | d + 1, k => by
    have := pre_mono c ds t d k
    rw [← Nat.add_assoc, pre_succ, List.length_append]
    omega
theorem pre_le {c : Nat} {ds : List Nat} {t k : Nat} (h : k ≤ t / c + 1) : (pre c ds t k).length ≤ cnt (c :: ds) t := by
  have := pre_mono c ds t (t / c + 1 - k) k
  rw [show k + (t / c + 1 - k) = t / c + 1 by omega] at this
  exact this
theorem part_le {c : Nat} {ds : List Nat} {t k : Nat} (h : k ≤ t / c) : cnt ds (t - k * c) ≤ cnt (c :: ds) t := by
  have := pre_le (c := c) (ds := ds) (t := t) (k := k + 1) (by omega)
  rw [pre_succ, List.length_append, List.length_map] at this
  unfold cnt at *
  omega
theorem pre_prefix (c : Nat) (ds : List Nat) (t : Nat) : ∀ d k : Nat, pre c ds t k <+: pre c ds t (k + d)
  | 0, k => List.prefix_refl _
  | d + 1, k => by
    rw [← Nat.add_assoc, pre_succ]
    exact (pre_prefix c ds t d k).trans (List.prefix_append _ _)
/-- where the payments with k first coins stand -/
theorem pays_at {c : Nat} {ds : List Nat} {t k r : Nat} {x : List Nat} (h : k ≤ t / c) (hx : (pays ds (t - k * c))[r]? = some x) : (pays (c :: ds) t)[(pre c ds t k).length + r]? = some (k :: x) := by
  obtain ⟨l, e⟩ := pre_prefix c ds t (t / c - k) (k + 1)
  rw [show k + 1 + (t / c - k) = t / c + 1 by omega] at e
  rw [pays_pre, ← e, pre_succ, List.append_assoc, List.getElem?_append_right (by omega), Nat.add_sub_cancel_left]
  have hr : r < ((pays ds (t - k * c)).map (k :: ·)).length := by
    rw [List.length_map]
    exact (List.getElem?_eq_some_iff.mp hx).1
  rw [List.getElem?_append_left hr, List.getElem?_map, hx]
  rfl
/-- more of the first coin -/
def plus (o : Nat) : List Nat → List Nat
  | [] => []
  | k :: r => (o + k) :: r
theorem plus_zero : ∀ q : List Nat, plus 0 q = q
  | [] => rfl
  | k :: r => by
    show (0 + k) :: r = k :: r
    rw [Nat.zero_add]
theorem plus_plus (o : Nat) : ∀ q : List Nat, plus o (plus 1 q) = plus (o + 1) q
  | [] => rfl
  | k :: r => by
    show (o + (1 + k)) :: r = (o + 1 + k) :: r
    rw [Nat.add_assoc]
theorem pays_split {c : Nat} (hc : 0 < c) (ds : List Nat) (t : Nat) : pays (c :: ds) t = (pays ds t).map (0 :: ·) ++ (if c ≤ t then (pays (c :: ds) (t - c)).map (plus 1) else []) := by
  simp only [pays]
  rw [List.range_succ_eq_map, List.flatMap_cons, Nat.zero_mul, Nat.sub_zero]
  congr 1
  split
  · rename_i h
    rw [show t / c = (t - c) / c + 1 from Nat.div_eq_sub_div hc h, List.flatMap_map, List.map_flatMap]
    congr 1
    funext k
    rw [List.map_map, show t - c - k * c = t - k.succ * c by rw [Nat.succ_mul]; omega]
    apply List.map_congr_left
    intro x _
    show (k + 1) :: x = (1 + k) :: x
    rw [Nat.add_comm]
  · rename_i h
    rw [Nat.div_eq_of_lt (by omega)]
    rfl
theorem skip {c : Nat} (hc : 0 < c) {ds : List Nat} {t i : Nat} {q : List Nat} (h : (pays (c :: ds) t)[i]? = some q) (hi : cnt ds t ≤ i) : c ≤ t ∧ ∃ q', (pays (c :: ds) (t - c))[i - cnt ds t]? = some q' ∧ q = plus 1 q' := by
  rw [pays_split hc] at h
  rw [List.getElem?_append_right (by rw [List.length_map]; exact hi), List.length_map] at h
  by_cases hct : c ≤ t
  · rw [if_pos hct, List.getElem?_map] at h
    refine ⟨hct, ?_⟩
    cases e : (pays (c :: ds) (t - c))[i - (pays ds t).length]? with
    | none =>
      rw [e] at h
      cases h
    | some q' =>
      rw [e] at h
      exact ⟨q', e, (Option.some.inj h).symm⟩
  · rw [if_neg hct] at h
    simp at h
theorem stay {c : Nat} (hc : 0 < c) {ds : List Nat} {t i : Nat} {q : List Nat} (h : (pays (c :: ds) t)[i]? = some q) (hi : i < cnt ds t) : ∃ r, (pays ds t)[i]? = some r ∧ q = 0 :: r := by
  rw [pays_split hc] at h
  rw [List.getElem?_append_left (by rw [List.length_map]; exact hi), List.getElem?_map] at h
  cases e : (pays ds t)[i]? with
  | none =>
    rw [e] at h
    cases h
  | some r =>
    rw [e] at h
    exact ⟨r, rfl, (Option.some.inj h).symm⟩
theorem cnt_pos_iff {cs : List Nat} {t : Nat} : 0 < cnt cs t ↔ pays cs t ≠ [] := List.length_pos_iff
theorem cnt_zero {cs : List Nat} {t : Nat} (h : ¬ 0 < cnt cs t) : pays cs t = [] := by
  cases e : pays cs t with
  | nil => rfl
  | cons x l => exact absurd (cnt_pos_iff.mpr (by rw [e]; exact List.cons_ne_nil _ _)) h
end Mp
/-! The mirror of the count for great sums. -/
namespace Mp
def lcmF (cs : List Nat) : Nat := cs.foldl (fun f c => f / Nat.gcd f c * c) 1
theorem lcm_step {f c : Nat} (hf : 0 < f) (hc : 0 < c) : 0 < f / Nat.gcd f c * c ∧ f / Nat.gcd f c * c ≤ f * c := by
  have g1 : 0 < Nat.gcd f c := Nat.gcd_pos_of_pos_left _ hf
  have g2 : Nat.gcd f c ≤ f := Nat.gcd_le_left _ hf
  exact ⟨Nat.mul_pos (Nat.div_pos g2 g1) hc, Nat.mul_le_mul_right c (Nat.div_le_self _ _)⟩
theorem lcm_le12 {f c : Nat} (hc : c ≤ 12) : f * c ≤ f * 12 := Nat.mul_le_mul_left f hc
/-- many over some -/
def chN (m s : Nat) : Nat := (List.range s).foldl (fun f t => f * (m - t) / (t + 1)) 1
theorem chN_succ (m s : Nat) : (List.range (s + 1)).foldl (fun f t => f * (m - t) / (t + 1)) 1 = (List.range s).foldl (fun f t => f * (m - t) / (t + 1)) 1 * (m - s) / (s + 1) := by
  rw [List.range_succ, List.foldl_append]
  rfl
def stEl (c P : Nat) (L T : List Int) (i : Nat) : Int := L.getD i 0 + (if c ≤ i then T.getD (i - c) 0 else 0) - (if P ≤ i then L.getD (i - P) 0 else 0)
def stT (c P : Nat) (L : List Int) : Nat → List Int
  | 0 => []
  | i + 1 => stT c P L i ++ [stEl c P L (stT c P L i) i]
theorem stT_len (c P : Nat) (L : List Int) : ∀ i, (stT c P L i).length = i
  | 0 => rfl
  | i + 1 => by
    show (stT c P L i ++ [_]).length = _
    rw [List.length_append, stT_len c P L i]
    rfl
def stepS (c P : Nat) (f : List Int) : List Int := stT c P (f ++ List.replicate (P - c) 0) (f.length + (P - c))
def shortN (cs : List Nat) (P : Nat) : List Int := cs.foldl (fun f c => stepS c P f) [1]
theorem shortN_len (P : Nat) : ∀ (cs : List Nat) (f : List Int), (cs.foldl (fun f c => stepS c P f) f).length ≤ f.length + cs.length * P
  | [], f => by
    show f.length ≤ _
    omega
  | c :: cs, f => by
    have h := shortN_len P cs (stepS c P f)
    have e : (stepS c P f).length = f.length + (P - c) := stT_len ..
    rw [List.length_cons, Nat.succ_mul]
    show (cs.foldl (fun f c => stepS c P f) (stepS c P f)).length ≤ _
    omega
/-- how many there are in range(i, j, c) -/
def rgN (i j c : Nat) : Nat := if i < j then (j - i - 1) / c + 1 else 0
def greatTo (S : List Int) (P m t : Nat) (n : Nat) : Int := (List.range n).foldl (fun f k => if k ≤ t / P then f + S.getD (t % P + k * P) 0 * (chN (t / P - k + m - 1) (m - 1) : Nat) else f) 0
theorem greatTo_succ (S : List Int) (P m t n : Nat) : greatTo S P m t (n + 1) = if n ≤ t / P then greatTo S P m t n + S.getD (t % P + n * P) 0 * (chN (t / P - n + m - 1) (m - 1) : Nat) else greatTo S P m t n := by
  unfold greatTo
  rw [List.range_succ, List.foldl_append]
  rfl
def greatN (cs : List Nat) (t : Nat) : Int := greatTo (shortN cs (lcmF cs)) (lcmF cs) cs.length t (rgN (t % lcmF cs) (shortN cs (lcmF cs)).length (lcmF cs))
theorem rgN_lt {i j c k : Nat} (hc : 0 < c) (h : k < rgN i j c) : i + k * c < j := by
  unfold rgN at h
  by_cases e : i < j
  · rw [if_pos e] at h
    have : k * c ≤ (j - i - 1) / c * c := Nat.mul_le_mul_right c (by omega)
    have := Nat.div_mul_le_self (j - i - 1) c
    omega
  · rw [if_neg e] at h
    omega
end Mp
/-! Lengths of payments. -/
namespace Mp
def lens (cs : List Nat) (t : Nat) : List Nat := (pays cs t).map List.sum
def minLen (cs : List Nat) (t : Nat) : Option Nat := (lens cs t).min?
def maxLen (cs : List Nat) (t : Nat) : Option Nat := (lens cs t).max?
theorem one_less : ∀ (cs p : List Nat), p.length = cs.length → 0 < val cs p → ∃ c ∈ cs, ∃ q, q.length = cs.length ∧ val cs q + c = val cs p ∧ q.sum + 1 = p.sum
  | [], p, _, h => absurd h (Nat.lt_irrefl 0)
  | c :: cs, [], hl, _ => by simp at hl
  | c :: cs, k :: p, hl, h => by
    have hl' : p.length = cs.length := by simpa using hl
    cases k with
    | zero =>
      have h0 : 0 < val cs p := by
        have h1 : 0 < c * 0 + val cs p := h
        omega
      obtain ⟨d, hd, q, h1, h2, h3⟩ := one_less cs p hl' h0
      refine ⟨d, List.mem_cons_of_mem _ hd, 0 :: q, by simp [h1], ?_, ?_⟩
      · show c * 0 + val cs q + d = c * 0 + val cs p
        omega
      · rw [List.sum_cons, List.sum_cons]
        omega
    | succ k =>
      refine ⟨c, List.mem_cons_self, k :: p, by simp [hl'], ?_, ?_⟩
      · show c * k + val cs p + c = c * (k + 1) + val cs p
        rw [Nat.mul_succ]
        omega
      · rw [List.sum_cons, List.sum_cons]
        omega
theorem one_more : ∀ {cs : List Nat} {c : Nat} (_ : c ∈ cs) (q : List Nat), q.length = cs.length → ∃ p, p.length = cs.length ∧ val cs p = val cs q + c ∧ p.sum = q.sum + 1
  | [], c, hc, _, _ => by cases hc
  | d :: cs, c, hc, [], hl => by simp at hl
  | d :: cs, c, hc, k :: q, hl => by
    have hl' : q.length = cs.length := by simpa using hl
    rcases List.mem_cons.mp hc with rfl | hc
    · refine ⟨(k + 1) :: q, by simp [hl'], ?_, ?_⟩
      · show c * (k + 1) + val cs q = c * k + val cs q + c
        rw [Nat.mul_succ]
        omega
      · rw [List.sum_cons, List.sum_cons]
        omega
    · obtain ⟨p, h1, h2, h3⟩ := one_more hc q hl'
      refine ⟨k :: p, by simp [h1], ?_, ?_⟩
      · show d * k + val cs p = d * k + val cs q + c
        omega
      · rw [List.sum_cons, List.sum_cons]
        omega
theorem val_pos : ∀ {cs p : List Nat}, (∀ c ∈ cs, 0 < c) → val cs p = 0 → p.length = cs.length → p.sum = 0
  | [], [], _, _, _ => rfl
  | [], _ :: _, _, _, h => by simp at h
  | _ :: _, [], _, _, h => by simp at h
  | c :: cs, k :: p, hp, h, hl => by
    have h1 : c * k + val cs p = 0 := h
    have h2 : c * k = 0 := by omega
    have h3 : k = 0 := by
      rcases Nat.mul_eq_zero.mp h2 with z | z
      · have := hp c List.mem_cons_self
        omega
      · exact z
    rw [List.sum_cons, h3, val_pos (fun d hd => hp d (List.mem_cons_of_mem _ hd)) (by omega : val cs p = 0) (by simpa using hl)]
theorem mem_lens {cs : List Nat} {t n : Nat} (hp : ∀ c ∈ cs, 0 < c) : n ∈ lens cs t ↔ ∃ p : List Nat, p.length = cs.length ∧ val cs p = t ∧ p.sum = n := by
  unfold lens
  rw [List.mem_map]
  constructor
  · rintro ⟨p, h, e⟩
    obtain ⟨h1, h2⟩ := (mem_pays hp).mp h
    exact ⟨p, h1, h2, e⟩
  · rintro ⟨p, h1, h2, e⟩
    exact ⟨p, (mem_pays hp).mpr ⟨h1, h2⟩, e⟩
theorem val_reps : ∀ cs : List Nat, val cs (List.replicate cs.length 0) = 0
  | [] => rfl
  | c :: cs => by
    show c * 0 + val cs (List.replicate cs.length 0) = 0
    rw [val_reps cs, Nat.mul_zero]
theorem lens_zero {cs : List Nat} (hp : ∀ c ∈ cs, 0 < c) {n : Nat} : n ∈ lens cs 0 ↔ n = 0 := by
  rw [mem_lens hp]
  constructor
  · rintro ⟨p, h1, h2, rfl⟩
    exact val_pos hp h2 h1
  · rintro rfl
    exact ⟨List.replicate cs.length 0, List.length_replicate, val_reps cs, by simp⟩
theorem lens_step {cs : List Nat} (hp : ∀ c ∈ cs, 0 < c) {t n : Nat} (ht : 0 < t) : n ∈ lens cs t ↔ ∃ c ∈ cs, c ≤ t ∧ ∃ m ∈ lens cs (t - c), n = m + 1 := by
  constructor
  · intro h
    obtain ⟨p, h1, h2, rfl⟩ := (mem_lens hp).mp h
    obtain ⟨c, hc, q, q1, q2, q3⟩ := one_less cs p h1 (by omega)
    exact ⟨c, hc, by omega, q.sum, (mem_lens hp).mpr ⟨q, q1, by omega, rfl⟩, by omega⟩
  · rintro ⟨c, hc, hct, m, hm, rfl⟩
    obtain ⟨q, q1, q2, rfl⟩ := (mem_lens hp).mp hm
    obtain ⟨p, p1, p2, p3⟩ := one_more hc q q1
    exact (mem_lens hp).mpr ⟨p, p1, by omega, p3⟩
theorem min_mem {l l' : List Nat} (h : ∀ n, n ∈ l ↔ n ∈ l') : l.min? = l'.min? := by
  cases e : l'.min? with
  | none =>
    have e2 := List.min?_eq_none_iff.mp e
    refine List.min?_eq_none_iff.mpr (List.eq_nil_iff_forall_not_mem.mpr fun x hx => ?_)
    have := (h x).mp hx
    rw [e2] at this
    cases this
  | some a =>
    have e2 := List.min?_eq_some_iff.mp e
    exact List.min?_eq_some_iff.mpr ⟨(h a).mpr e2.1, fun b hb => e2.2 b ((h b).mp hb)⟩
theorem max_mem {l l' : List Nat} (h : ∀ n, n ∈ l ↔ n ∈ l') : l.max? = l'.max? := by
  cases e : l'.max? with
  | none =>
    have e2 := List.max?_eq_none_iff.mp e
    refine List.max?_eq_none_iff.mpr (List.eq_nil_iff_forall_not_mem.mpr fun x hx => ?_)
    have := (h x).mp hx
    rw [e2] at this
    cases this
  | some a =>
    have e2 := List.max?_eq_some_iff.mp e
    exact List.max?_eq_some_iff.mpr ⟨(h a).mpr e2.1, fun b hb => e2.2 b ((h b).mp hb)⟩
/-- the best of what can be reached with one coin less -/
def near (best : Nat → Option Nat) (cs : List Nat) (t : Nat) : List (Option Nat) := (cs.filter (· ≤ t)).map fun c => best (t - c)
def some_of (l : List (Option Nat)) : List Nat := l.filterMap id
theorem minLen_zero {cs : List Nat} (hp : ∀ c ∈ cs, 0 < c) : minLen cs 0 = some 0 :=
  List.min?_eq_some_iff.mpr ⟨(lens_zero hp).mpr rfl, fun b _ => Nat.zero_le b⟩
theorem maxLen_zero {cs : List Nat} (hp : ∀ c ∈ cs, 0 < c) : maxLen cs 0 = some 0 :=
  List.max?_eq_some_iff.mpr ⟨(lens_zero hp).mpr rfl, fun b hb => by rw [(lens_zero hp).mp hb]; exact Nat.le_refl 0⟩
theorem mem_some_near {best : Nat → Option Nat} {cs : List Nat} {t n : Nat} : n ∈ some_of (near best cs t) ↔ ∃ c ∈ cs, c ≤ t ∧ best (t - c) = some n := by
  unfold some_of near
  rw [List.mem_filterMap]
  constructor
  · rintro ⟨o, ho, e⟩
    obtain ⟨c, hc, rfl⟩ := List.mem_map.mp ho
    obtain ⟨h1, h2⟩ := List.mem_filter.mp hc
    exact ⟨c, h1, by simpa using h2, e⟩
  · rintro ⟨c, h1, h2, e⟩
    exact ⟨_, List.mem_map.mpr ⟨c, List.mem_filter.mpr ⟨h1, by simpa using h2⟩, rfl⟩, e⟩
theorem minLen_step {cs : List Nat} (hp : ∀ c ∈ cs, 0 < c) {t : Nat} (ht : 0 < t) : minLen cs t = ((some_of (near (minLen cs) cs t)).min?).map (1 + ·) := by
  cases e : (some_of (near (minLen cs) cs t)).min? with
  | none =>
    have e2 := List.min?_eq_none_iff.mp e
    refine List.min?_eq_none_iff.mpr (List.eq_nil_iff_forall_not_mem.mpr fun x hx => ?_)
    obtain ⟨c, hc, hct, m, hm, rfl⟩ := (lens_step hp ht).mp hx
    cases e3 : minLen cs (t - c) with
    | none =>
      have := List.min?_eq_none_iff.mp e3
      rw [this] at hm
      cases hm
    | some k =>
      have : k ∈ some_of (near (minLen cs) cs t) := mem_some_near.mpr ⟨c, hc, hct, e3⟩
      rw [e2] at this
      cases this
  | some a =>
    obtain ⟨h1, h2⟩ := List.min?_eq_some_iff.mp e
    obtain ⟨c, hc, hct, ea⟩ := mem_some_near.mp h1
    have ha := List.min?_eq_some_iff.mp ea
    show minLen cs t = some (1 + a)
    refine List.min?_eq_some_iff.mpr ⟨(lens_step hp ht).mpr ⟨c, hc, hct, a, ha.1, by omega⟩, fun b hb => ?_⟩
    obtain ⟨d, hd, hdt, m, hm, rfl⟩ := (lens_step hp ht).mp hb
    cases e3 : minLen cs (t - d) with
    | none =>
      have := List.min?_eq_none_iff.mp e3
      rw [this] at hm
      cases hm
    | some k =>
      have h3 := h2 k (mem_some_near.mpr ⟨d, hd, hdt, e3⟩)
      have h4 := (List.min?_eq_some_iff.mp e3).2 m hm
      omega
theorem maxLen_step {cs : List Nat} (hp : ∀ c ∈ cs, 0 < c) {t : Nat} (ht : 0 < t) : maxLen cs t = ((some_of (near (maxLen cs) cs t)).max?).map (1 + ·) := by
  cases e : (some_of (near (maxLen cs) cs t)).max? with
  | none =>
    have e2 := List.max?_eq_none_iff.mp e
    refine List.max?_eq_none_iff.mpr (List.eq_nil_iff_forall_not_mem.mpr fun x hx => ?_)
    obtain ⟨c, hc, hct, m, hm, rfl⟩ := (lens_step hp ht).mp hx
    cases e3 : maxLen cs (t - c) with
    | none =>
      have := List.max?_eq_none_iff.mp e3
      rw [this] at hm
      cases hm
    | some k =>
      have : k ∈ some_of (near (maxLen cs) cs t) := mem_some_near.mpr ⟨c, hc, hct, e3⟩
      rw [e2] at this
      cases this
  | some a =>
    obtain ⟨h1, h2⟩ := List.max?_eq_some_iff.mp e
    obtain ⟨c, hc, hct, ea⟩ := mem_some_near.mp h1
    have ha := List.max?_eq_some_iff.mp ea
    show maxLen cs t = some (1 + a)
    refine List.max?_eq_some_iff.mpr ⟨(lens_step hp ht).mpr ⟨c, hc, hct, a, ha.1, by omega⟩, fun b hb => ?_⟩
    obtain ⟨d, hd, hdt, m, hm, rfl⟩ := (lens_step hp ht).mp hb
    cases e3 : maxLen cs (t - d) with
    | none =>
      have := List.max?_eq_none_iff.mp e3
      rw [this] at hm
      cases hm
    | some k =>
      have h3 := h2 k (mem_some_near.mpr ⟨d, hd, hdt, e3⟩)
      have h4 := (List.max?_eq_some_iff.mp e3).2 m hm
      omega
/-! ### by rests -/
def costTab (m : Nat) (prs : List (Nat × Nat)) : OT := prs.foldl (fun t sk => if 0 < sk.1 then ease m sk.1 sk.2 t else t) (start m)
theorem costTab_len {m : Nat} (hm : 0 < m) : ∀ (prs : List (Nat × Nat)) (t : OT), t.length = m → (prs.foldl (fun t sk => if 0 < sk.1 then ease m sk.1 sk.2 t else t) t).length = m
  | [], t, h => h
  | p :: prs, t, h => by
    show (prs.foldl _ (if 0 < p.1 then ease m p.1 p.2 t else t)).length = m
    refine costTab_len hm prs _ ?_
    split
    · rw [ease_len, h]
    · exact h
def top (cs : List Nat) : Nat := cs.getD (cs.length - 1) 0
def low (cs : List Nat) : Nat := cs.getD 0 0
def lossTab (cs : List Nat) : OT := costTab (top cs) ((cs.take (cs.length - 1)).map fun c => (c, top cs - c))
def gainTab (cs : List Nat) : OT := costTab (low cs) ((cs.drop 1).map fun c => (c % low cs, c - low cs))
def lBound (cs : List Nat) : Nat := if 1 < cs.length then (top cs - 1) * cs.getD (cs.length - 2) 0 else 0
def mBound (cs : List Nat) : Nat := if 1 < cs.length then (low cs - 1) * top cs else 0
def leastLen (cs : List Nat) (t : Nat) : Option Nat := if isPaid cs t = true then (if t < lBound cs then minLen cs t else ((lossTab cs).getD (t % top cs) none).map fun v => (t + v) / top cs) else none
def mostLen (cs : List Nat) (t : Nat) : Option Nat := if isPaid cs t = true then (if t < mBound cs then maxLen cs t else ((gainTab cs).getD (t % low cs) none).map fun v => (t - v) / low cs) else none
/-- nothing is lacking where it is looked up -/
structure LenOk (cs : List Nat) (t : Nat) : Prop where
  lo : isPaid cs t = true → ¬ t < lBound cs → ∃ v, (lossTab cs).getD (t % top cs) none = some v
  hi : isPaid cs t = true → ¬ t < mBound cs → ∃ v, (gainTab cs).getD (t % low cs) none = some v ∧ v ≤ t
end Mp
/-! Sums with few payments: the mirror. -/
namespace Mp
def ofts (cs : List Nat) (c w : Nat) : List Nat := (cs.filter fun o => decide (o ≠ c)).map fun o => w * o / Nat.gcd c o
def mostOft (cs : List Nat) (c w : Nat) : Nat := (ofts cs c w).min?.getD 0 - 1
def boundF (cs : List Nat) (w : Nat) : Nat := (cs.map fun c => c * mostOft cs c w).sum
def fewL (cs : List Nat) (w : Nat) : List Nat := (List.range (boundF cs w + 1)).filter fun t => decide (1 ≤ cnt cs t ∧ cnt cs t ≤ w)
theorem ofts_le {cs : List Nat} (hc : ∀ c ∈ cs, 0 < c ∧ c ≤ 12) {c w x : Nat} (h : x ∈ ofts cs c w) : x ≤ w * 12 := by
  obtain ⟨o, ho, rfl⟩ := List.mem_map.mp h
  have := (hc o (List.mem_filter.mp ho).1).2
  exact Nat.le_trans (Nat.div_le_self _ _) (Nat.mul_le_mul_left w this)
theorem mostOft_le {cs : List Nat} (hc : ∀ c ∈ cs, 0 < c ∧ c ≤ 12) {c w : Nat} : mostOft cs c w ≤ w * 12 := by
  unfold mostOft
  cases e : (ofts cs c w).min? with
  | none =>
    show 0 - 1 ≤ _
    omega
  | some x =>
    have := ofts_le hc (List.min?_eq_some_iff.mp e).1
    show x - 1 ≤ _
    omega
theorem sum_le_mul : ∀ {l : List Nat} {b : Nat}, (∀ x ∈ l, x ≤ b) → l.sum ≤ l.length * b
  | [], b, _ => Nat.zero_le _
  | x :: l, b, h => by
    have h1 := sum_le_mul (l := l) fun y hy => h y (List.mem_cons_of_mem _ hy)
    have h2 := h x List.mem_cons_self
    rw [List.sum_cons, List.length_cons, Nat.succ_mul]
    omega
theorem boundF_le {cs : List Nat} (hc : ∀ c ∈ cs, 0 < c ∧ c ≤ 12) {w : Nat} (hl : cs.length ≤ 4) : boundF cs w ≤ 4 * (12 * (w * 12)) := by
  unfold boundF
  refine Nat.le_trans (sum_le_mul (b := 12 * (w * 12)) fun x hx => ?_) ?_
  · obtain ⟨c, h, rfl⟩ := List.mem_map.mp hx
    exact Nat.mul_le_mul (hc c h).2 (mostOft_le hc)
  · rw [List.length_map]
    exact Nat.mul_le_mul_right _ hl
theorem cap_add (w a b : Nat) : min w (min w a + min w b) = min w (a + b) := by omega
theorem one_ends {l : List (List Nat)} (hn : l.Nodup) {p0 p1 ps : List Nat} (h0 : l[0]? = some p0) (h1 : l.getLast? = some p1) (hm : ps ∈ l) : (p0 = ps ∧ p1 = ps) ↔ l.length = 1 := by
  constructor
  · rintro ⟨rfl, rfl⟩
    cases l with
    | nil => cases hm
    | cons x r =>
      cases r with
      | nil => rfl
      | cons y r =>
        have e : x = p1 := Option.some.inj h0
        subst e
        have hx : x ∈ y :: r := by
          rw [List.getLast?_cons_cons] at h1
          exact List.mem_of_getLast? h1
        exact absurd rfl ((List.pairwise_cons.mp hn).1 x hx)
  · intro e
    obtain ⟨x, rfl⟩ := List.length_eq_one_iff.mp e
    have e0 : x = p0 := Option.some.inj h0
    have e1 : x = p1 := Option.some.inj h1
    have e2 : ps = x := List.mem_singleton.mp hm
    exact ⟨by rw [← e0, e2], by rw [← e1, e2]⟩
end Mp
/-! What is checked lot by lot. -/
namespace Mp
/-- g (n-1), .., g 0 -/
def rv {α : Type} (g : Nat → α) : Nat → List α
  | 0 => []
  | n + 1 => g n :: rv g n
theorem rv_len {α : Type} (g : Nat → α) : ∀ n, (rv g n).length = n
  | 0 => rfl
  | n + 1 => by
    show (rv g n).length + 1 = _
    rw [rv_len g n]
theorem rv_get {α : Type} (g : Nat → α) (d : α) : ∀ (n c : Nat), 0 < c → (rv g n).getD (c - 1) d = if c ≤ n then g (n - c) else d
  | 0, c, h => by
    rw [if_neg (by omega)]
    rfl
  | n + 1, c, h => by
    by_cases h1 : c = 1
    · subst h1
      rw [if_pos (by omega)]
      rfl
    · have e := rv_get g d n (c - 1) (by omega)
      have e2 : c - 1 = (c - 1 - 1) + 1 := by omega
      rw [e2]
      show (rv g n).getD (c - 1 - 1) d = _
      rw [e]
      by_cases h2 : c ≤ n + 1
      · rw [if_pos (by omega), if_pos h2, show n - (c - 1) = n + 1 - c by omega]
      · rw [if_neg (by omega), if_neg h2]
theorem rv_congr {α : Type} {f g : Nat → α} : ∀ (n : Nat), (∀ i, i < n → f i = g i) → rv f n = rv g n
  | 0, _ => rfl
  | n + 1, h => by
    show f n :: rv f n = g n :: rv g n
    rw [h n (by omega), rv_congr n fun i hi => h i (by omega)]
def addR (c : Nat) : List Nat → List Nat
  | [] => []
  | x :: xs => (fun r => (x + r.getD (c - 1) 0) :: r) (addR c xs)
theorem addR_eq {c : Nat} (hc : 0 < c) (f : Nat → Nat) : ∀ n, addR c (rv f n) = rv (addc c f) n
  | 0 => rfl
  | n + 1 => by
    show (f n + (addR c (rv f n)).getD (c - 1) 0) :: addR c (rv f n) = addc c f n :: rv (addc c f) n
    rw [addR_eq hc f n, rv_get _ _ _ _ hc]
    congr 1
    by_cases h : c ≤ n
    · rw [if_pos h, addc_ge hc h]
    · rw [if_neg h, addc_lt (by omega), Nat.add_zero]
def cntR (cs : List Nat) (z : List Nat) : List Nat := cs.foldl (fun l c => addR c l) z
theorem cntR_eq : ∀ (cs : List Nat) (f : Nat → Nat) (n : Nat), (∀ c ∈ cs, 0 < c) → cntR cs (rv f n) = rv (cs.foldl (fun f c => addc c f) f) n
  | [], f, n, _ => rfl
  | c :: cs, f, n, h => by
    show cntR cs (addR c (rv f n)) = _
    rw [addR_eq (h c List.mem_cons_self)]
    exact cntR_eq cs _ n fun d hd => h d (List.mem_cons_of_mem _ hd)
def minR (cs : List Nat) : Nat → List (Option Nat)
  | 0 => []
  | t + 1 => (fun r => (if t = 0 then some 0 else ((cs.filterMap fun c => r.getD (c - 1) none).min?).map (1 + ·)) :: r) (minR cs t)
def maxR (cs : List Nat) : Nat → List (Option Nat)
  | 0 => []
  | t + 1 => (fun r => (if t = 0 then some 0 else ((cs.filterMap fun c => r.getD (c - 1) none).max?).map (1 + ·)) :: r) (maxR cs t)
theorem near_eq (best : Nat → Option Nat) (t : Nat) : ∀ cs : List Nat, (∀ c ∈ cs, 0 < c) → (cs.filterMap fun c => (rv best t).getD (c - 1) none) = some_of (near best cs t)
  | [], _ => rfl
  | c :: cs, h => by
    have ih := near_eq best t cs fun d hd => h d (List.mem_cons_of_mem _ hd)
    have hc := h c List.mem_cons_self
    unfold some_of near at ih ⊢
    by_cases e : c ≤ t
    · rw [List.filter_cons_of_pos (by simpa using e), List.map_cons]
      cases e2 : best (t - c) with
      | none =>
        rw [List.filterMap_cons_none (by rw [rv_get _ _ _ _ hc, if_pos e, e2]), List.filterMap_cons_none rfl, ih]
      | some v =>
        rw [List.filterMap_cons_some (b := v) (by rw [rv_get _ _ _ _ hc, if_pos e, e2]), ih]
        rfl
    · rw [List.filter_cons_of_neg (by simpa using e), List.filterMap_cons_none (by rw [rv_get _ _ _ _ hc, if_neg e]), ih]
theorem minR_eq {cs : List Nat} (h : ∀ c ∈ cs, 0 < c) : ∀ n, minR cs n = rv (minLen cs) n
  | 0 => rfl
  | t + 1 => by
    show (if t = 0 then some 0 else ((cs.filterMap fun c => (minR cs t).getD (c - 1) none).min?).map (1 + ·)) :: minR cs t = minLen cs t :: rv (minLen cs) t
    rw [minR_eq h t, near_eq _ _ _ h]
    congr 1
    by_cases e : t = 0
    · rw [if_pos e, e, minLen_zero h]
    · rw [if_neg e, minLen_step h (by omega)]
theorem maxR_eq {cs : List Nat} (h : ∀ c ∈ cs, 0 < c) : ∀ n, maxR cs n = rv (maxLen cs) n
  | 0 => rfl
  | t + 1 => by
    show (if t = 0 then some 0 else ((cs.filterMap fun c => (maxR cs t).getD (c - 1) none).max?).map (1 + ·)) :: maxR cs t = maxLen cs t :: rv (maxLen cs) t
    rw [maxR_eq h t, near_eq _ _ _ h]
    congr 1
    by_cases e : t = 0
    · rw [if_pos e, e, maxLen_zero h]
    · rw [if_neg e, maxLen_step h (by omega)]
/-! ### great sums, cut -/
theorem stT_congr {c P : Nat} {L L' : List Int} {N : Nat} (h : ∀ i, i < N → L.getD i 0 = L'.getD i 0) : ∀ n, n ≤ N → stT c P L n = stT c P L' n
  | 0, _ => rfl
  | n + 1, hn => by
    have ih := stT_congr (c := c) (P := P) h n (by omega)
    show stT c P L n ++ [stEl c P L (stT c P L n) n] = stT c P L' n ++ [stEl c P L' (stT c P L' n) n]
    rw [ih]
    unfold stEl
    rw [h n (by omega), h (n - P) (by omega)]
theorem stT_take (c P : Nat) (L : List Int) (N : Nat) : ∀ n, (stT c P L n).take N = stT c P L (min n N)
  | 0 => by
    rw [Nat.zero_min]
    exact List.take_nil
  | n + 1 => by
    have ih := stT_take c P L N n
    show (stT c P L n ++ [_]).take N = _
    by_cases h : n + 1 ≤ N
    · rw [List.take_of_length_le (by rw [List.length_append, stT_len]; exact h), Nat.min_eq_left h]
      rfl
    · rw [List.take_append_of_le_length (by rw [stT_len]; omega), ih, Nat.min_eq_right (by omega), Nat.min_eq_right (by omega)]
theorem getD_pad (f : List Int) (k i : Nat) : (f ++ List.replicate k 0).getD i 0 = f.getD i 0 := by
  rw [List.getD_eq_getElem?_getD, List.getD_eq_getElem?_getD]
  by_cases h : i < f.length
  · rw [List.getElem?_append_left h]
  · rw [List.getElem?_append_right (by omega), List.getElem?_replicate, List.getElem?_eq_none (l := f) (by omega)]
    split <;> rfl
theorem getD_take (f : List Int) {N i : Nat} (h : i < N) : (f.take N).getD i 0 = f.getD i 0 := by
  rw [List.getD_eq_getElem?_getD, List.getD_eq_getElem?_getD, List.getElem?_take, if_pos h]
/-- the first 46 of them, and how many there are -/
def shortT (P : Nat) : List Nat → List Int × Nat → List Int × Nat
  | [], x => x
  | c :: cs, x => shortT P cs (stT c P x.1 (min (x.2 + (P - c)) 46), x.2 + (P - c))
theorem shortT_eq (P : Nat) : ∀ (cs : List Nat) (f : List Int), shortT P cs (f.take 46, f.length) = ((cs.foldl (fun f c => stepS c P f) f).take 46, (cs.foldl (fun f c => stepS c P f) f).length)
  | [], f => rfl
  | c :: cs, f => by
    show shortT P cs (stT c P (f.take 46) (min (f.length + (P - c)) 46), f.length + (P - c)) = _
    have e1 : (stepS c P f).length = f.length + (P - c) := stT_len ..
    have e2 : (stepS c P f).take 46 = stT c P (f.take 46) (min (f.length + (P - c)) 46) := by
      unfold stepS
      rw [stT_take]
      refine stT_congr (N := 46) (fun i hi => ?_) _ (Nat.min_le_right _ _)
      rw [getD_pad, getD_take _ hi]
    rw [← e2, ← e1]
    exact shortT_eq P cs (stepS c P f)
theorem greatTo_cut (S S' : List Int) (P m t : Nat) (hS : ∀ i, i ≤ t → S.getD i 0 = S'.getD i 0) : ∀ n, greatTo S P m t n = greatTo S' P m t n
  | 0 => rfl
  | n + 1 => by
    rw [greatTo_succ, greatTo_succ, greatTo_cut S S' P m t hS n]
    by_cases h : n ≤ t / P
    · rw [if_pos h, if_pos h, hS]
      have h1 : n * P ≤ t / P * P := Nat.mul_le_mul_right P h
      have h2 := Nat.mod_add_div t P
      rw [Nat.mul_comm] at h2
      omega
    · rw [if_neg h, if_neg h]
def greatC (S : List Int × Nat) (P m t : Nat) : Int := greatTo S.1 P m t (rgN (t % P) S.2 P)
theorem greatC_eq {cs : List Nat} {t : Nat} (ht : t ≤ 45) : greatN cs t = greatC (shortT (lcmF cs) cs ([1], 1)) (lcmF cs) cs.length t := by
  have e := shortT_eq (lcmF cs) cs [1]
  have e2 : (([1] : List Int).take 46, ([1] : List Int).length) = ([1], 1) := rfl
  rw [e2] at e
  unfold greatC
  rw [e]
  exact greatTo_cut _ _ _ _ _ (fun i hi => (getD_take _ (by omega)).symm) _
/-! ### a great period -/
theorem stT_get (c P : Nat) (L : List Int) : ∀ (n i : Nat), i < n → (stT c P L n).getD i 0 = stEl c P L (stT c P L i) i
  | n + 1, i, h => by
    show (stT c P L n ++ [stEl c P L (stT c P L n) n]).getD i 0 = _
    rw [List.getD_eq_getElem?_getD]
    by_cases e : i = n
    · subst e
      rw [List.getElem?_append_right (by rw [stT_len]; omega), stT_len, Nat.sub_self]
      rfl
    · rw [List.getElem?_append_left (by rw [stT_len]; omega), ← List.getD_eq_getElem?_getD]
      exact stT_get c P L n i (by omega)
theorem stT_addc {c P : Nat} {L : List Int} {f : Nat → Nat} (hc : 0 < c) (hP : 45 < P) (h : ∀ i, i ≤ 45 → L.getD i 0 = (f i : Int)) (n : Nat) : ∀ i, i < n → i ≤ 45 → (stT c P L n).getD i 0 = (addc c f i : Int) := by
  intro i
  induction i using Nat.strongRecOn with
  | _ i ih =>
    intro hn hi
    rw [stT_get _ _ _ _ _ hn]
    unfold stEl
    rw [h i hi, if_neg (show ¬ P ≤ i by omega)]
    by_cases e : c ≤ i
    · have e1 := ih (i - c) (by omega) (by omega) (by omega)
      rw [stT_get _ _ _ _ _ (by omega)] at e1
      rw [if_pos e, stT_get _ _ _ _ _ (by omega), e1, addc_ge hc e]
      omega
    · rw [if_neg e, addc_lt (by omega)]
      omega
theorem shortN_big {P : Nat} (hP : 45 < P) : ∀ (cs : List Nat) (L : List Int) (f : Nat → Nat), (∀ c ∈ cs, 0 < c ∧ c ≤ P) → 46 ≤ L.length → (∀ i, i ≤ 45 → L.getD i 0 = (f i : Int)) →
    46 ≤ (cs.foldl (fun f c => stepS c P f) L).length ∧ ∀ i, i ≤ 45 → (cs.foldl (fun f c => stepS c P f) L).getD i 0 = (cs.foldl (fun f c => addc c f) f i : Int)
  | [], L, f, _, hl, h => ⟨hl, h⟩
  | c :: cs, L, f, hc, hl, h => by
    have h0 := hc c List.mem_cons_self
    refine shortN_big hP cs (stepS c P L) (addc c f) (fun d hd => hc d (List.mem_cons_of_mem _ hd)) ?_ fun i hi => ?_
    · have e1 : (stepS c P L).length = L.length + (P - c) := stT_len ..
      omega
    · unfold stepS
      exact stT_addc h0.1 hP (fun j hj => by rw [getD_pad]; exact h j hj) _ i (by omega) hi
theorem chN_self : ∀ m : Nat, m ≤ 3 → chN m m = 1 := by decide +kernel
theorem greatTo_one {S : List Int} {P m t : Nat} (h : t < P) : ∀ n, greatTo S P m t (n + 1) = S.getD t 0 * (chN (m - 1) (m - 1) : Nat)
  | 0 => by
    rw [greatTo_succ, if_pos (Nat.zero_le _), Nat.div_eq_of_lt h, Nat.mod_eq_of_lt h, Nat.zero_mul, Nat.add_zero, Nat.sub_self, Nat.zero_add]
    show 0 + _ = _
    rw [Int.zero_add]
  | n + 1 => by
    rw [greatTo_succ, Nat.div_eq_of_lt h, if_neg (by omega), greatTo_one h n]
theorem great_big {c : Nat} {cs : List Nat} (hc : ∀ d ∈ c :: cs, 0 < d ∧ d ≤ 12) (hl : cs.length ≤ 3) (hP : 45 < lcmF (c :: cs)) (hP2 : 45 + c ≤ lcmF (c :: cs)) {t : Nat} (ht : t ≤ 45) : greatN (c :: cs) t = (cnt (c :: cs) t : Int) := by
  have h0 := hc c List.mem_cons_self
  have e0 : ([1] : List Int).length = 1 := rfl
  have hb : 46 ≤ (shortN (c :: cs) (lcmF (c :: cs))).length ∧ ∀ i, i ≤ 45 → (shortN (c :: cs) (lcmF (c :: cs))).getD i 0 = ((fromFirst (c :: cs) i : Nat) : Int) := by
    refine shortN_big hP cs (stepS c (lcmF (c :: cs)) [1]) (addc c (cnt [])) (fun d hd => by have := hc d (List.mem_cons_of_mem _ hd); omega) ?_ fun i hi => ?_
    · have e1 : (stepS c (lcmF (c :: cs)) [1]).length = ([1] : List Int).length + (lcmF (c :: cs) - c) := stT_len ..
      omega
    · unfold stepS
      refine stT_addc h0.1 hP (fun j hj => ?_) _ i ?_ hi
      · rw [getD_pad, cnt_nil]
        cases j with
        | zero => rfl
        | succ j => rfl
      · omega
  unfold greatN
  have hr : rgN t (shortN (c :: cs) (lcmF (c :: cs))).length (lcmF (c :: cs)) = ((shortN (c :: cs) (lcmF (c :: cs))).length - t - 1) / lcmF (c :: cs) + 1 := by
    unfold rgN
    rw [if_pos (by omega)]
  rw [Nat.mod_eq_of_lt (show t < lcmF (c :: cs) by omega), hr, greatTo_one (by omega), hb.2 t ht, fromFirst_cnt _ fun d hd => (hc d hd).1]
  show _ * ((chN (cs.length + 1 - 1) (cs.length + 1 - 1) : Nat) : Int) = _
  rw [Nat.add_sub_cancel, chN_self _ hl]
  exact Int.mul_one _
/-! ### the check -/
structure Ok (cs : List Nat) (t : Nat) : Prop where
  paid : isPaid cs t = true ↔ 0 < cnt cs t
  small : t ≤ 22 → cnt cs t ≤ 400
  few : 2 ≤ cs.length → 1 ≤ cnt cs t → cnt cs t ≤ 2 → t ≤ boundF cs 2
  big : ∀ c ∈ cs, c ≤ lcmF cs
  great : greatN cs t = (cnt cs t : Int)
  len : 0 < cnt cs t → ∃ v u a b, (lossTab cs).getD (t % top cs) none = some v ∧ (gainTab cs).getD (t % low cs) none = some u ∧ minLen cs t = some a ∧ maxLen cs t = some b ∧ v + t ≤ top cs * a ∧ u + low cs * b ≤ t ∧
    (¬ t < lBound cs → (t + v) / top cs = a) ∧ (¬ t < mBound cs → (t - u) / low cs = b)
def lenOk (tp lw B1 B2 t : Nat) (v u a b : Option Nat) : Bool := match v, u, a, b with
  | some v, some u, some a, some b => decide (v + t ≤ tp * a) && (decide (u + lw * b ≤ t) && ((decide (t < B1) || decide ((t + v) / tp = a)) && (decide (t < B2) || decide ((t - u) / lw = b))))
  | _, _, _, _ => false
def okAt (cs : List Nat) (S : List Int × Nat) (P BF t n : Nat) (a b : Option Nat) : Bool :=
  (isPaid cs t == decide (0 < n)) && ((decide (22 < t) || decide (n ≤ 400)) && ((decide (cs.length < 2) || (decide (n < 1) || (decide (2 < n) || decide (t ≤ BF)))) &&
  ((decide (45 < P) || decide (greatC S P cs.length t = (n : Int))) && (decide (n = 0) || lenOk (top cs) (low cs) (lBound cs) (mBound cs) t ((lossTab cs).getD (t % top cs) none) ((gainTab cs).getD (t % low cs) none) a b))))
def run (f : Nat → Nat → Option Nat → Option Nat → Bool) : List Nat → List (Option Nat) → List (Option Nat) → Bool
  | x :: xs, a :: as, b :: bs => f xs.length x a b && run f xs as bs
  | _, _, _ => true
theorem run_rv {f : Nat → Nat → Option Nat → Option Nat → Bool} {g1 : Nat → Nat} {g2 g3 : Nat → Option Nat} : ∀ n, run f (rv g1 n) (rv g2 n) (rv g3 n) = true → ∀ t, t < n → f t (g1 t) (g2 t) (g3 t) = true
  | 0, _, t, h => absurd h (by omega)
  | n + 1, h, t, ht => by
    have h1 : (f (rv g1 n).length (g1 n) (g2 n) (g3 n) && run f (rv g1 n) (rv g2 n) (rv g3 n)) = true := h
    rw [rv_len, Bool.and_eq_true] at h1
    by_cases e : t = n
    · rw [e]
      exact h1.1
    · exact run_rv n h1.2 t (by omega)
def zero46 : List Nat := rv (fun t => if t = 0 then 1 else 0) 46
def okLot (cs : List Nat) : Bool :=
  cs.all (fun c => decide (c ≤ lcmF cs)) && ((decide (lcmF cs ≤ 45) || decide (45 + low cs ≤ lcmF cs)) && run (okAt cs (shortT (lcmF cs) cs ([1], 1)) (lcmF cs) (boundF cs 2)) (cntR cs zero46) (minR cs 46) (maxR cs 46))
theorem or_of {a b : Bool} {p : Prop} (h : (a || b) = true) (h1 : a = true → p) (h2 : b = true → p) : p := by
  cases a with
  | true => exact h1 rfl
  | false => exact h2 h
theorem okLot_ok {cs : List Nat} (hc : ∀ c ∈ cs, 0 < c ∧ c ≤ 12) (hl : cs.length ≤ 4) (hn : cs ≠ []) (h : okLot cs = true) {t : Nat} (ht : t ≤ 45) : Ok cs t := by
  have hp : ∀ c ∈ cs, 0 < c := fun c h => (hc c h).1
  unfold okLot at h
  rw [Bool.and_eq_true, Bool.and_eq_true] at h
  obtain ⟨hb, hP, hr⟩ := h
  have e1 : cntR cs zero46 = rv (cnt cs) 46 := by
    unfold zero46
    rw [cntR_eq _ _ _ hp]
    refine rv_congr _ fun i _ => ?_
    rw [← fromFirst_cnt cs hp]
    unfold fromFirst
    rw [show (fun t => if t = 0 then 1 else 0) = cnt [] from funext fun t => (cnt_nil t).symm]
  rw [e1, minR_eq hp, maxR_eq hp] at hr
  have ha := run_rv 46 hr t (by omega)
  unfold okAt at ha
  rw [Bool.and_eq_true, Bool.and_eq_true, Bool.and_eq_true, Bool.and_eq_true] at ha
  obtain ⟨a1, a2, a3, a4, a5⟩ := ha
  have a1 : isPaid cs t = decide (0 < cnt cs t) := eq_of_beq a1
  have hbig : ∀ c ∈ cs, c ≤ lcmF cs := fun c h => of_decide_eq_true (List.all_eq_true.mp hb c h)
  refine ⟨by rw [a1, decide_eq_true_iff], fun h => ?_, fun h1 h2 h3 => ?_, hbig, ?_, fun h => ?_⟩
  · refine or_of a2 (fun z => ?_) of_decide_eq_true
    have := of_decide_eq_true z
    omega
  · refine or_of a3 (fun z => ?_) fun z => or_of z (fun z => ?_) fun z => or_of z (fun z => ?_) of_decide_eq_true
    all_goals
      have := of_decide_eq_true z
      omega
  · refine or_of a4 (fun z => ?_) fun z => ?_
    · have hP45 := of_decide_eq_true z
      refine or_of hP (fun z => ?_) fun z => ?_
      · have := of_decide_eq_true z
        omega
      · have hP2 := of_decide_eq_true z
        cases cs with
        | nil => exact absurd rfl hn
        | cons c cs => exact great_big hc (by simpa using hl) hP45 hP2 ht
    · rw [greatC_eq ht]
      exact of_decide_eq_true z
  · refine or_of a5 (fun z => ?_) fun z => ?_
    · have := of_decide_eq_true z
      omega
    · unfold lenOk at z
      split at z
      · rename_i v u a b e1 e2 e3 e4
        rw [Bool.and_eq_true, Bool.and_eq_true, Bool.and_eq_true] at z
        obtain ⟨z1, z2, z3, z4⟩ := z
        exact ⟨v, u, a, b, e1, e2, e3, e4, of_decide_eq_true z1, of_decide_eq_true z2, fun h => or_of z3 (fun z => absurd (of_decide_eq_true z) h) of_decide_eq_true, fun h => or_of z4 (fun z => absurd (of_decide_eq_true z) h) of_decide_eq_true⟩
      · cases z
/-! ### all lots -/
def pw : Nat → List Nat → List (List Nat)
  | 0, _ => [[]]
  | _ + 1, [] => [[]]
  | k + 1, c :: r => (pw k r).map (c :: ·) ++ pw (k + 1) r
theorem mem_pw : ∀ {l cs : List Nat} {k : Nat}, cs.Sublist l → cs.length ≤ k → cs ∈ pw k l
  | _, cs, 0, _, hk => by
    have : cs = [] := List.eq_nil_of_length_eq_zero (by omega)
    subst this
    unfold pw
    exact List.mem_singleton.mpr rfl
  | [], cs, k + 1, h, _ => by
    have : cs = [] := List.sublist_nil.mp h
    subst this
    exact List.mem_singleton.mpr rfl
  | c :: l, cs, k + 1, h, hk => by
    show cs ∈ (pw k l).map (c :: ·) ++ pw (k + 1) l
    cases h with
    | cons _ h => exact List.mem_append_right _ (mem_pw h hk)
    | cons_cons _ h => exact List.mem_append_left _ (List.mem_map.mpr ⟨_, mem_pw h (by simpa using hk), rfl⟩)
theorem asc_sub : ∀ (n a : Nat) (cs : List Nat), cs.Pairwise (· < ·) → (∀ c ∈ cs, a ≤ c ∧ c < a + n) → cs.Sublist (List.range' a n)
  | 0, a, [], _, _ => List.nil_sublist _
  | 0, a, c :: cs, _, h => by
    have := h c List.mem_cons_self
    omega
  | n + 1, a, [], _, _ => List.nil_sublist _
  | n + 1, a, c :: cs, hp, h => by
    rw [List.range'_succ]
    have h1 := List.pairwise_cons.mp hp
    have h2 := h c List.mem_cons_self
    by_cases e : c = a
    · subst e
      exact (asc_sub n (c + 1) cs h1.2 fun d hd => by
        have := h1.1 d hd
        have := h d (List.mem_cons_of_mem _ hd)
        omega).cons_cons _
    · refine (asc_sub n (a + 1) (c :: cs) hp fun d hd => ?_).cons _
      have := h d hd
      rcases List.mem_cons.mp hd with rfl | hd
      · omega
      · have := h1.1 d hd
        omega
def lots : List (List Nat) := pw 4 [1, 2, 3, 4, 5, 6, 7, 8, 9, 10, 11, 12]
theorem mem_lots {cs : List Nat} (hc : ∀ c ∈ cs, 0 < c ∧ c ≤ 12) (hl : cs.length ≤ 4) (hu : cs.Pairwise (· < ·)) : cs ∈ lots :=
  mem_pw (asc_sub 12 1 cs hu fun c h => by
    have := hc c h
    omega) hl
end Mp
/-! The same check, told so that the kernel reckons it fast. -/
namespace Mp
noncomputable def an (a b : Bool) : Bool := Bool.rec (motive := fun _ => Bool) false b a
noncomputable def orr (a b : Bool) : Bool := Bool.rec (motive := fun _ => Bool) b true a
noncomputable def eqv2 (a b : Bool) : Bool := Bool.rec (motive := fun _ => Bool) (Bool.rec (motive := fun _ => Bool) true false b) b a
theorem an_eq (a b : Bool) : an a b = (a && b) := by cases a <;> rfl
theorem orr_eq (a b : Bool) : orr a b = (a || b) := by cases a <;> rfl
theorem eqv2_eq (a b : Bool) : eqv2 a b = (a == b) := by cases a <;> cases b <;> rfl
theorem ble_eq (a b : Nat) : Nat.ble a b = decide (a ≤ b) := by
  cases e : Nat.ble a b with
  | true => exact (decide_eq_true (Nat.le_of_ble_eq_true e)).symm
  | false => exact (decide_eq_false (fun z => by rw [Nat.ble_eq_true_of_le z] at e; cases e)).symm
theorem beq_eq (a b : Nat) : Nat.beq a b = decide (a = b) := by
  cases e : Nat.beq a b with
  | true => exact (decide_eq_true (Nat.eq_of_beq_eq_true e)).symm
  | false => exact (decide_eq_false (Nat.ne_of_beq_eq_false e)).symm
noncomputable def nthR {α : Type} (d : α) (l : List α) : Nat → α := List.rec (motive := fun _ => Nat → α) (fun _ => d) (fun x _ ih n => Nat.rec (motive := fun _ => α) x (fun m _ => ih m) n) l
theorem nthR_eq {α : Type} (d : α) : ∀ (l : List α) (n : Nat), nthR d l n = l.getD n d
  | [], n => rfl
  | x :: l, 0 => rfl
  | x :: l, n + 1 => nthR_eq d l n
noncomputable def setR {α : Type} (l : List α) : Nat → α → List α := List.rec (motive := fun _ => Nat → α → List α) (fun _ _ => []) (fun x xs ih n v => Nat.rec (motive := fun _ => List α) (v :: xs) (fun m _ => x :: ih m v) n) l
theorem setR_eq {α : Type} : ∀ (l : List α) (n : Nat) (v : α), setR l n v = l.set n v
  | [], n, v => rfl
  | x :: l, 0, v => rfl
  | x :: l, n + 1, v => congrArg (x :: ·) (setR_eq l n v)
noncomputable def estR (m step cost : Nat) (t : OT) (r : Nat) : OT :=
  Option.rec (motive := fun _ => OT) t (fun v => Option.rec (motive := fun _ => OT) (setR t (Nat.mod (Nat.add r step) m) (some (Nat.add v cost)))
    (fun w => Bool.rec (motive := fun _ => OT) t (setR t (Nat.mod (Nat.add r step) m) (some (Nat.add v cost))) (Nat.ble (Nat.succ (Nat.add v cost)) w)) (nthR none t (Nat.mod (Nat.add r step) m))) (nthR none t r)
theorem estR_eq (m step cost : Nat) (t : OT) (r : Nat) : (estR m step cost t r, (r + step) % m) = est m step cost (t, r) := by
  unfold estR est
  dsimp only
  rw [nthR_eq none t r]
  cases t.getD r none with
  | none => rfl
  | some v =>
    dsimp only
    rw [nthR_eq none t, show (r.add step).mod m = (r + step) % m from rfl]
    cases h : t.getD ((r + step) % m) none with
    | none =>
      simp only [h]
      rw [← setR_eq]
      rfl
    | some w =>
      simp only [h]
      show (Bool.rec (motive := fun _ => OT) t (setR t ((r + step) % m) (some (v + cost))) (Nat.ble (v + cost + 1) w), _) = _
      rw [ble_eq, setR_eq]
      by_cases e : v + cost < w
      · rw [decide_eq_true (show v + cost + 1 ≤ w from e), if_pos e]
      · rw [decide_eq_false (show ¬ v + cost + 1 ≤ w from e), if_neg e]
noncomputable def estNR (m step cost : Nat) (n : Nat) : OT → Nat → OT := Nat.rec (motive := fun _ => OT → Nat → OT) (fun t _ => t) (fun _ ih t r => ih (estR m step cost t r) (Nat.mod (Nat.add r step) m)) n
theorem estN_in (m step cost : Nat) : ∀ (n : Nat) (x : OT × Nat), estN m step cost (n + 1) x = estN m step cost n (est m step cost x)
  | 0, x => rfl
  | n + 1, x => by
    show est m step cost (estN m step cost (n + 1) x) = _
    rw [estN_in m step cost n x]
    rfl
theorem estNR_eq (m step cost : Nat) : ∀ (n : Nat) (t : OT) (r : Nat), estNR m step cost n t r = (estN m step cost n (t, r)).1
  | 0, t, r => rfl
  | n + 1, t, r => by
    rw [estN_in, ← estR_eq]
    exact estNR_eq m step cost n (estR m step cost t r) ((r + step) % m)
noncomputable def easeNR (m step cost k : Nat) (n : Nat) (t : OT) : OT := Nat.rec (motive := fun _ => OT) t (fun n ih => estNR m step cost k ih n) n
theorem easeNR_eq (m step cost k : Nat) (t : OT) : ∀ n, easeNR m step cost k n t = easeN m step cost k n t
  | 0 => rfl
  | n + 1 => by
    show estNR m step cost k (easeNR m step cost k n t) n = (estN m step cost k (easeN m step cost k n t, n)).1
    rw [easeNR_eq m step cost k t n, estNR_eq]
noncomputable def easeR (m step cost : Nat) (t : OT) : OT := easeNR m step cost (Nat.mul 2 (Nat.div m (Nat.gcd step m))) (Nat.gcd step m) t
theorem easeR_eq (m step cost : Nat) (t : OT) : easeR m step cost t = ease m step cost t := easeNR_eq ..
noncomputable def leastR (cs : List Nat) (m : Nat) : OT := cs.foldl (fun t c => easeR m c c t) (start m)
theorem leastR_eq (cs : List Nat) (m : Nat) : leastR cs m = leastTab cs m := by
  unfold leastR leastTab
  congr 1
  funext t c
  exact easeR_eq ..
noncomputable def costR (m : Nat) (prs : List (Nat × Nat)) : OT := prs.foldl (fun t sk => if 0 < sk.1 then easeR m sk.1 sk.2 t else t) (start m)
theorem costR_eq (m : Nat) (prs : List (Nat × Nat)) : costR m prs = costTab m prs := by
  unfold costR costTab
  congr 1
  funext t sk
  rw [easeR_eq]
noncomputable def lossR (cs : List Nat) : OT := costR (top cs) ((cs.take (cs.length - 1)).map fun c => (c, top cs - c))
noncomputable def gainR (cs : List Nat) : OT := costR (low cs) ((cs.drop 1).map fun c => (c % low cs, c - low cs))
theorem lossR_eq (cs : List Nat) : lossR cs = lossTab cs := costR_eq ..
theorem gainR_eq (cs : List Nat) : gainR cs = gainTab cs := costR_eq ..
noncomputable def paidR (L : OT) (c0 t : Nat) : Bool := Option.rec (motive := fun _ => Bool) false (fun v => Nat.ble v t) (nthR none L (Nat.mod t c0))
theorem paidR_eq (cs : List Nat) (t : Nat) : paidR (leastR cs (cs.getD 0 0)) (cs.getD 0 0) t = isPaid cs t := by
  unfold paidR isPaid
  rw [leastR_eq, nthR_eq]
  rw [show t.mod (cs.getD 0 0) = t % cs.getD 0 0 from rfl]
  cases (leastTab cs (cs.getD 0 0)).getD (t % cs.getD 0 0) none with
  | none => rfl
  | some v => exact ble_eq ..
noncomputable def lenR (tp lw B1 B2 t : Nat) (v u a b : Option Nat) : Bool :=
  Option.rec (motive := fun _ => Bool) false (fun v => Option.rec (motive := fun _ => Bool) false (fun u => Option.rec (motive := fun _ => Bool) false (fun a => Option.rec (motive := fun _ => Bool) false (fun b =>
    an (Nat.ble (Nat.add v t) (Nat.mul tp a)) (an (Nat.ble (Nat.add u (Nat.mul lw b)) t) (an (orr (Nat.ble (Nat.succ t) B1) (Nat.beq (Nat.div (Nat.add t v) tp) a)) (orr (Nat.ble (Nat.succ t) B2) (Nat.beq (Nat.div (Nat.sub t u) lw) b))))) b) a) u) v
theorem lenR_eq (tp lw B1 B2 t : Nat) (v u a b : Option Nat) : lenR tp lw B1 B2 t v u a b = lenOk tp lw B1 B2 t v u a b := by
  cases v with
  | none => rfl
  | some v =>
    cases u with
    | none => rfl
    | some u =>
      cases a with
      | none => rfl
      | some a =>
        cases b with
        | none => rfl
        | some b =>
          unfold lenR lenOk
          simp only [an_eq, orr_eq, ble_eq, beq_eq]
          rfl
noncomputable def addRR (c : Nat) (l : List Nat) : List Nat := List.rec (motive := fun _ => List Nat) [] (fun x _ ih => Nat.add x (nthR 0 ih (Nat.sub c 1)) :: ih) l
theorem addRR_eq (c : Nat) : ∀ l, addRR c l = addR c l
  | [] => rfl
  | x :: l => by
    show (x + nthR 0 (addRR c l) (c - 1)) :: addRR c l = (x + (addR c l).getD (c - 1) 0) :: addR c l
    rw [addRR_eq c l, nthR_eq]
noncomputable def cntRR (cs : List Nat) (z : List Nat) : List Nat := cs.foldl (fun l c => addRR c l) z
theorem cntRR_eq (cs z : List Nat) : cntRR cs z = cntR cs z := by
  unfold cntRR cntR
  congr 1
  funext l c
  exact addRR_eq ..
noncomputable def mnO (x y : Option Nat) : Option Nat := Option.rec (motive := fun _ => Option Nat) y (fun a => Option.rec (motive := fun _ => Option Nat) x (fun b => Bool.rec (motive := fun _ => Option Nat) y x (Nat.ble a b)) y) x
noncomputable def mxO (x y : Option Nat) : Option Nat := Option.rec (motive := fun _ => Option Nat) y (fun a => Option.rec (motive := fun _ => Option Nat) x (fun b => Bool.rec (motive := fun _ => Option Nat) x y (Nat.ble a b)) y) x
noncomputable def incO (x : Option Nat) : Option Nat := Option.rec (motive := fun _ => Option Nat) none (fun a => some (Nat.succ a)) x
noncomputable def mnL (r : List (Option Nat)) (cs : List Nat) : Option Nat := List.rec (motive := fun _ => Option Nat) none (fun c _ ih => mnO (nthR none r (Nat.sub c 1)) ih) cs
noncomputable def mxL (r : List (Option Nat)) (cs : List Nat) : Option Nat := List.rec (motive := fun _ => Option Nat) none (fun c _ ih => mxO (nthR none r (Nat.sub c 1)) ih) cs
theorem mnL_eq (r : List (Option Nat)) : ∀ cs, mnL r cs = (cs.filterMap fun c => r.getD (c - 1) none).min?
  | [] => rfl
  | c :: cs => by
    show mnO (nthR none r (c - 1)) (mnL r cs) = _
    rw [mnL_eq r cs, nthR_eq]
    cases e : r.getD (c - 1) none with
    | none =>
      rw [List.filterMap_cons_none (f := fun c => r.getD (c - 1) none) e]
      rfl
    | some a =>
      rw [List.filterMap_cons_some (f := fun c => r.getD (c - 1) none) e, List.min?_cons]
      cases e2 : (List.filterMap (fun c => r.getD (c - 1) none) cs).min? with
      | none => rfl
      | some b =>
        show Bool.rec (motive := fun _ => Option Nat) (some b) (some a) (Nat.ble a b) = some (min a b)
        rw [ble_eq]
        by_cases h : a ≤ b
        · rw [decide_eq_true h, Nat.min_eq_left h]
        · rw [decide_eq_false h, Nat.min_eq_right (by omega)]
theorem mxL_eq (r : List (Option Nat)) : ∀ cs, mxL r cs = (cs.filterMap fun c => r.getD (c - 1) none).max?
  | [] => rfl
  | c :: cs => by
    show mxO (nthR none r (c - 1)) (mxL r cs) = _
    rw [mxL_eq r cs, nthR_eq]
    cases e : r.getD (c - 1) none with
    | none =>
      rw [List.filterMap_cons_none (f := fun c => r.getD (c - 1) none) e]
      rfl
    | some a =>
      rw [List.filterMap_cons_some (f := fun c => r.getD (c - 1) none) e, List.max?_cons]
      cases e2 : (List.filterMap (fun c => r.getD (c - 1) none) cs).max? with
      | none => rfl
      | some b =>
        show Bool.rec (motive := fun _ => Option Nat) (some a) (some b) (Nat.ble a b) = some (max a b)
        rw [ble_eq]
        by_cases h : a ≤ b
        · rw [decide_eq_true h, Nat.max_eq_right h]
        · rw [decide_eq_false h, Nat.max_eq_left (by omega)]
theorem incO_eq (x : Option Nat) : incO x = x.map (1 + ·) := by
  cases x with
  | none => rfl
  | some a => exact congrArg some (Nat.add_comm a 1)
noncomputable def minRR (cs : List Nat) (n : Nat) : List (Option Nat) := Nat.rec (motive := fun _ => List (Option Nat)) [] (fun t r => Nat.rec (motive := fun _ => Option Nat) (some 0) (fun _ _ => incO (mnL r cs)) t :: r) n
noncomputable def maxRR (cs : List Nat) (n : Nat) : List (Option Nat) := Nat.rec (motive := fun _ => List (Option Nat)) [] (fun t r => Nat.rec (motive := fun _ => Option Nat) (some 0) (fun _ _ => incO (mxL r cs)) t :: r) n
theorem minRR_eq (cs : List Nat) : ∀ n, minRR cs n = minR cs n
  | 0 => rfl
  | 1 => rfl
  | t + 2 => by
    show incO (mnL (minRR cs (t + 1)) cs) :: minRR cs (t + 1) = (if t + 1 = 0 then some 0 else ((cs.filterMap fun c => (minR cs (t + 1)).getD (c - 1) none).min?).map (1 + ·)) :: minR cs (t + 1)
    rw [minRR_eq cs (t + 1), mnL_eq, incO_eq, if_neg (by omega)]
theorem maxRR_eq (cs : List Nat) : ∀ n, maxRR cs n = maxR cs n
  | 0 => rfl
  | 1 => rfl
  | t + 2 => by
    show incO (mxL (maxRR cs (t + 1)) cs) :: maxRR cs (t + 1) = (if t + 1 = 0 then some 0 else ((cs.filterMap fun c => (maxR cs (t + 1)).getD (c - 1) none).max?).map (1 + ·)) :: maxR cs (t + 1)
    rw [maxRR_eq cs (t + 1), mxL_eq, incO_eq, if_neg (by omega)]
/-! ### great sums: the first 46, the last one first -/
noncomputable def stepR (c P n : Nat) (D : List Int) : List Int := Nat.rec (motive := fun _ => List Int) [] (fun i ih =>
  Bool.rec (motive := fun _ => Int) 0 (Int.sub (Int.add (nthR 0 D (Nat.sub 45 i)) (nthR 0 ih (Nat.sub c 1))) (nthR 0 D (Nat.add (Nat.sub 45 i) P))) (Nat.ble (Nat.succ i) n) :: ih) 46
theorem rv_at (f : Nat → Int) {k : Nat} (h : k ≤ 45) : nthR 0 (rv f 46) (45 - k) = f k := by
  have e := rv_get f 0 46 (46 - k) (by omega)
  rw [nthR_eq, show 45 - k = 46 - k - 1 by omega, e, if_pos (by omega)]
  congr 1
  omega
theorem rv_up (f : Nat → Int) {k P : Nat} (h : k ≤ 45) : nthR 0 (rv f 46) (45 - k + P) = if P ≤ k then f (k - P) else 0 := by
  have e := rv_get f 0 46 (46 - k + P) (by omega)
  rw [nthR_eq, show 45 - k + P = 46 - k + P - 1 by omega, e]
  by_cases hp : P ≤ k
  · rw [if_pos (by omega), if_pos hp]
    congr 1
    omega
  · rw [if_neg (by omega), if_neg hp]
theorem stT_out (c P : Nat) (L : List Int) {n i : Nat} (h : n ≤ i) : (stT c P L n).getD i 0 = 0 := by
  rw [List.getD_eq_getElem?_getD, List.getElem?_eq_none (by rw [stT_len]; exact h)]
  rfl
theorem stepR_eq {c P : Nat} (hc : 0 < c) (L : List Int) (n : Nat) : stepR c P n (rv (fun i => L.getD i 0) 46) = rv (fun i => (stT c P L (min n 46)).getD i 0) 46 := by
  have : ∀ k, k ≤ 46 → (Nat.rec (motive := fun _ => List Int) [] (fun i ih =>
      Bool.rec (motive := fun _ => Int) 0 (Int.sub (Int.add (nthR 0 (rv (fun i => L.getD i 0) 46) (Nat.sub 45 i)) (nthR 0 ih (Nat.sub c 1))) (nthR 0 (rv (fun i => L.getD i 0) 46) (Nat.add (Nat.sub 45 i) P))) (Nat.ble (Nat.succ i) n) :: ih) k : List Int) = rv (fun i => (stT c P L (min n 46)).getD i 0) k := by
    intro k
    induction k with
    | zero => exact fun _ => rfl
    | succ k ih =>
      intro hk
      dsimp only
      rw [ih (by omega)]
      show _ = (stT c P L (min n 46)).getD k 0 :: rv (fun i => (stT c P L (min n 46)).getD i 0) k
      congr 1
      rw [ble_eq]
      by_cases h : k + 1 ≤ n
      · rw [decide_eq_true (show k.succ ≤ n from h), stT_get _ _ _ _ _ (show k < min n 46 by omega)]
        show nthR 0 (rv (fun i => L.getD i 0) 46) (45 - k) + nthR 0 (rv (fun i => (stT c P L (min n 46)).getD i 0) k) (c - 1) - nthR 0 (rv (fun i => L.getD i 0) 46) (45 - k + P) = _
        rw [rv_at _ (show k ≤ 45 by omega), rv_up _ (show k ≤ 45 by omega), nthR_eq, rv_get _ _ _ _ hc]
        unfold stEl
        by_cases e : c ≤ k
        · rw [if_pos e, if_pos e, stT_get _ _ _ _ _ (show k - c < min n 46 by omega), stT_get c P L k (k - c) (by omega)]
        · rw [if_neg e, if_neg e]
      · rw [decide_eq_false (show ¬ k.succ ≤ n from h), stT_out _ _ _ (show min n 46 ≤ k by omega)]
  exact this 46 (Nat.le_refl _)
noncomputable def shortD (P : Nat) (cs : List Nat) : List Int → Nat → List Int × Nat := List.rec (motive := fun _ => List Int → Nat → List Int × Nat) (fun D n => (D, n)) (fun c _ ih D n => ih (stepR c P (Nat.add n (Nat.sub P c)) D) (Nat.add n (Nat.sub P c))) cs
theorem shortD_eq (P : Nat) : ∀ (cs : List Nat) (L : List Int) (n : Nat), (∀ c ∈ cs, 0 < c) → shortD P cs (rv (fun i => L.getD i 0) 46) n = (rv (fun i => (shortT P cs (L, n)).1.getD i 0) 46, (shortT P cs (L, n)).2)
  | [], L, n, _ => rfl
  | c :: cs, L, n, h => by
    show shortD P cs (stepR c P (n + (P - c)) (rv (fun i => L.getD i 0) 46)) (n + (P - c)) = _
    rw [stepR_eq (h c List.mem_cons_self)]
    exact shortD_eq P cs _ _ fun d hd => h d (List.mem_cons_of_mem _ hd)
noncomputable def chR (m s : Nat) : Nat := Nat.rec (motive := fun _ => Nat) 1 (fun t f => Nat.div (Nat.mul f (Nat.sub m t)) (Nat.succ t)) s
theorem chR_eq (m : Nat) : ∀ s, chR m s = chN m s
  | 0 => rfl
  | s + 1 => by
    show chR m s * (m - s) / (s + 1) = _
    rw [chR_eq m s]
    exact (chN_succ m s).symm
noncomputable def greatR (D : List Int) (P m t n : Nat) : Int := Nat.rec (motive := fun _ => Int) 0 (fun k ih => Bool.rec (motive := fun _ => Int) ih (Int.add ih (Int.mul (nthR 0 D (Nat.sub 45 (Nat.add (Nat.mod t P) (Nat.mul k P)))) (Int.ofNat (chR (Nat.sub (Nat.add (Nat.sub (Nat.div t P) k) m) 1) (Nat.sub m 1))))) (Nat.ble k (Nat.div t P))) n
theorem greatR_eq (S : List Int) (P m t : Nat) (ht : t ≤ 45) : ∀ n, greatR (rv (fun i => S.getD i 0) 46) P m t n = greatTo S P m t n
  | 0 => rfl
  | n + 1 => by
    show Bool.rec (motive := fun _ => Int) (greatR (rv (fun i => S.getD i 0) 46) P m t n) (greatR (rv (fun i => S.getD i 0) 46) P m t n + nthR 0 (rv (fun i => S.getD i 0) 46) (45 - (t % P + n * P)) * ((chR (t / P - n + m - 1) (m - 1) : Nat) : Int)) (Nat.ble n (t / P)) = _
    rw [greatTo_succ, greatR_eq S P m t ht n, chR_eq, ble_eq]
    by_cases h : n ≤ t / P
    · have h1 : n * P ≤ t / P * P := Nat.mul_le_mul_right P h
      have h2 := Nat.mod_add_div t P
      rw [Nat.mul_comm] at h2
      rw [decide_eq_true h, if_pos h, rv_at _ (by omega)]
    · rw [decide_eq_false h, if_neg h]
noncomputable def intIs (i : Int) (n : Nat) : Bool := Int.rec (motive := fun _ => Bool) (fun k => Nat.beq k n) (fun _ => false) i
theorem intIs_eq (i : Int) (n : Nat) : intIs i n = decide (i = (n : Int)) := by
  cases i with
  | ofNat k =>
    show Nat.beq k n = decide ((k : Int) = (n : Int))
    rw [beq_eq]
    by_cases h : k = n
    · rw [decide_eq_true h, decide_eq_true (by omega)]
    · rw [decide_eq_false h, decide_eq_false (by omega)]
  | negSucc k => exact (decide_eq_false (by omega)).symm
noncomputable def rgR (i j c : Nat) : Nat := Bool.rec (motive := fun _ => Nat) 0 (Nat.succ (Nat.div (Nat.sub (Nat.sub j i) 1) c)) (Nat.ble (Nat.succ i) j)
theorem rgR_eq (i j c : Nat) : rgR i j c = rgN i j c := by
  unfold rgR rgN
  rw [ble_eq]
  by_cases h : i < j
  · rw [decide_eq_true (show i.succ ≤ j from h), if_pos h]
    rfl
  · rw [decide_eq_false (show ¬ i.succ ≤ j from h), if_neg h]
noncomputable def okR (L : OT) (c0 : Nat) (D : List Int) (dn P cl BF tp lw B1 B2 : Nat) (lt gt : OT) (t n : Nat) (a b : Option Nat) : Bool :=
  an (eqv2 (paidR L c0 t) (Nat.ble 1 n)) (an (orr (Nat.ble 23 t) (Nat.ble n 400)) (an (orr (Nat.ble cl 1) (orr (Nat.ble n 0) (orr (Nat.ble 3 n) (Nat.ble t BF))))
   (an (orr (Nat.ble 46 P) (intIs (greatR D P cl t (rgR (Nat.mod t P) dn P)) n)) (orr (Nat.ble n 0) (lenR tp lw B1 B2 t (nthR none lt (Nat.mod t tp)) (nthR none gt (Nat.mod t lw)) a b)))))
theorem okR_eq {cs : List Nat} (hp : ∀ c ∈ cs, 0 < c) {t : Nat} (ht : t ≤ 45) (n : Nat) (a b : Option Nat) (P BF : Nat) :
    okR (leastR cs (cs.getD 0 0)) (cs.getD 0 0) (shortD P cs (rv (fun i => ([1] : List Int).getD i 0) 46) 1).1 (shortD P cs (rv (fun i => ([1] : List Int).getD i 0) 46) 1).2 P cs.length BF (top cs) (low cs) (lBound cs) (mBound cs) (lossR cs) (gainR cs) t n a b = okAt cs (shortT P cs ([1], 1)) P BF t n a b := by
  unfold okR okAt
  rw [paidR_eq, shortD_eq _ _ _ _ hp, greatR_eq _ _ _ _ ht, rgR_eq, nthR_eq, nthR_eq, lossR_eq, gainR_eq, lenR_eq, intIs_eq]
  simp only [an_eq, orr_eq, eqv2_eq, ble_eq]
  have e1 : decide (n = 0) = decide (n ≤ 0) := by
    by_cases h : n = 0
    · rw [decide_eq_true h, decide_eq_true (by omega)]
    · rw [decide_eq_false h, decide_eq_false (by omega)]
  have e2 : decide (cs.length < 2) = decide (cs.length ≤ 1) := by
    by_cases h : cs.length < 2
    · rw [decide_eq_true h, decide_eq_true (by omega)]
    · rw [decide_eq_false h, decide_eq_false (by omega)]
  have e3 : decide (n < 1) = decide (n ≤ 0) := by
    by_cases h : n < 1
    · rw [decide_eq_true h, decide_eq_true (by omega)]
    · rw [decide_eq_false h, decide_eq_false (by omega)]
  rw [e1, e2, e3]
  rfl
noncomputable def runR (f : Nat → Nat → Option Nat → Option Nat → Bool) (xs : List Nat) : Nat → List (Option Nat) → List (Option Nat) → Bool :=
  List.rec (motive := fun _ => Nat → List (Option Nat) → List (Option Nat) → Bool) (fun _ _ _ => true) (fun x _ ih k as bs =>
    List.rec (motive := fun _ => Bool) true (fun a as' _ => List.rec (motive := fun _ => Bool) true (fun b bs' _ => an (f (Nat.sub k 1) x a b) (ih (Nat.sub k 1) as' bs')) bs) as) xs
theorem runR_eq {f g : Nat → Nat → Option Nat → Option Nat → Bool} : ∀ (xs : List Nat) (as bs : List (Option Nat)), (∀ t n a b, t < xs.length → f t n a b = g t n a b) → runR f xs xs.length as bs = run g xs as bs
  | [], as, bs, _ => by
    unfold run
    rfl
  | x :: xs, [], bs, _ => by
    unfold run
    rfl
  | x :: xs, a :: as, [], _ => by
    unfold run
    rfl
  | x :: xs, a :: as, b :: bs, h => by
    show an (f xs.length x a b) (runR f xs xs.length as bs) = (g xs.length x a b && run g xs as bs)
    rw [an_eq, runR_eq xs as bs (fun t n a b ht => h t n a b (by rw [List.length_cons]; omega)), h _ _ _ _ (by rw [List.length_cons]; omega)]
noncomputable def okLotR (cs : List Nat) : Bool :=
  an (List.rec (motive := fun _ => Bool) true (fun c _ ih => an (Nat.ble c (lcmF cs)) ih) cs) (an (orr (Nat.ble (lcmF cs) 45) (Nat.ble (Nat.add 45 (low cs)) (lcmF cs)))
    (runR (okR (leastR cs (cs.getD 0 0)) (cs.getD 0 0) (shortD (lcmF cs) cs (rv (fun i => ([1] : List Int).getD i 0) 46) 1).1 (shortD (lcmF cs) cs (rv (fun i => ([1] : List Int).getD i 0) 46) 1).2 (lcmF cs) cs.length (boundF cs 2) (top cs) (low cs) (lBound cs) (mBound cs) (lossR cs) (gainR cs))
      (cntRR cs zero46) 46 (minRR cs 46) (maxRR cs 46)))
theorem allR_eq (m : Nat) : ∀ cs : List Nat, (List.rec (motive := fun _ => Bool) true (fun c _ ih => an (Nat.ble c m) ih) cs : Bool) = cs.all fun c => decide (c ≤ m)
  | [] => rfl
  | c :: cs => by
    show an (Nat.ble c m) _ = (decide (c ≤ m) && cs.all fun c => decide (c ≤ m))
    rw [an_eq, ble_eq, allR_eq m cs]
theorem cntR_len (cs z : List Nat) : (cntR cs z).length = z.length := by
  induction cs generalizing z with
  | nil => rfl
  | cons c cs ih =>
    show (cntR cs (addR c z)).length = _
    rw [ih]
    induction z with
    | nil => rfl
    | cons x z ih2 =>
      show (_ :: addR c z).length = _
      rw [List.length_cons, ih2]
      rfl
theorem okLotR_eq {cs : List Nat} (hp : ∀ c ∈ cs, 0 < c) : okLotR cs = okLot cs := by
  unfold okLotR okLot
  have hl : (cntR cs zero46).length = 46 := by rw [cntR_len]; exact rv_len ..
  rw [allR_eq, cntRR_eq, minRR_eq, maxRR_eq, an_eq, an_eq, orr_eq, ble_eq, ble_eq]
  have e := runR_eq (f := okR (leastR cs (cs.getD 0 0)) (cs.getD 0 0) (shortD (lcmF cs) cs (rv (fun i => ([1] : List Int).getD i 0) 46) 1).1 (shortD (lcmF cs) cs (rv (fun i => ([1] : List Int).getD i 0) 46) 1).2 (lcmF cs) cs.length (boundF cs 2) (top cs) (low cs) (lBound cs) (mBound cs) (lossR cs) (gainR cs))
    (g := okAt cs (shortT (lcmF cs) cs ([1], 1)) (lcmF cs) (boundF cs 2)) (cntR cs zero46) (minR cs 46) (maxR cs 46) (fun t n a b ht => okR_eq hp (by omega) n a b _ _)
  rw [hl] at e
  rw [e]
  rfl
end Mp
/-! Every lot is checked. -/
namespace Mp
noncomputable def allR (l : List (List Nat)) : Bool := List.rec (motive := fun _ => Bool) true (fun cs _ ih => an (orr cs.isEmpty (okLotR cs)) ih) l
theorem allR_mem : ∀ {l : List (List Nat)}, allR l = true → ∀ cs ∈ l, cs ≠ [] → okLotR cs = true
  | x :: l, h, cs, hm, hn => by
    have h1 : (an (orr x.isEmpty (okLotR x)) (allR l)) = true := h
    rw [an_eq, Bool.and_eq_true, orr_eq, Bool.or_eq_true] at h1
    rcases List.mem_cons.mp hm with rfl | hm
    · rcases h1.1 with h2 | h2
      · exact absurd (List.isEmpty_iff.mp h2) hn
      · exact h2
    · exact allR_mem h1.2 cs hm hn
def piece (k : Nat) : List (List Nat) := (lots.drop (25 * k)).take 25
theorem pc0 : allR (piece 0) = true := by decide +kernel
theorem pc1 : allR (piece 1) = true := by decide +kernel
theorem pc2 : allR (piece 2) = true := by decide +kernel
theorem pc3 : allR (piece 3) = true := by decide +kernel
theorem pc4 : allR (piece 4) = true := by decide +kernel
theorem pc5 : allR (piece 5) = true := by decide +kernel
theorem pc6 : allR (piece 6) = true := by decide +kernel
theorem pc7 : allR (piece 7) = true := by decide +kernel
theorem pc8 : allR (piece 8) = true := by decide +kernel
theorem pc9 : allR (piece 9) = true := by decide +kernel
theorem pc10 : allR (piece 10) = true := by decide +kernel
theorem pc11 : allR (piece 11) = true := by decide +kernel
theorem pc12 : allR (piece 12) = true := by decide +kernel
theorem pc13 : allR (piece 13) = true := by decide +kernel
theorem pc14 : allR (piece 14) = true := by decide +kernel
theorem pc15 : allR (piece 15) = true := by decide +kernel
theorem pc16 : allR (piece 16) = true := by decide +kernel
theorem pc17 : allR (piece 17) = true := by decide +kernel
theorem pc18 : allR (piece 18) = true := by decide +kernel
theorem pc19 : allR (piece 19) = true := by decide +kernel
theorem pc20 : allR (piece 20) = true := by decide +kernel
theorem pc21 : allR (piece 21) = true := by decide +kernel
theorem pc22 : allR (piece 22) = true := by decide +kernel
theorem pc23 : allR (piece 23) = true := by decide +kernel
theorem pc24 : allR (piece 24) = true := by decide +kernel
theorem pc25 : allR (piece 25) = true := by decide +kernel
theorem pc26 : allR (piece 26) = true := by decide +kernel
theorem pc27 : allR (piece 27) = true := by decide +kernel
theorem pc28 : allR (piece 28) = true := by decide +kernel
theorem pc29 : allR (piece 29) = true := by decide +kernel
theorem pc30 : allR (piece 30) = true := by decide +kernel
theorem pc31 : allR (piece 31) = true := by decide +kernel
theorem lots_len : lots.length ≤ 800 := by decide +kernel
theorem in_piece {cs : List Nat} (h : cs ∈ lots) : ∃ k, k < 32 ∧ cs ∈ piece k := by
  obtain ⟨i, hi, e⟩ := List.getElem_of_mem h
  have hl := lots_len
  refine ⟨i / 25, by omega, List.mem_of_getElem? (i := i % 25) ?_⟩
  unfold piece
  rw [List.getElem?_take, if_pos (by omega), List.getElem?_drop, Nat.div_add_mod, ← e]
  exact List.getElem?_eq_getElem hi
theorem all_pc {cs : List Nat} (h : cs ∈ lots) (hn : cs ≠ []) : okLotR cs = true := by
  obtain ⟨k, hk, hm⟩ := in_piece h
  match k, hk with
  | 0, _ => exact allR_mem pc0 cs hm hn
  | 1, _ => exact allR_mem pc1 cs hm hn
  | 2, _ => exact allR_mem pc2 cs hm hn
  | 3, _ => exact allR_mem pc3 cs hm hn
  | 4, _ => exact allR_mem pc4 cs hm hn
  | 5, _ => exact allR_mem pc5 cs hm hn
  | 6, _ => exact allR_mem pc6 cs hm hn
  | 7, _ => exact allR_mem pc7 cs hm hn
  | 8, _ => exact allR_mem pc8 cs hm hn
  | 9, _ => exact allR_mem pc9 cs hm hn
  | 10, _ => exact allR_mem pc10 cs hm hn
  | 11, _ => exact allR_mem pc11 cs hm hn
  | 12, _ => exact allR_mem pc12 cs hm hn
  | 13, _ => exact allR_mem pc13 cs hm hn
  | 14, _ => exact allR_mem pc14 cs hm hn
  | 15, _ => exact allR_mem pc15 cs hm hn
  | 16, _ => exact allR_mem pc16 cs hm hn
  | 17, _ => exact allR_mem pc17 cs hm hn
  | 18, _ => exact allR_mem pc18 cs hm hn
  | 19, _ => exact allR_mem pc19 cs hm hn
  | 20, _ => exact allR_mem pc20 cs hm hn
  | 21, _ => exact allR_mem pc21 cs hm hn
  | 22, _ => exact allR_mem pc22 cs hm hn
  | 23, _ => exact allR_mem pc23 cs hm hn
  | 24, _ => exact allR_mem pc24 cs hm hn
  | 25, _ => exact allR_mem pc25 cs hm hn
  | 26, _ => exact allR_mem pc26 cs hm hn
  | 27, _ => exact allR_mem pc27 cs hm hn
  | 28, _ => exact allR_mem pc28 cs hm hn
  | 29, _ => exact allR_mem pc29 cs hm hn
  | 30, _ => exact allR_mem pc30 cs hm hn
  | 31, _ => exact allR_mem pc31 cs hm hn
theorem all_ok {cs : List Nat} (hc : ∀ c ∈ cs, 0 < c ∧ c ≤ 12) (hl : cs.length ≤ 4) (hn : cs ≠ []) (hu : cs.Pairwise (· < ·)) {t : Nat} (ht : t ≤ 45) : Ok cs t := by
  refine okLot_ok hc hl hn ?_ ht
  rw [← okLotR_eq fun c h => (hc c h).1]
  exact all_pc (mem_lots hc hl hu) hn
end Mp
/-! Rules of our own: a tuple turned about. -/
namespace Cn
open PySem PySem.Spec PySem.Calls PyProof.Rows L2 HT
section
variable {prog : Program} {w : World} {A : Around} {E : Value → Shared → Prop} {s : Shared}
theorem adjust_rev (n : Nat) : Builtin.Slice.sliceAdjust none none (-1) (n : Int) = ((n : Int) - 1, -1) := by
  unfold Builtin.Slice.sliceAdjust
  rfl
theorem places_rev (n : Nat) : Builtin.Slice.slicePlaces ((n : Int) - 1) (-1) (-1) = n := by
  unfold Builtin.Slice.slicePlaces
  simp
  omega
theorem sliceApplied_rev {sl : Addr} {vl vu vs : Value} {n : Nat} {Q : Int × Int × Nat → Shared → Prop} (hs : s.heap.IsSliceOf sl vl vu vs) (pl : IsPart vl none) (pu : IsPart vu none) (ps : IsPart vs (some (-1)))
    (h : Q ((n : Int) - 1, -1, n) s) : wpAny (model prog w) A (Builtin.Slice.sliceApplied (.ref sl) (pure (n : Int))) Q E s := by
  obtain ⟨os, hos, hcs, hds⟩ := id hs
  unfold Builtin.Slice.sliceApplied Builtin.Slice.sliceFields
  refine wpAny_bind (wpAny_bind (wpAny_field hos hds (x := vl) rfl (wpAny_bind (wpAny_field hos hds (x := vu) rfl (wpAny_bind (wpAny_field hos hds (x := vs) rfl (wpAny_pure ?_)))))))
  refine wpAny_bind (slicePart_ ps ?_)
  show wpAny _ _ (if ((-1 : Int) == 0) = true then _ else _) _ _ s
  rw [if_neg (by decide)]
  refine wpAny_bind (slicePart_ pl (wpAny_bind (slicePart_ pu (wpAny_bind (wpAny_pure ?_)))))
  show wpAny _ _ (match Builtin.Slice.sliceAdjust none none (-1) (n : Int) with | (lo, hi) => pure (lo, (-1 : Int), Builtin.Slice.slicePlaces lo hi (-1))) _ _ s
  rw [adjust_rev n]
  show wpAny _ _ (pure ((n : Int) - 1, (-1 : Int), Builtin.Slice.slicePlaces ((n : Int) - 1) (-1) (-1))) _ _ s
  rw [places_rev]
  exact wpAny_pure h
theorem pick_rev (xs : Array Value) : ((List.range xs.size).filterMap fun (m : Nat) => xs[((xs.size : Int) - 1 + (m : Int) * (-1)).toNat]?).toArray = xs.toList.reverse.toArray := by
  have e : (List.range xs.size).filterMap (fun (m : Nat) => xs[((xs.size : Int) - 1 + (m : Int) * (-1)).toNat]?) = ((List.range xs.size).map fun k => xs.size - 1 - k).filterMap (xs[·]?) := by
    rw [List.filterMap_map]
    have cg : ∀ (l : List Nat) (f g : Nat → Option Value), (∀ m ∈ l, f m = g m) → l.filterMap f = l.filterMap g := by
      intro l f g
      induction l with
      | nil => intro _; rfl
      | cons a l ih =>
        intro h
        rw [List.filterMap_cons, List.filterMap_cons, h a List.mem_cons_self, ih fun m hm => h m (List.mem_cons_of_mem _ hm)]
    refine cg _ _ _ fun m hm => ?_
    have := List.mem_range.mp hm
    show xs[((xs.size : Int) - 1 + (m : Int) * (-1)).toNat]? = xs[xs.size - 1 - m]?
    congr 1
    omega
  rw [e, PySem.W.krv_range, List.filterMap_reverse, PySem.W.krv_all]
theorem getItem_tuple_rev {t sl : Addr} {items : Array Value} {vl vu vs : Value} {Q : Value → Shared → Prop} (ht : IsTup s.heap t items) (hs : s.heap.IsSliceOf sl vl vu vs) (pl : IsPart vl none) (pu : IsPart vu none) (ps : IsPart vs (some (-1)))
    (h : Q (.ref s.heap.objs.size) { s with heap := s.heap.push { cls := .type "tuple", data := .seq items.toList.reverse.toArray } })
    (hsz : items.size ≤ sizeLine) : wpAny (model prog w) A (getItem (.ref t) (.ref sl)) Q E s := by
  have htake : sizeOk (.seq items.toList.reverse.toArray) := by
    show items.toList.reverse.toArray.size ≤ sizeLine
    rw [List.size_toArray, List.length_reverse, Array.length_toList]
    exact hsz
  obtain ⟨os, hos, hcs, hds⟩ := id hs
  have hTs : s.TypeIs (.ref sl) "slice" := ⟨os, hos, hcs⟩
  unfold getItem
  try with_reducible refine wpAny_holding ?_
  first | refine wpAny_bind (wpAny_pure ?_) | skip
  refine wpAny_bind (wpAny_sequenceKey ht.typeIs (by decide) ?_)
  refine wpAny_bind (wpAny_callSpecial?_slot (name := Str.ofString "__getitem__") ht.typeIs PyProof.Rows.slot_tuple_getitem
    (wpAny_call_entry PyProof.Rows.slot_tuple_getitem ht.typeIs entry_tuple_getitem ?_ (args_tuple_getitem _ _)))
  show wpAny _ _ (Builtin.Tuple.tupleItemsOf (.ref t) >>= _) _ _ s
  refine wpAny_bind (tupleItemsOf_ ht ?_)
  refine wpAny_bind (wpAny_typeOf hTs ?_)
  rw [if_pos (by decide)]
  refine wpAny_bind (sliceApplied_rev hs pl pu ps ?_)
  have hno : ¬ ((((items.size : Int) - 1) == 0 && (-1 : Int) == 1 && items.size == items.size) = true) := by
    intro q
    rw [Bool.and_eq_true, Bool.and_eq_true] at q
    exact absurd q.1.2 (by decide)
  show wpAny _ _ (if (((items.size : Int) - 1) == 0 && (-1 : Int) == 1 && items.size == items.size) = true then _ else _) _ _ s
  rw [if_neg hno, pick_rev]
  first
    | exact wpAny_bind (m := Builtin.Tuple.tupleExact _) (wpAny_newObj_type (wpAny_pure ⟨_, rfl, wpAny_pure h⟩) htake)
    | exact wpAny_bind (m := Builtin.Tuple.tupleExact _) (wpAny_newObj_type (wpAny_bind (wpAny_pure (wpAny_pure ⟨_, rfl, wpAny_pure h⟩))) htake)
end
def tRevU (K : PySem.W.Frag) (te : TE) : TE := fun σ H Q => te σ H fun x H1 => ∃ a xs, x = .ref a ∧ SqT K H1 a xs ∧ ∀ p, H1 p = none → Q (.ref p) (upd H1 p (.tup xs.reverse))
theorem pe_revU {X : Cx} {e : Expr} {te : TE} {k : Nat} {p1 p2 p3 pos : Pos} (he : PE X e te) : PE X (.Subscript e (.Slice none none (some (.UnaryOp .USub (.Constant (.int 1) k p1) p2)) p3) pos) (tRevU X.K te) := by
  refine ⟨fun pins s σ H Q I h => ?_⟩
  refine Subscript_ (thn (he.run pins s σ H _ I h) fun v s1 ⟨x, H1, I1, r1, q1⟩ => ?_)
  obtain ⟨a, xs, ex, hx, q⟩ := q1
  subst ex
  cases r1
  have hst : PO X (some (.UnaryOp .USub (.Constant (.int 1) k p1) p2)) (tPart (tUn (rU fun i => .int (-i)) (tC (.int 1)))) := po_some (pe_un un_neg pe_int)
  refine wpAny_Slice (thn (po_none.run pins s1 σ H1 (fun o H2 => o = none ∧ H2 = H1) I1 ⟨rfl, rfl⟩) fun vl s2 ⟨l, H2, I2, pl, el, e2⟩ => ?_)
  subst el e2
  refine thn (po_none.run pins s2 σ H2 (fun o H3 => o = none ∧ H3 = H2) I2 ⟨rfl, rfl⟩) fun vu s3 ⟨u, H3, I3, pu, eu, e3⟩ => ?_
  subst eu e3
  refine thn (hst.run pins s3 σ H3 (fun o H4 => o = some (-1) ∧ H4 = H3) I3 ⟨1, rfl, -1, rfl, rfl, rfl⟩) fun vs s4 ⟨o, H4, I4, ps, eo, e4⟩ => ?_
  subst eo e4
  have I5 : Inv X pins σ H4 { s4 with heap := s4.heap.push { cls := .type "slice", data := .fields #[vl, vu, vs] } } := I4.kept (t' := s4.toks) fun b ob q => Heap.get?_push_of_some _ q
  obtain ⟨its, r, ht, hz⟩ := I5.tuple hx
  have hlen := r.length
  show wpAny (model X.prog X.w) X.A (subscriptTail e (.Slice none none (some (.UnaryOp .USub (.Constant (.int 1) k p1) p2)) p3) (.ref a) (.ref s4.heap.objs.size)) (EP X pins σ Q) X.xe { s4 with heap := s4.heap.push { cls := .type "slice", data := .fields #[vl, vu, vs] } }
  refine tail_any (ops := [.ref a, .ref s4.heap.objs.size]) ht.typeIs (PyProof.Rows.slot_tuple_getitem.lookup) ?_ (by with_unfolding_all rfl)
  refine getItem_tuple_rev ht (Heap.IsSliceOf.new _ vl vu vs) pl pu ps ?_ (by rw [List.size_toArray]; omega)
  have e : its.toArray.toList.reverse.toArray = its.reverse.toArray := by simp
  rw [e]
  refine ⟨.ref _, _, I5.laid (t' := s4.toks) (o := .tup xs.reverse) (fun b ob q => Heap.get?_push_of_some _ q) (Nat.le_refl _) ?_, rfl, q _ (I5.hok.fresh (Nat.le_refl _))⟩
  exact ⟨by rw [List.length_reverse]; exact hz, _, r.reverse, IsTup.new _ _⟩
end Cn
/-! Rules of our own: enumerate over a tuple, over a range with a step. -/
namespace Cn
open PySem PySem.Spec PyProof.Rows L2
theorem meets_enum1 {v : Value} {o : Obj} {H : Heap → Prop} (B : Begins v o H) :
    Meets (Builtin.«enumerate.__new__» ⟨[.type "enumerate", v], []⟩) (fun _ R s => H s.heap ∧
      R (.ok (.ret (.ref (s.heap.push o).objs.size))) { s with heap := (s.heap.push o).push { cls := .type "enumerate", data := .fields #[.none, .bool false, .ref s.heap.objs.size, rawInt 0, .none, .none] } }) :=
  .of_wp fun prog w A R s h => by
    obtain ⟨hp, g, d, tk, os⟩ := s; obtain ⟨h1, h⟩ := h
    have hsub := sub_enumerate
    have q1 : ∀ {A' : Around} {E : Value → Shared → Prop} {Q : Value → Shared → Prop}, Q (.ref hp.objs.size) ⟨hp.push o, g, d, tk, os⟩ → wpAny (model prog w) A' (pyIter v) Q E ⟨hp, g, d, tk, os⟩ :=
      fun q => B.iter prog w _ _ ⟨hp, g, d, tk, os⟩ _ h1 q
    wp_walk using q1
    refine wpAny_stack_any fun st => wpAny_pure ?_
    split
    · rename_i c _ _ _ _ _
      cases (c == Value.type "enumerate")
      · wp_walk using q1
        exact ⟨_, rfl, h⟩
      · wp_walk using q1
        exact ⟨_, rfl, h⟩
    · wp_walk using q1
      exact ⟨_, rfl, h⟩
section
variable {prog : Program} {w : World} {A : Around} {E : Value → Shared → Prop} {s : Shared}
theorem enum_begins1 {v : Value} {o : Obj} {H : Heap → Prop} {Q : Value → Shared → Prop} (B : Begins v o H) (h1 : H s.heap)
    (h : ∀ h', IsEnum h' (s.heap.objs.size + 1) s.heap.objs.size 0 .none → h'.get? s.heap.objs.size = some o → h'.objs.size = s.heap.objs.size + 2 →
      (∀ b o, s.heap.get? b = some o → h'.get? b = some o) → Q (.ref (s.heap.objs.size + 1)) { s with heap := h' }) :
    wpAny (model prog w) A (call (.type "enumerate") [v]) Q E s := by
  refine callType_new F.called_enumerate (by decide) (F.typeCall_enumerate_1 _) (F.newCall_enumerate_1 _) (fun obj => F.args_object_init_2 obj _) F.entry_enumerate_new
    (meets_enum1 B) ⟨h1, ?_⟩
  have hz : (s.heap.push o).objs.size = s.heap.objs.size + 1 := Heap.size_push ..
  show _ ∧ _
  rw [hz]
  have he : IsEnum ((s.heap.push o).push { cls := .type "enumerate", data := .fields #[.none, .bool false, .ref s.heap.objs.size, rawInt 0, .none, .none] }) (s.heap.objs.size + 1) s.heap.objs.size 0 .none := by
    have := Heap.get?_push_size (s.heap.push o) (o := { cls := .type "enumerate", data := .fields #[.none, .bool false, .ref s.heap.objs.size, rawInt 0, .none, .none] }) rfl
    rw [hz] at this; exact this
  refine ⟨⟨_, he, rfl⟩, h _ he (Heap.get?_push_of_some _ (Heap.get?_push_size _ B.free)) (by rw [Heap.size_push, hz]) fun b o x => Heap.get?_push_of_some _ (Heap.get?_push_of_some _ x)⟩
theorem begins_range (r : Addr) (a b c : Int) (t u v : Tok) (hs : Builtin.Range.small a b c = true) : Begins (.ref r) { cls := .type "range_iterator", data := .fields #[rawInt a, rawInt (Builtin.Range.rangeSize a b c), rawInt c] } fun h => IsRange h r a b c t u v where
  iter := fun prog w A E s Q hr h => wpAny_pyIter_range hr hs h
  keeps := fun h h' x hk => hk _ _ x
  free := rfl
theorem nextOf_range_item {it : Addr} {x left step : Int} {Q : Value → Shared → Prop} (hit : IsRangeIter s.heap it x left step) (hleft : 0 < left)
    (hQ : ∀ h', IsRangeIter h' it (x + step) (left - 1) step → Heap.SameBut it s.heap h' → Q (.int x s.toks) { s with heap := h', toks := s.toks + 1 }) :
    wpAny (model prog w) A (Builtin.SmallTypes.nextOf (.ref it)) Q E s := by
  have hT : s.TypeIs (.ref it) "range_iterator" := ⟨_, hit, rfl⟩
  unfold Builtin.SmallTypes.nextOf
  refine wpAny_bind (wpAny_callSpecial?_slot (name := Str.ofString "__next__") hT F.slot_range_iterator_next
    (call_meets F.slot_range_iterator_next hT F.entry_range_iterator_next (F.args_range_iterator_next_1 _) (AutoRange.range_iterator___next___range_iterator_1 it x left step (by omega)) ⟨hit, ?_⟩))
  exact wpAny_pure (hQ _ (Heap.get?_update_self _ (Heap.get?_update_self _ hit rfl) rfl) ((Heap.SameBut.update ..).trans (Heap.SameBut.update ..)))
theorem nextOf_range_end {it : Addr} {x left step : Int} {Q : Value → Shared → Prop} (hh : A.handled = none) (hit : IsRangeIter s.heap it x left step) (hleft : left ≤ 0)
    (hE : ∀ h' e, Heap.ExtBut it s.heap h' → (∃ o, h'.get? e = some o ∧ o.cls = .type "StopIteration") → E (.ref e) { s with heap := h' }) : wpAny (model prog w) A (Builtin.SmallTypes.nextOf (.ref it)) Q E s := by
  have hT : s.TypeIs (.ref it) "range_iterator" := ⟨_, hit, rfl⟩
  unfold Builtin.SmallTypes.nextOf
  refine wpAny_bind (wpAny_callSpecial?_slot (name := Str.ofString "__next__") hT F.slot_range_iterator_next
    (wpAny_call_entry F.slot_range_iterator_next hT F.entry_range_iterator_next ?_ (F.args_range_iterator_next_1 _)))
  show wpAny _ _ (field (.ref it) 0 >>= _) _ _ s
  refine wpAny_bind (wpAny_field hit rfl (x := rawInt x) rfl ?_)
  show wpAny _ _ (field (.ref it) 1 >>= _) _ _ s
  refine wpAny_bind (wpAny_field hit rfl (x := rawInt left) rfl ?_)
  show wpAny _ _ (field (.ref it) 2 >>= _) _ _ s
  refine wpAny_bind (wpAny_field hit rfl (x := rawInt step) rfl ?_)
  show wpAny _ _ (if left ≤ 0 then _ else _) _ _ s
  rw [if_pos hleft]
  refine wpAny_bind (wpAny_rule ?_)
  refine wpAny_bind ?_
  show wpAny _ _ (newExc (.type "StopIteration") [] >>= _) _ _ _
  refine wpAny_bind ?_
  simp only [newExc, newTuple]
  refine wpAny_bind (wpAny_newObj_type ?_ (by size_fits))
  refine wpAny_bind (m := firstArgMember _ _) (wpAny_of_eq (a := Value.none) (by first | rfl | (simp only [firstArgMember]; rfl)) ?_)
  refine wpAny_newObj_type ?_ (by size_fits)
  simp only [raiseNew]
  refine wpAny_bind (wpAny_handled ?_)
  first | rw [show A.in1.handled = none from hh] | rw [hh]
  refine wpAny_bind (wpAny_pure (wpAny_throw ?_))
  exact hE _ _ (((Heap.ExtBut.refl it s.heap).push _).push _) ⟨_, Heap.get?_push_size _ rfl, rfl⟩
end
theorem draws_range {prog : Program} {w : World} {A : Around} (hh : A.handled = none) (it : Addr) (a c : Int) (n : Nat) :
    Draws prog w A it [it] n (fun i v => ∃ t, v = .int (a + (i : Nat) * c) t) (fun i h => IsRangeIter h it (a + (i : Nat) * c) ((n : Int) - (i : Nat)) c) where
  live := fun _ _ st => ⟨_, st⟩
  frame := fun _ _ _ st hk => hk it (by simp) _ st
  item := fun i s Q E hi st hQ => by
    refine nextOf_range_item st (by omega) fun h' hit' hs' => ?_
    refine hQ _ h' _ ⟨_, rfl⟩ ?_ hs'
    have e1 : a + ((i + 1 : Nat) : Int) * c = a + (i : Int) * c + c := by push_cast; rw [Int.add_mul, Int.one_mul, Int.add_assoc]
    have e2 : (n : Int) - ((i + 1 : Nat) : Int) = (n : Int) - (i : Int) - 1 := by push_cast; omega
    rw [e1, e2]
    exact hit'
  done := fun s Q E st hE => nextOf_range_end hh st (by omega) hE
/-! ### over a tuple -/
def ItU (K : PySem.W.Frag) (a : Addr) : It :=
  ⟨fun i H => ∃ (xs : List V) (x : V), SqT K H a xs ∧ xs[i]? = some x, fun i H v H' => ∃ T x, v = .ref T ∧ H T = none ∧ H' = upd H T (.tup [.int (i : Nat), x]) ∧ ∀ xs, SqT K H a xs → xs[i]? = some x, fun i H => ∃ xs : List V, SqT K H a xs ∧ xs.length = i⟩
theorem turn_enumU {P : Program} {w : World} {K : PySem.W.Frag} {elts : List Expr} {kk : Nat} {tpos : Pos} (a e it : Addr) :
    Turn P w K (.Tuple elts kk tpos) (ItU K a) [e, it] e (fun i h => (∃ old, IsEnum h e it ((i : Nat) : Int) old) ∧ h.IsTupleIter it a i ∧ e ≠ it) where
  mem := by simp
  obj := fun i h st b hb => by
    obtain ⟨⟨old, he⟩, ⟨o, ho, hc, hd⟩, _⟩ := st
    have e' : b = e ∨ b = it := by simpa using hb
    rcases e' with z | z
    · rw [z]; exact ⟨_, he, fun v q => nomatch q⟩
    · rw [z]; exact ⟨o, ho, fun v q => by rw [hd] at q; cases q⟩
  keep := fun i h h' st k => let ⟨⟨old, he⟩, hi, hne⟩ := st; ⟨⟨old, k e (by simp) _ he⟩, hi.at fun o q => k it (by simp) o q, hne⟩
  item := by
    intro X hP hw hK hc i pins s σ H E I hf st hg
    subst hP hw hK
    obtain ⟨⟨old, he⟩, hit, hne⟩ := st
    obtain ⟨xs, x, hq, hx⟩ := hg
    obtain ⟨its, rv, p, hz⟩ := I.tuple hq
    obtain ⟨u, hu, ru⟩ := rv.get hx
    have hel : e < s.heap.objs.size := Heap.lt_size he
    have hil : it < s.heap.objs.size := by obtain ⟨_, q, _⟩ := hit; exact Heap.lt_size q
    obtain ⟨ot, hot, hoc, _⟩ := id p
    have hta : a ≠ it := fun z => by
      obtain ⟨oi, hoi, hci, _⟩ := id hit
      rw [← z, hot] at hoi
      rw [← Option.some.inj hoi, hoc] at hci
      exact absurd hci (by decide)
    have hte : a ≠ e := fun z => by
      have he' : s.heap.get? e = some _ := he
      rw [← z, hot] at he'
      rw [Option.some.inj he'] at hoc
      have q2 : Value.type "enumerate" = Value.type "tuple" := hoc
      exact absurd q2 (by decide)
    have D := Draws.tuple (prog := X.prog) (w := X.w) (A := X.A.in1) (I.ok.hd hc) it a hta its.toArray
    have hil2 : i < its.toArray.size := by
      have := (List.getElem?_eq_some_iff.mp hu).1
      simpa using this
    refine wpAny_pyNext_enum_itemD D he ⟨hit, p⟩ hil2 hne (by simp [hne, Ne.symm hte]) fun x' h' tk hP ho hst' hT hsz hk => ?_
    have ex : x' = u := by
      have q : its.toArray[i]? = some x' := hP
      have q2 : its[i]? = some x' := by simpa using q
      rw [hu] at q2
      exact (Option.some.inj q2).symm
    subst ex
    refine ⟨_, rfl, wpAny_letOwnedTupleGo_enum (s := { s with heap := h', toks := tk + 1 }) ho fun h'' he' sb => ?_⟩
    have hT2 : h''.get? s.heap.objs.size = some { cls := .type "tuple", data := .seq #[.int i tk, x'] } := (sb.2 _ (Nat.ne_of_gt hel)).trans hT
    have new : ObjOk X.prog X.w (upd H s.heap.objs.size (.tup [.int (i : Nat), x])) h'' s.heap.objs.size (.tup [.int (i : Nat), x]) :=
      ⟨by show 2 ≤ sizeLine; decide, [.int i tk, x'], .cons ⟨_, rfl⟩ (.cons ru .nil), ⟨_, hT2, rfl, _, rfl⟩⟩
    have I1 : Inv X pins σ (upd H s.heap.objs.size (.tup [.int (i : Nat), x])) { s with heap := h'', toks := tk + 1 } :=
      I.turnedNew (ch := [e, it]) (fun b ob hb q => (sb.2 b (fun z => hb (by simp [z]))).trans (hk b ob (fun z => hb (by simp [z])) (fun z => hb (by simp [z])) q)) hf (Nat.le_refl _) new
    refine ⟨.ref s.heap.objs.size, _, I1, rfl, ⟨_, x, rfl, I.hok.fresh (Nat.le_refl _), rfl, fun ys hy => by rw [I.tuple_inj hy hq]; exact hx⟩, ⟨⟨x', ?_⟩, hst'.1.at fun o q => (sb.2 it (Ne.symm hne)).trans q, hne⟩, fun b hb => ?_⟩
    · have e1 : ((i + 1 : Nat) : Int) = (i : Int) + 1 := by omega
      rw [e1]; exact he'
    · have hb' : b < s.heap.objs.size := by
        have e' : b = e ∨ b = it := by simpa using hb
        rcases e' with z | z
        · rw [z]; exact hel
        · rw [z]; exact hil
      rw [upd_ne (Nat.ne_of_lt hb')]
      exact (hf b hb).1
  done := by
    intro X hP hw hK hc i pins s σ H E I hf st hg
    subst hP hw hK
    obtain ⟨⟨old, he⟩, hit, hne⟩ := st
    obtain ⟨xs, hq, hx⟩ := hg
    obtain ⟨its, rv, p, hz⟩ := I.tuple hq
    obtain ⟨f0, f1, f2, f3, f4, f5⟩ := hf it (by simp)
    have hl := rv.length
    obtain ⟨ot, hot, hoc, _⟩ := id p
    have hta : a ≠ it := fun z => by
      obtain ⟨oi, hoi, hci, _⟩ := id hit
      rw [← z, hot] at hoi
      rw [← Option.some.inj hoi, hoc] at hci
      exact absurd hci (by decide)
    have D := Draws.tuple (prog := X.prog) (w := X.w) (A := X.A.in1) (I.ok.hd hc) it a hta its.toArray
    have hn : its.toArray.size = i := by
      rw [List.size_toArray]
      omega
    exact wpAny_pyNext_enum_endD (n := its.toArray.size) D he (by rw [hn]; exact ⟨hit, p⟩) fun h' eb => ⟨rfl, I.turned (t' := s.toks) (fun b o hb q => eb b o hb q) f0 f1 f3 f4 f5⟩
  self := fun A i s Q E st h => let ⟨⟨_, he⟩, _⟩ := st; wpAny_pyIter_enum he h
def iEnumU (K : PySem.W.Frag) (ta : TA) : TI := fun σ H R => ta σ H fun vs H1 => ∃ a xs, vs = [.ref a] ∧ SqT K H1 a xs ∧ R (ItU K a) H1
theorem pi_enumU {X : Cx} {e : Expr} {ta : TA} {p pos tpos : Pos} {elts : List Expr} {kk : Nat} (hg : Gl X "enumerate") (hm : X.mg "enumerate" = none) (ha : PA X [e] ta) (hs : starEach [e] X.env = [(false, eval e X.env)] := by rfl) :
    PI X (.Tuple elts kk tpos) (.Call (.Name "enumerate" p) [e] [] pos) (iEnumU X.K ta) := by
  refine ⟨fun pins s σ H R I h => ?_⟩
  refine Call_ (ld_blt I hg hm boot_enumerate (PyProof.Rows.callWith_type1 (thn (ha.run pos pins s σ H _ I h) fun us s1 ⟨vs, H1, I1, r1, q1⟩ => ?_) hs rfl))
  obtain ⟨a, xs, ex, hq, q⟩ := q1
  subst ex
  cases r1 with
  | cons r rr =>
    cases rr
    cases r
    obtain ⟨its, rv, p', hz⟩ := I1.tuple hq
    refine enum_begins1 (begins_tuple a its.toArray) p' fun h' he hit hsz hk => wpAny_pyIter_enum he ?_
    have I2 : Inv X pins σ H1 { s1 with heap := h' } := I1.kept (t' := s1.toks) hk
    refine ⟨s1.heap.objs.size + 1, [s1.heap.objs.size + 1, s1.heap.objs.size], _, _, H1, rfl, I2, turn_enumU a (s1.heap.objs.size + 1) s1.heap.objs.size, ⟨⟨.none, he⟩, ⟨_, hit, rfl, rfl⟩, Nat.succ_ne_self _⟩, fun b hb => ?_, q⟩
    have e' : b = s1.heap.objs.size + 1 ∨ b = s1.heap.objs.size := by simpa using hb
    have hle : s1.heap.objs.size ≤ b := by
      rcases e' with z | z
      · rw [z]; exact Nat.le_add_right _ _
      · rw [z]; exact Nat.le_refl _
    exact I1.fpOk hle (I1.hok.fresh hle)
/-! ### over a range with a step -/
def ItR (lo c : Int) (n : Nat) : It :=
  ⟨fun i _ => i < n, fun i H v H' => ∃ T, v = .ref T ∧ H T = none ∧ H' = upd H T (.tup [.int (i : Nat), .int (lo + (i : Nat) * c)]), fun i _ => i = n⟩
theorem turn_enumR {P : Program} {w : World} {K : PySem.W.Frag} {elts : List Expr} {kk : Nat} {tpos : Pos} (e it : Addr) (lo c : Int) (n : Nat) :
    Turn P w K (.Tuple elts kk tpos) (ItR lo c n) [e, it] e (fun i h => (∃ old, IsEnum h e it ((i : Nat) : Int) old) ∧ IsRangeIter h it (lo + (i : Nat) * c) ((n : Int) - (i : Nat)) c ∧ e ≠ it) where
  mem := by simp
  obj := fun i h st b hb => by
    obtain ⟨⟨old, he⟩, hi, _⟩ := st
    have e' : b = e ∨ b = it := by simpa using hb
    rcases e' with z | z
    · rw [z]; exact ⟨_, he, fun v q => nomatch q⟩
    · rw [z]; exact ⟨_, hi, fun v q => nomatch q⟩
  keep := fun i h h' st k => let ⟨⟨old, he⟩, hi, hne⟩ := st; ⟨⟨old, k e (by simp) _ he⟩, k it (by simp) _ hi, hne⟩
  item := by
    intro X hP hw hK hc i pins s σ H E I hf st hg
    subst hP hw hK
    obtain ⟨⟨old, he⟩, hit, hne⟩ := st
    have hel : e < s.heap.objs.size := Heap.lt_size he
    have hil : it < s.heap.objs.size := Heap.lt_size hit
    have D := draws_range (prog := X.prog) (w := X.w) (A := X.A.in1) (I.ok.hd hc) it lo c n
    refine wpAny_pyNext_enum_itemD D he hit hg hne (by simp [hne]) fun x' h' tk hP ho hst' hT hsz hk => ?_
    obtain ⟨t0, ex⟩ := hP
    subst ex
    refine ⟨_, rfl, wpAny_letOwnedTupleGo_enum (s := { s with heap := h', toks := tk + 1 }) ho fun h'' he' sb => ?_⟩
    have hT2 : h''.get? s.heap.objs.size = some { cls := .type "tuple", data := .seq #[.int i tk, .int (lo + (i : Nat) * c) t0] } := (sb.2 _ (Nat.ne_of_gt hel)).trans hT
    have new : ObjOk X.prog X.w (upd H s.heap.objs.size (.tup [.int (i : Nat), .int (lo + (i : Nat) * c)])) h'' s.heap.objs.size (.tup [.int (i : Nat), .int (lo + (i : Nat) * c)]) :=
      ⟨by show 2 ≤ sizeLine; decide, [.int i tk, .int (lo + (i : Nat) * c) t0], .cons ⟨_, rfl⟩ (.cons ⟨_, rfl⟩ .nil), ⟨_, hT2, rfl, _, rfl⟩⟩
    have I1 : Inv X pins σ (upd H s.heap.objs.size (.tup [.int (i : Nat), .int (lo + (i : Nat) * c)])) { s with heap := h'', toks := tk + 1 } :=
      I.turnedNew (ch := [e, it]) (fun b ob hb q => (sb.2 b (fun z => hb (by simp [z]))).trans (hk b ob (fun z => hb (by simp [z])) (fun z => hb (by simp [z])) q)) hf (Nat.le_refl _) new
    refine ⟨.ref s.heap.objs.size, _, I1, rfl, ⟨_, rfl, I.hok.fresh (Nat.le_refl _), rfl⟩, ⟨⟨.int (lo + (i : Nat) * c) t0, ?_⟩, (sb.2 it (Ne.symm hne)).trans hst', hne⟩, fun b hb => ?_⟩
    · have e1 : ((i + 1 : Nat) : Int) = (i : Int) + 1 := by omega
      rw [e1]; exact he'
    · have hb' : b < s.heap.objs.size := by
        have e' : b = e ∨ b = it := by simpa using hb
        rcases e' with z | z
        · rw [z]; exact hel
        · rw [z]; exact hil
      rw [upd_ne (Nat.ne_of_lt hb')]
      exact (hf b hb).1
  done := by
    intro X hP hw hK hc i pins s σ H E I hf st hg
    subst hP hw hK
    obtain ⟨⟨old, he⟩, hit, hne⟩ := st
    obtain ⟨f0, f1, f2, f3, f4, f5⟩ := hf it (by simp)
    have hn : i = n := hg
    subst hn
    have D := draws_range (prog := X.prog) (w := X.w) (A := X.A.in1) (I.ok.hd hc) it lo c i
    exact wpAny_pyNext_enum_endD (n := i) D he hit fun h' eb => ⟨rfl, I.turned (t' := s.toks) (fun b o hb q => eb b o hb q) f0 f1 f3 f4 f5⟩
  self := fun A i s Q E st h => let ⟨⟨_, he⟩, _⟩ := st; wpAny_pyIter_enum he h
/-- a range object, tracked -/
def RgO (a : Addr) (i j c : Int) : HO := .ext fun h => ∃ t u v, IsRange h a i j c t u v
theorem rgO_ok {P : Program} {w : World} {H : Hp} {h : Heap} {a : Addr} {i j c : Int} (r : ∃ t u v, IsRange h a i j c t u v) : ObjOk P w H h a (RgO a i j c) := by
  refine ⟨r, ?_, fun h1 h2 q k => ?_⟩
  · obtain ⟨t, u, v, e⟩ := r
    exact ⟨_, e⟩
  · obtain ⟨t, u, v, e⟩ := q
    exact ⟨t, u, v, k _ e⟩
def rRng3 : List V → Hp → VK → Prop := fun xs H Q => ∃ i j c : Int, xs = [.int i, .int j, .int c] ∧ c ≠ 0 ∧ c.natAbs < 1073741824 ∧ ∀ p, H p = none → Q (.ref p) (upd H p (RgO p i j c))
theorem cr_range3 {X : Cx} : CallR X (.type "range") rRng3 := by
  intro pins s σ H xs us Q I r h
  obtain ⟨i, j, k, rfl, c0, c1, q⟩ := h
  cases r with
  | cons r rr =>
    cases rr with
    | cons r' rr =>
      cases rr with
      | cons r'' rr =>
        cases rr
        obtain ⟨t, rfl⟩ := r
        obtain ⟨t', rfl⟩ := r'
        obtain ⟨t'', rfl⟩ := r''
        refine call_range_3 c0 ?_ (.inl (PyProof.noPylong_small c1))
        refine ⟨.ref s.heap.objs.size, _, I.laid (t' := s.toks) (o := RgO s.heap.objs.size i j k) (fun b ob q => Heap.get?_push_of_some _ q) (Nat.le_refl _) (rgO_ok ⟨t, t', t'', IsRange.new ..⟩), rfl, q _ (I.hok.fresh (Nat.le_refl _))⟩
def iEnumR (ta : TA) : TI := fun σ H R => ta σ H fun vs H1 => ∃ (a : Addr) (i j c : Int) (n : Nat), vs = [.ref a] ∧ H1 a = some (RgO a i j c) ∧ RgC i j c n ∧ R (ItR i c n) H1
theorem pi_enumR {X : Cx} {e : Expr} {ta : TA} {p pos tpos : Pos} {elts : List Expr} {kk : Nat} (hg : Gl X "enumerate") (hm : X.mg "enumerate" = none) (ha : PA X [e] ta) (hs : starEach [e] X.env = [(false, eval e X.env)] := by rfl) :
    PI X (.Tuple elts kk tpos) (.Call (.Name "enumerate" p) [e] [] pos) (iEnumR ta) := by
  refine ⟨fun pins s σ H R I h => ?_⟩
  refine Call_ (ld_blt I hg hm boot_enumerate (PyProof.Rows.callWith_type1 (thn (ha.run pos pins s σ H _ I h) fun us s1 ⟨vs, H1, I1, r1, q1⟩ => ?_) hs rfl))
  obtain ⟨a, i, j, c, n, ex, hq, ⟨c0, c1, c2, c3⟩, q⟩ := q1
  subst ex
  cases r1 with
  | cons r rr =>
    cases rr
    cases r
    obtain ⟨t, u, v, hr⟩ := (show ObjOk X.prog X.w H1 s1.heap a (RgO a i j c) from I1.hok a _ hq).1
    refine enum_begins1 (begins_range a i j c t u v c2) hr fun h' he hit hsz hk => wpAny_pyIter_enum he ?_
    have I2 : Inv X pins σ H1 { s1 with heap := h' } := I1.kept (t' := s1.toks) hk
    have e1 : i + ((0 : Nat) : Int) * c = i := by simp
    have e2 : (n : Int) - ((0 : Nat) : Int) = Builtin.Range.rangeSize i j c := by rw [c3]; simp
    refine ⟨s1.heap.objs.size + 1, [s1.heap.objs.size + 1, s1.heap.objs.size], _, _, H1, rfl, I2, turn_enumR (s1.heap.objs.size + 1) s1.heap.objs.size i c n, ⟨⟨.none, he⟩, by rw [e1, e2]; exact hit, Nat.succ_ne_self _⟩, fun b hb => ?_, q⟩
    have e' : b = s1.heap.objs.size + 1 ∨ b = s1.heap.objs.size := by simpa using hb
    have hle : s1.heap.objs.size ≤ b := by
      rcases e' with z | z
      · rw [z]; exact Nat.le_add_right _ _
      · rw [z]; exact Nat.le_refl _
    exact I1.fpOk hle (I1.hok.fresh hle)
end Cn
/-! Rules of our own: the set of a list of ints. -/
namespace Cn
open PySem PySem.Spec PyProof.Rows L2
/-- an empty set as set() makes it -/
abbrev eset (w : World) : Obj := { cls := .type "set", dict := none, data := .set #[] 0 (.fresh 0 0 (!w.params.followText "set-order")) }
section
variable {P : Program} {w : World} {A : Around} {E : Value → Shared → Prop} {s : Shared}
/-- what the call leaves -/
def Left (w : World) (s : Shared) (ns : List Int) (h' : Heap) (c : Nat) : Prop :=
  SetR w h' s.heap.objs.size (fun j => decide (j ∈ ns)) c ∧ c ≤ ns.length ∧ ∀ b o, s.heap.get? b = some o → h'.get? b = some o
theorem set_of_list {l : Addr} {items : Array Value} (ns : List Int) {Q : Value → Shared → Prop} (hh : A.handled = none) (hl : s.heap.IsList l items) (hit : IntsAre items.toList ns) (hb : ns.length + 1 < scanBound)
    (h : ∀ (h' : Heap) (tk c : Nat), Left w s ns h' c → Q (.ref s.heap.objs.size) { s with heap := h', toks := tk }) :
    wpAny (model P w) A (call (.type "set") [.ref l]) Q E s := by
  have isz : items.size = ns.length := by
    have q := IntsAre.length hit
    rwa [Array.length_toList] at q
  obtain ⟨c, tl, hmro⟩ := F.called_set.mro
  have made := F.called_set.made
  have sub := F.called_set.sub
  refine wpAny_call (codeAny_of_tree ?_)
  show wpAny _ _ (callAny (.type "set") _) _ _ _
  refine wpAny_pure ⟨Code.quiet_builtin _ (by decide +kernel), codeAny_builtin F.entry_type_call ?_⟩
  rw [Around.under_plain (weight_type_call_type "set" [.ref l] []) rfl]
  have n1 := F.called_set.notType
  have n2 := F.called_set.canCreate
  have n3 := F.typeCall_set_1 (.ref l)
  repeat (any_goals (first | assumption | wp_step))
  refine codeAny_mono (code_set_led1 (.ref l) (E := E) (Q₁ := fun obj t => obj = .ref s.heap.objs.size ∧ t = { s with heap := s.heap.push (eset w) }) ⟨rfl, rfl⟩) fun r t hr => ?_
  cases r with
  | error e => exact hr
  | ok fl =>
    cases fl with
    | ret obj =>
      obtain ⟨rfl, rfl⟩ := hr
      have hS : (s.heap.push (eset w)).get? s.heap.objs.size = some (eset w) := Heap.get?_push_size _ rfl
      have hT : Shared.TypeIs { s with heap := s.heap.push (eset w) } (.ref s.heap.objs.size) "set" := ⟨_, hS, rfl⟩
      have i1 := F.called_set.init.lookup
      have i2 := F.called_set.init.bind (.ref s.heap.objs.size)
      repeat (any_goals (first | assumption | wp_step))
      refine codeAny_mono (codeAny_call_builtin (R := wants (fun r t => r = .none ∧ ∃ h' tk c, t = { s with heap := h', toks := tk } ∧ Left w s ns h' c) E) F.called_set.init.plain F.entry_set_init (check_set_init_1 hT ?_)) fun r t hr => ?_
      · obtain ⟨ol, hol, hcl, nl, hdl⟩ := hl
        obtain ⟨ocls, odict, odata, oslots⟩ := ol
        simp only at hcl hdl
        subst hcl; subst hdl
        have hol' : (s.heap.push (eset w)).get? l = some { cls := .type "list", dict := odict, data := .seq items nl, slots := oslots } := Heap.get?_push_of_some _ hol
        have s1 := F.sub_list_set
        have s2 := F.sub_list_frozenset
        have s3 : (Value.type "list" == Value.type "dict") = false := by decide
        have hl1 : (s.heap.push (eset w)).IsList l items := ⟨_, hol', rfl, nl, rfl⟩
        unfold Builtin.«set.__init__» noKeywords Builtin.Frozenset.updateFrom
        generalize ePI : pyIter = PI
        wp_walk
        subst ePI
        refine wpAny_pyIter_list hl1 ?_
        refine wpAny_bind (wpAny_runValue ?_)
        have lt : l < s.heap.objs.size := Heap.lt_size hol
        have hh3 : A.in1.in1.in1.handled = none := by simp [hh]
        have z1 : (s.heap.push (eset w)).objs.size = s.heap.objs.size + 1 := Heap.size_push ..
        have neI : l ≠ (s.heap.push (eset w)).objs.size := by
          rw [z1]; exact Nat.ne_of_lt (Nat.lt_succ_of_lt lt)
        have nf : s.heap.objs.size ∉ [(s.heap.push (eset w)).objs.size, l] := by
          rw [z1]
          intro z
          rcases List.mem_cons.mp z with z | z
          · exact absurd z (Nat.ne_of_lt (Nat.lt_succ_self _))
          · exact absurd (List.mem_singleton.mp z) (Nat.ne_of_gt lt)
        have hval : ∀ (i : Nat) (v : Value), items[i]? = some v → ∃ k t, ns[i]? = some k ∧ v = .int k t := fun i v hv => by
          have hi : i < ns.length := by rw [← isz]; exact (Array.getElem?_eq_some_iff.mp hv).1
          obtain ⟨t, e⟩ := PyProof.Rows.IntsAre.int_at hit i v (by rw [Array.getElem?_toList]; exact hv)
          exact ⟨ns[i], t, List.getElem?_eq_getElem hi, by rw [e, List.getD_eq_getElem?_getD, List.getElem?_eq_getElem hi] <;> rfl⟩
        refine set_update_ints ((Walks.list hh3 _ l neI items).toS) s.heap.objs.size nf ns isz hb hval (items.size - 0) 0 _ (by omega) (Nat.zero_le _)
          ⟨⟨_, Heap.get?_push_size _ rfl, rfl, rfl⟩, (hl1.push _)⟩ ?start ?stop
        case start => exact ⟨0, Nat.le_refl 0, setR_new_at (Heap.get?_push_of_some _ hS)⟩
        case stop =>
          intro t c' hm hc' hS'
          obtain ⟨h', g2, d', tk', os'⟩ := t
          have eg : g2 = s.gens := hm.gens
          have ed : d' = s.drawn := hm.drawn
          have eo : os' = s.os := hm.os
          subst eg; subst ed; subst eo
          show wpAny _ _ _ _ _ _
          refine wpAny_pure ?_
          show wpAny _ _ (ret Value.none) _ _ _
          rw [isz] at hc'
          refine wpAny_pure ⟨rfl, h', tk', c', rfl, hS', hc', fun b o e => ?_⟩
          have b0 : b < s.heap.objs.size := Heap.lt_size e
          refine hm.heap b o (fun z => ?_) (Heap.get?_push_of_some _ (Heap.get?_push_of_some _ e))
          rcases List.mem_cons.mp z with z | z
          · exact absurd z (Nat.ne_of_lt b0)
          · rw [z1] at z
            exact absurd (List.mem_singleton.mp z) (Nat.ne_of_lt (Nat.lt_succ_of_lt b0))
      · cases r with
        | error e => exact hr
        | ok fl =>
          cases fl with
          | ret r =>
            obtain ⟨rfl, h', tk, c', rfl, L⟩ := hr
            repeat (any_goals (first | assumption | wp_step))
            exact h _ _ _ L
          | _ => exact hr.elim
    | _ => exact hr.elim
end
theorem few_of : ∀ (m : Nat) (l : List Int), l.Nodup → (∀ k ∈ l, 0 ≤ k ∧ k < (m : Int)) → l.length ≤ m
  | 0, l, _, h => by
    cases l with
    | nil => exact Nat.le_refl 0
    | cons k l =>
      have := h k List.mem_cons_self
      omega
  | m + 1, l, nd, h => by
    have ih := few_of m (l.erase (m : Int)) (nd.erase _) fun k hk => by
      have q := (List.Nodup.mem_erase_iff nd).mp hk
      have := h k q.2
      have := q.1
      omega
    by_cases hm : (m : Int) ∈ l
    · have := List.length_erase_of_mem hm
      have := List.length_pos_of_mem hm
      omega
    · rw [List.erase_of_not_mem hm] at ih
      omega
/-- the members' number is that of a list without repetition -/
theorem SetR_few {w : World} {h : Heap} {a : Addr} {S : Int → Bool} {n : Nat} (R : SetR w h a S n) {m : Nat} (hb : ∀ k, S k = true → 0 ≤ k ∧ k < (m : Int)) : n ≤ m := by
  obtain ⟨o, es, ep, t, _, _, _, _, nd, mem, _, _, sz, _⟩ := R
  have l1 : (es.toList.map keyOf).length = n := by rw [List.length_map, Array.length_toList, sz]
  rw [← l1]
  exact few_of m _ nd fun k hk => hb k ((mem k).mpr hk)
def rSetL (K : PySem.W.Frag) (w : World) : List V → Hp → VK → Prop := fun xs H Q => ∃ (a : Addr) (ns : List Int), xs = [.ref a] ∧ SqL K H a (ns.map V.int) ∧ ns.length ≤ 4000 ∧
  ∀ (p : Addr) (c : Nat), H p = none → c ≤ ns.length → (∀ m : Nat, (∀ k ∈ ns, 0 ≤ k ∧ k < (m : Int)) → c ≤ m) → Q (.ref p) (upd H p (SetO w p (fun j => decide (j ∈ ns)) c))
theorem cr_setL {X : Cx} (hc : X.calm = true) : CallR X (.type "set") (rSetL X.K X.w) := by
  intro pins s σ H xs us Q I r h
  obtain ⟨a, ns, rfl, hq, hb, q⟩ := h
  rw [Vals.ref1 r]
  obtain ⟨its, rv, pl, hz⟩ := I.list hq
  refine set_of_list ns (I.ok.hd hc) pl.isList (intsAre_of rv) (by unfold scanBound; omega) fun h' tk c L => ?_
  obtain ⟨R, hc, k⟩ := L
  refine ⟨.ref s.heap.objs.size, _, I.laid (t' := tk) (o := SetO X.w s.heap.objs.size (fun j => decide (j ∈ ns)) c) k (Nat.le_refl _) (setO_new R), rfl, q _ _ (I.hok.fresh (Nat.le_refl _)) hc fun m hm => ?_⟩
  exact SetR_few R fun k hk => hm k (of_decide_eq_true hk)
end Cn
/-! Rules of our own: sorted of a list of tuples of numbers, of any length. -/
namespace Cn
open PySem PySem.Spec PyProof.Rows L2
/-- a tuple of numbers as data -/
def encT (ns : List Nat) : PyData := .tuple ((ns.map fun n : Nat => (n : Int)).map .int)
def leT (a b : List Nat) : Bool := PySem.W.dataLe false encT a b
theorem ltI : ∀ (a b : List Nat), (a.map fun n : Nat => (n : Int)) < (b.map fun n : Nat => (n : Int)) ↔ a < b
  | [], [] => by simp
  | [], b :: bs => ⟨fun _ => List.nil_lt_cons _ _, fun _ => List.nil_lt_cons _ _⟩
  | a :: as, [] => by
    constructor
    · intro h
      exact absurd h (List.not_lt_nil _)
    · intro h
      exact absurd h (List.not_lt_nil _)
  | a :: as, b :: bs => by
    rw [List.map_cons, List.map_cons, List.cons_lt_cons_iff, List.cons_lt_cons_iff, ltI as bs]
    constructor
    · rintro (h | ⟨h, h2⟩)
      · exact .inl (by omega)
      · exact .inr ⟨by omega, h2⟩
    · rintro (h | ⟨h, h2⟩)
      · exact .inl (by omega)
      · exact .inr ⟨by omega, h2⟩
theorem leT_eq (a b : List Nat) : leT a b = !decide (b < a) := by
  show (!PySem.W.dataLt (encT b) (encT a)) = _
  unfold encT
  rw [PySem.W.dataLt_tuple]
  show (!PySem.W.rowLt ((b.map fun n : Nat => (n : Int)).map .int) ((a.map fun n : Nat => (n : Int)).map .int)) = _
  rw [PySem.W.dataLt_ints]
  congr 1
  exact decide_eq_decide.mpr (ltI b a)
theorem leT_iff {a b : List Nat} : leT a b = true ↔ a ≤ b := by
  rw [leT_eq, Bool.not_eq_true', decide_eq_false_iff_not]
  exact List.not_lt
/-- the sorted list is the one that rises -/
theorem sorted_is {xs ys : List (List Nat)} (hp : xs.Perm ys) (hy : ys.Pairwise (· < ·)) : xs.mergeSort leT = ys := by
  have h1 : (xs.mergeSort leT).Pairwise fun a b => leT a b = true := List.pairwise_mergeSort (le := leT) (fun a b c h1 h2 => leT_iff.mpr (List.le_trans (leT_iff.mp h1) (leT_iff.mp h2)))
    (fun a b => by
      rcases List.le_total a b with h | h
      · rw [leT_iff.mpr h]
        rfl
      · rw [leT_iff.mpr h, Bool.or_true]) xs
  refine List.Perm.eq_of_pairwise (le := fun a b => leT a b = true) (fun a b _ _ h1 h2 => List.le_antisymm (leT_iff.mp h1) (leT_iff.mp h2)) h1 ?_ ((List.mergeSort_perm xs leT).trans hp)
  exact hy.imp fun {a b} h => leT_iff.mpr (List.le_of_lt h)
/-- what stands for what -/
theorem dp_tup {K : PySem.W.Frag} {H : Hp} {v : V} {ns : List Nat} (h : TupN K H v ns) : Dp K H v (encT ns) := by
  obtain ⟨a, rfl, hq⟩ := h
  refine .tup hq ?_
  induction ns with
  | nil => exact .nil
  | cons n ns ih =>
    clear hq ih
    rw [List.map_cons, List.map_cons, List.map_cons]
    have rec_ : ∀ l : List Nat, DpAll K H (l.map vN) ((l.map fun n : Nat => (n : Int)).map .int) := by
      intro l
      induction l with
      | nil => exact .nil
      | cons x l ih => exact .cons (.int _) ih
    exact .cons (.int _) (rec_ ns)
theorem each_of {K : PySem.W.Frag} {H : Hp} : ∀ {xs : List V} {us : List Value} {pss : List (List Nat)}, Paired (TupN K H) xs pss → Vals xs us → PySem.W.EachIs (fun u ps => ∃ x, RelV x u ∧ TupN K H x ps) us pss
  | _, _, _, .nil, .nil => .nil
  | _, _, _, .cons r t, .cons q s => .cons ⟨_, q, r⟩ (each_of t s)
theorem of_each {K : PySem.W.Frag} {H : Hp} : ∀ {us : List Value} {pss : List (List Nat)}, PySem.W.EachIs (fun u ps => ∃ x, RelV x u ∧ TupN K H x ps) us pss → ∃ ys : List V, Vals ys us ∧ Paired (TupN K H) ys pss
  | _, _, .nil => ⟨[], .nil, .nil⟩
  | _, _, .cons ⟨x, r, t⟩ s => by
    obtain ⟨ys, h1, h2⟩ := of_each s
    exact ⟨x :: ys, .cons r h1, .cons t h2⟩
theorem each_imp {α β : Type} {R S : α → β → Prop} (f : ∀ a b, R a b → S a b) : ∀ {as : List α} {bs : List β}, PySem.W.EachIs R as bs → PySem.W.EachIs S as bs
  | _, _, .nil => .nil
  | _, _, .cons h t => .cons (f _ _ h) (each_imp f t)
def rSortedU (K : PySem.W.Frag) : List V → Hp → VK → Prop := fun vs H Q => ∃ (a : Addr) (xs : List V) (pss : List (List Nat)), vs = [.ref a] ∧ SqL K H a xs ∧ Paired (TupN K H) xs pss ∧ (∀ ps ∈ pss, ps ≠ []) ∧
  ∀ ys p, H p = none → Paired (TupN K H) ys (pss.mergeSort leT) → Q (.ref p) (upd H p (.lst ys))
theorem cr_sortedU {X : Cx} (hu : X.A.units + 64 < cLine) : CallR X (.builtin "sorted") (rSortedU X.K) := by
  intro pins s σ H vs us Q I r h
  obtain ⟨a, xs, pss, rfl, hq, hp, hne, q⟩ := h
  rw [Vals.ref1 r]
  obtain ⟨its, rv, pl, hz⟩ := I.list hq
  have e := each_of hp rv
  have er : PySem.W.EachIs (fun v ps => ∃ as, Reads s.heap v (encT ps) as) its pss := each_imp (fun u ps h => by
    obtain ⟨x, h1, h2⟩ := h
    exact Dp.reads I _ _ _ (dp_tup h2) h1) e
  have hL : pss.length ≤ sizeLine := by
    rw [← Paired.length hp]
    exact hz
  refine PySem.W.sorted_data pl.isList e er (PySem.W.AllAlike.of fun b b' => ?_) (.inl fun d hd => ?_) hL (fun b _ => ?_) fun out hlen he => ?_
  · unfold encT
    rw [PySem.W.alike]
    exact PySem.W.alike_ints _ _
  · obtain ⟨b, hb, rfl⟩ := List.mem_map.mp hd
    cases b with
    | nil => exact absurd rfl (hne _ hb)
    | cons n ns => exact ⟨_, _, rfl⟩
  · have d0 := PySem.W.depth_ints (b.map fun n : Nat => (n : Int))
    unfold encT
    rw [PyData.depth, d0]
    omega
  · obtain ⟨ys, v1, v2⟩ := of_each he
    obtain ⟨c, hc⟩ := sortedAll_at s.heap its out.toArray
    have hle : s.heap.objs.size ≤ s.heap.objs.size + 1 := Nat.le_succ _
    refine ⟨.ref (s.heap.objs.size + 1), _, I.laid (t' := s.toks) (o := .lst ys) (fun b o => sortedAll_old) hle ⟨?_, out, c, v1, hc⟩, rfl, q ys _ (I.hok.fresh hle) v2⟩
    rw [Vals.length v1, hlen]
    exact hL
end Cn
/-! Comparisons of data: tuples of numbers, lists of such, empty ones. -/
namespace Cn
open PySem PySem.Spec PyProof.Rows L2
theorem ints_depth (ns : List Nat) : PyData.depthAll ((ns.map fun n : Nat => (n : Int)).map .int) = 0 := PySem.W.depth_ints _
theorem ints_lay : ∀ ns : List Nat, PyData.canLayAll0 ((ns.map fun n : Nat => (n : Int)).map .int) = true
  | [] => by simp [PyData.canLayAll0]
  | n :: ns => by
    rw [List.map_cons, List.map_cons, PyData.canLayAll0, ints_lay ns]
    simp [PyData.canLay0]
theorem encT_shaped (ns : List Nat) : SeqAt.shaped (encT ns) = true := by
  unfold SeqAt.shaped encT
  rw [PyData.canLay0, ints_lay, PyData.depth, ints_depth]
  rfl
def encI (ns : List Nat) : PyData := .list ((ns.map fun n : Nat => (n : Int)).map .int)
theorem encI_shaped (ns : List Nat) : SeqAt.shaped (encI ns) = true := by
  unfold SeqAt.shaped encI
  rw [PyData.canLay0, ints_lay, PyData.depth, ints_depth]
  rfl
def encP (pss : List (List Nat)) : PyData := .list (pss.map encT)
theorem encP_lay : ∀ pss : List (List Nat), PyData.canLayAll0 (pss.map encT) = true
  | [] => by simp [PyData.canLayAll0]
  | p :: pss => by
    have h : PyData.canLay0 (encT p) = true := by
      unfold encT
      rw [PyData.canLay0, ints_lay]
    rw [List.map_cons, PyData.canLayAll0, encP_lay pss, h]
    rfl
theorem encP_depth : ∀ pss : List (List Nat), PyData.depthAll (pss.map encT) ≤ 1
  | [] => by simp [PyData.depthAll]
  | p :: pss => by
    have h : PyData.depth (encT p) = 1 := by
      unfold encT
      rw [PyData.depth, ints_depth]
    have := encP_depth pss
    rw [List.map_cons, PyData.depthAll, h]
    omega
theorem encP_shaped (pss : List (List Nat)) : SeqAt.shaped (encP pss) = true := by
  have := encP_depth pss
  unfold SeqAt.shaped encP
  rw [PyData.canLay0, encP_lay, PyData.depth]
  have h : decide (PyData.depthAll (pss.map encT) + 1 ≤ 64) = true := decide_eq_true (by omega)
  simpa using h
theorem eqv_ints : ∀ a b : List Nat, PyData.eqvAll ((a.map fun n : Nat => (n : Int)).map .int) ((b.map fun n : Nat => (n : Int)).map .int) = decide (a = b)
  | [], [] => by simp [PyData.eqvAll]
  | [], _ :: _ => by simp [PyData.eqvAll]
  | _ :: _, [] => by simp [PyData.eqvAll]
  | a :: as, b :: bs => by
    rw [List.map_cons, List.map_cons, List.map_cons, List.map_cons, PyData.eqvAll, eqv_ints as bs, PyData.eqv]
    by_cases h : a = b <;> by_cases h2 : as = bs <;> simp [h, h2]
    all_goals omega
theorem eqv_encT (a b : List Nat) : PyData.eqv (encT a) (encT b) = decide (a = b) := by
  unfold encT
  rw [PyData.eqv, eqv_ints]
theorem eqv_encI (a b : List Nat) : PyData.eqv (encI a) (encI b) = decide (a = b) := by
  unfold encI
  rw [PyData.eqv, eqv_ints]
theorem eqv_encPs : ∀ a b : List (List Nat), PyData.eqvAll (a.map encT) (b.map encT) = decide (a = b)
  | [], [] => by simp [PyData.eqvAll]
  | [], _ :: _ => by simp [PyData.eqvAll]
  | _ :: _, [] => by simp [PyData.eqvAll]
  | a :: as, b :: bs => by
    rw [List.map_cons, List.map_cons, PyData.eqvAll, eqv_encPs as bs, eqv_encT]
    by_cases h : a = b <;> by_cases h2 : as = bs <;> simp [h, h2]
theorem eqv_encP (a b : List (List Nat)) : PyData.eqv (encP a) (encP b) = decide (a = b) := by
  unfold encP
  rw [PyData.eqv, eqv_encPs]
theorem dp_ints {K : PySem.W.Frag} {H : Hp} : ∀ l : List Nat, DpAll K H (l.map vN) ((l.map fun n : Nat => (n : Int)).map .int)
  | [] => .nil
  | x :: l => .cons (.int _) (dp_ints l)
theorem dp_lst {K : PySem.W.Frag} {H : Hp} {a : Addr} {ns : List Nat} (h : SqL K H a (ns.map vN)) : Dp K H (.ref a) (encI ns) := .lst h (dp_ints ns)
theorem dp_pays {K : PySem.W.Frag} {H : Hp} : ∀ {xs : List V} {pss : List (List Nat)}, Paired (TupN K H) xs pss → DpAll K H xs (pss.map encT)
  | _, _, .nil => .nil
  | _, _, .cons r t => .cons (dp_tup r) (dp_pays t)
theorem dp_lstP {K : PySem.W.Frag} {H : Hp} {a : Addr} {xs : List V} {pss : List (List Nat)} (h : SqL K H a xs) (r : Paired (TupN K H) xs pss) : Dp K H (.ref a) (encP pss) := .lst h (dp_pays r)
/-- a tuple's type -/
theorem tyx_tup {K : PySem.W.Frag} {H : Hp} {a : Addr} {xs : List V} (h : SqT K H a xs) : TyX K H (.ref a) (.type "tuple") := by
  rcases h with (h | ⟨o, h⟩) | ⟨o, its, n, h, hc, _⟩
  · exact .base (.tup h)
  · exact .fTuple h
  · exact .kTuple h hc
end Cn
/-! Values: the small looks, divisors. -/
namespace Cn
open PySem PySem.Spec PyProof.Rows L2
section
variable {P : Program} {w : World} {K : PySem.W.Frag} {mg : Str → Option Value} {base : Heap}
abbrev sIsInteger : Stmt := topS 21
theorem scIsInteger : FnScope ["value"] ["value"] (defScope sIsInteger) := ⟨rfl, rfl, rfl, by decide +kernel, rfl, by decide +kernel, by decide +kernel⟩
def spIsInt : Sp := fun vs H Q _ => ∃ i : Int, vs = [.int i] ∧ Q (.bl true) H
theorem ok_is_integer (B : Bl mg) (A : At K mg "is_integer" sIsInteger) : DefOk P w K mg base "is_integer" 1 ["value"] spIsInt := by
  refine mkDef A scIsInteger (fun _ _ _ _ _ _ us hl => match us, hl with | [_], _ => rfl) (by rintro _ _ _ _ ⟨_, rfl, _⟩; rfl) fun f cdv A outer s H vs Q E hr h => ?_
  obtain ⟨i, rfl, q⟩ := h
  refine ⟨_, pss_one (ps_ret (pe_and (pe_callB call_isi (by rfl) B.z_isinstance (by decide +kernel) (pa_cons (pv 0) (pa_cons (pe_bltn (v := .ty "int") (u := .type "int") (by rfl) B.z_int (by decide +kernel) rfl) pa_nil))) (pe_one (pe_not (pe_callB call_isi (by rfl) B.z_isinstance (by decide +kernel) (pa_cons (pv 0) (pa_cons (pe_bltn (v := .ty "bool") (u := .type "bool") (by rfl) B.z_bool (by decide +kernel) rfl) pa_nil))))))), ?_⟩
  refine ⟨_, rfl, _, _, _, _, _, rfl, .ty "int", .base (.int i), (kit_ty (by decide +kernel)), true, rfl, ?_⟩
  refine ⟨_, rfl, _, _, _, _, _, rfl, .ty "bool", .base (.int i), (kit_ty (by decide +kernel)), false, rfl, q⟩
abbrev sIsWithinBounds : Stmt := topS 22
theorem scIsWithinBounds : FnScope ["value", "least", "most"] ["value", "least", "most"] (defScope sIsWithinBounds) := ⟨rfl, rfl, rfl, by decide +kernel, rfl, by decide +kernel, by decide +kernel⟩
def spWithin : Sp := fun vs H Q _ => ∃ i a b : Int, vs = [.int i, .int a, .int b] ∧ Q (.bl (decide (a ≤ i ∧ i ≤ b))) H
theorem ok_is_within_bounds (B : Bl mg) (d_is_integer : DefOk P w K mg base "is_integer" 1 ["value"] spIsInt) (A : At K mg "is_within_bounds" sIsWithinBounds) : DefOk P w K mg base "is_within_bounds" 2 ["value", "least", "most"] spWithin := by
  refine mkDef A scIsWithinBounds (fun _ _ _ _ _ _ us hl => match us, hl with | [_, _, _], _ => rfl) (by rintro _ _ _ _ ⟨_, _, _, rfl, _⟩; rfl) fun f cdv A outer s H vs Q E hr h => ?_
  obtain ⟨i, a, b, rfl, q⟩ := h
  refine ⟨_, pss_one (ps_ret (pe_and (pe_callD d_is_integer hr rfl (pa_cons (pv 0) pa_nil)) (pe_one (pe_chain op_le op_le (pv 1) (pv 0) (pv 2))))), ?_⟩
  refine ⟨_, rfl, i, rfl, true, rfl, ?_⟩
  refine ⟨_, rfl, _, rfl, _, _, rfl, rfl, _, rfl, ?_⟩
  by_cases h1 : a ≤ i
  · rw [decide_eq_true h1]
    refine iteT ⟨_, rfl, _, _, rfl, rfl, ?_⟩
    have e : decide (a ≤ i ∧ i ≤ b) = decide (i ≤ b) := by
      by_cases h2 : i ≤ b
      · rw [decide_eq_true h2, decide_eq_true ⟨h1, h2⟩]
      · rw [decide_eq_false h2, decide_eq_false fun z => h2 z.2]
    show Q (.bl (decide (i ≤ b))) H
    rw [← e]
    exact q
  · rw [decide_eq_false h1]
    refine iteF ?_
    rw [decide_eq_false fun z => h1 z.1] at q
    exact q
/-- nothing is refused -/
def spCheck (lo hi : Int) : Sp := fun vs H Q _ => ∃ i : Int, vs = [.int i] ∧ lo ≤ i ∧ i ≤ hi ∧ Q .non H
abbrev sCheckWithin : Stmt := topS 23
theorem scCheckWithin : FnScope ["value", "least", "most"] ["value", "least", "most"] (defScope sCheckWithin) := ⟨rfl, rfl, rfl, by decide +kernel, rfl, by decide +kernel, by decide +kernel⟩
def spCheckW : Sp := fun vs H Q _ => ∃ i a b : Int, vs = [.int i, .int a, .int b] ∧ a ≤ i ∧ i ≤ b ∧ Q .non H
theorem ok_check_within (d_is_within_bounds : DefOk P w K mg base "is_within_bounds" 2 ["value", "least", "most"] spWithin) (A : At K mg "check_within" sCheckWithin) : DefOk P w K mg base "check_within" 3 ["value", "least", "most"] spCheckW := by
  refine mkDef A scCheckWithin (fun _ _ _ _ _ _ us hl => match us, hl with | [_, _, _], _ => rfl) (by rintro _ _ _ _ ⟨_, _, _, rfl, _⟩; rfl) fun f cdv A outer s H vs Q E hr h => ?_
  obtain ⟨i, a, b, rfl, h1, h2, q⟩ := h
  refine ⟨_, pss_one (ps_if (pt_not (pt_val (pe_callD d_is_within_bounds hr rfl (pa_cons (pv 0) (pa_cons (pv 1) (pa_cons (pv 2) pa_nil))))))
        (pss_one (ps_never))
        (pss_nil)), ?_⟩
  refine ⟨_, rfl, _, rfl, _, rfl, i, a, b, rfl, _, rfl, ?_⟩
  rw [decide_eq_true ⟨h1, h2⟩]
  exact iteF q
abbrev sCheckAmount : Stmt := topS 24
theorem scCheckAmount : FnScope ["value"] ["value"] (defScope sCheckAmount) := ⟨rfl, rfl, rfl, by decide +kernel, rfl, by decide +kernel, by decide +kernel⟩
theorem ok_check_amount (B : Bl mg) (d_is_within_bounds : DefOk P w K mg base "is_within_bounds" 2 ["value", "least", "most"] spWithin) (A : At K mg "check_amount" sCheckAmount) : DefOk P w K mg base "check_amount" 3 ["value"] (spCheck 0 (10 ^ 30)) := by
  refine mkDef A scCheckAmount (fun _ _ _ _ _ _ us hl => match us, hl with | [_], _ => rfl) (by rintro _ _ _ _ ⟨_, rfl, _⟩; rfl) fun f cdv A outer s H vs Q E hr h => ?_
  obtain ⟨i, rfl, h1, h2, q⟩ := h
  refine ⟨_, pss_one (ps_if (pt_not (pt_val (pe_callD d_is_within_bounds hr rfl (pa_cons (pv 0) (pa_cons (pe_int) (pa_cons (pe_gint rfl B.MOST_AMOUNT) pa_nil))))))
        (pss_one (ps_never))
        (pss_nil)), ?_⟩
  refine ⟨_, rfl, i, 0, _, rfl, _, rfl, ?_⟩
  rw [decide_eq_true ⟨h1, h2⟩]
  exact iteF q
abbrev sCheckSmall : Stmt := topS 25
theorem scCheckSmall : FnScope ["value"] ["value"] (defScope sCheckSmall) := ⟨rfl, rfl, rfl, by decide +kernel, rfl, by decide +kernel, by decide +kernel⟩
theorem ok_check_small (B : Bl mg) (d_is_within_bounds : DefOk P w K mg base "is_within_bounds" 2 ["value", "least", "most"] spWithin) (A : At K mg "check_small" sCheckSmall) : DefOk P w K mg base "check_small" 3 ["value"] (spCheck 0 400) := by
  refine mkDef A scCheckSmall (fun _ _ _ _ _ _ us hl => match us, hl with | [_], _ => rfl) (by rintro _ _ _ _ ⟨_, rfl, _⟩; rfl) fun f cdv A outer s H vs Q E hr h => ?_
  obtain ⟨i, rfl, h1, h2, q⟩ := h
  refine ⟨_, pss_one (ps_if (pt_not (pt_val (pe_callD d_is_within_bounds hr rfl (pa_cons (pv 0) (pa_cons (pe_int) (pa_cons (pe_gint rfl B.MOST_SMALL) pa_nil))))))
        (pss_one (ps_never))
        (pss_nil)), ?_⟩
  refine ⟨_, rfl, i, 0, _, rfl, _, rfl, ?_⟩
  rw [decide_eq_true ⟨h1, h2⟩]
  exact iteF q
abbrev sCommonDivisor : Stmt := topS 27
theorem scCommonDivisor : FnScope ["one", "other", "first", "second"] ["one", "other"] (defScope sCommonDivisor) := ⟨rfl, rfl, rfl, by decide +kernel, rfl, by decide +kernel, by decide +kernel⟩
def spGcd : Sp := fun vs H Q _ => ∃ a b : Nat, vs = [vN a, vN b] ∧ Q (vN (Nat.gcd a b)) H
theorem ok_common_divisor (B : Bl mg) (A : At K mg "common_divisor" sCommonDivisor) : DefOk P w K mg base "common_divisor" 1 ["one", "other"] spGcd := by
  refine mkDef A scCommonDivisor (fun _ _ _ _ _ _ us hl => match us, hl with | [_, _], _ => rfl) (by rintro _ _ _ _ ⟨_, _, rfl, _⟩; rfl) fun f cdv A outer s H vs Q E hr h => ?_
  obtain ⟨a, b, rfl, q⟩ := h
  refine ⟨_, pss_cons (ps_par (i := 2) (j := 3) (by rfl) scCommonDivisor.nd rfl rfl (by decide) rfl rfl (pa_cons (pv 0) (pa_cons (pv 1) pa_nil)) (by rfl))
      (pss_cons (ps_while PassesOwn.never (pt_cmpR op_gt (pv 3) (pe_int) (nomark _))
        (pss_one (ps_par (i := 2) (j := 3) (by rfl) scCommonDivisor.nd rfl rfl (by decide) rfl rfl (pa_cons (pv 3) (pa_cons (pe_op op_mod (pe_callTy call_int1 (by rfl) B.z_int (by decide +kernel) (pa_cons (pv 2) pa_nil)) (pv 3)) pa_nil)) (by rfl))))
      (pss_one (ps_ret (pv 2)))), ?_⟩
  refine ⟨_, rfl, _, rfl, _, _, rfl, ?_⟩
  refine ⟨fun m σ H' => ∃ x y : Nat, σ = [some (vN a), some (vN b), some (vN x), some (vN y)] ∧ m = y ∧ Nat.gcd x y = Nat.gcd a b ∧ H = H', ⟨b, a, b, rfl, rfl, rfl, rfl⟩, ?_⟩
  rintro m σ H' ⟨x, y, rfl, rfl, e, rfl⟩
  refine ⟨_, rfl, _, _, rfl, rfl, _, rfl, ?_⟩
  by_cases hy : 0 < m
  · rw [decide_eq_true (show (0 : Int) < (m : Int) by omega)]
    refine iteT ⟨fun σ H' => ∃ x' y' : Nat, σ = [some (vN a), some (vN b), some (vN x'), some (vN y')] ∧ y' < m ∧ Nat.gcd x' y' = Nat.gcd a b ∧ H = H', ?_, ?_⟩
    · rintro σ H' ⟨x', y', rfl, l, e', rfl⟩
      exact ⟨y', l, x', y', rfl, rfl, e', rfl⟩
    · refine ⟨_, rfl, _, rfl, .inl ⟨_, rfl, ?_⟩⟩
      refine ⟨_, rfl, _, _, rfl, rfl, (show (0 : Int) < (m : Int) by omega), _, _, rfl, ?_⟩
      refine ⟨m, x % m, rfl, Nat.mod_lt _ hy, ?_, rfl⟩
      rw [← e, Nat.gcd_comm x m, Nat.gcd_rec m x]
      exact Nat.gcd_comm _ _
  · rw [decide_eq_false (show ¬ (0 : Int) < (m : Int) by omega)]
    refine iteF ⟨_, rfl, ?_⟩
    have e0 : m = 0 := by omega
    subst e0
    rw [← e, Nat.gcd_zero_right] at q
    exact q
abbrev sCommonMultiple : Stmt := topS 28
theorem scCommonMultiple : FnScope ["one", "other"] ["one", "other"] (defScope sCommonMultiple) := ⟨rfl, rfl, rfl, by decide +kernel, rfl, by decide +kernel, by decide +kernel⟩
def spLcm : Sp := fun vs H Q _ => ∃ a b : Nat, vs = [vN a, vN b] ∧ 0 < b ∧ a < 2 ^ 30 ∧ b < 2 ^ 30 ∧ Q (vN (a / Nat.gcd a b * b)) H
theorem ok_common_multiple (d_common_divisor : DefOk P w K mg base "common_divisor" 1 ["one", "other"] spGcd) (A : At K mg "common_multiple" sCommonMultiple) : DefOk P w K mg base "common_multiple" 2 ["one", "other"] spLcm := by
  refine mkDef A scCommonMultiple (fun _ _ _ _ _ _ us hl => match us, hl with | [_, _], _ => rfl) (by rintro _ _ _ _ ⟨_, _, rfl, _⟩; rfl) fun f cdv A outer s H vs Q E hr h => ?_
  obtain ⟨a, b, rfl, hb, la, lb, q⟩ := h
  have g1 : 0 < Nat.gcd a b := Nat.gcd_pos_of_pos_right _ hb
  have g2 : Nat.gcd a b ≤ b := Nat.gcd_le_right _ hb
  have g3 : a / Nat.gcd a b ≤ a := Nat.div_le_self _ _
  have g4 : 0 ≤ ((a / Nat.gcd a b : Nat) : Int) := Int.natCast_nonneg _
  refine ⟨_, pss_one (ps_ret (pe_op op_mul (pe_op op_fdiv (pv 0) (pe_callD d_common_divisor hr rfl (pa_cons (pv 0) (pa_cons (pv 1) pa_nil)))) (pv 1))), ?_⟩
  refine ⟨_, rfl, _, rfl, _, rfl, a, b, rfl, ?_⟩
  refine ⟨_, _, rfl, rfl, ⟨by omega, by omega⟩, _, rfl, _, _, rfl, rfl, .inl ⟨?_, ?_⟩, q⟩
  · show -(2 ^ 64) < ((a / Nat.gcd a b : Nat) : Int)
    omega
  · show ((a / Nat.gcd a b : Nat) : Int) < 2 ^ 64
    omega
end
end Cn
/-! Loops and comprehensions, told by what they walk. -/
namespace Cn
open PySem PySem.Spec PyProof.Rows L2 RZ
section
variable {K : PySem.W.Frag} {a b : Addr} {xs ys : List V}
theorem walk_enumU : Walk (ItU K a) xs.length (fun H => SqT K H a xs) (YPair (fun i => some (.int (i : Nat))) (fun i => xs[i]?)) := by
  refine ⟨fun i _ hi q => ⟨xs, xs[i], q, by simp [hi]⟩, fun _ q => ⟨xs, q, rfl⟩, fun i H v H' _ q y => ?_⟩
  obtain ⟨T, x, h1, h2, h3, h4⟩ := y
  exact ⟨T, .int (i : Nat), x, h1, h2, h3, rfl, h4 xs q⟩
theorem walk_enumR {lo c : Int} {n : Nat} : Walk (ItR lo c n) n (fun _ => True) (YPair (fun i => some (.int (i : Nat))) (fun i => some (.int (lo + (i : Nat) * c)))) := by
  refine ⟨fun i _ hi _ => hi, fun _ _ => rfl, fun i H v H' _ q y => ?_⟩
  obtain ⟨T, h1, h2, h3⟩ := y
  exact ⟨T, _, _, h1, h2, h3, rfl, rfl⟩
theorem walk_zipT (hn : xs.length = ys.length) : Walk (ItzT K a b) xs.length (fun H => SqT K H a xs ∧ SqT K H b ys) (YPair (fun i => xs[i]?) (fun i => ys[i]?)) := by
  refine ⟨fun i _ hi q => ?_, fun _ q => ⟨xs, ys, q.1, q.2, by omega⟩, fun i H v H' _ q y => ?_⟩
  · have h2 : i < ys.length := by omega
    exact ⟨xs, ys, xs[i], ys[i], q.1, q.2, by simp [hi], by simp [h2]⟩
  · obtain ⟨T, x, z, h1, h2, h3, h4, h5⟩ := y
    exact ⟨T, x, z, h1, h2, h3, h4 xs q.1, h5 ys q.2⟩
end
/-- the target a, b -/
abbrev gPair (K : PySem.W.Frag) (i j : Nat) : TG := gTup K 2 (gCons (gName i) (gCons (gName j) gNil))
section
variable {J : It} {n : Nat} {G : Hp → Prop} {X Y : Nat → Option V} {K : PySem.W.Frag} {i1 i2 : Nat}
theorem for_pair (w : Walk J n G (YPair X Y)) {tb : TS} {D : Ends} {σ : L2.St} {H : Hp} (Pv : Nat → L2.St → Hp → Prop) (h0 : Pv 0 σ H) (hG : ∀ i σ H, i ≤ n → Pv i σ H → G H)
    (hs : ∀ i x y T σ H, i < n → Pv i σ H → H T = none → X i = some x → Y i = some y → tb { D with nx := Pv (i + 1), ct := Pv (i + 1), bk := D.nx } ((σ.set i1 (some x)).set i2 (some y)) (upd H T (.tup [x, y]))) (hd : ∀ σ H, Pv n σ H → D.nx σ H) :
    ∃ W : Nat → Nat → L2.St → Hp → Prop, (∃ m, W 0 m σ H) ∧ ∀ i m σ H, W i m σ H →
      (J.stop i H ∧ D.nx σ H) ∨ (J.go i H ∧ ∃ N : L2.St → Hp → Prop, (∀ σ' H', N σ' H' → ∃ m', m' < m ∧ W (i + 1) m' σ' H') ∧ ∀ x H', J.yld i H x H' → gPair K i1 i2 x σ H' fun σ2 H2 => tb { D with nx := N, ct := N, bk := D.nx } σ2 H2) :=
  for_it w Pv h0 hG (fun i v σ H H' hi p y => by
    obtain ⟨T, x, z, rfl, hT, rfl, hx, hz⟩ := y
    exact ⟨T, [x, z], rfl, SqT.of upd_same, rfl, x, [z], rfl, z, [], rfl, rfl, hs i x z T σ H hi p hT hx hz⟩) hd
theorem lc_pair (w : Walk J n G (YPair X Y)) {tt : TT} {te : TE} {vs : List Nat} {σ : L2.St} {H1 : Hp} {D : Addr} {Qd : Hp → Prop} (Pv : Nat → Hp → Prop) (h0 : Pv 0 (upd H1 D (.lst []))) (hG : ∀ i H, i ≤ n → Pv i H → G H)
    (hw : ∀ x y, wipe (((wipe σ vs).set i1 (some x)).set i2 (some y)) vs = wipe σ vs)
    (hs : ∀ i x y T H, i < n → Pv i H → H T = none → X i = some x → Y i = some y → tt (((wipe σ vs).set i1 (some x)).set i2 (some y)) (upd H T (.tup [x, y])) fun b H3 =>
      if b = true then te (((wipe σ vs).set i1 (some x)).set i2 (some y)) H3 fun y H4 => ∃ acc, H4 D = some (.lst acc) ∧ acc.length < sizeLine ∧ Pv (i + 1) (upd H4 D (.lst (acc ++ [y]))) else Pv (i + 1) H3) (hd : ∀ H, Pv n H → Qd H) :
    ∃ W : Nat → Nat → Hp → Prop, (∃ m, W 0 m (upd H1 D (.lst []))) ∧ ∀ i m H, W i m H →
      (J.stop i H ∧ Qd H) ∨ (J.go i H ∧ ∃ Nx : Hp → Prop, (∀ H', Nx H' → ∃ m', m' < m ∧ W (i + 1) m' H') ∧ ∀ x H', J.yld i H x H' → gPair K i1 i2 x (wipe σ vs) H' fun σ2 H2 => wipe σ2 vs = wipe σ vs ∧ tt σ2 H2 fun b H3 =>
        if b = true then te σ2 H3 fun y H4 => ∃ acc, H4 D = some (.lst acc) ∧ acc.length < sizeLine ∧ Nx (upd H4 D (.lst (acc ++ [y]))) else Nx H3) :=
  lc_it w Pv h0 hG (fun i v H H' hi p y => by
    obtain ⟨T, x, z, rfl, hT, rfl, hx, hz⟩ := y
    exact ⟨T, [x, z], rfl, SqT.of upd_same, rfl, x, [z], rfl, z, [], rfl, rfl, hw x z, hs i x z T H hi p hT hx hz⟩) hd
end
/-- for x in range(n), for x in range(lo, hi): the numbers as they are -/
theorem for_r0 {k : Int} (n : Nat) (e : k.toNat = n) {j : Nat} {tb : TS} {D : Ends} {σ : L2.St} {H : Hp} (Pv : Nat → L2.St → Hp → Prop) (h0 : Pv 0 σ H)
    (hs : ∀ i σ H, i < n → Pv i σ H → tb { D with nx := Pv (i + 1), ct := Pv (i + 1), bk := D.nx } (σ.set j (some (vN i))) H) (hd : ∀ σ H, Pv n σ H → D.nx σ H) :
    ∃ W : Nat → Nat → L2.St → Hp → Prop, (∃ m, W 0 m σ H) ∧ ∀ i m σ H, W i m σ H →
      ((Itr 0 k.toNat).stop i H ∧ D.nx σ H) ∨ ((Itr 0 k.toNat).go i H ∧ ∃ N : L2.St → Hp → Prop, (∀ σ' H', N σ' H' → ∃ m', m' < m ∧ W (i + 1) m' σ' H') ∧ ∀ x H', (Itr 0 k.toNat).yld i H x H' → gName j x σ H' fun σ2 H2 => tb { D with nx := N, ct := N, bk := D.nx } σ2 H2) := by
  subst e
  refine for_range Pv h0 (fun i σ H hi p => ?_) hd
  have e0 : (0 : Int) + (i : Int) = (i : Int) := Int.zero_add _
  show tb { D with nx := Pv (i + 1), ct := Pv (i + 1), bk := D.nx } (σ.set j (some (.int ((0 : Int) + (i : Int))))) H
  rw [e0]
  exact hs i σ H hi p
theorem for_rN {z k : Int} (lo n : Nat) (e : z = (lo : Int)) (e2 : k.toNat = n) {j : Nat} {tb : TS} {D : Ends} {σ : L2.St} {H : Hp} (Pv : Nat → L2.St → Hp → Prop) (h0 : Pv 0 σ H)
    (hs : ∀ i σ H, i < n → Pv i σ H → tb { D with nx := Pv (i + 1), ct := Pv (i + 1), bk := D.nx } (σ.set j (some (vN (lo + i)))) H) (hd : ∀ σ H, Pv n σ H → D.nx σ H) :
    ∃ W : Nat → Nat → L2.St → Hp → Prop, (∃ m, W 0 m σ H) ∧ ∀ i m σ H, W i m σ H →
      ((Itr z k.toNat).stop i H ∧ D.nx σ H) ∨ ((Itr z k.toNat).go i H ∧ ∃ N : L2.St → Hp → Prop, (∀ σ' H', N σ' H' → ∃ m', m' < m ∧ W (i + 1) m' σ' H') ∧ ∀ x H', (Itr z k.toNat).yld i H x H' → gName j x σ H' fun σ2 H2 => tb { D with nx := N, ct := N, bk := D.nx } σ2 H2) := by
  subst e e2
  exact for_range Pv h0 hs hd
/-- the same within a comprehension -/
theorem lc_r0 {k : Int} (n : Nat) (e : k.toNat = n) {j : Nat} {tt : TT} {te : TE} {vs : List Nat} {σ : L2.St} {H1 : Hp} {D : Addr} {Qd : Hp → Prop} (Pv : Nat → Hp → Prop) (h0 : Pv 0 (upd H1 D (.lst [])))
    (hw : ∀ x, wipe ((wipe σ vs).set j (some x)) vs = wipe σ vs)
    (hs : ∀ i H, i < n → Pv i H → tt ((wipe σ vs).set j (some (vN i))) H fun b H3 =>
      if b = true then te ((wipe σ vs).set j (some (vN i))) H3 fun y H4 => ∃ acc, H4 D = some (.lst acc) ∧ acc.length < sizeLine ∧ Pv (i + 1) (upd H4 D (.lst (acc ++ [y]))) else Pv (i + 1) H3) (hd : ∀ H, Pv n H → Qd H) :
    ∃ W : Nat → Nat → Hp → Prop, (∃ m, W 0 m (upd H1 D (.lst []))) ∧ ∀ i m H, W i m H →
      ((Itr 0 k.toNat).stop i H ∧ Qd H) ∨ ((Itr 0 k.toNat).go i H ∧ ∃ Nx : Hp → Prop, (∀ H', Nx H' → ∃ m', m' < m ∧ W (i + 1) m' H') ∧ ∀ x H', (Itr 0 k.toNat).yld i H x H' → gName j x (wipe σ vs) H' fun σ2 H2 => wipe σ2 vs = wipe σ vs ∧ tt σ2 H2 fun b H3 =>
        if b = true then te σ2 H3 fun y H4 => ∃ acc, H4 D = some (.lst acc) ∧ acc.length < sizeLine ∧ Nx (upd H4 D (.lst (acc ++ [y]))) else Nx H3) := by
  subst e
  refine lc_range Pv h0 (fun i H hi p => ?_) hd
  have e0 : (0 : Int) + (i : Int) = (i : Int) := Int.zero_add _
  rw [e0]
  exact ⟨hw _, hs i H hi p⟩
/-- tuple(x) of a list or a tuple -/
def rTupOf (K : PySem.W.Frag) : List V → Hp → VK → Prop := fun xs H Q => ∃ p ys, xs = [.ref p] ∧ ((SqL K H p ys ∧ ∀ l, H l = none → Q (.ref l) (upd H l (.tup ys))) ∨ (SqT K H p ys ∧ Q (.ref p) H))
theorem cr_tupOf {X : Cx} : CallR X (.type "tuple") (rTupOf X.K) := call_tuple_of
/-! ### tables with gaps -/
theorem atO {t : List (Option Nat)} {i : Nat} {z : Int} (e : z = (i : Int)) (h : i < t.length) : atI (t.map vO) z = some (vO (t.getD i none)) := by
  refine at_of e ?_
  rw [List.getElem?_map, List.getD_eq_getElem?_getD, List.getElem?_eq_getElem h]
  rfl
theorem atN {ns : List Nat} {i : Nat} {z : Int} (e : z = (i : Int)) (h : i < ns.length) : atI (ns.map vN) z = some (vN (ns.getD i 0)) := by
  refine at_of e ?_
  rw [List.getElem?_map, List.getD_eq_getElem?_getD, List.getElem?_eq_getElem h]
  rfl
theorem ixN_of {n i : Nat} {z : Int} (e : z = (i : Int)) (h : i < n) : ixN n z = some i := ixN_tab e h
theorem rep1 (n : Nat) (w : V) : (List.replicate n [w]).flatten = List.replicate n w := by
  induction n with
  | zero => rfl
  | succ n ih =>
    rw [List.replicate_succ, List.flatten_cons, ih, List.replicate_succ]
    rfl
/-- [v] + [w] * k -/
theorem cat_rep {v w : V} {tk : TE} {k : Nat} {σ : L2.St} {H : Hp} {Q : VK} (hk : ∀ H1 (Q1 : VK), Q1 (.int k) H1 → tk σ H1 Q1) (hl : k ≤ 15000000)
    (h : ∀ p H', Same H H' → H p = none → H' p = some (.lst (v :: List.replicate k w)) → Q (.ref p) H') :
    tOp rCat (tLst (tCons (tC v) tNil)) (tOp rRep (tLst (tCons (tC w) tNil)) tk) σ H Q := by
  refine ⟨sz 1 (by decide), fun p0 n0 => ⟨sz 1 (by decide), fun p1 n1 => hk _ _ ?_⟩⟩
  have s1 : Same H (upd H p0 (.lst [v])) := same_upd n0
  have s2 : Same (upd H p0 (.lst [v])) (upd (upd H p0 (.lst [v])) p1 (.lst [w])) := same_upd n1
  refine ⟨_, _, _, rfl, rfl, upd_same, (by omega), (by omega), sz _ (by show 1 * (k : Int).toNat ≤ _; omega), fun p2 n2 => ?_⟩
  have s3 : Same (upd (upd H p0 (.lst [v])) p1 (.lst [w])) (upd (upd (upd H p0 (.lst [v])) p1 (.lst [w])) p2 (.lst (List.replicate (k : Int).toNat [w]).flatten)) := same_upd n2
  have ek : (List.replicate (k : Int).toNat [w]).flatten = List.replicate k w := by rw [Int.toNat_natCast, rep1]
  refine ⟨_, _, _, _, rfl, rfl, s3 _ _ (s2 _ _ upd_same), upd_same, sz _ (by rw [ek, List.length_replicate]; show 1 + k ≤ _; omega), fun p3 n3 => ?_⟩
  refine h p3 _ (((s1.trans s2).trans s3).new n3) (((s1.trans s2).trans s3).free n3) ?_
  rw [upd_same, ek]
  rfl
theorem vO_set {t : List (Option Nat)} {j x : Nat} : (t.map vO).set j (vN x) = (t.set j (some x)).map vO := by
  rw [List.map_set]
  rfl
theorem vN_set {t : List Nat} {j x : Nat} : (t.map vN).set j (vN x) = (t.set j x).map vN := by
  rw [List.map_set]
theorem int1_ok {i : Int} {H : Hp} {Q : VK} (h : Q (.int i) H) : (∃ j, [V.int i] = [.int j] ∧ Q (.int j) H) ∨ ∃ k, [V.int i] = [.bl k] ∧ Q (.int (if k then 1 else 0)) H := .inl ⟨i, rfl, h⟩
end Cn
/-! sum(t) of a tuple of numbers. -/
namespace Cn
open PySem PySem.Spec PySem.Calls PyProof.Rows PyProof.V L2
def rSumU (K : PySem.W.Frag) : List V → Hp → VK → Prop := fun vs H Q => ∃ (a : Addr) (ns : List Int), vs = [V.ref a] ∧ SqT K H a (ns.map V.int) ∧ Q (.int ns.sum) H
theorem cr_sumU {X : Cx} (hc : X.calm = true) : CallR X (.builtin "sum") (rSumU X.K) := by
  intro pins s σ H vs us Q I r h
  obtain ⟨a, ns, rfl, hs, q⟩ := h
  obtain ⟨its, rv, ht, _⟩ := I.tuple hs
  rw [Vals.ref1 r]
  obtain ⟨xs, e⟩ := rv.ints.allInts.items
  have hn : numsOf (intItems xs).toList = ns := by
    rw [← e]
    exact rv.ints.numsOf
  rw [nums_intItems] at hn
  rw [e] at ht
  refine PySem.W.ktm_sumG (I.ok.hd hc) ht fun h' tk t' hk => ?_
  rw [preSum_eq, List.take_of_length_le (by simp), hn]
  exact ⟨.int _, H, I.kept hk, ⟨_, rfl⟩, q⟩
end Cn
/-! All payments, gathered coin by coin. -/
namespace Mp
def gStep (c : Nat) (l : List (List Nat × Nat)) : List (List Nat × Nat) := l.flatMap fun p => (List.range (p.2 / c + 1)).map fun k => (k :: p.1, p.2 - c * k)
def gath (t : Nat) : List Nat → List (List Nat × Nat)
  | [] => [([], t)]
  | c :: ds => gStep c (gath t ds)
theorem mem_gath {t : Nat} : ∀ {ds : List Nat} {p : List Nat × Nat}, (∀ d ∈ ds, 0 < d) → (p ∈ gath t ds ↔ p.1.length = ds.length ∧ val ds p.1 + p.2 = t)
  | [], p, _ => by
    unfold gath
    rw [List.mem_singleton]
    constructor
    · rintro rfl
      exact ⟨rfl, by show 0 + t = t; omega⟩
    · rintro ⟨h1, h2⟩
      obtain ⟨a, b⟩ := p
      have h3 : a = [] := List.eq_nil_of_length_eq_zero h1
      subst h3
      have h4 : 0 + b = t := h2
      rw [show b = t by omega]
  | c :: ds, p, hp => by
    have hc : 0 < c := hp c List.mem_cons_self
    have ih := fun q : List Nat × Nat => mem_gath (t := t) (ds := ds) (p := q) fun d hd => hp d (List.mem_cons_of_mem _ hd)
    unfold gath gStep
    rw [List.mem_flatMap]
    constructor
    · rintro ⟨q, hq, hm⟩
      obtain ⟨k, hk, rfl⟩ := List.mem_map.mp hm
      obtain ⟨h1, h2⟩ := (ih q).mp hq
      have hk2 : k ≤ q.2 / c := by
        have := List.mem_range.mp hk
        omega
      have h3 : c * k ≤ q.2 := by
        rw [Nat.mul_comm]
        exact (Nat.le_div_iff_mul_le hc).mp hk2
      refine ⟨by simp [h1], ?_⟩
      show c * k + val ds q.1 + (q.2 - c * k) = t
      omega
    · rintro ⟨h1, h2⟩
      obtain ⟨a, b⟩ := p
      cases a with
      | nil => simp at h1
      | cons k r =>
        have h3 : c * k + val ds r + b = t := h2
        refine ⟨(r, b + c * k), (ih _).mpr ⟨by simpa using h1, by show val ds r + (b + c * k) = t; omega⟩, List.mem_map.mpr ⟨k, List.mem_range.mpr ?_, ?_⟩⟩
        · have : k ≤ (b + c * k) / c := (Nat.le_div_iff_mul_le hc).mpr (by rw [Nat.mul_comm]; omega)
          show k < (b + c * k) / c + 1
          omega
        · show (k :: r, b + c * k - c * k) = (k :: r, b)
          rw [Nat.add_sub_cancel]
theorem gath_nodup {t : Nat} : ∀ {ds : List Nat}, (∀ d ∈ ds, 0 < d) → (gath t ds).Nodup
  | [], _ => by
    unfold gath
    exact List.pairwise_singleton _ _
  | c :: ds, hp => by
    have hp' : ∀ d ∈ ds, 0 < d := fun d hd => hp d (List.mem_cons_of_mem _ hd)
    have ih := gath_nodup (t := t) hp'
    unfold gath gStep
    refine List.pairwise_flatMap.mpr ⟨fun q _ => ?_, ?_⟩
    · rw [List.pairwise_map]
      exact List.nodup_range.imp fun {a b} hab z => hab (by injection z with z1 z2; injection z1)
    · refine List.Pairwise.imp_of_mem (fun {a b} ha hb hab x hx y hy z => ?_) ih
      obtain ⟨k, _, rfl⟩ := List.mem_map.mp hx
      obtain ⟨l, _, rfl⟩ := List.mem_map.mp hy
      injection z with z1 z2
      injection z1 with z3 z4
      obtain ⟨a1, a2⟩ := a
      obtain ⟨b1, b2⟩ := b
      have h1 := ((mem_gath hp').mp ha).2
      have h2 := ((mem_gath hp').mp hb).2
      have z4 : a1 = b1 := z4
      subst z4
      have h1 : val ds a1 + a2 = t := h1
      have h2 : val ds a1 + b2 = t := h2
      exact hab (by rw [show a2 = b2 by omega])
theorem gath_le {t : Nat} {ds : List Nat} (hp : ∀ d ∈ ds, 0 < d) {p : List Nat × Nat} (h : p ∈ gath t ds) : p.2 ≤ t := by
  have := ((mem_gath hp).mp h).2
  omega
theorem flat_len {α β : Type} {f : α → List β} {b : Nat} : ∀ {l : List α}, (∀ x ∈ l, (f x).length ≤ b) → (l.flatMap f).length ≤ l.length * b
  | [], _ => Nat.zero_le _
  | x :: l, h => by
    have h1 := flat_len (l := l) fun y hy => h y (List.mem_cons_of_mem _ hy)
    have h2 := h x List.mem_cons_self
    rw [List.flatMap_cons, List.length_append, List.length_cons, Nat.succ_mul]
    omega
theorem gath_len {t : Nat} : ∀ {ds : List Nat}, (∀ d ∈ ds, 0 < d) → (gath t ds).length ≤ (t + 1) ^ ds.length
  | [], _ => Nat.le_refl _
  | c :: ds, hp => by
    have hp' : ∀ d ∈ ds, 0 < d := fun d hd => hp d (List.mem_cons_of_mem _ hd)
    have ih := gath_len (t := t) hp'
    have h1 : (gStep c (gath t ds)).length ≤ (gath t ds).length * (t + 1) := flat_len fun x hx => by
      rw [List.length_map, List.length_range]
      have := gath_le hp' hx
      have := Nat.div_le_self x.2 c
      omega
    show (gStep c (gath t ds)).length ≤ (t + 1) ^ (ds.length + 1)
    rw [Nat.pow_succ]
    exact Nat.le_trans h1 (Nat.mul_le_mul_right _ ih)
def gEnd (l : List (List Nat × Nat)) : List (List Nat) := (l.filter fun p => decide (p.2 = 0)).map (·.1)
theorem perm_nodup {α : Type} [DecidableEq α] {l m : List α} (h1 : l.Nodup) (h2 : m.Nodup) (h : ∀ x, x ∈ l ↔ x ∈ m) : l.Perm m := by
  rw [List.perm_iff_count]
  intro x
  rw [h1.count, h2.count]
  by_cases hx : x ∈ l
  · rw [if_pos hx, if_pos ((h x).mp hx)]
  · rw [if_neg hx, if_neg fun z => hx ((h x).mpr z)]
theorem gEnd_perm {t : Nat} {cs : List Nat} (hp : ∀ c ∈ cs, 0 < c) : (gEnd (gath t cs)).Perm (pays cs t) := by
  refine perm_nodup ?_ (pays_nodup cs t) fun x => ?_
  · unfold gEnd
    refine List.pairwise_map.mpr (List.Pairwise.imp_of_mem (fun {a b} ha hb hab z => ?_) ((gath_nodup hp).filter _))
    have h1 := of_decide_eq_true (List.mem_filter.mp ha).2
    have h2 := of_decide_eq_true (List.mem_filter.mp hb).2
    exact hab (Prod.ext z (h1.trans h2.symm))
  · rw [mem_pays hp]
    unfold gEnd
    rw [List.mem_map]
    constructor
    · rintro ⟨p, h, rfl⟩
      obtain ⟨h1, h2⟩ := List.mem_filter.mp h
      have h3 := of_decide_eq_true h2
      obtain ⟨h4, h5⟩ := (mem_gath hp).mp h1
      exact ⟨h4, by omega⟩
    · rintro ⟨h1, h2⟩
      exact ⟨(x, 0), List.mem_filter.mpr ⟨(mem_gath hp).mpr ⟨h1, h2⟩, rfl⟩, rfl⟩
theorem lt_list : ∀ {a b : List Nat}, lt a b → a < b
  | [], [], h => absurd h id
  | [], _ :: _, _ => List.nil_lt_cons _ _
  | _ :: _, [], h => absurd h id
  | a :: as, b :: bs, h => by
    rw [List.cons_lt_cons_iff]
    rcases h with h | ⟨e, h⟩
    · exact .inl h
    · exact .inr ⟨e, lt_list h⟩
theorem sorted_gath {t : Nat} {cs : List Nat} (hp : ∀ c ∈ cs, 0 < c) : (gEnd (gath t cs)).mergeSort Cn.leT = pays cs t :=
  Cn.sorted_is (gEnd_perm hp) ((pays_sorted cs t).imp lt_list)
end Mp
/-! Lots: the class, the least sums. -/
namespace Cn
open PySem PySem.Spec PyProof.Rows L2 RZ StX Mp
/-- the coins of a lot that the law draws, or of its tail -/
structure Coins (cs : List Nat) : Prop where
  pos : ∀ c ∈ cs, 0 < c ∧ c ≤ 12
  few : cs.length ≤ 4
  ne : cs ≠ []
  up : cs.Pairwise (· < ·)
def LotN (K : PySem.W.Frag) (C : Addr) (H : Hp) (v : V) (cs : List Nat) : Prop := ∃ a dx c, v = .ref a ∧ H a = some (.ins C dx [("kinds", .ref c)]) ∧ SqT K H c (cs.map vN)
theorem LotN.mono {K : PySem.W.Frag} {C : Addr} {H H' : Hp} {v : V} {cs : List Nat} (s : Same H H') (h : LotN K C H v cs) : LotN K C H' v cs := by
  obtain ⟨a, dx, c, e, h1, h2⟩ := h
  exact ⟨a, dx, c, e, s _ _ h1, s.seqT h2⟩
theorem start_map (m : Nat) : (Mp.start m).map vO = V.int 0 :: List.replicate (m - 1) V.non := by
  unfold Mp.start
  rw [List.map_cons, List.map_replicate]
  rfl
section
variable {P : Program} {w : World} {K : PySem.W.Frag} {mg : Str → Option Value} {base : Heap} {C : Addr}
abbrev sFirstWrong : Stmt := topS 31
theorem scFirstWrong : FnScope ["value", "index", "coin"] ["value"] (defScope sFirstWrong) := ⟨rfl, rfl, rfl, by decide +kernel, rfl, by decide +kernel, by decide +kernel⟩
def spFirstWrong (K : PySem.W.Frag) : Sp := fun vs H Q _ => ∃ (a : Addr) (cs : List Nat), vs = [.ref a] ∧ SqT K H a (cs.map vN) ∧ Coins cs ∧ ∀ H', Same H H' → Q .non H'
theorem ok_first_wrong (B : Bl mg) (d_is_within_bounds : DefOk P w K mg base "is_within_bounds" 2 ["value", "least", "most"] spWithin) (A : At K mg "first_wrong" sFirstWrong) : DefOk P w K mg base "first_wrong" 3 ["value"] (spFirstWrong K) := by
  refine mkDef A scFirstWrong (fun _ _ _ _ _ _ us hl => match us, hl with | [_], _ => rfl) (by rintro _ _ _ _ ⟨_, _, rfl, _⟩; rfl) fun f cdv A outer s H vs Q E hr h => ?_
  obtain ⟨a, cs, rfl, hq, hc, q⟩ := h
  refine ⟨_, pss_cons (ps_for PassesOwn.never rfl (pi_enumU (by rfl) B.z_enumerate (pa_cons (pv 0) pa_nil)) (pg_tup rfl (pgs_cons (pg_name (i := 1) scFirstWrong.nd rfl (Or.inl rfl)) (pgs_cons (pg_name (i := 2) scFirstWrong.nd rfl (Or.inl rfl)) pgs_nil)))
        (pss_cons (ps_if (PW.pt (pw_or (pt_cmpR op_eq (pv 1) (pe_gint rfl B.MOST_COINS) (nomark _)) (pw_or1 (pt_not (pt_val (pe_callD d_is_within_bounds hr rfl (pa_cons (pv 2) (pa_cons (pe_int) (pa_cons (pe_gint rfl B.MOST_COIN) pa_nil)))))))))
            (pss_one (ps_ret (pv 1)))
            (pss_nil))
          (pss_one (ps_if (PW.pt (pw_and (pt_cmpR op_gt (pv 1) (pe_int) (nomark _)) (pw_and1 (pt_cmpR op_le (pv 2) (pe_ix ix_tup (pv 0) (pe_op op_sub (pv 1) (pe_int)) (fun _ _ => rfl)) (nomark _)))))
            (pss_one (ps_ret (pv 1)))
            (pss_nil)))))
      (pss_one (ps_ret (pe_non))), ?_⟩
  refine ⟨_, rfl, a, _, rfl, hq, for_pair walk_enumU (fun i σ H' => ∃ y z, σ = [some (.ref a), y, z] ∧ Same H H') ⟨_, _, rfl, Same.refl H⟩ (fun i σ H' _ ⟨_, _, _, s1⟩ => s1.seqT hq) ?_ ?_⟩
  · rintro i x y T σ H1 hi ⟨_, _, rfl, s1⟩ hT hx hy
    rw [List.length_map] at hi
    have ex : x = V.int (i : Int) := (Option.some.inj hx).symm
    obtain ⟨c, hc1, rfl⟩ := get_of_map hy
    subst ex
    have s2 : Same H (upd H1 T (.tup [V.int (i : Int), vN c])) := s1.new hT
    have i4 : i < 4 := Nat.lt_of_lt_of_le hi hc.few
    have cb := hc.pos c (List.mem_of_getElem? hc1)
    refine ⟨_, rfl, rfl, _, rfl, ?_⟩
    rw [decide_eq_false (show ¬ (V.int (i : Int) = V.int 15) from fun z => by have := V.int.inj z; omega)]
    refine iteF ⟨_, rfl, _, _, _, rfl, _, rfl, ?_⟩
    rw [decide_eq_true (show (1 : Int) ≤ (c : Int) ∧ (c : Int) ≤ 60 by omega)]
    refine iteF ⟨_, rfl, _, _, rfl, rfl, _, rfl, ?_⟩
    by_cases h0 : 0 < i
    · rw [decide_eq_true (show (0 : Int) < (i : Int) by omega)]
      have hp : i - 1 < cs.length := by omega
      refine iteT ⟨_, rfl, _, rfl, _, rfl, _, _, rfl, rfl, _, _, _, _, rfl, rfl, s2.seqT hq, atN (i := i - 1) (by omega) hp, _, _, rfl, rfl, _, rfl, ?_⟩
      have lt : cs.getD (i - 1) 0 < c := by
        rw [List.getD_eq_getElem?_getD, List.getElem?_eq_getElem hp]
        obtain ⟨h1, h2⟩ := List.getElem?_eq_some_iff.mp hc1
        rw [← h2]
        exact (List.pairwise_iff_getElem.mp hc.up) (i - 1) i hp h1 (by omega)
      rw [decide_eq_false (show ¬ (c : Int) ≤ (cs.getD (i - 1) 0 : Nat) by omega)]
      exact iteF ⟨_, _, rfl, s2⟩
    · rw [decide_eq_false (show ¬ (0 : Int) < (i : Int) by omega)]
      exact iteF (iteF ⟨_, _, rfl, s2⟩)
  · rintro σ H1 ⟨_, _, rfl, s1⟩
    exact q H1 s1
abbrev sCheckLot : Stmt := topS 36
theorem scCheckLot : FnScope ["value"] ["value"] (defScope sCheckLot) := ⟨rfl, rfl, rfl, by decide +kernel, rfl, by decide +kernel, by decide +kernel⟩
def spCheckLot (K : PySem.W.Frag) (C : Addr) : Sp := fun vs H Q _ => ∃ (v : V) (cs : List Nat), vs = [v] ∧ LotN K C H v cs ∧ Q .non H
theorem ok_check_lot (B : Bl mg) (G : LotG P w K mg base C) (A : At K mg "check_lot" sCheckLot) : DefOk P w K mg base "check_lot" 1 ["value"] (spCheckLot K C) := by
  refine mkDef A scCheckLot (fun _ _ _ _ _ _ us hl => match us, hl with | [_], _ => rfl) (by rintro _ _ _ _ ⟨_, _, rfl, _⟩; rfl) fun f cdv A outer s H vs Q E hr h => ?_
  obtain ⟨v, cs, rfl, ⟨a, dx, c, rfl, h1, h2⟩, q⟩ := h
  refine ⟨_, pss_one (ps_if (pt_not (pt_val (pe_callB call_isi (by rfl) B.z_isinstance (by decide +kernel) (pa_cons (pv 0) (pa_cons (pe_glob (v := .ref C) rfl G.c.lot rfl) pa_nil)))))
        (pss_one (ps_never))
        (pss_nil)), ?_⟩
  exact ⟨_, rfl, _, _, _, _, _, rfl, .own C, .base (.ins h1 G.c.cl G.c.ha G.c.hn G.c.htk G.c.hm), G.c.is, true, rfl, iteF q⟩
abbrev sLeastTable : Stmt := topS 37
theorem scLeastTable : FnScope ["coins", "by", "found", "coin", "shared", "start", "rest", "turn", "later"] ["coins", "by"] (defScope sLeastTable) := ⟨rfl, rfl, rfl, by decide +kernel, rfl, by decide +kernel, by decide +kernel⟩
def spLeastTable (K : PySem.W.Frag) : Sp := fun vs H Q _ => ∃ (a : Addr) (cs : List Nat) (m : Nat), vs = [.ref a, vN m] ∧ SqT K H a (cs.map vN) ∧ (∀ c ∈ cs, 0 < c ∧ c ≤ 12) ∧ 0 < m ∧ m ≤ 12 ∧
  ∀ H' p, Same H H' → H p = none → H' p = some (.lst ((leastTab cs m).map vO)) → Q (.ref p) H'
theorem ok_least_table (B : Bl mg) (d_common_divisor : DefOk P w K mg base "common_divisor" 1 ["one", "other"] spGcd) (A : At K mg "least_table" sLeastTable) : DefOk P w K mg base "least_table" 2 ["coins", "by"] (spLeastTable K) := by
  refine mkDef A scLeastTable (fun _ _ _ _ _ _ us hl => match us, hl with | [_, _], _ => rfl) (by rintro _ _ _ _ ⟨_, _, _, rfl, _⟩; rfl) fun f cdv A outer s H vs Q E hr h => ?_
  obtain ⟨a, cs, m, rfl, hq, hc, hm0, hm, q⟩ := h
  refine ⟨_, pss_cons (ps_set (i := 2) scLeastTable.nd rfl (Or.inl rfl) (pe_op op_cat (pe_lst (pa_cons (pe_int) pa_nil)) (pe_op op_rep (pe_lst (pa_cons (pe_non) pa_nil)) (pe_op op_sub (pv 1) (pe_int)))))
      (pss_cons (ps_for PassesOwn.never rfl (pi_tup (pv 0)) (pg_name (i := 3) scLeastTable.nd rfl (Or.inl rfl))
        (pss_cons (ps_set (i := 4) scLeastTable.nd rfl (Or.inl rfl) (pe_callD d_common_divisor hr rfl (pa_cons (pv 3) (pa_cons (pv 1) pa_nil))))
          (pss_one (ps_for PassesOwn.never rfl (pi_range1 rfl B.z_range (pa_cons (pv 4) pa_nil)) (pg_name (i := 5) scLeastTable.nd rfl (Or.inl rfl))
            (pss_cons (ps_set (i := 6) scLeastTable.nd rfl (Or.inl rfl) (pv 5))
              (pss_one (ps_for PassesOwn.never rfl (pi_range1 rfl B.z_range (pa_cons (pe_op op_mul (pe_int) (pe_op op_fdiv (pv 1) (pv 4))) pa_nil)) (pg_name (i := 7) scLeastTable.nd rfl (Or.inl rfl))
                (pss_cons (ps_set (i := 8) scLeastTable.nd rfl (Or.inl rfl) (pe_op op_mod (pe_callTy call_int1 (by rfl) B.z_int (by decide +kernel) (pa_cons (pe_op op_add (pv 6) (pv 3)) pa_nil)) (pv 1)))
                  (pss_cons (ps_if (PW.pt (pw_and (pt_cmp (pc_notN (pe_ix ix_list (pv 2) (pv 6) (fun _ _ => rfl)))) (pw_and1 (PW.pt (pw_or (pt_cmp (pc_isN (pe_ix ix_list (pv 2) (pv 8) (fun _ _ => rfl)))) (pw_or1 (pt_cmpR op_lt (pe_op op_add (pe_ix ix_list (pv 2) (pv 6) (fun _ _ => rfl)) (pv 3)) (pe_ix ix_list (pv 2) (pv 8) (fun _ _ => rfl)) (nomark _))))))))
                    (pss_one (ps_asg (pe_op op_add (pe_ix ix_list (pv 2) (pv 6) (fun _ _ => rfl)) (pv 3)) (pg_sub (pv 2) (pv 8) set_list)))
                    (pss_nil))
                  (pss_one (ps_set (i := 6) scLeastTable.nd rfl (Or.inl rfl) (pv 8))))))))))))
      (pss_one (ps_ret (pv 2)))), ?_⟩
  refine cat_rep (k := m - 1) (fun H1 Q1 h1 => ⟨_, rfl, _, _, rfl, rfl, ?_⟩) (by omega) fun p H0 s0 np hp => ?_
  · have e : (m : Int) - 1 = ((m - 1 : Nat) : Int) := by omega
    show Q1 (.int ((m : Int) - 1)) H1
    rw [e]
    exact h1
  -- for coin in coins
  refine ⟨_, rfl, a, rfl, ⟨_, s0.seqT hq⟩, for_tup (fun i σ H' => ∃ y3 y4 y5 y6 y7 y8, σ = [some (.ref a), some (vN m), some (.ref p), y3, y4, y5, y6, y7, y8] ∧ Same H H' ∧
      H' p = some (.lst (((cs.take i).foldl (fun t c => ease m c c t) (Mp.start m)).map vO)))
    ⟨_, _, _, _, _, _, rfl, s0, hp.trans (by rw [← start_map]; rfl)⟩
    (fun i σ H' _ ⟨_, _, _, _, _, _, _, s1, _⟩ => s1.seqT hq) ?_ ?_⟩
  · rintro i x σ H1 hx ⟨_, _, _, _, _, _, rfl, s1, h1⟩
    obtain ⟨c, hci, rfl⟩ := get_of_map hx
    obtain ⟨hc1, hc2⟩ := hc c (List.mem_of_getElem? hci)
    generalize ht : (cs.take i).foldl (fun t c => ease m c c t) (Mp.start m) = t at h1
    have lt : t.length = m := by rw [← ht, foldl_ease_len m (fun c => c) (fun c => c), start_len hm0]
    have hg : 0 < Nat.gcd c m := Nat.gcd_pos_of_pos_left _ hc1
    have hg2 : Nat.gcd c m ≤ m := Nat.gcd_le_right _ hm0
    have hk : m / Nat.gcd c m ≤ m := Nat.div_le_self _ _
    -- shared = common_divisor(coin, by)
    refine ⟨_, rfl, _, rfl, c, m, rfl, ?_⟩
    -- for start in range(shared)
    refine ⟨_, rfl, _, rfl, (by omega), (by omega), for_r0 (Nat.gcd c m) (by omega) (fun j σ H' => ∃ y5 y6 y7 y8, σ = [some (.ref a), some (vN m), some (.ref p), some (vN c), some (vN (Nat.gcd c m)), y5, y6, y7, y8] ∧ Same H H' ∧
      H' p = some (.lst ((easeN m c c (2 * (m / Nat.gcd c m)) j t).map vO))) ⟨_, _, _, _, rfl, s1, h1⟩ ?_ ?_⟩
    · rintro j σ H2 hj ⟨_, _, _, _, rfl, s2, h2⟩
      generalize hu : easeN m c c (2 * (m / Nat.gcd c m)) j t = u at h2
      have lu : u.length = m := by rw [← hu, easeN_len, lt]
      have hj' : j < Nat.gcd c m := hj
      -- rest = start
      refine ⟨_, rfl, ?_⟩
      -- for turn in range(2 * (by // shared))
      refine ⟨_, rfl, _, rfl, _, _, rfl, rfl, ⟨by omega, by omega⟩, _, _, rfl, rfl, .inl ⟨by omega, by omega⟩, _, rfl, ?_, ?_, ?_⟩
      · have := Int.natCast_nonneg (m / Nat.gcd c m)
        show -(2 ^ 62) ≤ (2 : Int) * ((m / Nat.gcd c m : Nat) : Int)
        omega
      · show (2 : Int) * ((m / Nat.gcd c m : Nat) : Int) < 2 ^ 62
        omega
      have en : ((2 : Int) * ((m : Int) / (Nat.gcd c m : Nat))).toNat = 2 * (m / Nat.gcd c m) := by
        show ((2 : Int) * ((m / Nat.gcd c m : Nat) : Int)).toNat = _
        omega
      refine for_r0 (2 * (m / Nat.gcd c m)) en (fun l σ H' => ∃ y7 y8, σ = [some (.ref a), some (vN m), some (.ref p), some (vN c), some (vN (Nat.gcd c m)), some (vN j), some (vN (estN m c c l (u, j)).2), y7, y8] ∧ Same H H' ∧
        H' p = some (.lst ((estN m c c l (u, j)).1.map vO))) ⟨_, _, rfl, s2, h2⟩ ?_ ?_
      · rintro l σ H3 hl ⟨_, _, rfl, s3, h3⟩
        generalize hv : estN m c c l (u, j) = v at h3
        have lv : v.1.length = m := by rw [← hv, estN_len, lu]
        have rv : v.2 < m := by rw [← hv]; exact estN_lt hm0 l _ (by show j < m; omega)
        have lr : (v.2 + c) % m < m := Nat.mod_lt _ hm0
        -- later = int(rest + coin) % by
        refine ⟨_, rfl, _, rfl, _, _, rfl, rfl, .inl ⟨_, rfl, _, rfl, _, _, rfl, rfl, (by omega), ?_⟩⟩
        have hS : SqL K H3 p (v.1.map vO) := SqL.of h3
        have a1 : atI (v.1.map vO) ((v.2 : Nat) : Int) = some (vO (v.1.getD v.2 none)) := atO rfl (by omega)
        have a2 : atI (v.1.map vO) ((((v.2 : Nat) : Int) + (c : Int)) % (m : Int)) = some (vO (v.1.getD ((v.2 + c) % m) none)) := atO (i := (v.2 + c) % m) rfl (by omega)
        have step : ∀ H4 : Hp, Same H H4 → H4 p = some (.lst ((est m c c v).1.map vO)) →
            ∃ y7 y8, [some (.ref a), some (vN m), some (.ref p), some (vN c), some (vN (Nat.gcd c m)), some (vN j), some (.int ((((v.2 : Nat) : Int) + (c : Int)) % (m : Int))), some (vN l), some (.int ((((v.2 : Nat) : Int) + (c : Int)) % (m : Int)))] =
              [some (.ref a), some (vN m), some (.ref p), some (vN c), some (vN (Nat.gcd c m)), some (vN j), some (vN (estN m c c (l + 1) (u, j)).2), y7, y8] ∧ Same H H4 ∧ H4 p = some (.lst ((estN m c c (l + 1) (u, j)).1.map vO)) := by
          intro H4 s4 h4
          have e1 : estN m c c (l + 1) (u, j) = est m c c v := by rw [← hv]; rfl
          rw [e1]
          exact ⟨_, _, rfl, s4, h4⟩
        -- if found[rest] is not None and ..
        refine ⟨_, rfl, _, rfl, _, _, _, _, rfl, rfl, hS, a1, _, rfl, ?_⟩
        cases e1 : v.1.getD v.2 none with
        | none =>
          refine iteF (iteF ⟨_, rfl, step H3 s3 ?_⟩)
          have e2 : (est m c c v).1 = v.1 := by
            unfold est
            rw [e1]
          rw [e2]
          exact h3
        | some x =>
          rw [e1] at a1
          have put : ∀ D : Ends, (∀ σ' H', (∃ y7 y8, σ' = [some (.ref a), some (vN m), some (.ref p), some (vN c), some (vN (Nat.gcd c m)), some (vN j), some (vN (estN m c c (l + 1) (u, j)).2), y7, y8] ∧ Same H H' ∧ H' p = some (.lst ((estN m c c (l + 1) (u, j)).1.map vO))) → D.nx σ' H') →
              (est m c c v).1 = v.1.set ((v.2 + c) % m) (some (x + c)) → D.nx [some (.ref a), some (vN m), some (.ref p), some (vN c), some (vN (Nat.gcd c m)), some (vN j), some (.int ((((v.2 : Nat) : Int) + (c : Int)) % (m : Int))), some (vN l), some (.int ((((v.2 : Nat) : Int) + (c : Int)) % (m : Int)))]
              (upd H3 p (.lst ((v.1.map vO).set ((v.2 + c) % m) (.int ((x : Int) + (c : Int)))))) := fun D k e2 => k _ _ (step _ (s3.mut np) (by
                rw [upd_same, e2]
                exact congrArg (fun z => some (HO.lst z)) vO_set))
          refine iteT ⟨_, rfl, _, rfl, _, _, _, _, rfl, rfl, hS, a2, _, rfl, ?_⟩
          cases e3 : v.1.getD ((v.2 + c) % m) none with
          | none =>
            have e2 : (est m c c v).1 = v.1.set ((v.2 + c) % m) (some (x + c)) := by
              unfold est
              simp only [e1, e3]
            refine iteT (iteT ⟨_, rfl, _, rfl, _, _, _, _, rfl, rfl, hS, a1, _, rfl, _, _, rfl, rfl, _, rfl, _, rfl, _, _, _, (v.2 + c) % m, rfl, rfl, h3, ixN_of rfl (by rw [List.length_map]; omega), _, rfl, ?_⟩)
            exact put _ (fun _ _ z => z) e2
          | some y =>
            rw [e3] at a2
            refine iteF ⟨_, rfl, _, rfl, _, _, _, _, rfl, rfl, hS, a1, _, rfl, _, _, rfl, rfl, _, rfl, _, rfl, _, _, _, _, rfl, rfl, hS, a2, _, _, rfl, rfl, _, rfl, ?_⟩
            by_cases hlt : x + c < y
            · rw [decide_eq_true (show (x : Int) + (c : Int) < (y : Int) by omega)]
              have e2 : (est m c c v).1 = v.1.set ((v.2 + c) % m) (some (x + c)) := by
                unfold est
                simp only [e1, e3, if_pos hlt]
              refine iteT ⟨_, rfl, _, rfl, _, _, _, _, rfl, rfl, hS, a1, _, rfl, _, _, rfl, rfl, _, rfl, _, rfl, _, _, _, (v.2 + c) % m, rfl, rfl, h3, ixN_of rfl (by rw [List.length_map]; omega), _, rfl, ?_⟩
              exact put _ (fun _ _ z => z) e2
            · rw [decide_eq_false (show ¬ (x : Int) + (c : Int) < (y : Int) by omega)]
              have e2 : (est m c c v).1 = v.1 := by
                unfold est
                simp only [e1, e3, if_neg hlt]
              refine iteF ⟨_, rfl, step H3 s3 ?_⟩
              rw [e2]
              exact h3
      · rintro σ H3 ⟨_, _, rfl, s3, h3⟩
        exact ⟨_, _, _, _, rfl, s3, by rw [show easeN m c c (2 * (m / Nat.gcd c m)) (j + 1) t = (estN m c c (2 * (m / Nat.gcd c m)) (u, j)).1 by rw [← hu]; rfl]; exact h3⟩
    · rintro σ H2 ⟨_, _, _, _, rfl, s2, h2⟩
      refine ⟨_, _, _, _, _, _, rfl, s2, ?_⟩
      rw [foldl_take _ _ hci, ht]
      exact h2
  · rintro σ H1 ⟨_, _, _, _, _, _, rfl, s1, h1⟩
    refine ⟨_, rfl, q H1 p s1 np ?_⟩
    rw [h1, List.length_map, List.take_length]
    rfl
end
end Cn
/-! Paid or missed; payments looked at; tables of counts. -/
namespace Cn
open PySem PySem.Spec PyProof.Rows L2 RZ StX Mp
/-- the table of how many payments of 0, 1, .. below n there are -/
abbrev tabC (n : Nat) (f : Nat → Nat) : List V := tab n fun t => vN (f t)
def TabOf (K : PySem.W.Frag) (H : Hp) (n : Nat) (v : V) (ds : List Nat) : Prop := ∃ a, v = .ref a ∧ SqL K H a (tabC n (cnt ds))
theorem TabOf.mono {K : PySem.W.Frag} {H H' : Hp} {n : Nat} {v : V} {ds : List Nat} (s : Same H H') (h : TabOf K H n v ds) : TabOf K H' n v ds := by
  obtain ⟨a, e, q⟩ := h
  exact ⟨a, e, s.seq q⟩
theorem tab0 (n : Nat) : V.int 1 :: List.replicate n (V.int 0) = tabC (n + 1) (cnt []) := by
  apply List.ext_getElem?
  intro i
  by_cases hi : i < n + 1
  · rw [tab_get hi, Mp.cnt_nil]
    cases i with
    | zero => rfl
    | succ i =>
      rw [List.getElem?_cons_succ, List.getElem?_replicate, if_pos (by omega), if_neg (by omega)]
      rfl
  · rw [List.getElem?_eq_none (by rw [List.length_cons, List.length_replicate]; omega), List.getElem?_eq_none (by rw [tab_len]; omega)]
section
variable {P : Program} {w : World} {K : PySem.W.Frag} {mg : Str → Option Value} {base : Heap} {C : Addr}
abbrev sIsPaidBy : Stmt := topS 38
theorem scIsPaidBy : FnScope ["coins", "amount", "least"] ["coins", "amount"] (defScope sIsPaidBy) := ⟨rfl, rfl, rfl, by decide +kernel, rfl, by decide +kernel, by decide +kernel⟩
def spPaidBy (K : PySem.W.Frag) : Sp := fun vs H Q _ => ∃ (a : Addr) (cs : List Nat) (t : Nat), vs = [.ref a, vN t] ∧ SqT K H a (cs.map vN) ∧ Coins cs ∧ ∀ H', Same H H' → Q (.bl (isPaid cs t)) H'
theorem ok_is_paid_by (B : Bl mg) (d_least_table : DefOk P w K mg base "least_table" 2 ["coins", "by"] (spLeastTable K)) (A : At K mg "is_paid_by" sIsPaidBy) : DefOk P w K mg base "is_paid_by" 3 ["coins", "amount"] (spPaidBy K) := by
  refine mkDef A scIsPaidBy (fun _ _ _ _ _ _ us hl => match us, hl with | [_, _], _ => rfl) (by rintro _ _ _ _ ⟨_, _, _, rfl, _⟩; rfl) fun f cdv A outer s H vs Q E hr h => ?_
  obtain ⟨a, cs, t, rfl, hq, hc, q⟩ := h
  refine ⟨_, pss_cons (ps_set (i := 2) scIsPaidBy.nd rfl (Or.inl rfl) (pe_ix ix_list (pe_callD d_least_table hr rfl (pa_cons (pv 0) (pa_cons (pe_ix ix_tup (pv 0) (pe_int) (fun _ _ => rfl)) pa_nil))) (pe_op op_mod (pe_callTy call_int1 (by rfl) B.z_int (by decide +kernel) (pa_cons (pv 1) pa_nil)) (pe_ix ix_tup (pv 0) (pe_int) (fun _ _ => rfl))) (fun _ _ => rfl)))
      (pss_one (ps_ret (pe_and (pe_cmp (pc_notN (pv 2))) (pe_one (pe_cmpR op_le (pv 2) (pv 1) (nomark _)))))), ?_⟩
  cases cs with
  | nil => exact absurd rfl hc.ne
  | cons c r =>
    have cb := hc.pos c List.mem_cons_self
    have h0 : ∀ H', Same H H' → SqT K H' a ((c :: r).map vN) := fun H' s' => s'.seqT hq
    have a0 : atI ((c :: r).map vN) 0 = some (vN c) := atI_nat (j := 0) rfl
    refine ⟨_, rfl, _, rfl, _, _, _, _, rfl, rfl, hq, a0, a, c :: r, c, rfl, hq, hc.pos, cb.1, cb.2, fun H1 p s1 np hp => ?_⟩
    have lt : t % c < (leastTab (c :: r) c).length := by
      rw [leastTab_len _ cb.1]
      exact Nat.mod_lt _ cb.1
    refine ⟨_, rfl, .inl ⟨_, rfl, _, rfl, _, _, _, _, rfl, rfl, h0 _ s1, a0, _, _, rfl, rfl, (by omega), _, _, _, _, rfl, rfl, SqL.of hp, atO (i := t % c) rfl lt, ?_⟩⟩
    refine ⟨_, rfl, _, rfl, ?_⟩
    have q' := q H1 s1
    have e : isPaid (c :: r) t = (match (leastTab (c :: r) c).getD (t % c) none with
      | none => false
      | some v => decide (v ≤ t)) := rfl
    rw [e] at q'
    cases e2 : (leastTab (c :: r) c).getD (t % c) none with
    | none =>
      rw [e2] at q'
      exact iteF q'
    | some v =>
      rw [e2] at q'
      refine iteT ⟨_, rfl, _, rfl, _, _, rfl, rfl, ?_⟩
      have e3 : decide ((v : Int) ≤ (t : Int)) = decide (v ≤ t) := decide_eq_decide.mpr (by omega)
      show Q (.bl (decide ((v : Int) ≤ (t : Int)))) H1
      rw [e3]
      exact q'
abbrev sIsPaid : Stmt := topS 39
theorem scIsPaid : FnScope ["lot", "amount"] ["lot", "amount"] (defScope sIsPaid) := ⟨rfl, rfl, rfl, by decide +kernel, rfl, by decide +kernel, by decide +kernel⟩
def spPaid (K : PySem.W.Frag) (C : Addr) : Sp := fun vs H Q _ => ∃ (v : V) (cs : List Nat) (t : Nat), vs = [v, vN t] ∧ LotN K C H v cs ∧ Coins cs ∧ t ≤ 400 ∧ ∀ H', Same H H' → Q (.bl (isPaid cs t)) H'
theorem ok_is_paid (G : LotG P w K mg base C) (d_check_lot : DefOk P w K mg base "check_lot" 1 ["value"] (spCheckLot K C)) (d_check_amount : DefOk P w K mg base "check_amount" 3 ["value"] (spCheck 0 (10 ^ 30)))
    (d_is_paid_by : DefOk P w K mg base "is_paid_by" 3 ["coins", "amount"] (spPaidBy K)) (A : At K mg "is_paid" sIsPaid) : DefOk P w K mg base "is_paid" 4 ["lot", "amount"] (spPaid K C) := by
  refine mkDef A scIsPaid (fun _ _ _ _ _ _ us hl => match us, hl with | [_, _], _ => rfl) (by rintro _ _ _ _ ⟨_, _, _, rfl, _⟩; rfl) fun f cdv A outer s H vs Q E hr h => ?_
  obtain ⟨v, cs, t, rfl, hL, hc, ht, q⟩ := h
  obtain ⟨a, dx, c, rfl, h1, h2⟩ := id hL
  refine ⟨_, pss_cons (ps_expr (pe_callD d_check_lot hr rfl (pa_cons (pv 0) pa_nil)))
      (pss_cons (ps_expr (pe_callD d_check_amount hr rfl (pa_cons (pv 1) pa_nil)))
      (pss_one (ps_ret (pe_callD d_is_paid_by hr rfl (pa_cons (pe_coins G hr (pv 0)) (pa_cons (pv 1) pa_nil)))))), ?_⟩
  exact ⟨_, rfl, _, cs, rfl, hL, _, rfl, _, rfl, (by omega), (by omega), _, rfl, a, dx, _, rfl, h1, _, rfl, c, cs, t, rfl, h2, hc, q⟩
abbrev sSumOf : Stmt := topS 41
theorem scSumOf : FnScope ["coins", "payment", "coin", "often"] ["coins", "payment"] (defScope sSumOf) := ⟨rfl, rfl, rfl, by decide +kernel, rfl, by decide +kernel, by decide +kernel⟩
def spSumOf (K : PySem.W.Frag) : Sp := fun vs H Q _ => ∃ (a b : Addr) (cs ps : List Nat), vs = [.ref a, .ref b] ∧ SqT K H a (cs.map vN) ∧ SqT K H b (ps.map vN) ∧ (∀ c ∈ cs, 0 < c ∧ c ≤ 12) ∧ cs.length = ps.length ∧ cs.length ≤ 4 ∧
  ∀ H', Same H H' → Q (vN (val cs ps)) H'
theorem ok_sum_of (B : Bl mg) (A : At K mg "sum_of" sSumOf) : DefOk P w K mg base "sum_of" 1 ["coins", "payment"] (spSumOf K) := by
  refine mkDef A scSumOf (fun _ _ _ _ _ _ us hl => match us, hl with | [_, _], _ => rfl) (by rintro _ _ _ _ ⟨_, _, _, _, rfl, _⟩; rfl) fun f cdv A outer s H vs Q E hr h => ?_
  obtain ⟨a, b, cs, ps, rfl, ha, hb, hp, hl, h4, q⟩ := h
  refine ⟨_, pss_one (ps_ret (pe_callB (cr_sum rfl) (by rfl) B.z_sum (by decide +kernel) (pa_cons (pe_lc (own := [("coin", 2), ("often", 3)]) (g := gPair K 2 3) (tt := tYes) rfl scSumOf.nd (pi_zipA (by rfl) B.z_zip (pa_cons (pv 0) (pa_cons (pv 1) pa_nil))) (blkOk_by (N := ["coins", "payment", "coin", "often"]) (sc := defScope sSumOf) (by decide +kernel)) (fun _ _ _ _ _ => (pg_tup rfl (pgs_cons (pg_name (i := 2) scSumOf.nd rfl (Or.inl rfl)) (pgs_cons (pg_name (i := 3) scSumOf.nd rfl (Or.inl rfl)) pgs_nil)))) (fun _ _ _ _ _ => pts_nil) (fun _ _ _ _ _ => pe_op op_mul (pv 2) (pv 3))) pa_nil))), ?_⟩
  refine ⟨_, rfl, _, rfl, a, b, _, _, rfl, .inr ⟨ha, hb, fun D nD => lc_pair (walk_zipT (by rw [List.length_map, List.length_map, hl])) (fun i H' => Same H H' ∧ H' D = some (.lst (((prods cs ps).take i).map vN)))
    ⟨same_upd nD, upd_same⟩ (fun i H' _ p => ⟨p.1.seqT ha, p.1.seqT hb⟩) (fun _ _ => rfl) ?_ ?_⟩⟩
  · rintro i x y T H1 hi ⟨s1, h1⟩ nT hx hy
    obtain ⟨c, hc, rfl⟩ := get_of_map hx
    obtain ⟨k, hk, rfl⟩ := get_of_map hy
    have cb := hp c (List.mem_of_getElem? hc)
    rw [List.length_map] at hi
    have gp : (prods cs ps)[i]? = some (c * k) := by
      unfold prods
      rw [List.getElem?_zipWith, hc, hk]
    have nDT : D ≠ T := ne_of_none h1 nT
    refine ⟨_, rfl, _, rfl, _, _, rfl, rfl, .inl ⟨by omega, by omega⟩, ((prods cs ps).take i).map vN, (by rw [upd_ne nDT]; exact h1), szl _ ?_, ?_, ?_⟩
    · rw [List.length_map, List.length_take]
      omega
    · exact ((s1.new nT).mut nD)
    · rw [upd_same, List.take_add_one, gp, List.map_append]
      rfl
  · rintro H1 ⟨s1, h1⟩
    have el : (prods cs ps).take (cs.map vN).length = prods cs ps := List.take_of_length_le (by
      unfold prods
      rw [List.length_zipWith, List.length_map]
      omega)
    rw [el] at h1
    refine ⟨D, (prods cs ps).map fun n : Nat => (n : Int), rfl, ?_, ?_⟩
    · rw [List.map_map]
      exact SqL.of h1
    · rw [sum_cast, val_prods]
      exact q H1 s1
end
end Cn
/-! Payments looked at; tables of counts. -/
namespace Cn
open PySem PySem.Spec PyProof.Rows L2 RZ StX Mp
section
variable {P : Program} {w : World} {K : PySem.W.Frag} {mg : Str → Option Value} {base : Heap} {C : Addr}
abbrev sFirstWrongOften : Stmt := topS 42
theorem scFirstWrongOften : FnScope ["value", "many", "index", "often"] ["value", "many"] (defScope sFirstWrongOften) := ⟨rfl, rfl, rfl, by decide +kernel, rfl, by decide +kernel, by decide +kernel⟩
def spFirstWrongOften (K : PySem.W.Frag) : Sp := fun vs H Q _ => ∃ (a : Addr) (ps : List Nat), vs = [.ref a, vN ps.length] ∧ SqT K H a (ps.map vN) ∧ ∀ H', Same H H' → Q .non H'
theorem ok_first_wrong_often (B : Bl mg) (d_is_integer : DefOk P w K mg base "is_integer" 1 ["value"] spIsInt) (A : At K mg "first_wrong_often" sFirstWrongOften) : DefOk P w K mg base "first_wrong_often" 2 ["value", "many"] (spFirstWrongOften K) := by
  refine mkDef A scFirstWrongOften (fun _ _ _ _ _ _ us hl => match us, hl with | [_, _], _ => rfl) (by rintro _ _ _ _ ⟨_, _, rfl, _⟩; rfl) fun f cdv A outer s H vs Q E hr h => ?_
  obtain ⟨a, ps, rfl, hq, q⟩ := h
  refine ⟨_, pss_cons (ps_for PassesOwn.never rfl (pi_enumU (by rfl) B.z_enumerate (pa_cons (pv 0) pa_nil)) (pg_tup rfl (pgs_cons (pg_name (i := 2) scFirstWrongOften.nd rfl (Or.inl rfl)) (pgs_cons (pg_name (i := 3) scFirstWrongOften.nd rfl (Or.inl rfl)) pgs_nil)))
        (pss_one (ps_if (PW.pt (pw_or (pt_cmpR op_eq (pv 2) (pv 1) (nomark _)) (pw_or (pt_not (pt_val (pe_callD d_is_integer hr rfl (pa_cons (pv 3) pa_nil)))) (pw_or1 (pt_cmpR op_lt (pv 3) (pe_int) (nomark _))))))
            (pss_one (ps_ret (pv 2)))
            (pss_nil))))
      (pss_one (ps_ret (pe_non))), ?_⟩
  refine ⟨_, rfl, a, _, rfl, hq, for_pair walk_enumU (fun i σ H' => ∃ y z, σ = [some (.ref a), some (vN ps.length), y, z] ∧ Same H H') ⟨_, _, rfl, Same.refl H⟩ (fun i σ H' _ ⟨_, _, _, s1⟩ => s1.seqT hq) ?_ ?_⟩
  · rintro i x y T σ H1 hi ⟨_, _, rfl, s1⟩ hT hx hy
    rw [List.length_map] at hi
    have ex : x = V.int (i : Int) := (Option.some.inj hx).symm
    obtain ⟨c, hc1, rfl⟩ := get_of_map hy
    subst ex
    have s2 : Same H (upd H1 T (.tup [V.int (i : Int), vN c])) := s1.new hT
    refine ⟨_, rfl, _, rfl, rfl, _, rfl, ?_⟩
    rw [decide_eq_false (show ¬ (V.int (i : Int) = vN ps.length) from fun z => by have := V.int.inj z; omega)]
    refine iteF ⟨_, rfl, _, rfl, _, rfl, ?_⟩
    refine iteF ⟨_, rfl, _, _, rfl, rfl, _, rfl, ?_⟩
    rw [decide_eq_false (show ¬ (c : Int) < 0 by omega)]
    exact iteF ⟨_, _, rfl, s2⟩
  · rintro σ H1 ⟨_, _, rfl, s1⟩
    exact q H1 s1
abbrev sCheckOften : Stmt := topS 43
theorem scCheckOften : FnScope ["many", "value", "wrong"] ["many", "value"] (defScope sCheckOften) := ⟨rfl, rfl, rfl, by decide +kernel, rfl, by decide +kernel, by decide +kernel⟩
def spCheckOften (K : PySem.W.Frag) : Sp := fun vs H Q _ => ∃ (a : Addr) (ps : List Nat), vs = [vN ps.length, .ref a] ∧ SqT K H a (ps.map vN) ∧ ∀ H', Same H H' → Q .non H'
theorem ok_check_often (B : Bl mg) (d_first_wrong_often : DefOk P w K mg base "first_wrong_often" 2 ["value", "many"] (spFirstWrongOften K)) (A : At K mg "check_often" sCheckOften) : DefOk P w K mg base "check_often" 3 ["many", "value"] (spCheckOften K) := by
  refine mkDef A scCheckOften (fun _ _ _ _ _ _ us hl => match us, hl with | [_, _], _ => rfl) (by rintro _ _ _ _ ⟨_, _, rfl, _⟩; rfl) fun f cdv A outer s H vs Q E hr h => ?_
  obtain ⟨a, ps, rfl, hq, q⟩ := h
  refine ⟨_, pss_cons (ps_if (pt_not (pt_val (pe_callB call_isi (by rfl) B.z_isinstance (by decide +kernel) (pa_cons (pv 1) (pa_cons (pe_bltn (v := .ty "tuple") (u := .type "tuple") (by rfl) B.z_tuple (by decide +kernel) rfl) pa_nil)))))
        (pss_one (ps_never))
        (pss_nil))
      (pss_cons (ps_set (i := 2) scCheckOften.nd rfl (Or.inl rfl) (pe_callD d_first_wrong_often hr rfl (pa_cons (pv 1) (pa_cons (pv 0) pa_nil))))
      (pss_cons (ps_if (pt_cmp (pc_notN (pv 2)))
        (pss_one (ps_never))
        (pss_nil))
      (pss_one (ps_if (pt_cmpR op_lt (pe_callB call_len_seq (by rfl) B.z_len (by decide +kernel) (pa_cons (pv 1) pa_nil)) (pv 0) (nomark _))
        (pss_one (ps_never))
        (pss_nil))))), ?_⟩
  refine ⟨_, rfl, _, _, _, _, _, rfl, .ty "tuple", tyx_tup hq, (kit_ty (by decide +kernel)), true, rfl, iteF ?_⟩
  refine ⟨_, rfl, _, rfl, a, ps, rfl, hq, fun H1 s1 => ⟨_, rfl, _, rfl, iteF ?_⟩⟩
  refine ⟨_, rfl, a, _, rfl, .inr (s1.seqT hq), _, rfl, _, _, rfl, rfl, _, rfl, ?_⟩
  rw [decide_eq_false (show ¬ (((ps.map vN).length : Nat) : Int) < (ps.length : Int) by rw [List.length_map]; omega)]
  exact iteF (q H1 s1)
abbrev sCheckPayment : Stmt := topS 44
theorem scCheckPayment : FnScope ["lot", "value"] ["lot", "value"] (defScope sCheckPayment) := ⟨rfl, rfl, rfl, by decide +kernel, rfl, by decide +kernel, by decide +kernel⟩
def spCheckPayment (K : PySem.W.Frag) (C : Addr) : Sp := fun vs H Q _ => ∃ (v : V) (cs : List Nat) (b : Addr) (ps : List Nat), vs = [v, .ref b] ∧ LotN K C H v cs ∧ SqT K H b (ps.map vN) ∧ cs.length = ps.length ∧ ∀ H', Same H H' → Q .non H'
theorem ok_check_payment (B : Bl mg) (G : LotG P w K mg base C) (d_check_often : DefOk P w K mg base "check_often" 3 ["many", "value"] (spCheckOften K)) (A : At K mg "check_payment" sCheckPayment) : DefOk P w K mg base "check_payment" 4 ["lot", "value"] (spCheckPayment K C) := by
  refine mkDef A scCheckPayment (fun _ _ _ _ _ _ us hl => match us, hl with | [_, _], _ => rfl) (by rintro _ _ _ _ ⟨_, _, _, _, rfl, _⟩; rfl) fun f cdv A outer s H vs Q E hr h => ?_
  obtain ⟨v, cs, b, ps, rfl, ⟨a, dx, c, rfl, h1, h2⟩, hq, hl, q⟩ := h
  refine ⟨_, pss_one (ps_expr (pe_callD d_check_often hr rfl (pa_cons (pe_callB call_len_seq (by rfl) B.z_len (by decide +kernel) (pa_cons (pe_coins G hr (pv 0)) pa_nil)) (pa_cons (pv 1) pa_nil)))), ?_⟩
  exact ⟨_, rfl, a, dx, _, rfl, h1, c, _, rfl, .inr h2, _, rfl, b, ps, (by rw [List.length_map, hl]), hq, q⟩
/-- the table when the sums below c + i have been gone through -/
def half (c i : Nat) (g : Nat → Nat) (t : Nat) : Nat := if t < c + i then addc c g t else g t
theorem half_lt {c i : Nat} {g : Nat → Nat} {t : Nat} (h : t < c + i) : half c i g t = addc c g t := if_pos h
theorem half_ge {c i : Nat} {g : Nat → Nat} {t : Nat} (h : ¬ t < c + i) : half c i g t = g t := if_neg h
theorem half_zero {c : Nat} {g : Nat → Nat} (t : Nat) : half c 0 g t = g t := by
  unfold half
  split
  · exact addc_lt (by omega)
  · rfl
theorem half_end {c n : Nat} {g : Nat → Nat} {t : Nat} (h : t < n) : half c (n - c) g t = addc c g t := by
  unfold half
  split
  · rfl
  · exact (addc_lt (by omega)).symm
theorem half_step {c i : Nat} {g : Nat → Nat} (hc : 0 < c) (t : Nat) : (if t = c + i then half c i g (c + i) + half c i g i else half c i g t) = half c (i + 1) g t := by
  by_cases e : t = c + i
  · subst e
    rw [if_pos rfl, half_ge (t := c + i) (by omega), half_lt (t := i) (by omega), half_lt (t := c + i) (by omega), addc_ge (t := c + i) hc (by omega), show c + i - c = i by omega]
  · rw [if_neg e]
    unfold half
    by_cases l : t < c + i
    · rw [if_pos l, if_pos (by omega)]
    · rw [if_neg l, if_neg (by omega)]
abbrev sWithCoin : Stmt := topS 45
theorem scWithCoin : FnScope ["table", "coin", "found", "total"] ["table", "coin"] (defScope sWithCoin) := ⟨rfl, rfl, rfl, by decide +kernel, rfl, by decide +kernel, by decide +kernel⟩
def spWithCoin (K : PySem.W.Frag) : Sp := fun vs H Q _ => ∃ (a : Addr) (n : Nat) (f : Nat → Nat) (c : Nat), vs = [.ref a, vN c] ∧ SqL K H a (tabC n f) ∧ 0 < c ∧ c ≤ 12 ∧ n ≤ 100000 ∧
  ∀ H' p, Same H H' → H p = none → H' p = some (.lst (tabC n (addc c f))) → Q (.ref p) H'
theorem ok_with_coin (B : Bl mg) (A : At K mg "with_coin" sWithCoin) : DefOk P w K mg base "with_coin" 1 ["table", "coin"] (spWithCoin K) := by
  refine mkDef A scWithCoin (fun _ _ _ _ _ _ us hl => match us, hl with | [_, _], _ => rfl) (by rintro _ _ _ _ ⟨_, _, _, _, rfl, _⟩; rfl) fun f cdv A outer s H vs Q E hr h => ?_
  obtain ⟨a, n, g, c, rfl, hq, hc, hc2, hn, q⟩ := h
  refine ⟨_, pss_cons (ps_set (i := 2) scWithCoin.nd rfl (Or.inl rfl) (pe_callTy call_list_of (by rfl) B.z_list (by decide +kernel) (pa_cons (pv 0) pa_nil)))
      (pss_cons (ps_for PassesOwn.never rfl (pi_range2 rfl B.z_range (pa_cons (pv 1) (pa_cons (pe_callB call_len_seq (by rfl) B.z_len (by decide +kernel) (pa_cons (pv 2) pa_nil)) pa_nil))) (pg_name (i := 3) scWithCoin.nd rfl (Or.inl rfl))
        (pss_one (ps_asg (pe_op op_add (pe_ix ix_list (pv 2) (pv 3) (fun _ _ => rfl)) (pe_ix ix_list (pv 2) (pe_op op_sub (pv 3) (pv 1)) (fun _ _ => rfl))) (pg_sub (pv 2) (pv 3) set_list))))
      (pss_one (ps_ret (pv 2)))), ?_⟩
  refine ⟨_, rfl, a, _, rfl, .inl hq, fun p np => ?_⟩
  have s1 : Same H (upd H p (.lst (tabC n g))) := same_upd np
  refine ⟨_, rfl, _, rfl, p, _, rfl, .inl (SqL.of upd_same), _, _, rfl, ⟨by omega, by omega, by rw [tab_len]; omega, by rw [tab_len]; omega⟩, ?_⟩
  refine for_rN c (n - c) rfl (by rw [tab_len]; omega) (fun i σ H' => ∃ y, σ = [some (.ref a), some (vN c), some (.ref p), y] ∧ Same H H' ∧ H' p = some (.lst (tabC n (half c i g))))
    ⟨_, rfl, s1, upd_same.trans (congrArg (fun z => some (HO.lst z)) (tab_congr fun t _ => congrArg vN (half_zero t).symm))⟩ ?_ ?_
  · rintro i σ H1 hi ⟨y, rfl, s2, h2⟩
    have hin : c + i < n := by omega
    have a1 := tab_at (n := n) (i := c + i) (f := fun t => vN (half c i g t)) (z := ((c + i : Nat) : Int)) rfl hin
    have a2 := tab_at (n := n) (i := i) (f := fun t => vN (half c i g t)) (z := ((c + i : Nat) : Int) - (c : Int)) (by omega) (by omega)
    refine ⟨_, rfl, _, rfl, _, _, _, _, rfl, rfl, SqL.of h2, a1, _, rfl, _, rfl, _, rfl, _, _, rfl, rfl, _, _, _, _, rfl, rfl, SqL.of h2, a2, _, _, rfl, rfl, _, rfl, _, rfl, _, _, _, c + i, rfl, rfl, h2, ixN_tab rfl (by rw [tab_len]; exact hin), ?_⟩
    refine ⟨_, rfl, s2.mut np, ?_⟩
    rw [upd_same, tab_set]
    refine congrArg (fun z => some (HO.lst z)) (tab_congr fun t _ => ?_)
    rw [← half_step hc t]
    by_cases e : t = c + i
    · rw [if_pos e, if_pos e]
      rfl
    · rw [if_neg e, if_neg e]
  · rintro σ H1 ⟨y, rfl, s2, h2⟩
    refine ⟨_, rfl, q H1 p s2 np ?_⟩
    rw [h2]
    exact congrArg (fun z => some (HO.lst z)) (tab_congr fun t ht => congrArg vN (half_end ht))
abbrev sCountTable : Stmt := topS 46
theorem scCountTable : FnScope ["coins", "amount", "found", "coin"] ["coins", "amount"] (defScope sCountTable) := ⟨rfl, rfl, rfl, by decide +kernel, rfl, by decide +kernel, by decide +kernel⟩
def spCountTable (K : PySem.W.Frag) : Sp := fun vs H Q _ => ∃ (a : Addr) (cs : List Nat) (t : Nat), vs = [.ref a, vN t] ∧ SqT K H a (cs.map vN) ∧ (∀ c ∈ cs, 0 < c ∧ c ≤ 12) ∧ t ≤ 400 ∧
  ∀ H' p, Same H H' → H p = none → H' p = some (.lst (tabC (t + 1) (cnt cs))) → Q (.ref p) H'
theorem ok_count_table (d_with_coin : DefOk P w K mg base "with_coin" 1 ["table", "coin"] (spWithCoin K)) (A : At K mg "count_table" sCountTable) : DefOk P w K mg base "count_table" 2 ["coins", "amount"] (spCountTable K) := by
  refine mkDef A scCountTable (fun _ _ _ _ _ _ us hl => match us, hl with | [_, _], _ => rfl) (by rintro _ _ _ _ ⟨_, _, _, rfl, _⟩; rfl) fun f cdv A outer s H vs Q E hr h => ?_
  obtain ⟨a, cs, t, rfl, hq, hc, ht, q⟩ := h
  refine ⟨_, pss_cons (ps_set (i := 2) scCountTable.nd rfl (Or.inl rfl) (pe_op op_cat (pe_lst (pa_cons (pe_int) pa_nil)) (pe_op op_rep (pe_lst (pa_cons (pe_int) pa_nil)) (pv 1))))
      (pss_cons (ps_for PassesOwn.never rfl (pi_tup (pv 0)) (pg_name (i := 3) scCountTable.nd rfl (Or.inl rfl))
        (pss_one (ps_set (i := 2) scCountTable.nd rfl (Or.inl rfl) (pe_callD d_with_coin hr rfl (pa_cons (pv 2) (pa_cons (pv 3) pa_nil))))))
      (pss_one (ps_ret (pv 2)))), ?_⟩
  refine cat_rep (k := t) (fun H1 Q1 h1 => ⟨_, rfl, h1⟩) (by omega) fun p H0 s0 np hp => ?_
  refine ⟨_, rfl, a, rfl, ⟨_, s0.seqT hq⟩, for_tup (fun i σ H' => ∃ p y, σ = [some (.ref a), some (vN t), some (.ref p), y] ∧ Same H H' ∧ H p = none ∧ H' p = some (.lst (tabC (t + 1) ((cs.take i).foldl (fun f c => addc c f) (cnt [])))))
    ⟨p, _, rfl, s0, np, by rw [hp, tab0]; rfl⟩ (fun i σ H' _ ⟨_, _, _, s1, _⟩ => s1.seqT hq) ?_ ?_⟩
  · rintro i x σ H1 hx ⟨p1, y, rfl, s1, n1, h1⟩
    obtain ⟨c, hci, rfl⟩ := get_of_map hx
    obtain ⟨hc1, hc2⟩ := hc c (List.mem_of_getElem? hci)
    refine ⟨_, rfl, _, rfl, p1, t + 1, _, c, rfl, SqL.of h1, hc1, hc2, by omega, fun H2 p2 s2 n2 h2 => ⟨p2, _, rfl, s1.trans s2, s1.free n2, ?_⟩⟩
    rw [h2, foldl_take _ _ hci]
  · rintro σ H1 ⟨p1, y, rfl, s1, n1, h1⟩
    refine ⟨_, rfl, q H1 p1 s1 n1 ?_⟩
    rw [h1, List.length_map, List.take_length]
    refine congrArg (fun z => some (HO.lst z)) (tab_congr fun s hs => ?_)
    exact congrArg vN (fromFirst_cnt cs (fun c h => (hc c h).1) s)
abbrev sTailTables : Stmt := topS 47
theorem scTailTables : FnScope ["coins", "amount", "found", "coin"] ["coins", "amount"] (defScope sTailTables) := ⟨rfl, rfl, rfl, by decide +kernel, rfl, by decide +kernel, by decide +kernel⟩
def spTailTables (K : PySem.W.Frag) : Sp := fun vs H Q _ => ∃ (a : Addr) (cs : List Nat) (t : Nat), vs = [.ref a, vN t] ∧ SqT K H a (cs.map vN) ∧ (∀ c ∈ cs, 0 < c ∧ c ≤ 12) ∧ cs.length ≤ 4 ∧ t ≤ 400 ∧
  ∀ H' p xs, Same H H' → H' p = some (.lst xs) → Paired (TabOf K H' (t + 1)) xs (sufs cs) → Q (.ref p) H'
theorem ok_tail_tables (d_with_coin : DefOk P w K mg base "with_coin" 1 ["table", "coin"] (spWithCoin K)) (A : At K mg "tail_tables" sTailTables) : DefOk P w K mg base "tail_tables" 2 ["coins", "amount"] (spTailTables K) := by
  refine mkDef A scTailTables (fun _ _ _ _ _ _ us hl => match us, hl with | [_, _], _ => rfl) (by rintro _ _ _ _ ⟨_, _, _, rfl, _⟩; rfl) fun f cdv A outer s H vs Q E hr h => ?_
  obtain ⟨a, cs, t, rfl, hq, hc, h4, ht, q⟩ := h
  refine ⟨_, pss_cons (ps_set (i := 2) scTailTables.nd rfl (Or.inl rfl) (pe_lst (pa_cons (pe_op op_cat (pe_lst (pa_cons (pe_int) pa_nil)) (pe_op op_rep (pe_lst (pa_cons (pe_int) pa_nil)) (pv 1))) pa_nil)))
      (pss_cons (ps_for PassesOwn.never rfl (pi_tup (pe_revU (pv 0))) (pg_name (i := 3) scTailTables.nd rfl (Or.inl rfl))
        (pss_one (ps_expr (pe_bm PySem.F.plainAttrs_list PySem.F.slot_list_append PySem.F.type_list_append mt_append (pv 2) (pa_cons (pe_callD d_with_coin hr rfl (pa_cons (pe_ix ix_list (pv 2) (pe_un un_neg (pe_int)) (fun _ _ => rfl)) (pa_cons (pv 3) pa_nil))) pa_nil)))))
      (pss_one (ps_ret (pe_revL (pv 2))))), ?_⟩
  refine cat_rep (k := t) (fun H1 Q1 h1 => ⟨_, rfl, h1⟩) (by omega) fun p H0 s0 np hp => ⟨sz 1 (by decide), fun p1 n1 => ?_⟩
  have n1H : H p1 = none := s0.free n1
  have pp1 : p ≠ p1 := ne_of_none hp n1
  -- for coin in coins[::-1]
  refine ⟨_, rfl, a, _, rfl, (s0.new n1).seqT hq, fun r nr => ?_⟩
  have rp1 : p1 ≠ r := ne_of_none upd_same nr
  have s1 : Same H (upd (upd H0 p1 (.lst [.ref p])) r (.tup (cs.map vN).reverse)) := (s0.new n1).new nr
  have er : (cs.map vN).reverse = cs.reverse.map vN := List.map_reverse.symm
  refine ⟨r, rfl, ⟨_, SqT.of upd_same⟩, for_tup (xs := cs.reverse.map vN) (fun i σ H' => ∃ y xs, σ = [some (.ref a), some (vN t), some (.ref p1), y] ∧ Same H H' ∧ H' r = some (.tup (cs.reverse.map vN)) ∧
      H' p1 = some (.lst xs) ∧ Paired (TabOf K (del H' p1) (t + 1)) xs (sufs (cs.drop (cs.length - i))).reverse)
    ⟨_, [.ref p], rfl, s1, by rw [upd_same, er], by rw [upd_ne rp1, upd_same], ?_⟩ (fun i σ H' _ ⟨_, _, _, _, h1, _⟩ => SqT.of h1) ?_ ?_⟩
  · rw [Nat.sub_zero, List.drop_length]
    refine .cons ⟨p, rfl, SqL.of ?_⟩ .nil
    have pr : p ≠ r := ne_of_none (show (upd H0 p1 (.lst [.ref p])) p = some _ by rw [upd_ne pp1]; exact hp) nr
    rw [del_ne pp1, upd_ne pr, upd_ne pp1, hp, tab0]
  · rintro i x σ H1 hx ⟨y, xs, rfl, s2, hr2, h2, hpd⟩
    obtain ⟨c, hci, rfl⟩ := get_of_map hx
    have hi : i < cs.length := by
      have := (List.getElem?_eq_some_iff.mp hci).1
      rwa [List.length_reverse] at this
    have hcs : cs[cs.length - 1 - i]? = some c := by rw [List.getElem?_reverse hi] at hci; exact hci
    obtain ⟨hc1, hc2⟩ := hc c (List.mem_of_getElem? hcs)
    generalize hds : cs.drop (cs.length - i) = ds at hpd
    have hds2 : cs.drop (cs.length - (i + 1)) = c :: ds := by
      rw [show cs.length - (i + 1) = cs.length - 1 - i by omega, ← hds, List.drop_eq_getElem_cons (by omega)]
      have e1 : cs[cs.length - 1 - i]'(by omega) = c := (List.getElem?_eq_some_iff.mp hcs).2
      rw [e1, show cs.length - 1 - i + 1 = cs.length - i by omega]
    have lx : xs.length = ds.length + 1 := by
      rw [Paired.length hpd, List.length_reverse, sufs_len]
    have ld : ds.length ≤ 4 := by
      rw [← hds, List.length_drop]
      omega
    -- found[-1]
    have hlast : (sufs ds).reverse[ds.length]? = some ds := by
      rw [List.getElem?_reverse (by rw [sufs_len]; omega), sufs_len, show ds.length + 1 - 1 - ds.length = 0 by omega, sufs_get ds 0 (by omega)]
      rfl
    obtain ⟨v, hv, ⟨b, rfl, hb⟩⟩ := pget' hpd hlast
    have at1 : atI xs (-1) = some (.ref b) := by
      unfold atI ixN
      rw [if_neg (by omega), if_pos (by omega)]
      show xs[((xs.length : Int) + -1).toNat]? = _
      rw [show ((xs.length : Int) + -1).toNat = ds.length by omega]
      exact hv
    refine ⟨_, rfl, .inl ⟨rfl, _, SqL.of h2⟩, _, rfl, 1, rfl, _, _, _, _, rfl, rfl, SqL.of h2, at1, _, rfl, b, t + 1, cnt ds, c, rfl, del_same.seq hb, hc1, hc2, by omega, fun H2 p2 s3 n2 h3 => ?_⟩
    have p12 : p2 ≠ p1 := fun z => by
      rw [z, h2] at n2
      cases n2
    have h4 := s3 _ _ h2
    refine ⟨p1, xs, .ref p2, rfl, rfl, h4, szl _ (by omega), ?_⟩
    refine ⟨_, xs ++ [.ref p2], rfl, (s2.trans s3).mut n1H, ?_, upd_same, ?_⟩
    · rw [upd_ne (ne_of (s3 _ _ hr2) h4 (by intro z; cases z))]
      exact s3 _ _ hr2
    · rw [hds2, del_upd]
      show Paired _ _ ((c :: ds) :: sufs ds).reverse
      rw [List.reverse_cons]
      refine papp (Paired.mapP hpd fun v d h => h.mono s3.del) (pone ⟨p2, rfl, SqL.of ?_⟩)
      rw [del_ne p12, h3]
      exact congrArg (fun z => some (HO.lst z)) (tab_congr fun s hs => congrArg vN (cnt_addc hc1 ds s).symm)
  · rintro σ H1 ⟨y, xs, rfl, s2, hr2, h2, hpd⟩
    refine ⟨_, rfl, p1, xs, rfl, SqL.of h2, fun p2 n2 => ?_⟩
    refine q _ p2 xs.reverse (s2.new n2) upd_same ?_
    rw [List.length_map, List.length_reverse, Nat.sub_self, List.drop_zero] at hpd
    have := prev hpd
    rw [List.reverse_reverse] at this
    exact Paired.mapP this fun v d h => h.mono (Same.trans del_same (same_upd n2))
end
end Cn
/-! Payments listed; their places. -/
namespace Cn
open PySem PySem.Spec PyProof.Rows L2 RZ StX Mp
/-- a tuple stays when a list changes -/
theorem TupN.put {K : PySem.W.Frag} {H : Hp} {v : V} {ns : List Nat} {p : Addr} {l : List V} {o : HO} (hp : H p = some (.lst l)) (h : TupN K H v ns) : TupN K (upd H p o) v ns := by
  obtain ⟨a, e, q⟩ := h
  refine ⟨a, e, ?_⟩
  rcases q with (q | ⟨u, q⟩) | q
  · exact .inl (.inl (by rw [upd_ne (ne_of q hp (by intro z; cases z))]; exact q))
  · exact .inl (.inr ⟨u, by rw [upd_ne (ne_of q hp (by intro z; cases z))]; exact q⟩)
  · exact .inr q
def TupsN (K : PySem.W.Frag) (H : Hp) (xs : List V) (pss : List (List Nat)) : Prop := Paired (TupN K H) xs pss
theorem TupsN.put {K : PySem.W.Frag} {H : Hp} {xs : List V} {pss : List (List Nat)} {p : Addr} {l : List V} {o : HO} (hp : H p = some (.lst l)) (h : TupsN K H xs pss) : TupsN K (upd H p o) xs pss := Paired.mapP h fun _ _ t => t.put hp
theorem TupsN.mono {K : PySem.W.Frag} {H H' : Hp} {xs : List V} {pss : List (List Nat)} (s : Same H H') (h : TupsN K H xs pss) : TupsN K H' xs pss := Paired.mapP h fun _ _ t => t.mono s
/-- the tables of the tails of some coins -/
def Tails (K : PySem.W.Frag) (H : Hp) (n : Nat) (tl : Addr) (cs : List Nat) : Prop := ∃ ts, SqL K H tl ts ∧ Paired (TabOf K H n) ts (sufs cs)
theorem Tails.mono {K : PySem.W.Frag} {H H' : Hp} {n : Nat} {tl : Addr} {cs : List Nat} (s : Same H H') (h : Tails K H n tl cs) : Tails K H' n tl cs := by
  obtain ⟨ts, h1, h2⟩ := h
  exact ⟨ts, s.seq h1, Paired.mapP h2 fun _ _ t => t.mono s⟩
theorem Tails.at {K : PySem.W.Frag} {H : Hp} {n : Nat} {tl : Addr} {cs : List Nat} (h : Tails K H n tl cs) {j : Nat} (hj : j ≤ cs.length) : ∃ ts b, SqL K H tl ts ∧ ts[j]? = some (.ref b) ∧ SqL K H b (tabC n (cnt (cs.drop j))) := by
  obtain ⟨ts, h1, h2⟩ := h
  obtain ⟨v, hv, b, rfl, hb⟩ := pget' h2 (sufs_get cs j hj)
  exact ⟨ts, b, h1, hv, hb⟩
section
variable {P : Program} {w : World} {K : PySem.W.Frag} {mg : Str → Option Value} {base : Heap} {C : Addr}
abbrev sListedFrom : Stmt := topS 48
theorem scListedFrom : FnScope ["coins", "tails", "spot", "amount", "found", "often", "left", "more"] ["coins", "tails", "spot", "amount"] (defScope sListedFrom) := ⟨rfl, rfl, rfl, by decide +kernel, rfl, by decide +kernel, by decide +kernel⟩
def spListed (K : PySem.W.Frag) (d : Nat) : Sp := fun vs H Q _ => ∃ (a tl : Addr) (cs : List Nat) (j t n : Nat), vs = [.ref a, .ref tl, vN j, vN t] ∧ SqT K H a (cs.map vN) ∧ Tails K H n tl cs ∧ (∀ c ∈ cs, 0 < c ∧ c ≤ 12) ∧ cs.length ≤ 4 ∧
  j ≤ cs.length ∧ cs.length ≤ j + d ∧ t < n ∧ n ≤ 401 ∧ 0 < cnt (cs.drop j) t ∧ cnt (cs.drop j) t ≤ 400 ∧
  ∀ H' p xs, Same H H' → H p = none → H' p = some (.lst xs) → TupsN K H' xs (pays (cs.drop j) t) → Q (.ref p) H'
theorem listed_end {cs : List Nat} {t : Nat} {H : Hp} {Q : VK} (h : 0 < cnt (cs.drop cs.length) t)
    (q : ∀ H' p xs, Same H H' → H p = none → H' p = some (.lst xs) → TupsN K H' xs (pays (cs.drop cs.length) t) → Q (.ref p) H') :
    ∀ e, H e = none → ∀ p, upd H e (.tup []) p = none → Q (.ref p) (upd (upd H e (.tup [])) p (.lst [.ref e])) := by
  intro e ne p np
  have s1 : Same H (upd H e (.tup [])) := same_upd ne
  refine q _ p _ (s1.new np) (s1.free np) upd_same ?_
  rw [List.drop_length] at h ⊢
  have ht : t = 0 := by
    rw [Mp.cnt_nil] at h
    by_cases z : t = 0
    · exact z
    · rw [if_neg z] at h
      exact absurd h (by decide)
  subst ht
  exact .cons ⟨e, rfl, SqT.of (by rw [upd_ne (ne_of_none upd_same np), upd_same]; rfl)⟩ .nil
theorem ok_listed0 (B : Bl mg) (A : At K mg "listed_from" sListedFrom) : DefOk P w K mg base "listed_from" 1 ["coins", "tails", "spot", "amount"] (spListed K 0) := by
  refine mkDef A scListedFrom (fun _ _ _ _ _ _ us hl => match us, hl with | [_, _, _, _], _ => rfl) (by rintro _ _ _ _ ⟨_, _, _, _, _, _, rfl, _⟩; rfl) fun f cdv A outer s H vs Q E hr h => ?_
  obtain ⟨a, tl, cs, j, t, n, rfl, hq, hT, hc, h4, hj, hd, ht, hn, hp, hm, q⟩ := h
  refine ⟨_, pss_cons (ps_if (pt_cmpR op_eq (pv 2) (pe_callB call_len_seq (by rfl) B.z_len (by decide +kernel) (pa_cons (pv 0) pa_nil)) (nomark _)) (pss_one (ps_ret (pe_lst (pa_cons (pe_tup pa_nil) pa_nil)))) (pss_nil)) pss_never, ?_⟩
  have e : j = cs.length := by omega
  subst e
  refine ⟨_, rfl, _, rfl, a, _, rfl, .inr hq, rfl, _, rfl, ?_⟩
  rw [decide_eq_true (show vN cs.length = V.int (((cs.map vN).length : Nat) : Int) by rw [List.length_map])]
  exact iteT ⟨sz 0 (by decide), fun e ne => ⟨sz 1 (by decide), fun p np => listed_end hp q e ne p np⟩⟩
theorem ok_listed (B : Bl mg) (A : At K mg "listed_from" sListedFrom) : ∀ d : Nat, DefOk P w K mg base "listed_from" (d + 1) ["coins", "tails", "spot", "amount"] (spListed K d)
  | 0 => ok_listed0 B A
  | d + 1 => by
    have d_listed_from := ok_listed B A d
    refine mkDef A scListedFrom (fun _ _ _ _ _ _ us hl => match us, hl with | [_, _, _, _], _ => rfl) (by rintro _ _ _ _ ⟨_, _, _, _, _, _, rfl, _⟩; rfl) fun f cdv A outer s H vs Q E hr h => ?_
    obtain ⟨a, tl, cs, j, t, n, rfl, hq, hT, hc, h4, hj, hd, ht, hn, hp, hm, q⟩ := h
    refine ⟨_, pss_cons (ps_if (pt_cmpR op_eq (pv 2) (pe_callB call_len_seq (by rfl) B.z_len (by decide +kernel) (pa_cons (pv 0) pa_nil)) (nomark _))
        (pss_one (ps_ret (pe_lst (pa_cons (pe_tup pa_nil) pa_nil))))
        (pss_nil))
      (pss_cons (ps_set (i := 4) scListedFrom.nd rfl (Or.inl rfl) (pe_lst pa_nil))
      (pss_cons (ps_for PassesOwn.never rfl (pi_range1 rfl B.z_range (pa_cons (pe_op op_add (pe_op op_fdiv (pv 3) (pe_ix ix_tup (pv 0) (pv 2) (fun _ _ => rfl))) (pe_int)) pa_nil)) (pg_name (i := 5) scListedFrom.nd rfl (Or.inr rfl))
        (pss_cons (ps_set (i := 6) scListedFrom.nd rfl (Or.inl rfl) (pe_op op_sub (pv 3) (pe_op op_mul (pv 5) (pe_ix ix_tup (pv 0) (pv 2) (fun _ _ => rfl)))))
          (pss_one (ps_if (pt_cmpR op_gt (pe_ix ix_list (pe_ix ix_list (pv 1) (pe_op op_add (pv 2) (pe_int)) (fun _ _ => rfl)) (pv 6) (fun _ _ => rfl)) (pe_int) (nomark _))
            (pss_one (ps_expr (pe_bm PySem.F.plainAttrs_list PySem.F.slot_list_extend PySem.F.type_list_extend mt_extend (pv 4) (pa_cons (pe_lc (own := [("more", 7)]) (g := gName 7) (tt := tYes) (te := tTup (tCons (tVar 5) (tStar K (tVar 7) tNil))) rfl scListedFrom.nd (pi_list (pe_callD d_listed_from hr rfl (pa_cons (pv 0) (pa_cons (pv 1) (pa_cons (pe_op op_add (pv 2) (pe_int)) (pa_cons (pv 6) pa_nil)))))) (blkOk_by (N := ["coins", "tails", "spot", "amount", "found", "often", "left", "more"]) (sc := defScope sListedFrom) (by decide +kernel)) (fun _ _ _ _ _ => (pg_name (i := 7) scListedFrom.nd rfl (Or.inl rfl))) (fun _ _ _ _ _ => pts_nil) (fun _ _ _ _ _ => pe_tup (pa_cons (pv 5) (pa_star (pv 7) pa_nil)))) pa_nil))))
            (pss_nil)))))
      (pss_one (ps_ret (pv 4))))), ?_⟩
    refine ⟨_, rfl, _, rfl, a, _, rfl, .inr hq, rfl, _, rfl, ?_⟩
    by_cases e : j = cs.length
    · subst e
      rw [decide_eq_true (show vN cs.length = V.int (((cs.map vN).length : Nat) : Int) by rw [List.length_map])]
      exact iteT ⟨sz 0 (by decide), fun e ne => ⟨sz 1 (by decide), fun p np => listed_end hp q e ne p np⟩⟩
    · rw [decide_eq_false (show ¬ vN j = V.int (((cs.map vN).length : Nat) : Int) from fun z => e (by have := V.int.inj z; rw [List.length_map] at this; omega))]
      have hjl : j < cs.length := by omega
      generalize hcj : cs[j] = c
      have gc : cs[j]? = some c := by rw [List.getElem?_eq_getElem hjl, hcj]
      have hds : cs.drop j = c :: cs.drop (j + 1) := by rw [List.drop_eq_getElem_cons hjl, hcj]
      generalize hde : cs.drop (j + 1) = ds at hds
      rw [hds] at hp hm q
      obtain ⟨hc1, hc2⟩ := hc c (List.mem_of_getElem? gc)
      have ac : atI (cs.map vN) ((j : Nat) : Int) = some (vN c) := atI_nat (vN_map_get gc)
      have tc : t / c ≤ t := Nat.div_le_self _ _
      refine iteF ⟨sz 0 (by decide), fun p np => ?_⟩
      have s1 : Same H (upd H p (.lst [])) := same_upd np
      have en : (((t : Int) / (c : Int)) + 1).toNat = t / c + 1 := by
        show ((t / c + 1 : Nat) : Int).toNat = _
        exact Int.toNat_natCast _
      refine ⟨_, rfl, _, rfl, _, rfl, _, _, _, _, rfl, rfl, s1.seqT hq, ac, _, _, rfl, rfl, ⟨by omega, by omega⟩, _, _, rfl, rfl, _, rfl, ?_, ?_, ?_⟩
      · show -(2 ^ 62) ≤ ((t / c : Nat) : Int) + 1
        have := Int.natCast_nonneg (t / c)
        omega
      · show ((t / c : Nat) : Int) + 1 < 2 ^ 62
        omega
      refine for_r0 (t / c + 1) en (fun k σ H' => ∃ y5 y6 y7 xs, σ = [some (.ref a), some (.ref tl), some (vN j), some (vN t), some (.ref p), y5, y6, y7] ∧ Same H H' ∧ H' p = some (.lst xs) ∧ TupsN K H' xs (pre c ds t k))
        ⟨_, _, _, [], rfl, s1, upd_same, .nil⟩ ?_ ?_
      · rintro k σ H1 hk ⟨_, _, _, xs, rfl, s2, h2, hx⟩
        have hkc : k * c ≤ t := Nat.le_trans (Nat.mul_le_mul_right c (show k ≤ t / c by omega)) (Nat.div_mul_le_self t c)
        have kb : k ≤ 400 := by omega
        have eL : (t : Int) - (k : Int) * (c : Int) = ((t - k * c : Nat) : Int) := by
          have : (k : Int) * (c : Int) = ((k * c : Nat) : Int) := rfl
          omega
        -- left = amount - often * coins[spot]
        refine ⟨_, rfl, _, rfl, _, rfl, _, rfl, _, _, _, _, rfl, rfl, s2.seqT hq, ac, _, _, rfl, rfl, .inl ⟨by omega, by omega⟩, _, _, rfl, rfl, ?_⟩
        obtain ⟨ts, b, hts, tb, hb⟩ := (hT.mono s2).at (j := j + 1) (by omega)
        rw [hde] at hb
        have lxs : xs.length ≤ 400 := by
          have e1 := Paired.length hx
          have e2 := pre_le (c := c) (ds := ds) (t := t) (k := k) (by omega)
          omega
        -- if tails[spot + 1][left] > 0
        refine ⟨_, rfl, _, rfl, _, _, rfl, rfl, _, _, _, _, rfl, rfl, hts, at_of (j := j + 1) (by omega) tb, _, rfl, _, _, _, _, rfl, rfl, hb, tab_at (i := t - k * c) eL (by omega), _, _, rfl, rfl, _, rfl, ?_⟩
        by_cases hpos : 0 < cnt ds (t - k * c)
        · rw [decide_eq_true (show (0 : Int) < ((cnt ds (t - k * c) : Nat) : Int) by omega)]
          have pl := part_le (c := c) (ds := ds) (t := t) (k := k) (by omega)
          refine iteT ⟨_, rfl, .inl ⟨rfl, _, SqL.of h2⟩, _, rfl, _, rfl, _, rfl, _, _, rfl, rfl, _, rfl, a, tl, cs, j + 1, t - k * c, n, ?_, s2.seqT hq, hT.mono s2, hc, h4, by omega, by omega, by omega, hn, by rw [hde]; exact hpos, by rw [hde]; omega, ?_⟩
          · show [_, _, _, V.int ((t : Int) - (k : Int) * (c : Int))] = _
            rw [eL]
            rfl
          intro H2 p1 xs1 s3 n1 h3 hx1
          rw [hde] at hx1
          have p1p : p1 ≠ p := fun z => by
            rw [z, h2] at n1
            cases n1
          refine ⟨p1, rfl, ⟨_, SqL.of h3⟩, fun D nD => lc_list (xs := xs1) (fun i H' => ∃ ys, Same H2 H' ∧ H' D = some (.lst ys) ∧ TupsN K H' ys (((pays ds (t - k * c)).take i).map (k :: ·)))
            ⟨[], same_upd nD, upd_same, .nil⟩ (fun i H' _ ⟨_, s4, _⟩ => SqL.of (s4 _ _ h3)) ?_ ?_⟩
          · rintro i x H3 hxi ⟨ys, s4, h4', hy⟩
            obtain ⟨ps, hps, tp⟩ := pget hx1 hxi
            obtain ⟨u, rfl, hu⟩ := tp.mono s4
            refine ⟨rfl, _, rfl, _, rfl, u, _, rfl, .inl hu, ?_⟩
            have lp : ps.length ≤ 4 := by
              have h1 := ((mem_pays (cs := ds) (fun d hd => (hc d (by rw [← hde] at hd; exact List.mem_of_mem_drop hd)).1)).mp (List.mem_of_getElem? hps)).1
              have h2 : ds.length ≤ cs.length := by rw [← hde, List.length_drop]; omega
              omega
            refine ⟨sz _ (by rw [List.length_cons, List.length_append, List.length_map]; show ps.length + 0 + 1 ≤ _; omega), fun T nT => ?_⟩
            have DT : D ≠ T := ne_of_none h4' nT
            have ly : ys.length ≤ 400 := by
              have e1 := Paired.length hy
              rw [List.length_map, List.length_take] at e1
              have e2 : (pays ds (t - k * c)).length = cnt ds (t - k * c) := rfl
              omega
            refine ⟨ys, by rw [upd_ne DT]; exact h4', szl _ (by omega), ys ++ [.ref T], (s4.new nT).mut nD, upd_same, ?_⟩
            have hD3 : (upd H3 T (.tup (V.int (k : Int) :: (ps.map vN ++ [])))) D = some (.lst ys) := by rw [upd_ne DT]; exact h4'
            rw [List.take_add_one, hps, List.map_append]
            refine papp ((TupsN.mono (same_upd nT) hy).put hD3) (pone ⟨T, rfl, SqT.of ?_⟩)
            rw [upd_ne (Ne.symm DT), upd_same, List.append_nil]
            rfl
          · rintro H3 ⟨ys, s4, h4', hy⟩
            have lx1 : xs1.length = cnt ds (t - k * c) := Paired.length hx1
            rw [lx1, List.take_of_length_le (show (pays ds (t - k * c)).length ≤ cnt ds (t - k * c) from Nat.le_refl _)] at hy
            have ly : ys.length = cnt ds (t - k * c) := (Paired.length hy).trans (List.length_map ..)
            have hp3 : H3 p = some (.lst xs) := s4 _ _ (s3 _ _ h2)
            refine ⟨p, D, xs, ys, rfl, rfl, hp3, h4', sz _ (by omega), ?_⟩
            refine ⟨_, _, _, xs ++ ys, rfl, ((s2.trans s3).trans s4).mut np, upd_same, ?_⟩
            rw [pre_succ]
            exact papp ((TupsN.mono (Same.trans s3 s4) hx).put hp3) (TupsN.put hp3 hy)
        · rw [decide_eq_false (show ¬ (0 : Int) < ((cnt ds (t - k * c) : Nat) : Int) by omega)]
          refine iteF ⟨_, _, _, xs, rfl, s2, h2, ?_⟩
          rw [pre_succ, cnt_zero hpos, List.map_nil, List.append_nil]
          exact hx
      · rintro σ H1 ⟨_, _, _, xs, rfl, s2, h2, hx⟩
        exact ⟨_, rfl, q H1 p xs s2 np h2 hx⟩
end
end Cn
/-! Parts of tuples; the first and the last payment. -/
namespace Mp
theorem pays_one {c : Nat} (hc : 0 < c) {l : Nat} {x : List Nat} (h : x ∈ pays [c] l) : x = [l / c] := by
  obtain ⟨h1, h2⟩ := (mem_pays (cs := [c]) (fun d hd => by
    rw [List.mem_singleton] at hd
    omega)).mp h
  cases x with
  | nil => simp at h1
  | cons k r =>
    cases r with
    | cons _ _ => simp at h1
    | nil =>
      have h3 : c * k + 0 = l := h2
      have : l / c = k := by rw [← h3, Nat.add_zero, Nat.mul_div_cancel_left _ hc]
      rw [this]
theorem pre_stop {c : Nat} {ds : List Nat} {t : Nat} : ∀ (d k : Nat), (∀ j, k ≤ j → j < k + d → cnt ds (t - j * c) = 0) → pre c ds t (k + d) = pre c ds t k
  | 0, k, _ => rfl
  | d + 1, k, h => by
    have e : pays ds (t - (k + d) * c) = [] := List.eq_nil_of_length_eq_zero (h (k + d) (by omega) (by omega))
    rw [← Nat.add_assoc, pre_succ, e, List.map_nil, List.append_nil]
    exact pre_stop d k fun j h1 h2 => h j h1 (by omega)
theorem last_at {c : Nat} {ds : List Nat} {t o : Nat} (h : ∀ j, o < j → j ≤ t / c → cnt ds (t - j * c) = 0) (ho : o ≤ t / c) (hp : 0 < cnt ds (t - o * c)) :
    (pays (c :: ds) t).getLast? = (pays ds (t - o * c)).getLast?.map (o :: ·) := by
  have e : pays (c :: ds) t = pre c ds t (o + 1) := by
    rw [pays_pre]
    have := pre_stop (c := c) (ds := ds) (t := t) (t / c - o) (o + 1) fun j h1 h2 => h j h1 (by omega)
    rw [show o + 1 + (t / c - o) = t / c + 1 by omega] at this
    exact this
  rw [e, pre_succ, List.getLast?_append, List.getLast?_map]
  cases e2 : (pays ds (t - o * c)).getLast? with
  | none => exact absurd (List.getLast?_eq_none_iff.mp e2) (cnt_pos_iff.mp hp)
  | some x => rfl
theorem no_last {c : Nat} {ds : List Nat} {t : Nat} (h : ∀ j, j ≤ t / c → cnt ds (t - j * c) = 0) : pays (c :: ds) t = [] := by
  rw [pays_pre]
  have := pre_stop (c := c) (ds := ds) (t := t) (t / c + 1) 0 fun j _ h2 => h j (by omega)
  rw [Nat.zero_add] at this
  exact this
end Mp
namespace Cn
open PySem PySem.Spec PyProof.Rows L2 RZ StX Mp
section
variable {K : PySem.W.Frag} {H : Hp} {a p : Addr} {xs l : List V} {o : HO} {Q : VK}
theorem SqT.put (hp : H p = some (.lst l)) (q : SqT K H a xs) : SqT K (upd H p o) a xs := by
  rcases q with (q | ⟨u, q⟩) | q
  · exact .inl (.inl (by rw [upd_ne (ne_of q hp (by intro z; cases z))]; exact q))
  · exact .inl (.inr ⟨u, by rw [upd_ne (ne_of q hp (by intro z; cases z))]; exact q⟩)
  · exact .inr q
/-- a cut of a tuple, told without the case of the whole -/
theorem slA {lo hi : Option Int} {ys : List V} (hx : SqT K H a xs) (e : cutV xs lo hi = ys) (q : ∀ H' p, Same H H' → SqT K H' p ys → Q (.ref p) H') : rSlA K (.ref a) lo hi H Q := by
  subst e
  refine ⟨a, xs, rfl, hx, fun ⟨h1, h2⟩ => ?_, fun _ p np => q _ p (same_upd np) (SqT.of upd_same)⟩
  refine q H a (Same.refl H) ?_
  have : cutV xs lo hi = xs := by
    unfold cutV
    rw [h1, h2, List.drop_zero, Nat.sub_zero, List.take_length]
  rw [this]
  exact hx
theorem noPart {σ : L2.St} {H : Hp} {Q : Option Int → Hp → Prop} (h : Q none H) : tNoPart σ H Q := h
theorem cutV_init (xs : List V) : cutV xs none (some (-1)) = xs.take (xs.length - 1) := by
  unfold cutV
  have e : HT.sIx xs.length xs.length (some (-1)) = xs.length - 1 := by
    show ((if (-1 : Int) < 0 then (-1 + (xs.length : Int)).toNat else min (-1 : Int).toNat xs.length)) = _
    rw [if_pos (by decide)]
    omega
  rw [e]
  rfl
theorem cutV_from (xs : List V) {k : Nat} {z : Int} (e : z = (k : Int)) : cutV xs (some z) none = xs.drop k := by
  subst e
  unfold cutV
  rw [HT.sIx_nat, HT.sIx_none]
  by_cases h : k ≤ xs.length
  · rw [Nat.min_eq_left h, List.take_of_length_le]
    rw [List.length_drop]
    exact Nat.le_refl _
  · rw [List.drop_eq_nil_of_le (show xs.length ≤ k by omega), List.drop_eq_nil_of_le (show xs.length ≤ min k xs.length by omega), List.take_nil]
theorem at_last {ns : List Nat} {c : Nat} (h : ns.getLast? = some c) : atI (ns.map vN) (-1) = some (vN c) := by
  have hn : ns ≠ [] := by
    rintro rfl
    cases h
  have hl : 0 < ns.length := List.length_pos_iff.mpr hn
  rw [List.getLast?_eq_getElem?] at h
  have e : ixN (ns.map vN).length (-1) = some (ns.length - 1) := by
    rw [List.length_map]
    unfold ixN
    rw [if_neg (by decide), if_pos (by omega)]
    congr 1
    omega
  unfold atI
  rw [e]
  exact vN_map_get h
end
end Cn
/-! The list of all payments, the one with an index, the index of one. -/
namespace Cn
open PySem PySem.Spec PyProof.Rows L2 RZ StX Mp
theorem val_cons (c : Nat) (cs : List Nat) (k : Nat) (ps : List Nat) : val (c :: cs) (k :: ps) = c * k + val cs ps := rfl
section
variable {P : Program} {w : World} {K : PySem.W.Frag} {mg : Str → Option Value} {base : Heap} {C : Addr}
abbrev sPaymentList : Stmt := topS 49
theorem scPaymentList : FnScope ["coins", "amount", "tails"] ["coins", "amount"] (defScope sPaymentList) := ⟨rfl, rfl, rfl, by decide +kernel, rfl, by decide +kernel, by decide +kernel⟩
def spPaymentList (K : PySem.W.Frag) : Sp := fun vs H Q _ => ∃ (a : Addr) (cs : List Nat) (t : Nat), vs = [.ref a, vN t] ∧ SqT K H a (cs.map vN) ∧ (∀ c ∈ cs, 0 < c ∧ c ≤ 12) ∧ cs.length ≤ 4 ∧ t ≤ 400 ∧ cnt cs t ≤ 400 ∧
  ∀ H' p xs, Same H H' → H p = none → H' p = some (.lst xs) → TupsN K H' xs (pays cs t) → Q (.ref p) H'
theorem ok_payment_list (d_tail_tables : DefOk P w K mg base "tail_tables" 2 ["coins", "amount"] (spTailTables K)) (d_listed_from : DefOk P w K mg base "listed_from" 5 ["coins", "tails", "spot", "amount"] (spListed K 4)) (A : At K mg "payment_list" sPaymentList) : DefOk P w K mg base "payment_list" 6 ["coins", "amount"] (spPaymentList K) := by
  refine mkDef A scPaymentList (fun _ _ _ _ _ _ us hl => match us, hl with | [_, _], _ => rfl) (by rintro _ _ _ _ ⟨_, _, _, rfl, _⟩; rfl) fun f cdv A outer s H vs Q E hr h => ?_
  obtain ⟨a, cs, t, rfl, hq, hc, h4, ht, hm, q⟩ := h
  refine ⟨_, pss_cons (ps_set (i := 2) scPaymentList.nd rfl (Or.inl rfl) (pe_callD d_tail_tables hr rfl (pa_cons (pv 0) (pa_cons (pv 1) pa_nil))))
      (pss_one (ps_ret (pe_ifExp (pt_cmpR op_gt (pe_ix ix_list (pe_ix ix_list (pv 2) (pe_int) (fun _ _ => rfl)) (pv 1) (fun _ _ => rfl)) (pe_int) (nomark _)) (pe_callD d_listed_from hr rfl (pa_cons (pv 0) (pa_cons (pv 2) (pa_cons (pe_int) (pa_cons (pv 1) pa_nil))))) (pe_lst pa_nil)))), ?_⟩
  refine ⟨_, rfl, _, rfl, a, cs, t, rfl, hq, hc, h4, ht, fun H1 p ts s1 h1 hp => ?_⟩
  have hT : Tails K H1 (t + 1) p cs := ⟨ts, SqL.of h1, hp⟩
  obtain ⟨ts', b, hts, tb, hb⟩ := hT.at (j := 0) (Nat.zero_le _)
  rw [List.drop_zero] at hb
  refine ⟨_, rfl, _, _, _, _, rfl, rfl, hts, at_of (j := 0) rfl tb, _, rfl, _, _, _, _, rfl, rfl, hb, tab_at (i := t) rfl (by omega), _, _, rfl, rfl, _, rfl, ?_⟩
  by_cases hpos : 0 < cnt cs t
  · rw [decide_eq_true (show (0 : Int) < ((cnt cs t : Nat) : Int) by omega)]
    refine iteT ⟨_, rfl, _, rfl, _, rfl, a, p, cs, 0, t, t + 1, rfl, s1.seqT hq, hT, hc, h4, Nat.zero_le _, by omega, by omega, by omega, hpos, hm, fun H2 p2 xs s2 n2 h2 hx => ?_⟩
    exact q H2 p2 xs (s1.trans s2) (s1.free n2) h2 hx
  · rw [decide_eq_false (show ¬ (0 : Int) < ((cnt cs t : Nat) : Int) by omega)]
    refine iteF ⟨sz 0 (by decide), fun p2 n2 => q _ p2 [] (s1.new n2) (s1.free n2) upd_same ?_⟩
    rw [cnt_zero hpos]
    exact .nil
abbrev sPaymentWith : Stmt := topS 50
theorem scPaymentWith : FnScope ["coins", "amount", "place", "tails", "found", "left", "spot", "coin", "often"] ["coins", "amount", "place"] (defScope sPaymentWith) := ⟨rfl, rfl, rfl, by decide +kernel, rfl, by decide +kernel, by decide +kernel⟩
def spPaymentWith (K : PySem.W.Frag) : Sp := fun vs H Q _ => ∃ (a : Addr) (cs : List Nat) (t i : Nat) (ps : List Nat), vs = [.ref a, vN t, vN i] ∧ SqT K H a (cs.map vN) ∧ (∀ c ∈ cs, 0 < c ∧ c ≤ 12) ∧ cs.length ≤ 4 ∧ t ≤ 400 ∧ (pays cs t)[i]? = some ps ∧
  ∀ H' v, Same H H' → TupN K H' v ps → Q v H'
theorem ok_payment_with (B : Bl mg) (d_tail_tables : DefOk P w K mg base "tail_tables" 2 ["coins", "amount"] (spTailTables K)) (A : At K mg "payment_with" sPaymentWith) : DefOk P w K mg base "payment_with" 3 ["coins", "amount", "place"] (spPaymentWith K) := by
  refine mkDef A scPaymentWith (fun _ _ _ _ _ _ us hl => match us, hl with | [_, _, _], _ => rfl) (by rintro _ _ _ _ ⟨_, _, _, _, _, rfl, _⟩; rfl) fun f cdv A outer s H vs Q E hr h => ?_
  obtain ⟨a, cs, t, i0, ps, rfl, hq, hc, h4, ht, hi, q⟩ := h
  have lps : ps.length = cs.length := ((mem_pays fun c h => (hc c h).1).mp (List.mem_of_getElem? hi)).1
  refine ⟨_, pss_cons (ps_par3 (i := 3) (j := 4) (l := 5) (by rfl) scPaymentWith.nd rfl rfl rfl (by decide) (by decide) (by decide) rfl rfl rfl (pa_cons (pe_callD d_tail_tables hr rfl (pa_cons (pv 0) (pa_cons (pv 1) pa_nil))) (pa_cons (pe_lst pa_nil) (pa_cons (pv 1) pa_nil))) (by rfl))
      (pss_cons (ps_for PassesOwn.never rfl (pi_enumU (by rfl) B.z_enumerate (pa_cons (pv 0) pa_nil)) (pg_tup rfl (pgs_cons (pg_name (i := 6) scPaymentWith.nd rfl (Or.inl rfl)) (pgs_cons (pg_name (i := 7) scPaymentWith.nd rfl (Or.inl rfl)) pgs_nil)))
        (pss_cons (ps_set (i := 8) scPaymentWith.nd rfl (Or.inl rfl) (pe_int))
          (pss_cons (ps_while PassesOwn.never (pt_cmpR op_ge (pv 2) (pe_ix ix_list (pe_ix ix_list (pv 3) (pe_op op_add (pv 6) (pe_int)) (fun _ _ => rfl)) (pv 5) (fun _ _ => rfl)) (nomark _))
            (pss_cons (ps_set (i := 2) scPaymentWith.nd rfl (Or.inl rfl) (pe_op op_sub (pv 2) (pe_ix ix_list (pe_ix ix_list (pv 3) (pe_op op_add (pv 6) (pe_int)) (fun _ _ => rfl)) (pv 5) (fun _ _ => rfl))))
              (pss_one (ps_par (i := 8) (j := 5) (by rfl) scPaymentWith.nd rfl rfl (by decide) rfl rfl (pa_cons (pe_op op_add (pv 8) (pe_int)) (pa_cons (pe_op op_sub (pv 5) (pv 7)) pa_nil)) (by rfl)))))
          (pss_one (ps_expr (pe_bm PySem.F.plainAttrs_list PySem.F.slot_list_append PySem.F.type_list_append mt_append (pv 4) (pa_cons (pv 8) pa_nil)))))))
      (pss_one (ps_ret (pe_callTy cr_tupOf (by rfl) B.z_tuple (by decide +kernel) (pa_cons (pv 4) pa_nil))))), ?_⟩
  refine ⟨_, rfl, _, rfl, a, cs, t, rfl, hq, hc, h4, ht, fun H1 tl ts s1 h1 hp => ⟨sz 0 (by decide), fun p np => ⟨_, rfl, _, _, _, rfl, ?_⟩⟩⟩
  have hT : Tails K H1 (t + 1) tl cs := ⟨ts, SqL.of h1, hp⟩
  have s2 : Same H1 (upd H1 p (.lst [])) := same_upd np
  refine ⟨_, rfl, a, _, rfl, (s1.trans s2).seqT hq, for_pair walk_enumU (fun i σ H' => ∃ π l y6 y7 y8, σ = [some (.ref a), some (vN t), some (vN π), some (.ref tl), some (.ref p), some (vN l), y6, y7, y8] ∧ Same H1 H' ∧
      H' p = some (.lst ((ps.take i).map vN)) ∧ l ≤ t ∧ (pays (cs.drop i) l)[π]? = some (ps.drop i)) ⟨i0, t, _, _, _, rfl, s2, upd_same, Nat.le_refl _, hi⟩ (fun i σ H' _ ⟨_, _, _, _, _, _, s3, _⟩ => (s1.trans s3).seqT hq) ?_ ?_⟩
  · rintro i x y T σ H2 hil ⟨π, l, _, _, _, rfl, s3, h2, hl, hπ⟩ nT hx hy
    rw [List.length_map] at hil
    have ex : x = vN i := (Option.some.inj hx).symm
    subst ex
    obtain ⟨c, gc, rfl⟩ := get_of_map hy
    obtain ⟨hc1, hc2⟩ := hc c (List.mem_of_getElem? gc)
    have hds : cs.drop i = c :: cs.drop (i + 1) := by
      rw [List.drop_eq_getElem_cons hil]
      congr 1
      exact (List.getElem?_eq_some_iff.mp gc).2
    generalize hde : cs.drop (i + 1) = ds at hds
    rw [hds] at hπ
    have s4 : Same H1 (upd H2 T (.tup [vN i, vN c])) := s3.new nT
    have hp4 : (upd H2 T (.tup [vN i, vN c])) p = some (.lst ((ps.take i).map vN)) := by rw [upd_ne (ne_of_none h2 nT)]; exact h2
    generalize hH3 : upd H2 T (.tup [vN i, vN c]) = H3 at s4 hp4
    obtain ⟨ts', b, hts, tb, hb⟩ := (hT.mono s4).at (j := i + 1) (by omega)
    rw [hde] at hb
    -- often = 0, while
    refine ⟨fun m σ H' => ∃ o π l q', σ = [some (.ref a), some (vN t), some (vN π), some (.ref tl), some (.ref p), some (vN l), some (vN i), some (vN c), some (vN o)] ∧ H3 = H' ∧ m = l ∧ l ≤ t ∧ (pays (c :: ds) l)[π]? = some q' ∧ plus o q' = ps.drop i,
      ⟨l, 0, π, l, _, rfl, rfl, rfl, hl, hπ, plus_zero _⟩, ?_⟩
    rintro m σ H' ⟨o, π, l, q', rfl, rfl, rfl, hl, hπ, hplus⟩
    have atb : atI (tabC (t + 1) (cnt ds)) ((m : Nat) : Int) = some (vN (cnt ds m)) := tab_at (i := m) rfl (by omega)
    have at1 : atI ts' ((i : Int) + 1) = some (.ref b) := at_of (j := i + 1) (by omega) tb
    refine ⟨_, rfl, _, rfl, _, rfl, _, _, rfl, rfl, _, _, _, _, rfl, rfl, hts, at1, _, rfl, _, _, _, _, rfl, rfl, hb, atb, _, _, rfl, rfl, _, rfl, ?_⟩
    by_cases hge : cnt ds m ≤ π
    · rw [decide_eq_true (show ((cnt ds m : Nat) : Int) ≤ (π : Int) by omega)]
      obtain ⟨hcm, q'', hq'', rfl⟩ := skip hc1 hπ hge
      have e1 : (π : Int) - ((cnt ds m : Nat) : Int) = ((π - cnt ds m : Nat) : Int) := by omega
      have e2 : (m : Int) - (c : Int) = ((m - c : Nat) : Int) := by omega
      refine iteT ⟨fun σ H' => ∃ o π l q', σ = [some (.ref a), some (vN t), some (vN π), some (.ref tl), some (.ref p), some (vN l), some (vN i), some (vN c), some (vN o)] ∧ H3 = H' ∧ l < m ∧ l ≤ t ∧ (pays (c :: ds) l)[π]? = some q' ∧ plus o q' = ps.drop i, ?_, ?_⟩
      · rintro σ H' ⟨o, π, l, q', rfl, rfl, hlm, hl, h5, h6⟩
        exact ⟨l, hlm, o, π, l, q', rfl, rfl, rfl, hl, h5, h6⟩
      · refine ⟨_, rfl, _, rfl, _, rfl, _, _, rfl, rfl, _, _, _, _, rfl, rfl, hts, at1, _, rfl, _, _, _, _, rfl, rfl, hb, atb, _, _, rfl, rfl, ?_⟩
        refine ⟨_, rfl, _, _, rfl, rfl, _, rfl, _, rfl, _, _, rfl, rfl, _, _, rfl, ?_⟩
        refine ⟨o + 1, π - cnt ds m, m - c, q'', ?_, rfl, by omega, by omega, hq'', ?_⟩
        · show [_, _, some (V.int ((π : Int) - ((cnt ds m : Nat) : Int))), _, _, some (V.int ((m : Int) - (c : Int))), _, _, _] = _
          rw [e1, e2]
          rfl
        · rw [← hplus, plus_plus]
    · rw [decide_eq_false (show ¬ ((cnt ds m : Nat) : Int) ≤ (π : Int) by omega)]
      obtain ⟨r, hr, rfl⟩ := stay hc1 hπ (by omega)
      have hd2 : ps.drop i = o :: r := by rw [← hplus]; rfl
      have hil2 : i < ps.length := by omega
      have hd3 : ps.drop i = ps[i] :: ps.drop (i + 1) := List.drop_eq_getElem_cons hil2
      rw [hd3] at hd2
      injection hd2 with e1 e2
      refine iteF ⟨_, rfl, .inl ⟨rfl, _, SqL.of hp4⟩, _, rfl, p, _, _, rfl, rfl, hp4, szl _ (by rw [List.length_map, List.length_take]; omega), ?_⟩
      refine ⟨π, m, _, _, _, rfl, s4.mut np, ?_, hl, ?_⟩
      · rw [upd_same, List.take_add_one, List.getElem?_eq_getElem hil2, e1, List.map_append]
        rfl
      · rw [e2]
        exact hr
  · rintro σ H2 ⟨π, l, _, _, _, rfl, s3, h2, hl, hπ⟩
    rw [List.length_map, ← lps, List.take_length] at h2
    exact ⟨_, rfl, p, _, rfl, .inl ⟨SqL.of h2, fun l2 n2 => q _ _ ((s1.trans s3).new n2) ⟨l2, rfl, SqT.of upd_same⟩⟩⟩
abbrev sPlaceAmong : Stmt := topS 51
theorem scPlaceAmong : FnScope ["coins", "payment", "left", "place", "tails", "spot", "often", "fewer"] ["coins", "payment"] (defScope sPlaceAmong) := ⟨rfl, rfl, rfl, by decide +kernel, rfl, by decide +kernel, by decide +kernel⟩
def spPlaceAmong (K : PySem.W.Frag) : Sp := fun vs H Q _ => ∃ (a b : Addr) (cs ps : List Nat), vs = [.ref a, .ref b] ∧ SqT K H a (cs.map vN) ∧ SqT K H b (ps.map vN) ∧ (∀ c ∈ cs, 0 < c ∧ c ≤ 12) ∧ cs.length ≤ 4 ∧ cs.length = ps.length ∧ val cs ps ≤ 400 ∧
  ∀ H' (i : Nat), Same H H' → (pays cs (val cs ps))[i]? = some ps → Q (vN i) H'
theorem ok_place_among (B : Bl mg) (d_sum_of : DefOk P w K mg base "sum_of" 1 ["coins", "payment"] (spSumOf K)) (d_tail_tables : DefOk P w K mg base "tail_tables" 2 ["coins", "amount"] (spTailTables K)) (A : At K mg "place_among" sPlaceAmong) : DefOk P w K mg base "place_among" 3 ["coins", "payment"] (spPlaceAmong K) := by
  refine mkDef A scPlaceAmong (fun _ _ _ _ _ _ us hl => match us, hl with | [_, _], _ => rfl) (by rintro _ _ _ _ ⟨_, _, _, _, rfl, _⟩; rfl) fun f cdv A outer s H vs Q E hr h => ?_
  obtain ⟨a, b, cs, ps, rfl, hq, hqb, hc, h4, hl, hv, q⟩ := h
  refine ⟨_, pss_cons (ps_par (i := 2) (j := 3) (by rfl) scPlaceAmong.nd rfl rfl (by decide) rfl rfl (pa_cons (pe_callD d_sum_of hr rfl (pa_cons (pv 0) (pa_cons (pv 1) pa_nil))) (pa_cons (pe_int) pa_nil)) (by rfl))
      (pss_cons (ps_set (i := 4) scPlaceAmong.nd rfl (Or.inl rfl) (pe_callD d_tail_tables hr rfl (pa_cons (pv 0) (pa_cons (pv 2) pa_nil))))
      (pss_cons (ps_for PassesOwn.never rfl (pi_enumU (by rfl) B.z_enumerate (pa_cons (pv 1) pa_nil)) (pg_tup rfl (pgs_cons (pg_name (i := 5) scPlaceAmong.nd rfl (Or.inl rfl)) (pgs_cons (pg_name (i := 6) scPlaceAmong.nd rfl (Or.inl rfl)) pgs_nil)))
        (pss_cons (ps_for PassesOwn.never rfl (pi_range1 rfl B.z_range (pa_cons (pv 6) pa_nil)) (pg_name (i := 7) scPlaceAmong.nd rfl (Or.inl rfl))
            (pss_one (ps_set (i := 3) scPlaceAmong.nd rfl (Or.inl rfl) (pe_op op_add (pv 3) (pe_ix ix_list (pe_ix ix_list (pv 4) (pe_op op_add (pv 5) (pe_int)) (fun _ _ => rfl)) (pe_op op_sub (pv 2) (pe_op op_mul (pv 7) (pe_ix ix_tup (pv 0) (pv 5) (fun _ _ => rfl)))) (fun _ _ => rfl))))))
          (pss_one (ps_set (i := 2) scPlaceAmong.nd rfl (Or.inl rfl) (pe_op op_sub (pv 2) (pe_op op_mul (pv 6) (pe_ix ix_tup (pv 0) (pv 5) (fun _ _ => rfl))))))))
      (pss_one (ps_ret (pv 3))))), ?_⟩
  refine ⟨_, rfl, _, rfl, a, b, cs, ps, rfl, hq, hqb, hc, hl, h4, fun H0 s0 => ⟨_, _, rfl, ?_⟩⟩
  refine ⟨_, rfl, _, rfl, a, cs, val cs ps, rfl, s0.seqT hq, hc, h4, hv, fun H1 tl ts s1 h1 hp => ?_⟩
  have hT : Tails K H1 (val cs ps + 1) tl cs := ⟨ts, SqL.of h1, hp⟩
  have s01 : Same H H1 := s0.trans s1
  generalize htt : val cs ps = t at hT hv q
  refine ⟨_, rfl, b, _, rfl, s01.seqT hqb, for_pair walk_enumU (fun i σ H' => ∃ π y5 y6 y7, σ = [some (.ref a), some (.ref b), some (vN (val (cs.drop i) (ps.drop i))), some (vN π), some (.ref tl), y5, y6, y7] ∧ Same H1 H' ∧
      val (cs.drop i) (ps.drop i) ≤ t ∧ ∀ r, (pays (cs.drop i) (val (cs.drop i) (ps.drop i)))[r]? = some (ps.drop i) → (pays cs t)[π + r]? = some ps) ⟨0, _, _, _, (by rw [List.drop_zero, List.drop_zero, htt]; rfl), Same.refl _, ?_, ?_⟩ (fun i σ H' _ ⟨_, _, _, _, _, s3, _⟩ => (s01.trans s3).seqT hqb) ?_ ?_⟩
  · rw [List.drop_zero, List.drop_zero, htt]
    exact Nat.le_refl _
  · intro r hr'
    rw [List.drop_zero, List.drop_zero, htt] at hr'
    rw [Nat.zero_add]
    exact hr'
  · rintro i x y T σ H2 hil ⟨π, y5, y6, y7, rfl, s3, hle, hind⟩ nT hx hy
    rw [List.length_map] at hil
    have ex : x = vN i := (Option.some.inj hx).symm
    subst ex
    obtain ⟨o, go, rfl⟩ := get_of_map hy
    have hil2 : i < cs.length := by omega
    generalize hcj : cs[i] = c
    have gc : cs[i]? = some c := by rw [List.getElem?_eq_getElem hil2, hcj]
    obtain ⟨hc1, hc2⟩ := hc c (List.mem_of_getElem? gc)
    have hds : cs.drop i = c :: cs.drop (i + 1) := by rw [List.drop_eq_getElem_cons hil2, hcj]
    have hps : ps.drop i = o :: ps.drop (i + 1) := by
      rw [List.drop_eq_getElem_cons hil]
      congr 1
      exact (List.getElem?_eq_some_iff.mp go).2
    generalize hde : cs.drop (i + 1) = ds at hds
    generalize hre : ps.drop (i + 1) = rs at hps
    rw [hds, hps, val_cons] at hle hind
    have s4 : Same H1 (upd H2 T (.tup [vN i, vN o])) := s3.new nT
    generalize hH3 : upd H2 T (.tup [vN i, vN o]) = H3 at s4
    obtain ⟨ts', b', hts, tb, hb⟩ := (hT.mono s4).at (j := i + 1) (by omega)
    rw [hde] at hb
    have hco : o * c = c * o := Nat.mul_comm o c
    have ob : o ≤ 400 := by
      have : o * 1 ≤ o * c := Nat.mul_le_mul_left o hc1
      omega
    have ac : atI (cs.map vN) ((i : Nat) : Int) = some (vN c) := atI_nat (vN_map_get gc)
    have at1 : atI ts' ((i : Int) + 1) = some (.ref b') := at_of (j := i + 1) (by omega) tb
    have hq3 : SqT K H3 a (cs.map vN) := (s01.trans s4).seqT hq
    -- for fewer in range(often)
    refine ⟨_, rfl, _, rfl, by omega, by omega, for_r0 o (Int.toNat_natCast o) (fun j σ H' => ∃ y7, σ = [some (.ref a), some (.ref b), some (vN (c * o + val ds rs)), some (vN (π + (pre c ds (c * o + val ds rs) j).length)), some (.ref tl), some (vN i), some (vN o), y7] ∧ H3 = H')
      ⟨y7, (by rw [hds, hps, val_cons]; rfl), rfl⟩ ?_ ?_⟩
    · rintro j σ H' hj ⟨y7, rfl, rfl⟩
      have hjc : j * c ≤ c * o := by rw [← hco]; exact Nat.mul_le_mul_right c (by omega)
      have eL : ((c * o + val ds rs : Nat) : Int) - (j : Int) * (c : Int) = ((c * o + val ds rs - j * c : Nat) : Int) := by
        have : (j : Int) * (c : Int) = ((j * c : Nat) : Int) := rfl
        omega
      refine ⟨_, rfl, _, rfl, _, rfl, _, _, rfl, rfl, _, _, _, _, rfl, rfl, hts, at1, _, rfl, _, rfl, _, rfl, _, rfl, _, _, _, _, rfl, rfl, hq3, ac, _, _, rfl, rfl, .inl ⟨by omega, by omega⟩, _, _, rfl, rfl,
        _, _, _, _, rfl, rfl, hb, tab_at (i := c * o + val ds rs - j * c) eL (by omega), _, _, rfl, rfl, ?_⟩
      refine ⟨some (vN j), ?_, rfl⟩
      rw [pre_succ, List.length_append, List.length_map, ← Nat.add_assoc]
      rfl
    · rintro σ H' ⟨y7, rfl, rfl⟩
      have eL : ((c * o + val ds rs : Nat) : Int) - (o : Int) * (c : Int) = ((val ds rs : Nat) : Int) := by
        have : (o : Int) * (c : Int) = ((o * c : Nat) : Int) := rfl
        omega
      refine ⟨_, rfl, _, rfl, _, rfl, _, rfl, _, _, _, _, rfl, rfl, hq3, ac, _, _, rfl, rfl, .inl ⟨by omega, by omega⟩, _, _, rfl, rfl, ?_⟩
      refine ⟨π + (pre c ds (c * o + val ds rs) o).length, some (vN i), some (vN o), y7, ?_, s4, ?_, ?_⟩
      · show [_, _, some (V.int (((c * o + val ds rs : Nat) : Int) - (o : Int) * (c : Int))), _, _, _, _, _] = _
        rw [eL]
      · omega
      · intro r hr'
        rw [Nat.add_assoc]
        refine hind _ (pays_at ?_ ?_)
        · rw [← hco]
          exact (Nat.le_div_iff_mul_le hc1).mpr (by omega)
        · rw [show c * o + val ds rs - o * c = val ds rs by omega]
          exact hr'
  · rintro σ H2 ⟨π, _, _, _, rfl, s3, hle, hind⟩
    refine ⟨_, rfl, q H2 π (s01.trans s3) ?_⟩
    have := hind 0
    rw [List.length_map, List.drop_length, ← hl, List.drop_length] at this
    exact this rfl
end
end Cn
/-! The first and the last payment. -/
namespace Cn
open PySem PySem.Spec PyProof.Rows L2 RZ StX Mp
/-- what is reckoned by rests is right for all tails, for sums up to t -/
def PaidOk (cs : List Nat) (t : Nat) : Prop := ∀ i, i < cs.length → ∀ l, l ≤ t → (isPaid (cs.drop i) l = true ↔ 0 < cnt (cs.drop i) l)
theorem isPaid_none {ds : List Nat} {l : Nat} (e : (leastTab ds (ds.getD 0 0)).getD (l % ds.getD 0 0) none = none) : isPaid ds l = false := by
  unfold isPaid
  rw [e]
theorem isPaid_some {ds : List Nat} {l v : Nat} (e : (leastTab ds (ds.getD 0 0)).getD (l % ds.getD 0 0) none = some v) : isPaid ds l = decide (v ≤ l) := by
  unfold isPaid
  rw [e]
section
variable {P : Program} {w : World} {K : PySem.W.Frag} {mg : Str → Option Value} {base : Heap} {C : Addr}
abbrev sFirstOf : Stmt := topS 52
theorem scFirstOf : FnScope ["coins", "amount", "found", "left", "spot", "coin", "tail", "least", "often"] ["coins", "amount"] (defScope sFirstOf) := ⟨rfl, rfl, rfl, by decide +kernel, rfl, by decide +kernel, by decide +kernel⟩
def spFirstOf (K : PySem.W.Frag) : Sp := fun vs H Q _ => ∃ (a : Addr) (cs : List Nat) (t : Nat) (ps : List Nat), vs = [.ref a, vN t] ∧ SqT K H a (cs.map vN) ∧ Coins cs ∧ t ≤ 400 ∧ PaidOk cs t ∧ (pays cs t)[0]? = some ps ∧
  ∀ H' v, Same H H' → TupN K H' v ps → Q v H'
theorem ok_first_of (B : Bl mg) (d_least_table : DefOk P w K mg base "least_table" 2 ["coins", "by"] (spLeastTable K)) (A : At K mg "first_of" sFirstOf) : DefOk P w K mg base "first_of" 3 ["coins", "amount"] (spFirstOf K) := by
  refine mkDef A scFirstOf (fun _ _ _ _ _ _ us hl => match us, hl with | [_, _], _ => rfl) (by rintro _ _ _ _ ⟨_, _, _, _, rfl, _⟩; rfl) fun f cdv A outer s H vs Q E hr h => ?_
  obtain ⟨a, cs, t, ps, rfl, hq, hC, ht, hpd, hi, q⟩ := h
  have hc := hC.pos
  have h4 := hC.few
  have lps : ps.length = cs.length := ((mem_pays fun c h => (hc c h).1).mp (List.mem_of_getElem? hi)).1
  have hl0 : 0 < cs.length := List.length_pos_iff.mpr hC.ne
  refine ⟨_, pss_cons (ps_par (i := 2) (j := 3) (by rfl) scFirstOf.nd rfl rfl (by decide) rfl rfl (pa_cons (pe_lst pa_nil) (pa_cons (pv 1) pa_nil)) (by rfl))
      (pss_cons (ps_for PassesOwn.never rfl (pi_enumU (by rfl) B.z_enumerate (pa_cons (pe_slice sl_tupA (pv 0) po_none (po_some (pe_un un_neg (pe_int)))) pa_nil)) (pg_tup rfl (pgs_cons (pg_name (i := 4) scFirstOf.nd rfl (Or.inl rfl)) (pgs_cons (pg_name (i := 5) scFirstOf.nd rfl (Or.inl rfl)) pgs_nil)))
        (pss_cons (ps_set (i := 6) scFirstOf.nd rfl (Or.inl rfl) (pe_slice sl_tupA (pv 0) (po_some (pe_op op_add (pv 4) (pe_int))) po_none))
          (pss_cons (ps_set (i := 7) scFirstOf.nd rfl (Or.inl rfl) (pe_callD d_least_table hr rfl (pa_cons (pv 6) (pa_cons (pe_ix ix_tup (pv 6) (pe_int) (fun _ _ => rfl)) pa_nil))))
          (pss_cons (ps_set (i := 8) scFirstOf.nd rfl (Or.inl rfl) (pe_int))
          (pss_cons (ps_while PassesOwn.never (PW.pt (pw_or (pt_cmp (pc_isN (pe_ix ix_list (pv 7) (pe_op op_mod (pe_callTy call_int1 (by rfl) B.z_int (by decide +kernel) (pa_cons (pv 3) pa_nil)) (pe_ix ix_tup (pv 6) (pe_int) (fun _ _ => rfl))) (fun _ _ => rfl)))) (pw_or1 (pt_cmpR op_gt (pe_ix ix_list (pv 7) (pe_op op_mod (pe_callTy call_int1 (by rfl) B.z_int (by decide +kernel) (pa_cons (pv 3) pa_nil)) (pe_ix ix_tup (pv 6) (pe_int) (fun _ _ => rfl))) (fun _ _ => rfl)) (pv 3) (nomark _)))))
            (pss_one (ps_par (i := 8) (j := 3) (by rfl) scFirstOf.nd rfl rfl (by decide) rfl rfl (pa_cons (pe_op op_add (pv 8) (pe_int)) (pa_cons (pe_op op_sub (pv 3) (pv 5)) pa_nil)) (by rfl))))
          (pss_one (ps_expr (pe_bm PySem.F.plainAttrs_list PySem.F.slot_list_append PySem.F.type_list_append mt_append (pv 2) (pa_cons (pv 8) pa_nil)))))))))
      (pss_one (ps_ret (pe_tup (pa_star (pv 2) (pa_cons (pe_op op_fdiv (pv 3) (pe_ix ix_tup (pv 0) (pe_un un_neg (pe_int)) (fun _ _ => rfl))) pa_nil)))))), ?_⟩
  refine ⟨sz 0 (by decide), fun p np => ⟨_, rfl, _, _, rfl, ?_⟩⟩
  have s1 : Same H (upd H p (.lst [])) := same_upd np
  refine ⟨_, rfl, _, rfl, _, rfl, slA (ys := (cs.take (cs.length - 1)).map vN) (s1.seqT hq) (by show cutV _ none (some (-1)) = _; rw [cutV_init, List.length_map, List.map_take]) fun H1 p1 s2 hp1 => ?_⟩
  have hl1 : (cs.take (cs.length - 1)).length = cs.length - 1 := by rw [List.length_take]; omega
  refine ⟨p1, _, rfl, hp1, for_pair walk_enumU (fun i σ H' => ∃ l y4 y5 y6 y7 y8, σ = [some (.ref a), some (vN t), some (.ref p), some (vN l), y4, y5, y6, y7, y8] ∧ Same H H' ∧ SqT K H' p1 ((cs.take (cs.length - 1)).map vN) ∧
      H' p = some (.lst ((ps.take i).map vN)) ∧ l ≤ t ∧ (pays (cs.drop i) l)[0]? = some (ps.drop i)) ⟨t, _, _, _, _, _, rfl, s1.trans s2, hp1, s2 _ _ upd_same, Nat.le_refl _, hi⟩ (fun i σ H' _ ⟨_, _, _, _, _, _, _, _, h, _⟩ => h) ?_ ?_⟩
  · rintro i x y T σ H2 hil ⟨l, _, _, _, _, _, rfl, s3, hp2, h2, hl, hπ⟩ nT hx hy
    rw [List.length_map, hl1] at hil
    have ex : x = vN i := (Option.some.inj hx).symm
    subst ex
    obtain ⟨c, gc, rfl⟩ := get_of_map hy
    have gc : cs[i]? = some c := by
      rw [List.getElem?_take] at gc
      rwa [if_pos hil] at gc
    have hil2 : i < cs.length := by omega
    obtain ⟨hc1, hc2⟩ := hc c (List.mem_of_getElem? gc)
    have hds : cs.drop i = c :: cs.drop (i + 1) := by
      rw [List.drop_eq_getElem_cons hil2]
      congr 1
      exact (List.getElem?_eq_some_iff.mp gc).2
    have hdc : ∀ d ∈ cs.drop (i + 1), 0 < d ∧ d ≤ 12 := fun d hd => hc d (List.mem_of_mem_drop hd)
    have hpd1 := hpd (i + 1) (by omega)
    have hne : cs.drop (i + 1) ≠ [] := by
      intro z
      have := congrArg List.length z
      rw [List.length_drop, List.length_nil] at this
      omega
    have hmap : (cs.map vN).drop (i + 1) = (cs.drop (i + 1)).map vN := List.map_drop.symm
    generalize hde : cs.drop (i + 1) = ds at hds hdc hpd1 hne hmap
    rw [hds] at hπ
    obtain ⟨d0, dr, rfl⟩ : ∃ d0 dr, ds = d0 :: dr := by
      cases ds with
      | nil => exact absurd rfl hne
      | cons d0 dr => exact ⟨d0, dr, rfl⟩
    obtain ⟨d01, d02⟩ := hdc d0 List.mem_cons_self
    have s4 : Same H (upd H2 T (.tup [vN i, vN c])) := s3.new nT
    have s5 : Same H2 (upd H2 T (.tup [vN i, vN c])) := same_upd nT
    generalize hH3 : upd H2 T (.tup [vN i, vN c]) = H3 at s4 s5
    -- tail = coins[spot + 1:]
    refine ⟨_, rfl, _, rfl, _, _, rfl, rfl, _, rfl, noPart (slA (ys := (d0 :: dr).map vN) (s4.seqT hq) ((cutV_from _ (k := i + 1) (by omega)).trans hmap) fun H4 p2 s6 hp4 => ?_)⟩
    have a0 : atI ((d0 :: dr).map vN) 0 = some (vN d0) := atI_nat (j := 0) rfl
    -- least = least_table(tail, tail[0])
    refine ⟨_, rfl, _, rfl, _, _, _, _, rfl, rfl, hp4, a0, p2, d0 :: dr, d0, rfl, hp4, hdc, d01, d02, fun H5 p3 s7 n3 h3 => ?_⟩
    have hp5 : SqT K H5 p2 ((d0 :: dr).map vN) := s7.seqT hp4
    have s25 : Same H2 H5 := (s5.trans s6).trans s7
    refine ⟨fun m σ H' => ∃ o l q' y4, σ = [some (.ref a), some (vN t), some (.ref p), some (vN l), y4, some (vN c), some (.ref p2), some (.ref p3), some (vN o)] ∧ H5 = H' ∧ m = l ∧ l ≤ t ∧ (pays (c :: d0 :: dr) l)[0]? = some q' ∧ plus o q' = ps.drop i,
      ⟨l, 0, l, _, _, rfl, rfl, rfl, hl, hπ, plus_zero _⟩, ?_⟩
    rintro m σ H' ⟨o, l, q', y4, rfl, rfl, rfl, hl, hπ, hplus⟩
    have lt : m % d0 < (leastTab (d0 :: dr) d0).length := by
      rw [leastTab_len _ d01]
      exact Nat.mod_lt _ d01
    have aL : atI ((leastTab (d0 :: dr) d0).map vO) ((m : Int) % (d0 : Int)) = some (vO ((leastTab (d0 :: dr) d0).getD (m % d0) none)) := atO (i := m % d0) rfl lt
    have go : ∀ D : Ends, ¬ 0 < cnt (d0 :: dr) m → (∀ σ' H', (∃ o l q' y4, σ' = [some (.ref a), some (vN t), some (.ref p), some (vN l), y4, some (vN c), some (.ref p2), some (.ref p3), some (vN o)] ∧ H5 = H' ∧ l < m ∧ l ≤ t ∧ (pays (c :: d0 :: dr) l)[0]? = some q' ∧ plus o q' = ps.drop i) → D.nx σ' H') →
        D.nx [some (.ref a), some (vN t), some (.ref p), some (.int ((m : Int) - (c : Int))), y4, some (vN c), some (.ref p2), some (.ref p3), some (.int ((o : Int) + 1))] H5 := by
      intro D hz k
      obtain ⟨hcm, q'', hq'', rfl⟩ := skip hc1 hπ (by omega)
      have e2 : (m : Int) - (c : Int) = ((m - c : Nat) : Int) := by omega
      refine k _ _ ⟨o + 1, m - c, q'', y4, ?_, rfl, by omega, by omega, ?_, ?_⟩
      · rw [e2]
        rfl
      · rw [Nat.zero_sub] at hq''
        exact hq''
      · rw [← hplus, plus_plus]
    refine ⟨_, rfl, _, rfl, .inl ⟨_, rfl, _, rfl, _, _, _, _, rfl, rfl, hp5, a0, _, _, rfl, rfl, (by omega), _, _, _, _, rfl, rfl, SqL.of h3, aL, _, rfl, ?_⟩⟩
    cases e2 : (leastTab (d0 :: dr) d0).getD (m % d0) none with
    | none =>
      have hz : ¬ 0 < cnt (d0 :: dr) m := fun z => by
        have := (hpd1 m hl).mpr z
        rw [isPaid_none e2] at this
        cases this
      refine iteT (iteT ⟨fun σ H' => ∃ o l q' y4, σ = [some (.ref a), some (vN t), some (.ref p), some (vN l), y4, some (vN c), some (.ref p2), some (.ref p3), some (vN o)] ∧ H5 = H' ∧ l < m ∧ l ≤ t ∧ (pays (c :: d0 :: dr) l)[0]? = some q' ∧ plus o q' = ps.drop i, ?_, ?_⟩)
      · rintro σ H' ⟨o, l, q', y4, rfl, rfl, hlm, hl, h5, h6⟩
        exact ⟨l, hlm, o, l, q', y4, rfl, rfl, rfl, hl, h5, h6⟩
      · refine ⟨_, rfl, _, _, rfl, rfl, _, rfl, _, rfl, _, _, rfl, rfl, _, _, rfl, ?_⟩
        exact go _ hz fun _ _ z => z
    | some v =>
      rw [e2] at aL
      refine iteF ⟨_, rfl, _, rfl, .inl ⟨_, rfl, _, rfl, _, _, _, _, rfl, rfl, hp5, a0, _, _, rfl, rfl, (by omega), _, _, _, _, rfl, rfl, SqL.of h3, aL, _, rfl, _, _, rfl, rfl, _, rfl, ?_⟩⟩
      have e3 := isPaid_some e2
      by_cases hv : v ≤ m
      · rw [decide_eq_false (show ¬ (m : Int) < (v : Int) by omega)]
        have hpos : 0 < cnt (d0 :: dr) m := (hpd1 m hl).mp (by rw [e3]; exact decide_eq_true hv)
        obtain ⟨r, hr, rfl⟩ := stay hc1 hπ hpos
        have hd2 : ps.drop i = o :: r := by rw [← hplus]; rfl
        have hil3 : i < ps.length := by omega
        have hd3 : ps.drop i = ps[i] :: ps.drop (i + 1) := List.drop_eq_getElem_cons hil3
        rw [hd3] at hd2
        injection hd2 with e1 e2
        have hp5' : H5 p = some (.lst ((ps.take i).map vN)) := s25 _ _ h2
        refine iteF ⟨_, rfl, .inl ⟨rfl, _, SqL.of hp5'⟩, _, rfl, p, _, _, rfl, rfl, hp5', szl _ (by rw [List.length_map, List.length_take]; omega), ?_⟩
        refine ⟨m, _, _, _, _, _, rfl, (s3.trans s25).mut np, SqT.put hp5' (s25.seqT hp2), ?_, hl, ?_⟩
        · rw [upd_same, List.take_add_one, List.getElem?_eq_getElem hil3, e1, List.map_append]
          rfl
        · rw [e2]
          exact hr
      · rw [decide_eq_true (show (m : Int) < (v : Int) by omega)]
        have hz : ¬ 0 < cnt (d0 :: dr) m := fun z => by
          have := (hpd1 m hl).mpr z
          rw [e3] at this
          exact hv (of_decide_eq_true this)
        refine iteT ⟨fun σ H' => ∃ o l q' y4, σ = [some (.ref a), some (vN t), some (.ref p), some (vN l), y4, some (vN c), some (.ref p2), some (.ref p3), some (vN o)] ∧ H5 = H' ∧ l < m ∧ l ≤ t ∧ (pays (c :: d0 :: dr) l)[0]? = some q' ∧ plus o q' = ps.drop i, ?_, ?_⟩
        · rintro σ H' ⟨o, l, q', y4, rfl, rfl, hlm, hl, h5, h6⟩
          exact ⟨l, hlm, o, l, q', y4, rfl, rfl, rfl, hl, h5, h6⟩
        · refine ⟨_, rfl, _, _, rfl, rfl, _, rfl, _, rfl, _, _, rfl, rfl, _, _, rfl, ?_⟩
          exact go _ hz fun _ _ z => z
  · rintro σ H2 ⟨l, _, _, _, _, _, rfl, s3, hp2, h2, hl, hπ⟩
    rw [List.length_map, hl1] at h2 hπ
    obtain ⟨c, hcl⟩ : ∃ c, cs.getLast? = some c := by
      cases e : cs.getLast? with
      | none => exact absurd (List.getLast?_eq_none_iff.mp e) hC.ne
      | some c => exact ⟨c, rfl⟩
    obtain ⟨hc1, hc2⟩ := hc c (List.mem_of_getLast? hcl)
    have hd1 : cs.drop (cs.length - 1) = [c] := by
      rw [List.getLast?_eq_getElem?] at hcl
      obtain ⟨h1, h2⟩ := List.getElem?_eq_some_iff.mp hcl
      rw [List.drop_eq_getElem_cons h1, h2, List.drop_of_length_le (by omega)]
    rw [hd1] at hπ
    have ep := pays_one hc1 (List.mem_of_getElem? hπ)
    refine ⟨_, rfl, p, _, rfl, .inr (SqL.of h2), _, rfl, _, rfl, _, rfl, _, _, _, _, rfl, rfl, s3.seqT hq, at_last hcl, _, _, rfl, rfl, ⟨by omega, by omega⟩, sz _ ?_, fun T nT => ?_⟩
    · rw [List.length_append, List.length_map, List.length_take]
      show min (cs.length - 1) ps.length + 1 ≤ _
      omega
    · refine q _ _ (s3.new nT) ⟨T, rfl, SqT.of ?_⟩
      rw [upd_same]
      have e5 : ps = ps.take (cs.length - 1) ++ [l / c] := by
        rw [← ep, List.take_append_drop]
      rw [e5, List.map_append, ← e5]
      rfl
abbrev sLastOf : Stmt := topS 53
theorem scLastOf : FnScope ["coins", "amount", "found", "left", "spot", "coin", "tail", "least", "often"] ["coins", "amount"] (defScope sLastOf) := ⟨rfl, rfl, rfl, by decide +kernel, rfl, by decide +kernel, by decide +kernel⟩
def spLastOf (K : PySem.W.Frag) : Sp := fun vs H Q _ => ∃ (a : Addr) (cs : List Nat) (t : Nat) (ps : List Nat), vs = [.ref a, vN t] ∧ SqT K H a (cs.map vN) ∧ Coins cs ∧ t ≤ 400 ∧ PaidOk cs t ∧ (pays cs t).getLast? = some ps ∧
  ∀ H' v, Same H H' → TupN K H' v ps → Q v H'
theorem ok_last_of (B : Bl mg) (d_least_table : DefOk P w K mg base "least_table" 2 ["coins", "by"] (spLeastTable K)) (A : At K mg "last_of" sLastOf) : DefOk P w K mg base "last_of" 3 ["coins", "amount"] (spLastOf K) := by
  refine mkDef A scLastOf (fun _ _ _ _ _ _ us hl => match us, hl with | [_, _], _ => rfl) (by rintro _ _ _ _ ⟨_, _, _, _, rfl, _⟩; rfl) fun f cdv A outer s H vs Q E hr h => ?_
  obtain ⟨a, cs, t, ps, rfl, hq, hC, ht, hpd, hi, q⟩ := h
  have hc := hC.pos
  have h4 := hC.few
  have lps : ps.length = cs.length := ((mem_pays fun c h => (hc c h).1).mp (List.mem_of_getLast? hi)).1
  have hl0 : 0 < cs.length := List.length_pos_iff.mpr hC.ne
  refine ⟨_, pss_cons (ps_par (i := 2) (j := 3) (by rfl) scLastOf.nd rfl rfl (by decide) rfl rfl (pa_cons (pe_lst pa_nil) (pa_cons (pv 1) pa_nil)) (by rfl))
      (pss_cons (ps_for PassesOwn.never rfl (pi_enumU (by rfl) B.z_enumerate (pa_cons (pe_slice sl_tupA (pv 0) po_none (po_some (pe_un un_neg (pe_int)))) pa_nil)) (pg_tup rfl (pgs_cons (pg_name (i := 4) scLastOf.nd rfl (Or.inl rfl)) (pgs_cons (pg_name (i := 5) scLastOf.nd rfl (Or.inl rfl)) pgs_nil)))
        (pss_cons (ps_set (i := 6) scLastOf.nd rfl (Or.inl rfl) (pe_slice sl_tupA (pv 0) (po_some (pe_op op_add (pv 4) (pe_int))) po_none))
          (pss_cons (ps_set (i := 7) scLastOf.nd rfl (Or.inl rfl) (pe_callD d_least_table hr rfl (pa_cons (pv 6) (pa_cons (pe_ix ix_tup (pv 6) (pe_int) (fun _ _ => rfl)) pa_nil))))
          (pss_cons (ps_asg (pe_callB call_divmod (by rfl) B.z_divmod (by decide +kernel) (pa_cons (pe_callTy call_int1 (by rfl) B.z_int (by decide +kernel) (pa_cons (pv 3) pa_nil)) (pa_cons (pv 5) pa_nil))) (pg_tup rfl (pgs_cons (pg_name (i := 8) scLastOf.nd rfl (Or.inl rfl)) (pgs_cons (pg_name (i := 3) scLastOf.nd rfl (Or.inl rfl)) pgs_nil))))
          (pss_cons (ps_while PassesOwn.never (PW.pt (pw_or (pt_cmp (pc_isN (pe_ix ix_list (pv 7) (pe_op op_mod (pe_callTy call_int1 (by rfl) B.z_int (by decide +kernel) (pa_cons (pv 3) pa_nil)) (pe_ix ix_tup (pv 6) (pe_int) (fun _ _ => rfl))) (fun _ _ => rfl)))) (pw_or1 (pt_cmpR op_gt (pe_ix ix_list (pv 7) (pe_op op_mod (pe_callTy call_int1 (by rfl) B.z_int (by decide +kernel) (pa_cons (pv 3) pa_nil)) (pe_ix ix_tup (pv 6) (pe_int) (fun _ _ => rfl))) (fun _ _ => rfl)) (pv 3) (nomark _)))))
            (pss_one (ps_par (i := 8) (j := 3) (by rfl) scLastOf.nd rfl rfl (by decide) rfl rfl (pa_cons (pe_op op_sub (pv 8) (pe_int)) (pa_cons (pe_op op_add (pv 3) (pv 5)) pa_nil)) (by rfl))))
          (pss_one (ps_expr (pe_bm PySem.F.plainAttrs_list PySem.F.slot_list_append PySem.F.type_list_append mt_append (pv 2) (pa_cons (pv 8) pa_nil)))))))))
      (pss_one (ps_ret (pe_tup (pa_star (pv 2) (pa_cons (pe_op op_fdiv (pv 3) (pe_ix ix_tup (pv 0) (pe_un un_neg (pe_int)) (fun _ _ => rfl))) pa_nil)))))), ?_⟩
  refine ⟨sz 0 (by decide), fun p np => ⟨_, rfl, _, _, rfl, ?_⟩⟩
  have s1 : Same H (upd H p (.lst [])) := same_upd np
  refine ⟨_, rfl, _, rfl, _, rfl, slA (ys := (cs.take (cs.length - 1)).map vN) (s1.seqT hq) (by show cutV _ none (some (-1)) = _; rw [cutV_init, List.length_map, List.map_take]) fun H1 p1 s2 hp1 => ?_⟩
  have hl1 : (cs.take (cs.length - 1)).length = cs.length - 1 := by rw [List.length_take]; omega
  refine ⟨p1, _, rfl, hp1, for_pair walk_enumU (fun i σ H' => ∃ l y4 y5 y6 y7 y8, σ = [some (.ref a), some (vN t), some (.ref p), some (vN l), y4, y5, y6, y7, y8] ∧ Same H H' ∧ SqT K H' p1 ((cs.take (cs.length - 1)).map vN) ∧
      H' p = some (.lst ((ps.take i).map vN)) ∧ l ≤ t ∧ (pays (cs.drop i) l).getLast? = some (ps.drop i)) ⟨t, _, _, _, _, _, rfl, s1.trans s2, hp1, s2 _ _ upd_same, Nat.le_refl _, hi⟩ (fun i σ H' _ ⟨_, _, _, _, _, _, _, _, h, _⟩ => h) ?_ ?_⟩
  · rintro i x y T σ H2 hil ⟨l, _, _, _, _, _, rfl, s3, hp2, h2, hl, hπ⟩ nT hx hy
    rw [List.length_map, hl1] at hil
    have ex : x = vN i := (Option.some.inj hx).symm
    subst ex
    obtain ⟨c, gc, rfl⟩ := get_of_map hy
    have gc : cs[i]? = some c := by
      rw [List.getElem?_take] at gc
      rwa [if_pos hil] at gc
    have hil2 : i < cs.length := by omega
    obtain ⟨hc1, hc2⟩ := hc c (List.mem_of_getElem? gc)
    have hds : cs.drop i = c :: cs.drop (i + 1) := by
      rw [List.drop_eq_getElem_cons hil2]
      congr 1
      exact (List.getElem?_eq_some_iff.mp gc).2
    have hdc : ∀ d ∈ cs.drop (i + 1), 0 < d ∧ d ≤ 12 := fun d hd => hc d (List.mem_of_mem_drop hd)
    have hpd1 := hpd (i + 1) (by omega)
    have hne : cs.drop (i + 1) ≠ [] := by
      intro z
      have := congrArg List.length z
      rw [List.length_drop, List.length_nil] at this
      omega
    have hmap : (cs.map vN).drop (i + 1) = (cs.drop (i + 1)).map vN := List.map_drop.symm
    generalize hde : cs.drop (i + 1) = ds at hds hdc hpd1 hne hmap
    rw [hds] at hπ
    obtain ⟨d0, dr, rfl⟩ : ∃ d0 dr, ds = d0 :: dr := by
      cases ds with
      | nil => exact absurd rfl hne
      | cons d0 dr => exact ⟨d0, dr, rfl⟩
    obtain ⟨d01, d02⟩ := hdc d0 List.mem_cons_self
    have s4 : Same H (upd H2 T (.tup [vN i, vN c])) := s3.new nT
    have s5 : Same H2 (upd H2 T (.tup [vN i, vN c])) := same_upd nT
    generalize hH3 : upd H2 T (.tup [vN i, vN c]) = H3 at s4 s5
    -- tail = coins[spot + 1:]
    refine ⟨_, rfl, _, rfl, _, _, rfl, rfl, _, rfl, noPart (slA (ys := (d0 :: dr).map vN) (s4.seqT hq) ((cutV_from _ (k := i + 1) (by omega)).trans hmap) fun H4 p2 s6 hp4 => ?_)⟩
    have a0 : atI ((d0 :: dr).map vN) 0 = some (vN d0) := atI_nat (j := 0) rfl
    -- least = least_table(tail, tail[0])
    refine ⟨_, rfl, _, rfl, _, _, _, _, rfl, rfl, hp4, a0, p2, d0 :: dr, d0, rfl, hp4, hdc, d01, d02, fun H5 p3 s7 n3 h3 => ?_⟩
    have hp5 : SqT K H5 p2 ((d0 :: dr).map vN) := s7.seqT hp4
    have s25 : Same H2 H5 := (s5.trans s6).trans s7
    -- often, left = divmod(int(left), coin)
    refine ⟨_, rfl, .inl ⟨_, rfl, _, rfl, _, _, rfl, ⟨by omega, by omega⟩, fun p4 n4 => ⟨p4, _, rfl, SqT.of upd_same, rfl, _, _, rfl, _, _, rfl, rfl, ?_⟩⟩⟩
    have hh3 := h3
    have s8 : Same H5 (upd H5 p4 (.tup [.int ((l : Int) / (c : Int)), .int ((l : Int) % (c : Int))])) := same_upd n4
    generalize hH6 : upd H5 p4 (.tup [.int ((l : Int) / (c : Int)), .int ((l : Int) % (c : Int))]) = H6 at s8
    have hp6 : SqT K H6 p2 ((d0 :: dr).map vN) := s8.seqT hp5
    have s26 : Same H2 H6 := s25.trans s8
    have h3' : H6 p3 = some (.lst ((leastTab (d0 :: dr) d0).map vO)) := s8 _ _ h3
    have lc : l / c ≤ l := Nat.div_le_self _ _
    have lm : l - l / c * c = l % c := by
      have := Nat.div_add_mod l c
      rw [Nat.mul_comm] at this
      omega
    refine ⟨fun m σ H' => ∃ o y4, σ = [some (.ref a), some (vN t), some (.ref p), some (vN (l - o * c)), y4, some (vN c), some (.ref p2), some (.ref p3), some (vN o)] ∧ H6 = H' ∧ m = o ∧ o ≤ l / c ∧ ∀ j, o < j → j ≤ l / c → cnt (d0 :: dr) (l - j * c) = 0,
      ⟨l / c, l / c, some (vN i), (by rw [lm]; rfl), rfl, rfl, Nat.le_refl _, fun j h1 h2 => absurd h2 (by omega)⟩, ?_⟩
    rintro m σ H' ⟨o, y4, rfl, rfl, rfl, ho, hab⟩
    have lmt : l - m * c ≤ t := by omega
    generalize hM : l - m * c = M at lmt
    have lt : M % d0 < (leastTab (d0 :: dr) d0).length := by
      rw [leastTab_len _ d01]
      exact Nat.mod_lt _ d01
    have aL : atI ((leastTab (d0 :: dr) d0).map vO) ((M : Int) % (d0 : Int)) = some (vO ((leastTab (d0 :: dr) d0).getD (M % d0) none)) := atO (i := M % d0) rfl lt
    have hmc : m * c ≤ l := Nat.le_trans (Nat.mul_le_mul_right c ho) (Nat.div_mul_le_self l c)
    have go : ∀ D : Ends, ¬ 0 < cnt (d0 :: dr) M → (∀ σ' H', (∃ o y4, σ' = [some (.ref a), some (vN t), some (.ref p), some (vN (l - o * c)), y4, some (vN c), some (.ref p2), some (.ref p3), some (vN o)] ∧ H6 = H' ∧ o < m ∧ o ≤ l / c ∧ ∀ j, o < j → j ≤ l / c → cnt (d0 :: dr) (l - j * c) = 0) → D.nx σ' H') →
        D.nx [some (.ref a), some (vN t), some (.ref p), some (.int ((M : Int) + (c : Int))), y4, some (vN c), some (.ref p2), some (.ref p3), some (.int ((m : Int) - 1))] H6 := by
      intro D hz k
      have m0 : 0 < m := by
        apply Nat.pos_of_ne_zero
        intro z
        have e : pays (c :: d0 :: dr) l = [] := no_last fun j h1 => by
          by_cases hj : m < j
          · exact hab j hj h1
          · have ej : j = m := by omega
            rw [ej, hM]
            omega
        rw [e] at hπ
        cases hπ
      have e2 : (m : Int) - 1 = ((m - 1 : Nat) : Int) := by omega
      have e3 : l - (m - 1) * c = M + c := by
        have : m * c = (m - 1) * c + c := by
          rw [← Nat.succ_mul]
          congr 1
          omega
        omega
      refine k _ _ ⟨m - 1, y4, ?_, rfl, by omega, by omega, fun j h1 h2 => ?_⟩
      · rw [e2, e3]
        rfl
      · by_cases hj : m < j
        · exact hab j hj h2
        · have ej : j = m := by omega
          rw [ej, hM]
          omega
    refine ⟨_, rfl, _, rfl, .inl ⟨_, rfl, _, rfl, _, _, _, _, rfl, rfl, hp6, a0, _, _, rfl, rfl, (by omega), _, _, _, _, rfl, rfl, SqL.of h3', aL, _, rfl, ?_⟩⟩
    cases e2 : (leastTab (d0 :: dr) d0).getD (M % d0) none with
    | none =>
      have hz : ¬ 0 < cnt (d0 :: dr) M := fun z => by
        have := (hpd1 M lmt).mpr z
        rw [isPaid_none e2] at this
        cases this
      refine iteT (iteT ⟨fun σ H' => ∃ o y4, σ = [some (.ref a), some (vN t), some (.ref p), some (vN (l - o * c)), y4, some (vN c), some (.ref p2), some (.ref p3), some (vN o)] ∧ H6 = H' ∧ o < m ∧ o ≤ l / c ∧ ∀ j, o < j → j ≤ l / c → cnt (d0 :: dr) (l - j * c) = 0, ?_, ?_⟩)
      · rintro σ H' ⟨o, y4, rfl, rfl, hlm, hl, h5⟩
        exact ⟨o, hlm, o, y4, rfl, rfl, rfl, hl, h5⟩
      · refine ⟨_, rfl, _, _, rfl, rfl, _, rfl, _, rfl, _, _, rfl, rfl, _, _, rfl, ?_⟩
        exact go _ hz fun _ _ z => z
    | some v =>
      rw [e2] at aL
      refine iteF ⟨_, rfl, _, rfl, .inl ⟨_, rfl, _, rfl, _, _, _, _, rfl, rfl, hp6, a0, _, _, rfl, rfl, (by omega), _, _, _, _, rfl, rfl, SqL.of h3', aL, _, rfl, _, _, rfl, rfl, _, rfl, ?_⟩⟩
      have e3 := isPaid_some e2
      by_cases hv : v ≤ M
      · rw [decide_eq_false (show ¬ (M : Int) < (v : Int) by omega)]
        have hpos : 0 < cnt (d0 :: dr) M := (hpd1 M lmt).mp (by rw [e3]; exact decide_eq_true hv)
        have e4 := last_at hab ho (by rw [hM]; exact hpos)
        rw [hπ, hM] at e4
        obtain ⟨r, hr, hd2⟩ : ∃ r, (pays (d0 :: dr) M).getLast? = some r ∧ ps.drop i = m :: r := by
          cases e5 : (pays (d0 :: dr) M).getLast? with
          | none =>
            rw [e5] at e4
            cases e4
          | some r =>
            rw [e5] at e4
            exact ⟨r, rfl, Option.some.inj e4⟩
        have hil3 : i < ps.length := by omega
        have hd3 : ps.drop i = ps[i] :: ps.drop (i + 1) := List.drop_eq_getElem_cons hil3
        rw [hd3] at hd2
        injection hd2 with e1 e2
        have hp5' : H6 p = some (.lst ((ps.take i).map vN)) := s26 _ _ h2
        refine iteF ⟨_, rfl, .inl ⟨rfl, _, SqL.of hp5'⟩, _, rfl, p, _, _, rfl, rfl, hp5', szl _ (by rw [List.length_map, List.length_take]; omega), ?_⟩
        refine ⟨M, _, _, _, _, _, rfl, (s3.trans s26).mut np, SqT.put hp5' (s26.seqT hp2), ?_, lmt, ?_⟩
        · rw [upd_same, List.take_add_one, List.getElem?_eq_getElem hil3, e1, List.map_append]
          rfl
        · rw [e2]
          exact hr
      · rw [decide_eq_true (show (M : Int) < (v : Int) by omega)]
        have hz : ¬ 0 < cnt (d0 :: dr) M := fun z => by
          have := (hpd1 M lmt).mpr z
          rw [e3] at this
          exact hv (of_decide_eq_true this)
        refine iteT ⟨fun σ H' => ∃ o y4, σ = [some (.ref a), some (vN t), some (.ref p), some (vN (l - o * c)), y4, some (vN c), some (.ref p2), some (.ref p3), some (vN o)] ∧ H6 = H' ∧ o < m ∧ o ≤ l / c ∧ ∀ j, o < j → j ≤ l / c → cnt (d0 :: dr) (l - j * c) = 0, ?_, ?_⟩
        · rintro σ H' ⟨o, y4, rfl, rfl, hlm, hl, h5⟩
          exact ⟨o, hlm, o, y4, rfl, rfl, rfl, hl, h5⟩
        · refine ⟨_, rfl, _, _, rfl, rfl, _, rfl, _, rfl, _, _, rfl, rfl, _, _, rfl, ?_⟩
          exact go _ hz fun _ _ z => z
  · rintro σ H2 ⟨l, _, _, _, _, _, rfl, s3, hp2, h2, hl, hπ⟩
    rw [List.length_map, hl1] at h2 hπ
    obtain ⟨c, hcl⟩ : ∃ c, cs.getLast? = some c := by
      cases e : cs.getLast? with
      | none => exact absurd (List.getLast?_eq_none_iff.mp e) hC.ne
      | some c => exact ⟨c, rfl⟩
    obtain ⟨hc1, hc2⟩ := hc c (List.mem_of_getLast? hcl)
    have hd1 : cs.drop (cs.length - 1) = [c] := by
      rw [List.getLast?_eq_getElem?] at hcl
      obtain ⟨h1, h2⟩ := List.getElem?_eq_some_iff.mp hcl
      rw [List.drop_eq_getElem_cons h1, h2, List.drop_of_length_le (by omega)]
    rw [hd1] at hπ
    have ep := pays_one hc1 (List.mem_of_getLast? hπ)
    refine ⟨_, rfl, p, _, rfl, .inr (SqL.of h2), _, rfl, _, rfl, _, rfl, _, _, _, _, rfl, rfl, s3.seqT hq, at_last hcl, _, _, rfl, rfl, ⟨by omega, by omega⟩, sz _ ?_, fun T nT => ?_⟩
    · rw [List.length_append, List.length_map, List.length_take]
      show min (cs.length - 1) ps.length + 1 ≤ _
      omega
    · refine q _ _ (s3.new nT) ⟨T, rfl, SqT.of ?_⟩
      rw [upd_same]
      have e5 : ps = ps.take (cs.length - 1) ++ [l / c] := by
        rw [← ep, List.take_append_drop]
      rw [e5, List.map_append, ← e5]
      rfl
end
end Cn
/-! The count for great sums. -/
namespace Cn
open PySem PySem.Spec PyProof.Rows L2 RZ StX Mp
theorem rgC_up {i j c : Nat} (hc : 0 < c) (hi : i ≤ 100000) (hj : j ≤ 100000) (hc2 : c ≤ 100000) : RgC (i : Int) (j : Int) (c : Int) (rgN i j c) := by
  have e : Builtin.Range.rangeSize (i : Int) (j : Int) (c : Int) = ((rgN i j c : Nat) : Int) := by
    unfold Builtin.Range.rangeSize rgN
    rw [if_pos (show (c : Int) > 0 by omega)]
    by_cases h : i < j
    · rw [if_pos (show (i : Int) < (j : Int) by omega), if_pos h, show (j : Int) - (i : Int) - 1 = ((j - i - 1 : Nat) : Int) by omega]
      rfl
    · rw [if_neg (show ¬ (i : Int) < (j : Int) by omega), if_neg h]
      rfl
  have hn : rgN i j c ≤ 100001 := by
    unfold rgN
    split
    · have := Nat.div_le_self (j - i - 1) c
      omega
    · omega
  refine ⟨by omega, by omega, ?_, e⟩
  unfold Builtin.Range.small
  rw [e]
  simp only [Builtin.Range.rangeFitsLong, Bool.and_eq_true, Bool.or_eq_true, decide_eq_true_eq, beq_iff_eq, if_pos (show (c : Int) > 0 by omega)]
  omega
section
variable {P : Program} {w : World} {K : PySem.W.Frag} {mg : Str → Option Value} {base : Heap} {C : Addr}
abbrev sPeriodOf : Stmt := topS 54
theorem scPeriodOf : FnScope ["coins", "found", "coin"] ["coins"] (defScope sPeriodOf) := ⟨rfl, rfl, rfl, by decide +kernel, rfl, by decide +kernel, by decide +kernel⟩
def spPeriodOf (K : PySem.W.Frag) : Sp := fun vs H Q _ => ∃ (a : Addr) (cs : List Nat), vs = [.ref a] ∧ SqT K H a (cs.map vN) ∧ (∀ c ∈ cs, 0 < c ∧ c ≤ 12) ∧ cs.length ≤ 4 ∧ ∀ H', Same H H' → 0 < lcmF cs → lcmF cs ≤ 20736 → Q (vN (lcmF cs)) H'
theorem ok_period_of (B : Bl mg) (d_common_multiple : DefOk P w K mg base "common_multiple" 2 ["one", "other"] spLcm) (A : At K mg "period_of" sPeriodOf) : DefOk P w K mg base "period_of" 3 ["coins"] (spPeriodOf K) := by
  refine mkDef A scPeriodOf (fun _ _ _ _ _ _ us hl => match us, hl with | [_], _ => rfl) (by rintro _ _ _ _ ⟨_, _, rfl, _⟩; rfl) fun f cdv A outer s H vs Q E hr h => ?_
  obtain ⟨a, cs, rfl, hq, hc, h4, q⟩ := h
  refine ⟨_, pss_cons (ps_set (i := 1) scPeriodOf.nd rfl (Or.inl rfl) (pe_int))
      (pss_cons (ps_for PassesOwn.never rfl (pi_tup (pv 0)) (pg_name (i := 2) scPeriodOf.nd rfl (Or.inl rfl))
        (pss_one (ps_set (i := 1) scPeriodOf.nd rfl (Or.inl rfl) (pe_callD d_common_multiple hr rfl (pa_cons (pv 1) (pa_cons (pv 2) pa_nil))))))
      (pss_one (ps_ret (pv 1)))), ?_⟩
  refine ⟨_, rfl, a, rfl, ⟨_, hq⟩, for_tup (fun i σ H' => ∃ g y, σ = [some (.ref a), some (vN g), y] ∧ Same H H' ∧ g = (cs.take i).foldl (fun f c => f / Nat.gcd f c * c) 1 ∧ 0 < g ∧ g ≤ 12 ^ i)
    ⟨1, _, rfl, Same.refl H, rfl, by decide, by decide⟩ (fun i σ H' _ ⟨_, _, _, s1, _⟩ => s1.seqT hq) ?_ ?_⟩
  · rintro i x σ H1 hx ⟨g, _, rfl, s1, hg, g0, g1⟩
    obtain ⟨c, hci, rfl⟩ := get_of_map hx
    obtain ⟨hc1, hc2⟩ := hc c (List.mem_of_getElem? hci)
    have hi : i < 4 := by
      have := (List.getElem?_eq_some_iff.mp hci).1
      omega
    have g2 : g ≤ 20736 := Nat.le_trans g1 (Nat.le_trans (Nat.pow_le_pow_right (by decide) (show i ≤ 4 by omega)) (by decide))
    have st := lcm_step g0 hc1
    refine ⟨_, rfl, _, rfl, g, c, rfl, hc1, by omega, by omega, ?_⟩
    refine ⟨_, _, rfl, s1, ?_, st.1, ?_⟩
    · rw [foldl_take _ _ hci, ← hg]
    · rw [Nat.pow_succ]
      exact Nat.le_trans st.2 (Nat.le_trans (lcm_le12 hc2) (Nat.mul_le_mul_right 12 g1))
  · rintro σ H1 ⟨g, _, rfl, s1, hg, g0, g1⟩
    rw [List.length_map, List.take_length] at hg
    rw [List.length_map] at g1
    have g2 : g ≤ 20736 := Nat.le_trans g1 (Nat.le_trans (Nat.pow_le_pow_right (by decide) h4) (by decide))
    subst hg
    exact ⟨_, rfl, q H1 s1 g0 g2⟩
abbrev sChosen : Stmt := topS 55
theorem scChosen : FnScope ["many", "some", "found", "turn"] ["many", "some"] (defScope sChosen) := ⟨rfl, rfl, rfl, by decide +kernel, rfl, by decide +kernel, by decide +kernel⟩
def spChosen : Sp := fun vs H Q _ => ∃ (m s : Nat), vs = [vN m, vN s] ∧ s ≤ m ∧ m ≤ 1000 ∧ Q (vN (chN m s)) H
theorem ok_chosen (B : Bl mg) (A : At K mg "chosen" sChosen) : DefOk P w K mg base "chosen" 1 ["many", "some"] spChosen := by
  refine mkDef A scChosen (fun _ _ _ _ _ _ us hl => match us, hl with | [_, _], _ => rfl) (by rintro _ _ _ _ ⟨_, _, rfl, _⟩; rfl) fun f cdv A outer s H vs Q E hr h => ?_
  obtain ⟨m, k, rfl, hk, hm, q⟩ := h
  refine ⟨_, pss_cons (ps_set (i := 2) scChosen.nd rfl (Or.inl rfl) (pe_int))
      (pss_cons (ps_for PassesOwn.never rfl (pi_range1 rfl B.z_range (pa_cons (pv 1) pa_nil)) (pg_name (i := 3) scChosen.nd rfl (Or.inl rfl))
        (pss_one (ps_set (i := 2) scChosen.nd rfl (Or.inl rfl) (pe_op op_fdiv (pe_op op_mul (pv 2) (pe_op op_sub (pv 0) (pv 3))) (pe_op op_add (pv 3) (pe_int))))))
      (pss_one (ps_ret (pv 2)))), ?_⟩
  refine ⟨_, rfl, _, rfl, (by omega), (by omega), for_r0 k (Int.toNat_natCast k) (fun i σ H' => ∃ y, σ = [some (vN m), some (vN k), some (vN ((List.range i).foldl (fun f t => f * (m - t) / (t + 1)) 1)), y] ∧ H = H') ⟨_, rfl, rfl⟩ ?_ ?_⟩
  · rintro i σ H' hi ⟨_, rfl, rfl⟩
    have e : (m : Int) - (i : Int) = ((m - i : Nat) : Int) := by omega
    refine ⟨_, rfl, _, rfl, _, rfl, _, _, rfl, rfl, _, _, rfl, rfl, .inr ⟨by omega, by omega⟩, _, rfl, _, _, rfl, rfl, _, _, rfl, rfl, ⟨by omega, by omega⟩, ?_⟩
    refine ⟨some (vN i), ?_, rfl⟩
    rw [chN_succ]
    show [_, _, some (V.int (((((List.range i).foldl (fun f t => f * (m - t) / (t + 1)) 1 : Nat) : Int) * ((m : Int) - (i : Int))) / ((i : Int) + 1))), _] = _
    rw [e]
    rfl
  · rintro σ H' ⟨_, rfl, rfl⟩
    exact ⟨_, rfl, q⟩
abbrev sShortCounts : Stmt := topS 56
theorem scShortCounts : FnScope ["coins", "period", "found", "coin", "longer", "table", "total", "many", "fewer"] ["coins", "period"] (defScope sShortCounts) := ⟨rfl, rfl, rfl, by decide +kernel, rfl, by decide +kernel, by decide +kernel⟩
def spShort (K : PySem.W.Frag) : Sp := fun vs H Q _ => ∃ (a : Addr) (cs : List Nat) (p : Nat), vs = [.ref a, vN p] ∧ SqT K H a (cs.map vN) ∧ (∀ c ∈ cs, 0 < c ∧ c ≤ 12) ∧ (∀ c ∈ cs, c ≤ p) ∧ cs.length ≤ 4 ∧ p ≤ 20736 ∧
  ∀ H' l, Same H H' → H l = none → H' l = some (.lst ((shortN cs p).map V.int)) → Q (.ref l) H'
theorem ok_short_counts (B : Bl mg) (A : At K mg "short_counts" sShortCounts) : DefOk P w K mg base "short_counts" 1 ["coins", "period"] (spShort K) := by
  refine mkDef A scShortCounts (fun _ _ _ _ _ _ us hl => match us, hl with | [_, _], _ => rfl) (by rintro _ _ _ _ ⟨_, _, _, rfl, _⟩; rfl) fun f cdv A outer s H vs Q E hr h => ?_
  obtain ⟨a, cs, P0, rfl, hq, hc, hcp, h4, hp, q⟩ := h
  refine ⟨_, pss_cons (ps_set (i := 2) scShortCounts.nd rfl (Or.inl rfl) (pe_lst (pa_cons (pe_int) pa_nil)))
      (pss_cons (ps_for PassesOwn.never rfl (pi_tup (pv 0)) (pg_name (i := 3) scShortCounts.nd rfl (Or.inl rfl))
        (pss_cons (ps_par (i := 4) (j := 5) (by rfl) scShortCounts.nd rfl rfl (by decide) rfl rfl (pa_cons (pe_op op_cat (pv 2) (pe_op op_rep (pe_lst (pa_cons (pe_int) pa_nil)) (pe_op op_sub (pv 1) (pv 3)))) (pa_cons (pe_lst pa_nil) pa_nil)) (by rfl))
          (pss_cons (ps_for PassesOwn.never rfl (pi_enum (by rfl) B.z_enumerate (pa_cons (pv 4) pa_nil)) (pg_tup rfl (pgs_cons (pg_name (i := 6) scShortCounts.nd rfl (Or.inl rfl)) (pgs_cons (pg_name (i := 7) scShortCounts.nd rfl (Or.inl rfl)) pgs_nil)))
            (pss_cons (ps_set (i := 8) scShortCounts.nd rfl (Or.inl rfl) (pe_ifExp (pt_cmpR op_ge (pv 6) (pv 3) (nomark _)) (pe_ix ix_list (pv 5) (pe_op op_sub (pv 6) (pv 3)) (fun _ _ => rfl)) (pe_int)))
              (pss_one (ps_expr (pe_bm PySem.F.plainAttrs_list PySem.F.slot_list_append PySem.F.type_list_append mt_append (pv 5) (pa_cons (pe_op op_sub (pe_op op_add (pv 7) (pv 8)) (pe_ifExp (pt_cmpR op_ge (pv 6) (pv 1) (nomark _)) (pe_ix ix_list (pv 4) (pe_op op_sub (pv 6) (pv 1)) (fun _ _ => rfl)) (pe_int))) pa_nil))))))
          (pss_one (ps_set (i := 2) scShortCounts.nd rfl (Or.inl rfl) (pv 5))))))
      (pss_one (ps_ret (pv 2)))), ?_⟩
  refine ⟨sz _ (by decide), fun l0 n0 => ?_⟩
  have s0 : Same H (upd H l0 (.lst [V.int 1])) := same_upd n0
  refine ⟨_, rfl, a, rfl, ⟨_, s0.seqT hq⟩, for_tup (fun i σ H' => ∃ l y3 y4 y5 y6 y7 y8, σ = [some (.ref a), some (vN P0), some (.ref l), y3, y4, y5, y6, y7, y8] ∧ Same H H' ∧ H l = none ∧
      H' l = some (.lst (((cs.take i).foldl (fun f c => stepS c P0 f) [1]).map V.int)))
    ⟨l0, _, _, _, _, _, _, rfl, s0, n0, upd_same⟩ (fun i σ H' _ ⟨_, _, _, _, _, _, _, _, s1, _⟩ => s1.seqT hq) ?_ ?_⟩
  · rintro i x σ H1 hx ⟨l, _, _, _, _, _, _, rfl, s1, nl, h1⟩
    obtain ⟨c, hci, rfl⟩ := get_of_map hx
    obtain ⟨hc1, hc2⟩ := hc c (List.mem_of_getElem? hci)
    have hcp1 := hcp c (List.mem_of_getElem? hci)
    have hi : i < cs.length := (List.getElem?_eq_some_iff.mp hci).1
    have hlen := shortN_len P0 (cs.take i) [1]
    generalize hg : (cs.take i).foldl (fun f c => stepS c P0 f) [1] = g at h1 hlen
    have hgl : g.length ≤ 1 + 4 * 20736 := by
      rw [List.length_take] at hlen
      have : min i cs.length * P0 ≤ 4 * 20736 := Nat.mul_le_mul (by omega) hp
      have : ([1] : List Int).length = 1 := rfl
      omega
    -- longer, table = (found + [0] * (period - coin), [])
    have e1 : (P0 : Int) - (c : Int) = ((P0 - c : Nat) : Int) := by omega
    refine ⟨_, rfl, sz _ (by decide), fun l1 n1 => ⟨_, rfl, _, rfl, _, _, rfl, rfl, _, _, _, rfl, rfl, upd_same, by omega, by omega, sz _ ?_, fun l2 n2 => ?_⟩⟩
    · show 1 * ((P0 : Int) - (c : Int)).toNat ≤ _
      omega
    have t1 : Same H1 (upd H1 l1 (.lst [V.int 0])) := same_upd n1
    have t2 := t1.trans (same_upd n2 (o := .lst (List.replicate ((P0 : Int) - (c : Int)).toNat [V.int 0]).flatten))
    have ek : (List.replicate ((P0 : Int) - (c : Int)).toNat [V.int 0]).flatten = (List.replicate (P0 - c) (0 : Int)).map V.int := by
      rw [e1, Int.toNat_natCast, rep1, List.map_replicate]
    refine ⟨_, _, _, _, rfl, rfl, t2 _ _ h1, upd_same, sz _ (by rw [ek, List.length_map, List.length_map, List.length_replicate]; omega), fun l3 n3 => ⟨sz 0 (by decide), fun l4 n4 => ⟨_, _, rfl, ?_⟩⟩⟩
    have t3 := t2.trans (same_upd n3 (o := .lst (g.map V.int ++ (List.replicate ((P0 : Int) - (c : Int)).toNat [V.int 0]).flatten)))
    have t4 := t3.trans (same_upd n4 (o := .lst []))
    have hL : (upd (upd (upd (upd H1 l1 (.lst [V.int 0])) l2 (.lst (List.replicate ((P0 : Int) - (c : Int)).toNat [V.int 0]).flatten)) l3 (.lst (g.map V.int ++ (List.replicate ((P0 : Int) - (c : Int)).toNat [V.int 0]).flatten))) l4 (.lst [])) l3 =
        some (.lst ((g ++ List.replicate (P0 - c) (0 : Int)).map V.int)) := by
      rw [(same_upd n4) l3 _ upd_same, ek, List.map_append]
    have n43 : l4 ≠ l3 := fun z => by
      rw [z, upd_same] at n4
      cases n4
    have nH4 : H1 l4 = none := t3.free n4
    generalize hH4 : (upd (upd (upd (upd H1 l1 (.lst [V.int 0])) l2 (.lst (List.replicate ((P0 : Int) - (c : Int)).toNat [V.int 0]).flatten)) l3 (.lst (g.map V.int ++ (List.replicate ((P0 : Int) - (c : Int)).toNat [V.int 0]).flatten))) l4 (.lst [])) = H4 at t4 hL
    have h4' : H4 l4 = some (.lst []) := by rw [← hH4, upd_same]
    clear hH4
    generalize hLe : g ++ List.replicate (P0 - c) (0 : Int) = L at hL
    have lL : L.length = g.length + (P0 - c) := by rw [← hLe, List.length_append, List.length_replicate]
    have lb : L.length ≤ 1 + 5 * 20736 := by omega
    have atL : ∀ (z : Int) (j : Nat), z = (j : Int) → j < L.length → atI (L.map V.int) z = some (V.int (L.getD j 0)) := fun z j e hj => at_of e (by
      rw [List.getElem?_map, List.getElem?_eq_getElem hj, List.getD_eq_getElem?_getD, List.getElem?_eq_getElem hj]
      rfl)
    -- for total, many in enumerate(longer)
    refine ⟨_, rfl, l3, _, rfl, SqL.of hL, for_pair walk_enum (fun j σ H' => ∃ y6 y7 y8, σ = [some (.ref a), some (vN P0), some (.ref l), some (vN c), some (.ref l3), some (.ref l4), y6, y7, y8] ∧ Same H1 H' ∧
        H' l3 = some (.lst (L.map V.int)) ∧ H' l4 = some (.lst ((stT c P0 L j).map V.int)))
      ⟨_, _, _, rfl, t4, hL, h4'⟩ (fun j σ H' _ ⟨_, _, _, _, _, h, _⟩ => SqL.of h) ?_ ?_⟩
    · rintro j x y T σ H5 hj ⟨_, _, _, rfl, t5, hL5, h5⟩ nT hx hy
      rw [List.length_map] at hj
      have ex : x = vN j := (Option.some.inj hx).symm
      subst ex
      have ey : y = V.int (L.getD j 0) := by
        rw [List.getElem?_map, List.getElem?_eq_getElem hj] at hy
        rw [List.getD_eq_getElem?_getD, List.getElem?_eq_getElem hj]
        exact (Option.some.inj hy).symm
      subst ey
      have t6 : Same H1 (upd H5 T (.tup [vN j, V.int (L.getD j 0)])) := t5.new nT
      have t56 : Same H5 (upd H5 T (.tup [vN j, V.int (L.getD j 0)])) := same_upd nT
      generalize upd H5 T (.tup [vN j, V.int (L.getD j 0)]) = H6 at t6 t56
      have hL6 := t56 _ _ hL5
      have h6 := t56 _ _ h5
      have lT := stT_len c P0 L j
      generalize hTe : stT c P0 L j = T' at h6 lT
      -- many + fewer - (longer[total - period] if total >= period else 0)
      have more : ∀ F : Int, F = (if c ≤ j then T'.getD (j - c) 0 else 0) → ∀ Qc : VK, Qc (V.int (stEl c P0 L T' j)) H6 →
          (tOp (rI0 fun i j => V.int (i - j)) (tOp (rI0 fun i j => V.int (i + j)) (tVar 7) (tVar 8)) (tIf (tTest (tOp (rI0 fun i j => V.bl (decide (j ≤ i))) (tVar 6) (tVar 1))) (tOp (rIxL K) (tVar 4) (tOp (rI0 fun i j => V.int (i - j)) (tVar 6) (tVar 1))) (tC (V.int 0))))
            [some (.ref a), some (vN P0), some (.ref l), some (vN c), some (.ref l3), some (.ref l4), some (vN j), some (V.int (L.getD j 0)), some (V.int F)] H6 Qc := by
        intro F hF Qc k
        refine ⟨_, rfl, _, rfl, _, _, rfl, rfl, _, rfl, _, rfl, _, _, rfl, rfl, _, rfl, ?_⟩
        unfold stEl at k
        rw [← hF] at k
        by_cases hpj : P0 ≤ j
        · rw [if_pos hpj] at k
          rw [decide_eq_true (show (P0 : Int) ≤ (j : Int) by omega)]
          refine iteT ⟨_, rfl, _, rfl, _, rfl, _, _, rfl, rfl, _, _, _, _, rfl, rfl, SqL.of hL6, atL _ (j - P0) (by omega) (by omega), _, _, rfl, rfl, k⟩
        · rw [if_neg hpj] at k
          rw [decide_eq_false (show ¬ (P0 : Int) ≤ (j : Int) by omega)]
          exact iteF ⟨_, _, rfl, rfl, k⟩
      have n34 : l3 ≠ l4 := Ne.symm n43
      have close : ∀ v : Int, v = stEl c P0 L T' j → ∃ y6 y7 y8, [some (.ref a), some (vN P0), some (.ref l), some (vN c), some (.ref l3), some (.ref l4), some (vN j), some (V.int (L.getD j 0)), some (V.int v)] = [some (.ref a), some (vN P0), some (.ref l), some (vN c), some (.ref l3), some (.ref l4), y6, y7, y8] ∧ Same H1 (upd H6 l4 (.lst (T'.map V.int ++ [V.int (stEl c P0 L T' j)]))) ∧
          (upd H6 l4 (.lst (T'.map V.int ++ [V.int (stEl c P0 L T' j)]))) l3 = some (.lst (L.map V.int)) ∧ (upd H6 l4 (.lst (T'.map V.int ++ [V.int (stEl c P0 L T' j)]))) l4 = some (.lst ((stT c P0 L (j + 1)).map V.int)) := by
        intro v _
        refine ⟨_, _, _, rfl, t6.mut nH4, by rw [upd_ne n34]; exact hL6, ?_⟩
        rw [upd_same]
        show _ = some (HO.lst ((stT c P0 L j ++ [stEl c P0 L (stT c P0 L j) j]).map V.int))
        rw [hTe, List.map_append]
        rfl
      refine ⟨_, rfl, _, rfl, _, _, rfl, rfl, _, rfl, ?_⟩
      by_cases hcj : c ≤ j
      · rw [decide_eq_true (show (c : Int) ≤ (j : Int) by omega)]
        have aT : atI (T'.map V.int) ((j : Int) - (c : Int)) = some (V.int (T'.getD (j - c) 0)) := at_of (j := j - c) (by omega) (by
          rw [List.getElem?_map, List.getD_eq_getElem?_getD, List.getElem?_eq_getElem (show j - c < T'.length by omega)]
          rfl)
        refine iteT ⟨_, rfl, _, rfl, _, rfl, _, _, rfl, rfl, _, _, _, _, rfl, rfl, SqL.of h6, aT, ?_⟩
        refine ⟨_, rfl, .inl ⟨rfl, _, SqL.of h6⟩, more (T'.getD (j - c) 0) (if_pos hcj).symm _ ⟨l4, _, _, rfl, rfl, h6, szl _ (by rw [List.length_map]; omega), ?_⟩⟩
        obtain ⟨y6, y7, y8, _, z2, z3, z4⟩ := close _ rfl
        exact ⟨_, _, _, rfl, z2, z3, z4⟩
      · rw [decide_eq_false (show ¬ (c : Int) ≤ (j : Int) by omega)]
        refine iteF ⟨_, rfl, .inl ⟨rfl, _, SqL.of h6⟩, more 0 (if_neg hcj).symm _ ⟨l4, _, _, rfl, rfl, h6, szl _ (by rw [List.length_map]; omega), ?_⟩⟩
        obtain ⟨y6, y7, y8, _, z2, z3, z4⟩ := close _ rfl
        exact ⟨_, _, _, rfl, z2, z3, z4⟩
    · rintro σ H5 ⟨_, _, _, rfl, t5, hL5, h5⟩
      refine ⟨_, rfl, l4, _, _, _, _, _, _, rfl, s1.trans t5, s1.free nH4, ?_⟩
      rw [List.length_map] at h5
      rw [foldl_take _ _ hci, hg, h5]
      unfold stepS
      rw [hLe, lL]
  · rintro σ H1 ⟨l, _, _, _, _, _, _, rfl, s1, nl, h1⟩
    rw [List.length_map, List.take_length] at h1
    exact ⟨_, rfl, q H1 l s1 nl h1⟩
abbrev sGreatCountOf : Stmt := topS 57
theorem scGreatCountOf : FnScope ["coins", "amount", "period", "many", "short", "found", "whole", "rest", "turn", "total"] ["coins", "amount"] (defScope sGreatCountOf) := ⟨rfl, rfl, rfl, by decide +kernel, rfl, by decide +kernel, by decide +kernel⟩
def spGreatOf (K : PySem.W.Frag) : Sp := fun vs H Q _ => ∃ (a : Addr) (cs : List Nat) (t : Nat), vs = [.ref a, vN t] ∧ SqT K H a (cs.map vN) ∧ Coins cs ∧ (∀ c ∈ cs, c ≤ lcmF cs) ∧ t ≤ 400 ∧
  ∀ H', Same H H' → Q (V.int (greatN cs t)) H'
theorem chN_small : ∀ m < 405, ∀ k < 4, chN m k < 2 ^ 64 := by decide +kernel
theorem ok_great_count_of (B : Bl mg) (d_period_of : DefOk P w K mg base "period_of" 3 ["coins"] (spPeriodOf K)) (d_chosen : DefOk P w K mg base "chosen" 1 ["many", "some"] spChosen) (d_short_counts : DefOk P w K mg base "short_counts" 1 ["coins", "period"] (spShort K)) (A : At K mg "great_count_of" sGreatCountOf) : DefOk P w K mg base "great_count_of" 4 ["coins", "amount"] (spGreatOf K) := by
  refine mkDef A scGreatCountOf (fun _ _ _ _ _ _ us hl => match us, hl with | [_, _], _ => rfl) (by rintro _ _ _ _ ⟨_, _, _, rfl, _⟩; rfl) fun f cdv A outer s H vs Q E hr h => ?_
  obtain ⟨a, cs, t, rfl, hq, hC, hcl, ht, q⟩ := h
  have hl0 : 0 < cs.length := List.length_pos_iff.mpr hC.ne
  have hl4 := hC.few
  refine ⟨_, pss_cons (ps_par (i := 2) (j := 3) (by rfl) scGreatCountOf.nd rfl rfl (by decide) rfl rfl (pa_cons (pe_callD d_period_of hr rfl (pa_cons (pv 0) pa_nil)) (pa_cons (pe_callB call_len_seq (by rfl) B.z_len (by decide +kernel) (pa_cons (pv 0) pa_nil)) pa_nil)) (by rfl))
      (pss_cons (ps_par (i := 4) (j := 5) (by rfl) scGreatCountOf.nd rfl rfl (by decide) rfl rfl (pa_cons (pe_callD d_short_counts hr rfl (pa_cons (pv 0) (pa_cons (pv 2) pa_nil))) (pa_cons (pe_int) pa_nil)) (by rfl))
      (pss_cons (ps_asg (pe_callB call_divmod (by rfl) B.z_divmod (by decide +kernel) (pa_cons (pe_callTy call_int1 (by rfl) B.z_int (by decide +kernel) (pa_cons (pv 1) pa_nil)) (pa_cons (pv 2) pa_nil))) (pg_tup rfl (pgs_cons (pg_name (i := 6) scGreatCountOf.nd rfl (Or.inl rfl)) (pgs_cons (pg_name (i := 7) scGreatCountOf.nd rfl (Or.inl rfl)) pgs_nil))))
      (pss_cons (ps_for PassesOwn.never rfl (pi_enumR (by rfl) B.z_enumerate (pa_cons (pe_callTy cr_range3 (by rfl) B.z_range (by decide +kernel) (pa_cons (pv 7) (pa_cons (pe_callB call_len_seq (by rfl) B.z_len (by decide +kernel) (pa_cons (pv 4) pa_nil)) (pa_cons (pv 2) pa_nil)))) pa_nil)) (pg_tup rfl (pgs_cons (pg_name (i := 8) scGreatCountOf.nd rfl (Or.inl rfl)) (pgs_cons (pg_name (i := 9) scGreatCountOf.nd rfl (Or.inl rfl)) pgs_nil)))
        (pss_one (ps_if (pt_cmpR op_le (pv 8) (pv 6) (nomark _))
            (pss_one (ps_set (i := 5) scGreatCountOf.nd rfl (Or.inl rfl) (pe_op op_add (pv 5) (pe_op op_mul (pe_ix ix_list (pv 4) (pv 9) (fun _ _ => rfl)) (pe_callD d_chosen hr rfl (pa_cons (pe_op op_sub (pe_op op_add (pe_op op_sub (pv 6) (pv 8)) (pv 3)) (pe_int)) (pa_cons (pe_op op_sub (pv 3) (pe_int)) pa_nil)))))))
            (pss_nil))))
      (pss_one (ps_ret (pv 5)))))), ?_⟩
  refine ⟨_, rfl, a, cs, rfl, hq, hC.pos, hC.few, fun H1 s1 g0 g1 => ⟨_, rfl, a, _, rfl, .inr (s1.seqT hq), _, _, rfl, ?_⟩⟩
  have eg : greatN cs t = greatTo (shortN cs (lcmF cs)) (lcmF cs) cs.length t (rgN (t % lcmF cs) (shortN cs (lcmF cs)).length (lcmF cs)) := rfl
  rw [eg] at q
  generalize lcmF cs = P0 at g0 g1 hcl q
  have tp : t / P0 ≤ t := Nat.div_le_self _ _
  have tm : t % P0 < P0 := Nat.mod_lt _ g0
  have hlen := shortN_len P0 cs [1]
  refine ⟨_, rfl, _, rfl, a, cs, P0, rfl, s1.seqT hq, hC.pos, hcl, hC.few, g1, fun H2 l s2 nl h2 => ⟨_, _, rfl, ?_⟩⟩
  have hS : (shortN cs P0).length ≤ 1 + 4 * 20736 := by
    have : cs.length * P0 ≤ 4 * 20736 := Nat.mul_le_mul hC.few g1
    have : ([1] : List Int).length = 1 := rfl
    have : (shortN cs P0).length ≤ ([1] : List Int).length + cs.length * P0 := hlen
    omega
  generalize shortN cs P0 = S at h2 hS q
  -- whole, rest = divmod(int(amount), period)
  refine ⟨_, rfl, .inl ⟨_, rfl, _, rfl, _, _, rfl, ⟨by omega, by omega⟩, fun p4 n4 => ⟨p4, _, rfl, SqT.of upd_same, rfl, _, _, rfl, _, _, rfl, rfl, ?_⟩⟩⟩
  have s3 : Same H2 (upd H2 p4 (.tup [.int ((t : Int) / (P0 : Int)), .int ((t : Int) % (P0 : Int))])) := same_upd n4
  generalize upd H2 p4 (.tup [.int ((t : Int) / (P0 : Int)), .int ((t : Int) % (P0 : Int))]) = H3 at s3
  -- for turn, total in enumerate(range(rest, len(short), period))
  refine ⟨_, rfl, _, rfl, l, _, rfl, .inl (SqL.of (s3 _ _ h2)), _, rfl, _, _, _, rfl, by omega, by omega, fun r nr => ?_⟩
  have s4 : Same H3 (upd H3 r (RgO r (((t % P0 : Nat) : Int)) (((S.map V.int).length : Nat) : Int) (P0 : Int))) := same_upd nr
  refine ⟨r, ((t % P0 : Nat) : Int), ((S.length : Nat) : Int), (P0 : Int), _, rfl, by rw [upd_same, List.length_map]; rfl, rgC_up g0 (by omega) (by omega) (by omega), ?_⟩
  refine for_pair walk_enumR (fun k σ H' => ∃ y8 y9, σ = [some (.ref a), some (vN t), some (vN P0), some (vN cs.length), some (.ref l), some (V.int (greatTo S P0 cs.length t k)), some (vN (t / P0)), some (vN (t % P0)), y8, y9] ∧ Same H3 H')
    ⟨_, _, (by rw [List.length_map]; rfl), s4⟩ (fun _ _ _ _ _ => trivial) ?_ ?_
  · rintro k x y T σ H5 hk ⟨_, _, rfl, s5⟩ nT hx hy
    have ex : x = vN k := (Option.some.inj hx).symm
    subst ex
    have ey : y = vN (t % P0 + k * P0) := (Option.some.inj hy).symm
    subst ey
    have s6 : Same H3 (upd H5 T (.tup [vN k, vN (t % P0 + k * P0)])) := s5.new nT
    generalize upd H5 T (.tup [vN k, vN (t % P0 + k * P0)]) = H6 at s6
    have lt := rgN_lt g0 hk
    refine ⟨_, rfl, _, rfl, _, _, rfl, rfl, _, rfl, ?_⟩
    have st := greatTo_succ S P0 cs.length t k
    by_cases hkw : k ≤ t / P0
    · rw [if_pos hkw] at st
      rw [decide_eq_true (show (k : Int) ≤ ((t / P0 : Nat) : Int) by omega)]
      have aS : atI (S.map V.int) (((t % P0 + k * P0 : Nat) : Int)) = some (V.int (S.getD (t % P0 + k * P0) 0)) := at_of rfl (by
        rw [List.getElem?_map, List.getD_eq_getElem?_getD, List.getElem?_eq_getElem lt]
        rfl)
      have e1 : ((t / P0 : Nat) : Int) - (k : Int) + (cs.length : Int) - 1 = ((t / P0 - k + cs.length - 1 : Nat) : Int) := by omega
      have e2 : (cs.length : Int) - 1 = ((cs.length - 1 : Nat) : Int) := by omega
      have ch := chN_small (t / P0 - k + cs.length - 1) (by omega) (cs.length - 1) (by omega)
      refine iteT ⟨_, rfl, _, rfl, _, rfl, _, _, _, _, rfl, rfl, SqL.of (s6 _ _ (s3 _ _ h2)), aS, _, rfl, _, rfl, _, _, rfl, rfl, _, rfl, _, _, rfl, rfl, _, _, rfl, rfl, _, rfl, _, _, rfl, rfl, t / P0 - k + cs.length - 1, cs.length - 1, ?_, by omega, by omega, ?_⟩
      · show [V.int (((t / P0 : Nat) : Int) - (k : Int) + (cs.length : Int) - 1), V.int ((cs.length : Int) - 1)] = _
        rw [e1, e2]
      · refine ⟨_, _, rfl, rfl, .inr ⟨by omega, by omega⟩, _, _, rfl, rfl, ?_⟩
        exact ⟨_, _, by rw [st]; rfl, s6⟩
    · rw [if_neg hkw] at st
      rw [decide_eq_false (show ¬ (k : Int) ≤ ((t / P0 : Nat) : Int) by omega)]
      exact iteF ⟨_, _, by rw [st]; rfl, s6⟩
  · rintro σ H5 ⟨_, _, rfl, s5⟩
    exact ⟨_, rfl, q H5 (((s1.trans s2).trans s3).trans s5)⟩
end
end Cn
/-! What the package tells of payments. -/
namespace Cn
open PySem PySem.Spec PyProof.Rows L2 RZ StX Mp
/-- a tuple of tuples of numbers -/
def TupTT (K : PySem.W.Frag) (H : Hp) (v : V) (pss : List (List Nat)) : Prop := ∃ p xs, v = .ref p ∧ SqT K H p xs ∧ TupsN K H xs pss
theorem TupTT.mono {K : PySem.W.Frag} {H H' : Hp} {v : V} {pss : List (List Nat)} (s : Same H H') (h : TupTT K H v pss) : TupTT K H' v pss := by
  obtain ⟨p, xs, e, h1, h2⟩ := h
  exact ⟨p, xs, e, s.seqT h1, h2.mono s⟩
section
variable {P : Program} {w : World} {K : PySem.W.Frag} {mg : Str → Option Value} {base : Heap} {C : Addr}
abbrev sCountPayments : Stmt := topS 58
theorem scCountPayments : FnScope ["lot", "small"] ["lot", "small"] (defScope sCountPayments) := ⟨rfl, rfl, rfl, by decide +kernel, rfl, by decide +kernel, by decide +kernel⟩
def spCountPayments (K : PySem.W.Frag) (C : Addr) : Sp := fun vs H Q _ => ∃ (v : V) (cs : List Nat) (t : Nat), vs = [v, vN t] ∧ LotN K C H v cs ∧ Coins cs ∧ t ≤ 400 ∧ ∀ H', Same H H' → Q (vN (cnt cs t)) H'
theorem ok_count_payments (G : LotG P w K mg base C) (d_check_lot : DefOk P w K mg base "check_lot" 1 ["value"] (spCheckLot K C)) (d_check_small : DefOk P w K mg base "check_small" 3 ["value"] (spCheck 0 400)) (d_count_table : DefOk P w K mg base "count_table" 2 ["coins", "amount"] (spCountTable K)) (A : At K mg "count_payments" sCountPayments) : DefOk P w K mg base "count_payments" 4 ["lot", "small"] (spCountPayments K C) := by
  refine mkDef A scCountPayments (fun _ _ _ _ _ _ us hl => match us, hl with | [_, _], _ => rfl) (by rintro _ _ _ _ ⟨_, _, _, rfl, _⟩; rfl) fun f cdv A outer s H vs Q E hr h => ?_
  obtain ⟨v, cs, t, rfl, hL, hC, ht, q⟩ := h
  obtain ⟨a, dx, c, rfl, h1, h2⟩ := id hL
  refine ⟨_, pss_cons (ps_expr (pe_callD d_check_lot hr rfl (pa_cons (pv 0) pa_nil)))
      (pss_cons (ps_expr (pe_callD d_check_small hr rfl (pa_cons (pv 1) pa_nil)))
      (pss_one (ps_ret (pe_ix ix_list (pe_callD d_count_table hr rfl (pa_cons (pe_coins G hr (pv 0)) (pa_cons (pv 1) pa_nil))) (pv 1) (fun _ _ => rfl))))), ?_⟩
  refine ⟨_, rfl, _, cs, rfl, hL, _, rfl, _, rfl, by omega, by omega, ?_⟩
  refine ⟨_, rfl, a, dx, _, rfl, h1, _, rfl, c, cs, t, rfl, h2, hC.pos, ht, fun H1 p s1 n1 hp => ?_⟩
  exact ⟨_, rfl, _, _, _, _, rfl, rfl, SqL.of hp, tab_at (i := t) rfl (by omega), q H1 s1⟩
abbrev sPayments : Stmt := topS 59
theorem scPayments : FnScope ["lot", "small", "many"] ["lot", "small"] (defScope sPayments) := ⟨rfl, rfl, rfl, by decide +kernel, rfl, by decide +kernel, by decide +kernel⟩
def spPayments (K : PySem.W.Frag) (C : Addr) : Sp := fun vs H Q _ => ∃ (v : V) (cs : List Nat) (t : Nat), vs = [v, vN t] ∧ LotN K C H v cs ∧ Coins cs ∧ t ≤ 400 ∧ cnt cs t ≤ 400 ∧ ∀ H' u, Same H H' → TupTT K H' u (pays cs t) → Q u H'
theorem ok_payments (B : Bl mg) (G : LotG P w K mg base C) (d_count_payments : DefOk P w K mg base "count_payments" 4 ["lot", "small"] (spCountPayments K C)) (d_payment_list : DefOk P w K mg base "payment_list" 6 ["coins", "amount"] (spPaymentList K)) (A : At K mg "payments" sPayments) : DefOk P w K mg base "payments" 7 ["lot", "small"] (spPayments K C) := by
  refine mkDef A scPayments (fun _ _ _ _ _ _ us hl => match us, hl with | [_, _], _ => rfl) (by rintro _ _ _ _ ⟨_, _, _, rfl, _⟩; rfl) fun f cdv A outer s H vs Q E hr h => ?_
  obtain ⟨v, cs, t, rfl, hL, hC, ht, hm, q⟩ := h
  refine ⟨_, pss_cons (ps_set (i := 2) scPayments.nd rfl (Or.inl rfl) (pe_callD d_count_payments hr rfl (pa_cons (pv 0) (pa_cons (pv 1) pa_nil))))
      (pss_cons (ps_if (pt_cmpR op_gt (pv 2) (pe_gint rfl B.MOST_LISTED) (nomark _))
        (pss_one (ps_never))
        (pss_nil))
      (pss_one (ps_ret (pe_callTy cr_tupOf (by rfl) B.z_tuple (by decide +kernel) (pa_cons (pe_callD d_payment_list hr rfl (pa_cons (pe_coins G hr (pv 0)) (pa_cons (pv 1) pa_nil))) pa_nil))))), ?_⟩
  refine ⟨_, rfl, _, rfl, v, cs, t, rfl, hL, hC, ht, fun H1 s1 => ⟨_, rfl, _, _, rfl, rfl, _, rfl, ?_⟩⟩
  rw [decide_eq_false (show ¬ (400 : Int) < ((cnt cs t : Nat) : Int) by omega)]
  obtain ⟨a, dx, c, rfl, h1, h2⟩ := hL.mono s1
  refine iteF ⟨_, rfl, a, dx, _, rfl, h1, _, rfl, c, cs, t, rfl, h2, hC.pos, hC.few, ht, hm, fun H2 p xs s2 n2 hp hx => ?_⟩
  exact ⟨p, xs, rfl, .inl ⟨SqL.of hp, fun l nl => q _ _ ((s1.trans s2).new nl) ⟨l, xs, rfl, SqT.of upd_same, hx.mono (same_upd nl)⟩⟩⟩
abbrev sNthPayment : Stmt := topS 60
theorem scNthPayment : FnScope ["lot", "small", "index", "many"] ["lot", "small", "index"] (defScope sNthPayment) := ⟨rfl, rfl, rfl, by decide +kernel, rfl, by decide +kernel, by decide +kernel⟩
def spNth (K : PySem.W.Frag) (C : Addr) : Sp := fun vs H Q _ => ∃ (v : V) (cs : List Nat) (t i : Nat) (ps : List Nat), vs = [v, vN t, vN i] ∧ LotN K C H v cs ∧ Coins cs ∧ t ≤ 400 ∧ (pays cs t)[i]? = some ps ∧ ∀ H' u, Same H H' → TupN K H' u ps → Q u H'
theorem ok_nth_payment (G : LotG P w K mg base C) (d_count_payments : DefOk P w K mg base "count_payments" 4 ["lot", "small"] (spCountPayments K C)) (d_is_within_bounds : DefOk P w K mg base "is_within_bounds" 2 ["value", "least", "most"] spWithin) (d_payment_with : DefOk P w K mg base "payment_with" 3 ["coins", "amount", "place"] (spPaymentWith K)) (A : At K mg "nth_payment" sNthPayment) : DefOk P w K mg base "nth_payment" 5 ["lot", "small", "index"] (spNth K C) := by
  refine mkDef A scNthPayment (fun _ _ _ _ _ _ us hl => match us, hl with | [_, _, _], _ => rfl) (by rintro _ _ _ _ ⟨_, _, _, _, _, rfl, _⟩; rfl) fun f cdv A outer s H vs Q E hr h => ?_
  obtain ⟨v, cs, t, i, ps, rfl, hL, hC, ht, hi, q⟩ := h
  have hil : i < cnt cs t := (List.getElem?_eq_some_iff.mp hi).1
  refine ⟨_, pss_cons (ps_set (i := 3) scNthPayment.nd rfl (Or.inl rfl) (pe_callD d_count_payments hr rfl (pa_cons (pv 0) (pa_cons (pv 1) pa_nil))))
      (pss_cons (ps_if (pt_not (pt_val (pe_callD d_is_within_bounds hr rfl (pa_cons (pv 2) (pa_cons (pe_int) (pa_cons (pe_op op_sub (pv 3) (pe_int)) pa_nil))))))
        (pss_one (ps_never))
        (pss_nil))
      (pss_one (ps_ret (pe_callD d_payment_with hr rfl (pa_cons (pe_coins G hr (pv 0)) (pa_cons (pv 1) (pa_cons (pv 2) pa_nil))))))), ?_⟩
  refine ⟨_, rfl, _, rfl, v, cs, t, rfl, hL, hC, ht, fun H1 s1 => ?_⟩
  refine ⟨_, rfl, _, rfl, _, _, rfl, rfl, _, _, _, rfl, _, rfl, ?_⟩
  rw [decide_eq_true (show (0 : Int) ≤ (i : Int) ∧ (i : Int) ≤ ((cnt cs t : Nat) : Int) - 1 by omega)]
  obtain ⟨a, dx, c, rfl, h1, h2⟩ := hL.mono s1
  exact iteF ⟨_, rfl, a, dx, _, rfl, h1, _, rfl, _, rfl, c, cs, t, i, ps, rfl, h2, hC.pos, hC.few, ht, hi, fun H2 u s2 hu => q H2 u (s1.trans s2) hu⟩
abbrev sPlaceOf : Stmt := topS 61
theorem scPlaceOf : FnScope ["lot", "payment", "total"] ["lot", "payment"] (defScope sPlaceOf) := ⟨rfl, rfl, rfl, by decide +kernel, rfl, by decide +kernel, by decide +kernel⟩
def spPlaceOf (K : PySem.W.Frag) (C : Addr) : Sp := fun vs H Q _ => ∃ (v u : V) (cs ps : List Nat) (t i : Nat), vs = [v, u] ∧ LotN K C H v cs ∧ Coins cs ∧ TupN K H u ps ∧ t ≤ 400 ∧ (pays cs t)[i]? = some ps ∧ ∀ H', Same H H' → Q (vN i) H'
theorem nodup_at {α : Type} {l : List α} (h : l.Nodup) {i j : Nat} {x : α} (hi : l[i]? = some x) (hj : l[j]? = some x) : i = j := by
  obtain ⟨h1, h2⟩ := List.getElem?_eq_some_iff.mp hi
  obtain ⟨h3, h4⟩ := List.getElem?_eq_some_iff.mp hj
  have hp := List.pairwise_iff_getElem.mp h
  rcases Nat.lt_trichotomy i j with hlt | he | hlt
  · exact absurd (h2.trans h4.symm) (hp i j h1 h3 hlt)
  · exact he
  · exact absurd (h4.trans h2.symm) (hp j i h3 h1 hlt)
theorem ok_place_of (B : Bl mg) (G : LotG P w K mg base C) (d_check_lot : DefOk P w K mg base "check_lot" 1 ["value"] (spCheckLot K C)) (d_check_payment : DefOk P w K mg base "check_payment" 4 ["lot", "value"] (spCheckPayment K C)) (d_sum_of : DefOk P w K mg base "sum_of" 1 ["coins", "payment"] (spSumOf K)) (d_place_among : DefOk P w K mg base "place_among" 3 ["coins", "payment"] (spPlaceAmong K)) (A : At K mg "place_of" sPlaceOf) : DefOk P w K mg base "place_of" 5 ["lot", "payment"] (spPlaceOf K C) := by
  refine mkDef A scPlaceOf (fun _ _ _ _ _ _ us hl => match us, hl with | [_, _], _ => rfl) (by rintro _ _ _ _ ⟨_, _, _, _, _, _, rfl, _⟩; rfl) fun f cdv A outer s H vs Q E hr h => ?_
  obtain ⟨v, u, cs, ps, t, i, rfl, hL, hC, ⟨b, rfl, hb⟩, ht, hi, q⟩ := h
  obtain ⟨hl, hv⟩ := (mem_pays fun c h => (hC.pos c h).1).mp (List.mem_of_getElem? hi)
  refine ⟨_, pss_cons (ps_expr (pe_callD d_check_lot hr rfl (pa_cons (pv 0) pa_nil)))
      (pss_cons (ps_expr (pe_callD d_check_payment hr rfl (pa_cons (pv 0) (pa_cons (pv 1) pa_nil))))
      (pss_cons (ps_set (i := 2) scPlaceOf.nd rfl (Or.inl rfl) (pe_callD d_sum_of hr rfl (pa_cons (pe_coins G hr (pv 0)) (pa_cons (pv 1) pa_nil))))
      (pss_cons (ps_if (pt_cmpR op_gt (pv 2) (pe_gint rfl B.MOST_LISTED) (nomark _))
        (pss_one (ps_never))
        (pss_nil))
      (pss_one (ps_ret (pe_callD d_place_among hr rfl (pa_cons (pe_coins G hr (pv 0)) (pa_cons (pv 1) pa_nil)))))))), ?_⟩
  refine ⟨_, rfl, _, cs, rfl, hL, _, rfl, _, rfl, v, cs, b, ps, rfl, hL, hb, hl.symm, fun H1 s1 => ?_⟩
  obtain ⟨a, dx, c, rfl, h1, h2⟩ := hL.mono s1
  refine ⟨_, rfl, a, dx, _, rfl, h1, _, rfl, c, b, cs, ps, rfl, h2, s1.seqT hb, hC.pos, hl.symm, hC.few, fun H2 s2 => ⟨_, rfl, _, _, rfl, rfl, _, rfl, ?_⟩⟩
  rw [hv, decide_eq_false (show ¬ (400 : Int) < (t : Int) by omega)]
  refine iteF ⟨_, rfl, a, dx, _, rfl, s2 _ _ h1, _, rfl, c, b, cs, ps, rfl, s2.seqT h2, (s1.trans s2).seqT hb, hC.pos, hC.few, hl.symm, by omega, fun H3 j s3 hj => ?_⟩
  rw [hv] at hj
  rw [nodup_at (pays_nodup cs t) hj hi]
  exact q H3 ((s1.trans s2).trans s3)
abbrev sCheckPaid : Stmt := topS 62
theorem scCheckPaid : FnScope ["lot", "amount"] ["lot", "amount"] (defScope sCheckPaid) := ⟨rfl, rfl, rfl, by decide +kernel, rfl, by decide +kernel, by decide +kernel⟩
def spCheckPaid (K : PySem.W.Frag) (C : Addr) : Sp := fun vs H Q _ => ∃ (v : V) (cs : List Nat) (t : Nat), vs = [v, vN t] ∧ LotN K C H v cs ∧ Coins cs ∧ t ≤ 400 ∧ isPaid cs t = true ∧ ∀ H', Same H H' → Q .non H'
theorem ok_check_paid (G : LotG P w K mg base C) (d_check_lot : DefOk P w K mg base "check_lot" 1 ["value"] (spCheckLot K C)) (d_check_amount : DefOk P w K mg base "check_amount" 3 ["value"] (spCheck 0 (10 ^ 30))) (d_is_paid_by : DefOk P w K mg base "is_paid_by" 3 ["coins", "amount"] (spPaidBy K)) (A : At K mg "check_paid" sCheckPaid) : DefOk P w K mg base "check_paid" 4 ["lot", "amount"] (spCheckPaid K C) := by
  refine mkDef A scCheckPaid (fun _ _ _ _ _ _ us hl => match us, hl with | [_, _], _ => rfl) (by rintro _ _ _ _ ⟨_, _, _, rfl, _⟩; rfl) fun f cdv A outer s H vs Q E hr h => ?_
  obtain ⟨v, cs, t, rfl, hL, hC, ht, hp, q⟩ := h
  obtain ⟨a, dx, c, rfl, h1, h2⟩ := id hL
  refine ⟨_, pss_cons (ps_expr (pe_callD d_check_lot hr rfl (pa_cons (pv 0) pa_nil)))
      (pss_cons (ps_expr (pe_callD d_check_amount hr rfl (pa_cons (pv 1) pa_nil)))
      (pss_one (ps_if (pt_not (pt_val (pe_callD d_is_paid_by hr rfl (pa_cons (pe_coins G hr (pv 0)) (pa_cons (pv 1) pa_nil)))))
        (pss_one (ps_never))
        (pss_nil)))), ?_⟩
  refine ⟨_, rfl, _, cs, rfl, hL, _, rfl, _, rfl, by omega, by omega, _, rfl, a, dx, _, rfl, h1, _, rfl, c, cs, t, rfl, h2, hC, fun H1 s1 => ⟨_, rfl, ?_⟩⟩
  rw [hp]
  exact iteF (q H1 s1)
/-- the first one, the last one -/
def spEnd (K : PySem.W.Frag) (C : Addr) (pick : List (List Nat) → Option (List Nat)) : Sp := fun vs H Q _ => ∃ (v : V) (cs : List Nat) (t : Nat) (ps : List Nat), vs = [v, vN t] ∧ LotN K C H v cs ∧ Coins cs ∧ t ≤ 400 ∧ PaidOk cs t ∧ pick (pays cs t) = some ps ∧ ∀ H' u, Same H H' → TupN K H' u ps → Q u H'
theorem PaidOk.top {cs : List Nat} {t : Nat} (h : PaidOk cs t) (hC : Coins cs) (hp : pays cs t ≠ []) : isPaid cs t = true := by
  have := h 0 (List.length_pos_iff.mpr hC.ne) t (Nat.le_refl _)
  rw [List.drop_zero] at this
  exact this.mpr (cnt_pos_iff.mpr hp)
abbrev sFirstPayment : Stmt := topS 63
theorem scFirstPayment : FnScope ["lot", "amount"] ["lot", "amount"] (defScope sFirstPayment) := ⟨rfl, rfl, rfl, by decide +kernel, rfl, by decide +kernel, by decide +kernel⟩
theorem ok_first_payment (G : LotG P w K mg base C) (d_check_paid : DefOk P w K mg base "check_paid" 4 ["lot", "amount"] (spCheckPaid K C)) (d_first_of : DefOk P w K mg base "first_of" 3 ["coins", "amount"] (spFirstOf K)) (A : At K mg "first_payment" sFirstPayment) : DefOk P w K mg base "first_payment" 5 ["lot", "amount"] (spEnd K C (·[0]?)) := by
  refine mkDef A scFirstPayment (fun _ _ _ _ _ _ us hl => match us, hl with | [_, _], _ => rfl) (by rintro _ _ _ _ ⟨_, _, _, _, rfl, _⟩; rfl) fun f cdv A outer s H vs Q E hr h => ?_
  obtain ⟨v, cs, t, ps, rfl, hL, hC, ht, hp, hi, q⟩ := h
  refine ⟨_, pss_cons (ps_expr (pe_callD d_check_paid hr rfl (pa_cons (pv 0) (pa_cons (pv 1) pa_nil))))
      (pss_one (ps_ret (pe_callD d_first_of hr rfl (pa_cons (pe_coins G hr (pv 0)) (pa_cons (pv 1) pa_nil))))), ?_⟩
  refine ⟨_, rfl, _, rfl, v, cs, t, rfl, hL, hC, ht, hp.top hC (List.ne_nil_of_mem (List.mem_of_getElem? hi)), fun H1 s1 => ?_⟩
  obtain ⟨a, dx, c, rfl, h1, h2⟩ := hL.mono s1
  exact ⟨_, rfl, a, dx, _, rfl, h1, _, rfl, c, cs, t, ps, rfl, h2, hC, ht, hp, hi, fun H2 u s2 hu => q H2 u (s1.trans s2) hu⟩
abbrev sLastPayment : Stmt := topS 64
theorem scLastPayment : FnScope ["lot", "amount"] ["lot", "amount"] (defScope sLastPayment) := ⟨rfl, rfl, rfl, by decide +kernel, rfl, by decide +kernel, by decide +kernel⟩
theorem ok_last_payment (G : LotG P w K mg base C) (d_check_paid : DefOk P w K mg base "check_paid" 4 ["lot", "amount"] (spCheckPaid K C)) (d_last_of : DefOk P w K mg base "last_of" 3 ["coins", "amount"] (spLastOf K)) (A : At K mg "last_payment" sLastPayment) : DefOk P w K mg base "last_payment" 5 ["lot", "amount"] (spEnd K C (·.getLast?)) := by
  refine mkDef A scLastPayment (fun _ _ _ _ _ _ us hl => match us, hl with | [_, _], _ => rfl) (by rintro _ _ _ _ ⟨_, _, _, _, rfl, _⟩; rfl) fun f cdv A outer s H vs Q E hr h => ?_
  obtain ⟨v, cs, t, ps, rfl, hL, hC, ht, hp, hi, q⟩ := h
  refine ⟨_, pss_cons (ps_expr (pe_callD d_check_paid hr rfl (pa_cons (pv 0) (pa_cons (pv 1) pa_nil))))
      (pss_one (ps_ret (pe_callD d_last_of hr rfl (pa_cons (pe_coins G hr (pv 0)) (pa_cons (pv 1) pa_nil))))), ?_⟩
  refine ⟨_, rfl, _, rfl, v, cs, t, rfl, hL, hC, ht, hp.top hC (List.ne_nil_of_mem (List.mem_of_getLast? hi)), fun H1 s1 => ?_⟩
  obtain ⟨a, dx, c, rfl, h1, h2⟩ := hL.mono s1
  exact ⟨_, rfl, a, dx, _, rfl, h1, _, rfl, c, cs, t, ps, rfl, h2, hC, ht, hp, hi, fun H2 u s2 hu => q H2 u (s1.trans s2) hu⟩
abbrev sGreatCount : Stmt := topS 65
theorem scGreatCount : FnScope ["lot", "amount"] ["lot", "amount"] (defScope sGreatCount) := ⟨rfl, rfl, rfl, by decide +kernel, rfl, by decide +kernel, by decide +kernel⟩
def spGreat (K : PySem.W.Frag) (C : Addr) : Sp := fun vs H Q _ => ∃ (v : V) (cs : List Nat) (t : Nat), vs = [v, vN t] ∧ LotN K C H v cs ∧ Coins cs ∧ (∀ c ∈ cs, c ≤ lcmF cs) ∧ lcmF cs ≤ 2520 ∧ t ≤ 400 ∧ ∀ H', Same H H' → Q (V.int (greatN cs t)) H'
theorem ok_great_count (B : Bl mg) (G : LotG P w K mg base C) (d_check_lot : DefOk P w K mg base "check_lot" 1 ["value"] (spCheckLot K C)) (d_check_amount : DefOk P w K mg base "check_amount" 3 ["value"] (spCheck 0 (10 ^ 30))) (d_period_of : DefOk P w K mg base "period_of" 3 ["coins"] (spPeriodOf K)) (d_great_count_of : DefOk P w K mg base "great_count_of" 4 ["coins", "amount"] (spGreatOf K)) (A : At K mg "great_count" sGreatCount) : DefOk P w K mg base "great_count" 5 ["lot", "amount"] (spGreat K C) := by
  refine mkDef A scGreatCount (fun _ _ _ _ _ _ us hl => match us, hl with | [_, _], _ => rfl) (by rintro _ _ _ _ ⟨_, _, _, rfl, _⟩; rfl) fun f cdv A outer s H vs Q E hr h => ?_
  obtain ⟨v, cs, t, rfl, hL, hC, hcl, hm, ht, q⟩ := h
  obtain ⟨a, dx, c, rfl, h1, h2⟩ := id hL
  refine ⟨_, pss_cons (ps_expr (pe_callD d_check_lot hr rfl (pa_cons (pv 0) pa_nil)))
      (pss_cons (ps_expr (pe_callD d_check_amount hr rfl (pa_cons (pv 1) pa_nil)))
      (pss_cons (ps_if (pt_cmpR op_gt (pe_callD d_period_of hr rfl (pa_cons (pe_coins G hr (pv 0)) pa_nil)) (pe_gint rfl B.MOST_PERIOD) (nomark _))
        (pss_one (ps_never))
        (pss_nil))
      (pss_one (ps_ret (pe_callD d_great_count_of hr rfl (pa_cons (pe_coins G hr (pv 0)) (pa_cons (pv 1) pa_nil))))))), ?_⟩
  refine ⟨_, rfl, _, cs, rfl, hL, _, rfl, _, rfl, by omega, by omega, _, rfl, a, dx, _, rfl, h1, c, cs, rfl, h2, hC.pos, hC.few, fun H1 s1 _ _ => ⟨_, _, rfl, rfl, _, rfl, ?_⟩⟩
  rw [decide_eq_false (show ¬ (2520 : Int) < ((lcmF cs : Nat) : Int) by omega)]
  exact iteF ⟨_, rfl, a, dx, _, rfl, s1 _ _ h1, _, rfl, c, cs, t, rfl, s1.seqT h2, hC, hcl, ht, fun H2 s2 => q H2 (s1.trans s2)⟩
end
end Cn
/-! Lengths: tables, what is reckoned by rests. -/
namespace Cn
open PySem PySem.Spec PyProof.Rows L2 RZ StX Mp
theorem upd_upd {H : Hp} {p : Addr} {o o' : HO} : upd (upd H p o) p o' = upd H p o' := by
  funext a
  by_cases h : a = p
  · rw [h, upd_same, upd_same]
  · rw [upd_ne h, upd_ne h, upd_ne h]
theorem upd_id {H : Hp} {p : Addr} {o : HO} (h : H p = some o) : upd H p o = H := by
  funext a
  by_cases e : a = p
  · rw [e, upd_same, h]
  · rw [upd_ne e]
theorem somes_map : ∀ l : List (Option Nat), (some_of l).map vN = (l.map vO).filter (fun v => decide (v ≠ .non))
  | [] => rfl
  | none :: l => by
    rw [List.map_cons, List.filter_cons_of_neg (by simp [vO])]
    exact somes_map l
  | some n :: l => by
    rw [List.map_cons, List.filter_cons_of_pos (by simp [vO])]
    show vN n :: (some_of l).map vN = _
    rw [somes_map l]
    rfl
section
variable {P : Program} {w : World} {K : PySem.W.Frag} {mg : Str → Option Value} {base : Heap} {C : Addr}
abbrev sLeastLengths : Stmt := topS 67
theorem scLeastLengths : FnScope ["coins", "most", "found", "total", "near", "some", "coin", "length"] ["coins", "most"] (defScope sLeastLengths) := ⟨rfl, rfl, rfl, by decide +kernel, rfl, by decide +kernel, by decide +kernel⟩
def spLengths (K : PySem.W.Frag) (best : List Nat → Nat → Option Nat) : Sp := fun vs H Q _ => ∃ (a : Addr) (cs : List Nat) (t : Nat), vs = [.ref a, vN t] ∧ SqT K H a (cs.map vN) ∧ (∀ c ∈ cs, 0 < c ∧ c ≤ 12) ∧ cs.length ≤ 4 ∧ t ≤ 400 ∧
  ∀ H' p, Same H H' → H p = none → H' p = some (.lst (tab (t + 1) fun i => vO (best cs i))) → Q (.ref p) H'
theorem near_take (best : Nat → Option Nat) (cs : List Nat) (t : Nat) : near best (cs.take cs.length) t = near best cs t := by rw [List.take_length]
theorem near_succ {best : Nat → Option Nat} {cs : List Nat} {t i c : Nat} (h : cs[i]? = some c) : near best (cs.take (i + 1)) t = near best (cs.take i) t ++ if c ≤ t then [best (t - c)] else [] := by
  unfold near
  rw [List.take_add_one, h, List.filter_append, List.map_append]
  congr 1
  show ([c].filter (· ≤ t)).map (fun c => best (t - c)) = _
  by_cases e : c ≤ t
  · rw [if_pos e, List.filter_cons_of_pos (by simpa using e)]
    rfl
  · rw [if_neg e, List.filter_cons_of_neg (by simpa using e)]
    rfl
theorem some_succ {l : List (Option Nat)} {i : Nat} {o : Option Nat} (h : l[i]? = some o) : some_of (l.take (i + 1)) = some_of (l.take i) ++ o.toList := by
  have e : l.take (i + 1) = l.take i ++ [o] := by rw [List.take_add_one, h]; rfl
  unfold some_of
  rw [e, List.filterMap_append]
  cases o <;> rfl
theorem ok_least_lengths (B : Bl mg) (A : At K mg "least_lengths" sLeastLengths) : DefOk P w K mg base "least_lengths" 1 ["coins", "most"] (spLengths K minLen) := by
  refine mkDef A scLeastLengths (fun _ _ _ _ _ _ us hl => match us, hl with | [_, _], _ => rfl) (by rintro _ _ _ _ ⟨_, _, _, rfl, _⟩; rfl) fun f cdv A outer s H vs Q E hr h => ?_
  obtain ⟨a, cs, t, rfl, hq, hc, h4, ht, q⟩ := h
  have hp : ∀ c ∈ cs, 0 < c := fun c h => (hc c h).1
  refine ⟨_, pss_cons (ps_set (i := 2) scLeastLengths.nd rfl (Or.inr rfl) (pe_lst (pa_cons (pe_int) pa_nil)))
      (pss_cons (ps_for PassesOwn.never rfl (pi_range2 rfl B.z_range (pa_cons (pe_int) (pa_cons (pe_op op_add (pv 1) (pe_int)) pa_nil))) (pg_name (i := 3) scLeastLengths.nd rfl (Or.inr rfl))
        (pss_cons (ps_setLc (i := 4) (own := [("coin", 6)]) (g := gName 6) (te := tOp (rIxL K) (tVar 2) (tOp (rI0 fun i j => .int (i - j)) (tVar 3) (tVar 6))) rfl scLeastLengths.nd rfl rfl (sw_true rfl rfl rfl (by decide +kernel)) (pi_tup (pv 0)) (blkOk_by (N := ["coins", "most", "found", "total", "near", "some", "coin", "length"]) (sc := defScope sLeastLengths) (by decide +kernel)) (fun _ _ _ _ _ => (pg_name (i := 6) scLeastLengths.nd rfl (Or.inl rfl))) (fun _ _ _ _ _ => pts_one (pt_cmpR op_le (pv 6) (pv 3) (nomark _))) (fun _ _ _ _ _ => pe_ix ix_list (pv 2) (pe_op op_sub (pv 3) (pv 6)) (fun _ _ => rfl)))
          (pss_cons (ps_setLc (i := 5) (own := [("length", 7)]) (g := gName 7) rfl scLeastLengths.nd rfl rfl (sw_true rfl rfl rfl (by decide +kernel)) (pi_list (pv 4)) (blkOk_by (N := ["coins", "most", "found", "total", "near", "some", "coin", "length"]) (sc := defScope sLeastLengths) (by decide +kernel)) (fun _ _ _ _ _ => (pg_name (i := 7) scLeastLengths.nd rfl (Or.inl rfl))) (fun _ _ _ _ _ => pts_one (pt_cmp (pc_notN (pv 7)))) (fun _ _ _ _ _ => pv 7))
          (pss_one (ps_expr (pe_bm PySem.F.plainAttrs_list PySem.F.slot_list_append PySem.F.type_list_append mt_append (pv 2) (pa_cons (pe_ifExp (pt_cmpR (op_neD hr.units) (pv 5) (pe_lst pa_nil) (nomark _)) (pe_op op_add (pe_int) (pe_callB (cr_min rfl) (by rfl) B.z_min (by decide +kernel) (pa_cons (pv 5) pa_nil))) (pe_non)) pa_nil)))))))
      (pss_one (ps_ret (pv 2)))), ?_⟩
  refine ⟨sz _ (by decide), fun l nl => ⟨_, rfl, _, _, rfl, rfl, _, _, rfl, ⟨by omega, by omega, by omega, by omega⟩, ?_⟩⟩
  have s0 : Same H (upd H l (.lst [V.int 0])) := same_upd nl
  refine for_rN 1 t rfl (by omega) (fun i σ H' => ∃ y3 y4 y5 y6 y7, σ = [some (.ref a), some (vN t), some (.ref l), y3, y4, y5, y6, y7] ∧ Same H H' ∧ H' l = some (.lst (tab (i + 1) fun i => vO (minLen cs i))))
    ⟨_, _, _, _, _, rfl, s0, by rw [upd_same, tab_succ, tab_zero, minLen_zero hp]; rfl⟩ ?_ ?_
  · rintro i σ H1 hi ⟨_, _, _, _, _, rfl, s1, h1⟩
    -- near
    refine ⟨_, rfl, a, rfl, ⟨_, s1.seqT hq⟩, fun D nD => lc_tup (fun j H' => Same H1 H' ∧ H' D = some (.lst ((near (minLen cs) (cs.take j) (1 + i)).map vO))) ⟨same_upd nD, upd_same⟩ (fun j H' _ p => (s1.trans p.1).seqT hq) ?_ ?_⟩
    · rintro j x H2 hx ⟨s2, h2⟩
      obtain ⟨c, hci, rfl⟩ := get_of_map hx
      have hl : (near (minLen cs) (cs.take j) (1 + i)).length ≤ 4 := by
        unfold near
        rw [List.length_map]
        refine Nat.le_trans (List.length_filter_le _ _) ?_
        rw [List.length_take]
        omega
      have e1 := near_succ (best := minLen cs) (t := 1 + i) hci
      refine ⟨rfl, _, rfl, _, rfl, _, _, rfl, rfl, _, rfl, ?_⟩
      by_cases hct : c ≤ 1 + i
      · rw [decide_eq_true (show (c : Int) ≤ ((1 + i : Nat) : Int) by omega)]
        rw [if_pos hct] at e1
        refine iteT ⟨_, rfl, _, rfl, _, rfl, _, _, rfl, rfl, _, _, _, _, rfl, rfl, SqL.of (s2 _ _ h1), tab_at (i := 1 + i - c) (by omega) (by have := hp c (List.mem_of_getElem? hci); omega), _, h2, szl _ (by rw [List.length_map]; omega), s2.mut nD, ?_⟩
        rw [upd_same, e1, List.map_append]
        rfl
      · rw [decide_eq_false (show ¬ (c : Int) ≤ ((1 + i : Nat) : Int) by omega)]
        rw [if_neg hct, List.append_nil] at e1
        exact iteF ⟨s2, by rw [e1]; exact h2⟩
    · rintro H2 ⟨s2, h2⟩
      rw [List.length_map, near_take] at h2
      have hl : (near (minLen cs) cs (1 + i)).length ≤ 4 := by
        unfold near
        rw [List.length_map]
        exact Nat.le_trans (List.length_filter_le _ _) h4
      -- some
      refine ⟨_, rfl, D, rfl, ⟨_, SqL.of h2⟩, fun D2 nD2 => lc_list (fun j H' => Same H2 H' ∧ H' D2 = some (.lst ((some_of ((near (minLen cs) cs (1 + i)).take j)).map vN))) ⟨same_upd nD2, upd_same⟩ (fun j H' _ p => SqL.of (p.1 _ _ h2)) ?_ ?_⟩
      · rintro j x H3 hx ⟨s3, h3⟩
        rw [List.getElem?_map] at hx
        obtain ⟨o, ho, rfl⟩ := Option.map_eq_some_iff.mp hx
        have e2 := some_succ ho
        have hl2 : (some_of ((near (minLen cs) cs (1 + i)).take j)).length ≤ 4 := by
          unfold some_of
          refine Nat.le_trans (List.length_filterMap_le _ _) ?_
          rw [List.length_take]
          omega
        refine ⟨rfl, _, rfl, _, rfl, ?_⟩
        cases o with
        | none =>
          refine iteF ⟨s3, ?_⟩
          rw [e2]
          show H3 D2 = some (.lst ((some_of _ ++ []).map vN))
          rw [List.append_nil]
          exact h3
        | some n =>
          refine iteT ⟨_, rfl, _, h3, szl _ (by rw [List.length_map]; omega), s3.mut nD2, ?_⟩
          rw [upd_same, e2, List.map_append]
          rfl
      · rintro H3 ⟨s3, h3⟩
        have e3 : (near (minLen cs) cs (1 + i)).take ((near (minLen cs) cs (1 + i)).map vO).length = near (minLen cs) cs (1 + i) := by rw [List.length_map, List.take_length]
        rw [e3] at h3
        have s13 : Same H1 H3 := s2.trans s3
        have st := minLen_step hp (t := 1 + i) (by omega)
        generalize some_of (near (minLen cs) cs (1 + i)) = sm at h3 st
        have h1' := s13 _ _ h1
        refine ⟨_, rfl, .inl ⟨rfl, _, SqL.of h1'⟩, _, rfl, sz 0 (by decide), fun l3 n3 => ⟨encI sm, encI [], dp_lst ((same_upd n3).seq (SqL.of h3)), dp_lst (SqL.of upd_same), encI_shaped _, encI_shaped _, _, rfl, ?_⟩⟩
        rw [eqv_encI]
        have s4 : Same H1 (upd H3 l3 (.lst [])) := s13.new n3
        have h1n := s4 _ _ h1
        have h3n : (upd H3 l3 (.lst [])) D2 = some (.lst (sm.map vN)) := (same_upd n3) _ _ h3
        generalize upd H3 l3 (.lst []) = H4 at s4 h1n h3n
        have fin : ∀ v : V, v = vO (minLen cs (1 + i)) → (upd H4 l (.lst ((tab (i + 1) fun i => vO (minLen cs i)) ++ [v]))) l = some (.lst (tab (i + 1 + 1) fun i => vO (minLen cs i))) := by
          rintro v rfl
          rw [upd_same, tab_succ (i + 1), Nat.add_comm 1 i]
        cases sm with
        | nil =>
          refine iteF ⟨l, _, _, rfl, rfl, h1n, szl _ (by rw [tab_len]; omega), ?_⟩
          exact ⟨_, _, _, _, _, rfl, (s1.trans s4).mut nl, fin _ (by rw [st]; rfl)⟩
        | cons x xs =>
          refine iteT ⟨_, rfl, D2, (x :: xs).map fun n : Nat => (n : Int), rfl, SqL.of (by rw [List.map_map]; exact h3n), by rw [List.length_map]; exact Nat.succ_pos _, fun m hm hle => ⟨_, _, rfl, rfl, l, _, _, rfl, rfl, h1n, szl _ (by rw [tab_len]; omega), ?_⟩⟩
          obtain ⟨k, hk, rfl⟩ := List.mem_map.mp hm
          have em : (x :: xs).min? = some k := List.min?_eq_some_iff.mpr ⟨hk, fun b hb => by
            have := hle b (List.mem_map.mpr ⟨b, hb, rfl⟩)
            omega⟩
          rw [em] at st
          exact ⟨_, _, _, _, _, rfl, (s1.trans s4).mut nl, fin _ (by rw [st]; rfl)⟩
  · rintro σ H1 ⟨_, _, _, _, _, rfl, s1, h1⟩
    exact ⟨_, rfl, q H1 l s1 nl h1⟩
abbrev sMostLengths : Stmt := topS 68
theorem scMostLengths : FnScope ["coins", "most", "found", "total", "near", "some", "coin", "length"] ["coins", "most"] (defScope sMostLengths) := ⟨rfl, rfl, rfl, by decide +kernel, rfl, by decide +kernel, by decide +kernel⟩
theorem ok_most_lengths (B : Bl mg) (A : At K mg "most_lengths" sMostLengths) : DefOk P w K mg base "most_lengths" 1 ["coins", "most"] (spLengths K maxLen) := by
  refine mkDef A scMostLengths (fun _ _ _ _ _ _ us hl => match us, hl with | [_, _], _ => rfl) (by rintro _ _ _ _ ⟨_, _, _, rfl, _⟩; rfl) fun f cdv A outer s H vs Q E hr h => ?_
  obtain ⟨a, cs, t, rfl, hq, hc, h4, ht, q⟩ := h
  have hp : ∀ c ∈ cs, 0 < c := fun c h => (hc c h).1
  refine ⟨_, pss_cons (ps_set (i := 2) scMostLengths.nd rfl (Or.inr rfl) (pe_lst (pa_cons (pe_int) pa_nil)))
      (pss_cons (ps_for PassesOwn.never rfl (pi_range2 rfl B.z_range (pa_cons (pe_int) (pa_cons (pe_op op_add (pv 1) (pe_int)) pa_nil))) (pg_name (i := 3) scMostLengths.nd rfl (Or.inr rfl))
        (pss_cons (ps_setLc (i := 4) (own := [("coin", 6)]) (g := gName 6) (te := tOp (rIxL K) (tVar 2) (tOp (rI0 fun i j => .int (i - j)) (tVar 3) (tVar 6))) rfl scMostLengths.nd rfl rfl (sw_true rfl rfl rfl (by decide +kernel)) (pi_tup (pv 0)) (blkOk_by (N := ["coins", "most", "found", "total", "near", "some", "coin", "length"]) (sc := defScope sMostLengths) (by decide +kernel)) (fun _ _ _ _ _ => (pg_name (i := 6) scMostLengths.nd rfl (Or.inl rfl))) (fun _ _ _ _ _ => pts_one (pt_cmpR op_le (pv 6) (pv 3) (nomark _))) (fun _ _ _ _ _ => pe_ix ix_list (pv 2) (pe_op op_sub (pv 3) (pv 6)) (fun _ _ => rfl)))
          (pss_cons (ps_setLc (i := 5) (own := [("length", 7)]) (g := gName 7) rfl scMostLengths.nd rfl rfl (sw_true rfl rfl rfl (by decide +kernel)) (pi_list (pv 4)) (blkOk_by (N := ["coins", "most", "found", "total", "near", "some", "coin", "length"]) (sc := defScope sMostLengths) (by decide +kernel)) (fun _ _ _ _ _ => (pg_name (i := 7) scMostLengths.nd rfl (Or.inl rfl))) (fun _ _ _ _ _ => pts_one (pt_cmp (pc_notN (pv 7)))) (fun _ _ _ _ _ => pv 7))
          (pss_one (ps_expr (pe_bm PySem.F.plainAttrs_list PySem.F.slot_list_append PySem.F.type_list_append mt_append (pv 2) (pa_cons (pe_ifExp (pt_cmpR (op_neD hr.units) (pv 5) (pe_lst pa_nil) (nomark _)) (pe_op op_add (pe_int) (pe_callB (cr_max rfl) (by rfl) B.z_max (by decide +kernel) (pa_cons (pv 5) pa_nil))) (pe_non)) pa_nil)))))))
      (pss_one (ps_ret (pv 2)))), ?_⟩
  refine ⟨sz _ (by decide), fun l nl => ⟨_, rfl, _, _, rfl, rfl, _, _, rfl, ⟨by omega, by omega, by omega, by omega⟩, ?_⟩⟩
  have s0 : Same H (upd H l (.lst [V.int 0])) := same_upd nl
  refine for_rN 1 t rfl (by omega) (fun i σ H' => ∃ y3 y4 y5 y6 y7, σ = [some (.ref a), some (vN t), some (.ref l), y3, y4, y5, y6, y7] ∧ Same H H' ∧ H' l = some (.lst (tab (i + 1) fun i => vO (maxLen cs i))))
    ⟨_, _, _, _, _, rfl, s0, by rw [upd_same, tab_succ, tab_zero, maxLen_zero hp]; rfl⟩ ?_ ?_
  · rintro i σ H1 hi ⟨_, _, _, _, _, rfl, s1, h1⟩
    -- near
    refine ⟨_, rfl, a, rfl, ⟨_, s1.seqT hq⟩, fun D nD => lc_tup (fun j H' => Same H1 H' ∧ H' D = some (.lst ((near (maxLen cs) (cs.take j) (1 + i)).map vO))) ⟨same_upd nD, upd_same⟩ (fun j H' _ p => (s1.trans p.1).seqT hq) ?_ ?_⟩
    · rintro j x H2 hx ⟨s2, h2⟩
      obtain ⟨c, hci, rfl⟩ := get_of_map hx
      have hl : (near (maxLen cs) (cs.take j) (1 + i)).length ≤ 4 := by
        unfold near
        rw [List.length_map]
        refine Nat.le_trans (List.length_filter_le _ _) ?_
        rw [List.length_take]
        omega
      have e1 := near_succ (best := maxLen cs) (t := 1 + i) hci
      refine ⟨rfl, _, rfl, _, rfl, _, _, rfl, rfl, _, rfl, ?_⟩
      by_cases hct : c ≤ 1 + i
      · rw [decide_eq_true (show (c : Int) ≤ ((1 + i : Nat) : Int) by omega)]
        rw [if_pos hct] at e1
        refine iteT ⟨_, rfl, _, rfl, _, rfl, _, _, rfl, rfl, _, _, _, _, rfl, rfl, SqL.of (s2 _ _ h1), tab_at (i := 1 + i - c) (by omega) (by have := hp c (List.mem_of_getElem? hci); omega), _, h2, szl _ (by rw [List.length_map]; omega), s2.mut nD, ?_⟩
        rw [upd_same, e1, List.map_append]
        rfl
      · rw [decide_eq_false (show ¬ (c : Int) ≤ ((1 + i : Nat) : Int) by omega)]
        rw [if_neg hct, List.append_nil] at e1
        exact iteF ⟨s2, by rw [e1]; exact h2⟩
    · rintro H2 ⟨s2, h2⟩
      rw [List.length_map, near_take] at h2
      have hl : (near (maxLen cs) cs (1 + i)).length ≤ 4 := by
        unfold near
        rw [List.length_map]
        exact Nat.le_trans (List.length_filter_le _ _) h4
      -- some
      refine ⟨_, rfl, D, rfl, ⟨_, SqL.of h2⟩, fun D2 nD2 => lc_list (fun j H' => Same H2 H' ∧ H' D2 = some (.lst ((some_of ((near (maxLen cs) cs (1 + i)).take j)).map vN))) ⟨same_upd nD2, upd_same⟩ (fun j H' _ p => SqL.of (p.1 _ _ h2)) ?_ ?_⟩
      · rintro j x H3 hx ⟨s3, h3⟩
        rw [List.getElem?_map] at hx
        obtain ⟨o, ho, rfl⟩ := Option.map_eq_some_iff.mp hx
        have e2 := some_succ ho
        have hl2 : (some_of ((near (maxLen cs) cs (1 + i)).take j)).length ≤ 4 := by
          unfold some_of
          refine Nat.le_trans (List.length_filterMap_le _ _) ?_
          rw [List.length_take]
          omega
        refine ⟨rfl, _, rfl, _, rfl, ?_⟩
        cases o with
        | none =>
          refine iteF ⟨s3, ?_⟩
          rw [e2]
          show H3 D2 = some (.lst ((some_of _ ++ []).map vN))
          rw [List.append_nil]
          exact h3
        | some n =>
          refine iteT ⟨_, rfl, _, h3, szl _ (by rw [List.length_map]; omega), s3.mut nD2, ?_⟩
          rw [upd_same, e2, List.map_append]
          rfl
      · rintro H3 ⟨s3, h3⟩
        have e3 : (near (maxLen cs) cs (1 + i)).take ((near (maxLen cs) cs (1 + i)).map vO).length = near (maxLen cs) cs (1 + i) := by rw [List.length_map, List.take_length]
        rw [e3] at h3
        have s13 : Same H1 H3 := s2.trans s3
        have st := maxLen_step hp (t := 1 + i) (by omega)
        generalize some_of (near (maxLen cs) cs (1 + i)) = sm at h3 st
        have h1' := s13 _ _ h1
        refine ⟨_, rfl, .inl ⟨rfl, _, SqL.of h1'⟩, _, rfl, sz 0 (by decide), fun l3 n3 => ⟨encI sm, encI [], dp_lst ((same_upd n3).seq (SqL.of h3)), dp_lst (SqL.of upd_same), encI_shaped _, encI_shaped _, _, rfl, ?_⟩⟩
        rw [eqv_encI]
        have s4 : Same H1 (upd H3 l3 (.lst [])) := s13.new n3
        have h1n := s4 _ _ h1
        have h3n : (upd H3 l3 (.lst [])) D2 = some (.lst (sm.map vN)) := (same_upd n3) _ _ h3
        generalize upd H3 l3 (.lst []) = H4 at s4 h1n h3n
        have fin : ∀ v : V, v = vO (maxLen cs (1 + i)) → (upd H4 l (.lst ((tab (i + 1) fun i => vO (maxLen cs i)) ++ [v]))) l = some (.lst (tab (i + 1 + 1) fun i => vO (maxLen cs i))) := by
          rintro v rfl
          rw [upd_same, tab_succ (i + 1), Nat.add_comm 1 i]
        cases sm with
        | nil =>
          refine iteF ⟨l, _, _, rfl, rfl, h1n, szl _ (by rw [tab_len]; omega), ?_⟩
          exact ⟨_, _, _, _, _, rfl, (s1.trans s4).mut nl, fin _ (by rw [st]; rfl)⟩
        | cons x xs =>
          refine iteT ⟨_, rfl, D2, (x :: xs).map fun n : Nat => (n : Int), rfl, SqL.of (by rw [List.map_map]; exact h3n), by rw [List.length_map]; exact Nat.succ_pos _, fun m hm hle => ⟨_, _, rfl, rfl, l, _, _, rfl, rfl, h1n, szl _ (by rw [tab_len]; omega), ?_⟩⟩
          obtain ⟨k, hk, rfl⟩ := List.mem_map.mp hm
          have em : (x :: xs).max? = some k := List.max?_eq_some_iff.mpr ⟨hk, fun b hb => by
            have := hle b (List.mem_map.mpr ⟨b, hb, rfl⟩)
            omega⟩
          rw [em] at st
          exact ⟨_, _, _, _, _, rfl, (s1.trans s4).mut nl, fin _ (by rw [st]; rfl)⟩
  · rintro σ H1 ⟨_, _, _, _, _, rfl, s1, h1⟩
    exact ⟨_, rfl, q H1 l s1 nl h1⟩
end
end Cn
/-! Least losses and gains. -/
namespace Cn
open PySem PySem.Spec PyProof.Rows L2 RZ StX Mp
section
variable {P : Program} {w : World} {K : PySem.W.Frag} {mg : Str → Option Value} {base : Heap} {C : Addr}
abbrev sEased : Stmt := topS 69
theorem scEased : FnScope ["costs", "step", "cost", "size", "shared", "start", "rest", "turn", "later"] ["costs", "step", "cost"] (defScope sEased) := ⟨rfl, rfl, rfl, by decide +kernel, rfl, by decide +kernel, by decide +kernel⟩
def spEased (K : PySem.W.Frag) : Sp := fun vs H Q _ => ∃ (p : Addr) (t : OT) (c k : Nat), vs = [.ref p, vN c, vN k] ∧ H p = some (.lst (t.map vO)) ∧ 0 < t.length ∧ t.length ≤ 12 ∧ 0 < c ∧ c ≤ 12 ∧ Q .non (upd H p (.lst ((ease t.length c k t).map vO)))
theorem ok_eased (B : Bl mg) (d_common_divisor : DefOk P w K mg base "common_divisor" 1 ["one", "other"] spGcd) (A : At K mg "eased" sEased) : DefOk P w K mg base "eased" 2 ["costs", "step", "cost"] (spEased K) := by
  refine mkDef A scEased (fun _ _ _ _ _ _ us hl => match us, hl with | [_, _, _], _ => rfl) (by rintro _ _ _ _ ⟨_, _, _, _, rfl, _⟩; rfl) fun f cdv A outer s H vs Q E hr h => ?_
  obtain ⟨p, t, c, k, rfl, hp, hm0, hm, hc1, hc2, q⟩ := h
  generalize lt : t.length = m at hm0 hm q
  have hg : 0 < Nat.gcd c m := Nat.gcd_pos_of_pos_left _ hc1
  have hg2 : Nat.gcd c m ≤ m := Nat.gcd_le_right _ hm0
  have hk : m / Nat.gcd c m ≤ m := Nat.div_le_self _ _
  refine ⟨_, pss_cons (ps_set (i := 3) scEased.nd rfl (Or.inl rfl) (pe_callB call_len_seq (by rfl) B.z_len (by decide +kernel) (pa_cons (pv 0) pa_nil)))
      (pss_cons (ps_set (i := 4) scEased.nd rfl (Or.inl rfl) (pe_callD d_common_divisor hr rfl (pa_cons (pv 1) (pa_cons (pv 3) pa_nil))))
      (pss_one (ps_for PassesOwn.never rfl (pi_range1 rfl B.z_range (pa_cons (pv 4) pa_nil)) (pg_name (i := 5) scEased.nd rfl (Or.inl rfl))
        (pss_cons (ps_set (i := 6) scEased.nd rfl (Or.inl rfl) (pv 5))
          (pss_one (ps_for PassesOwn.never rfl (pi_range1 rfl B.z_range (pa_cons (pe_op op_mul (pe_int) (pe_op op_fdiv (pv 3) (pv 4))) pa_nil)) (pg_name (i := 7) scEased.nd rfl (Or.inl rfl))
            (pss_cons (ps_set (i := 8) scEased.nd rfl (Or.inl rfl) (pe_op op_mod (pe_callTy call_int1 (by rfl) B.z_int (by decide +kernel) (pa_cons (pe_op op_add (pv 6) (pv 1)) pa_nil)) (pv 3)))
              (pss_cons (ps_if (PW.pt (pw_and (pt_cmp (pc_notN (pe_ix ix_list (pv 0) (pv 6) (fun _ _ => rfl)))) (pw_and1 (PW.pt (pw_or (pt_cmp (pc_isN (pe_ix ix_list (pv 0) (pv 8) (fun _ _ => rfl)))) (pw_or1 (pt_cmpR op_lt (pe_op op_add (pe_ix ix_list (pv 0) (pv 6) (fun _ _ => rfl)) (pv 2)) (pe_ix ix_list (pv 0) (pv 8) (fun _ _ => rfl)) (nomark _))))))))
                (pss_one (ps_asg (pe_op op_add (pe_ix ix_list (pv 0) (pv 6) (fun _ _ => rfl)) (pv 2)) (pg_sub (pv 0) (pv 8) set_list)))
                (pss_nil))
              (pss_one (ps_set (i := 6) scEased.nd rfl (Or.inl rfl) (pv 8))))))))))), ?_⟩
  refine ⟨_, rfl, p, _, rfl, .inl (SqL.of hp), _, rfl, _, rfl, c, m, (by rw [List.length_map, lt]), ?_⟩
  rw [List.length_map, lt]
  have hp0 : upd H p (.lst (t.map vO)) = H := upd_id hp
  -- for start in range(shared)
  refine ⟨_, rfl, _, rfl, (by omega), (by omega), for_r0 (Nat.gcd c m) (by omega) (fun j σ H' => ∃ y6 y7 y8 y9, σ = [some (.ref p), some (vN c), some (vN k), some (vN m), some (vN (Nat.gcd c m)), y6, y7, y8, y9] ∧
    upd H p (.lst ((easeN m c k (2 * (m / Nat.gcd c m)) j t).map vO)) = H') ⟨_, _, _, _, rfl, hp0⟩ ?_ ?_⟩
  · rintro j σ H2 hj ⟨_, _, _, _, rfl, rfl⟩
    generalize hu : easeN m c k (2 * (m / Nat.gcd c m)) j t = u
    have lu : u.length = m := by rw [← hu, easeN_len, lt]
    have hj' : j < Nat.gcd c m := hj
    -- rest = start, for turn in range(2 * (size // shared))
    refine ⟨_, rfl, ?_⟩
    refine ⟨_, rfl, _, rfl, _, _, rfl, rfl, ⟨by omega, by omega⟩, _, _, rfl, rfl, .inl ⟨by omega, by omega⟩, _, rfl, ?_, ?_, ?_⟩
    · have := Int.natCast_nonneg (m / Nat.gcd c m)
      show -(2 ^ 62) ≤ (2 : Int) * ((m / Nat.gcd c m : Nat) : Int)
      omega
    · show (2 : Int) * ((m / Nat.gcd c m : Nat) : Int) < 2 ^ 62
      omega
    have en : ((2 : Int) * ((m : Int) / (Nat.gcd c m : Nat))).toNat = 2 * (m / Nat.gcd c m) := by
      show ((2 : Int) * ((m / Nat.gcd c m : Nat) : Int)).toNat = _
      omega
    refine for_r0 (2 * (m / Nat.gcd c m)) en (fun l σ H' => ∃ y8 y9, σ = [some (.ref p), some (vN c), some (vN k), some (vN m), some (vN (Nat.gcd c m)), some (vN j), some (vN (estN m c k l (u, j)).2), y8, y9] ∧
      upd H p (.lst ((estN m c k l (u, j)).1.map vO)) = H') ⟨_, _, rfl, rfl⟩ ?_ ?_
    · rintro l σ H3 hl ⟨_, _, rfl, rfl⟩
      generalize hv : estN m c k l (u, j) = v
      have lv : v.1.length = m := by rw [← hv, estN_len, lu]
      have rv : v.2 < m := by rw [← hv]; exact estN_lt hm0 l _ (by show j < m; omega)
      have lr : (v.2 + c) % m < m := Nat.mod_lt _ hm0
      have h3 : (upd H p (.lst (v.1.map vO))) p = some (.lst (v.1.map vO)) := upd_same
      generalize hH3 : upd H p (.lst (v.1.map vO)) = H3 at h3
      -- later = int(rest + step) % size
      refine ⟨_, rfl, _, rfl, _, _, rfl, rfl, .inl ⟨_, rfl, _, rfl, _, _, rfl, rfl, (by omega), ?_⟩⟩
      have hS : SqL K H3 p (v.1.map vO) := SqL.of h3
      have a1 : atI (v.1.map vO) ((v.2 : Nat) : Int) = some (vO (v.1.getD v.2 none)) := atO rfl (by omega)
      have a2 : atI (v.1.map vO) ((((v.2 : Nat) : Int) + (c : Int)) % (m : Int)) = some (vO (v.1.getD ((v.2 + c) % m) none)) := atO (i := (v.2 + c) % m) rfl (by omega)
      have step : ∀ H4 : Hp, upd H p (.lst ((est m c k v).1.map vO)) = H4 →
          ∃ y8 y9, [some (.ref p), some (vN c), some (vN k), some (vN m), some (vN (Nat.gcd c m)), some (vN j), some (.int ((((v.2 : Nat) : Int) + (c : Int)) % (m : Int))), some (vN l), some (.int ((((v.2 : Nat) : Int) + (c : Int)) % (m : Int)))] =
            [some (.ref p), some (vN c), some (vN k), some (vN m), some (vN (Nat.gcd c m)), some (vN j), some (vN (estN m c k (l + 1) (u, j)).2), y8, y9] ∧ upd H p (.lst ((estN m c k (l + 1) (u, j)).1.map vO)) = H4 := by
        intro H4 h4
        have e1 : estN m c k (l + 1) (u, j) = est m c k v := by rw [← hv]; rfl
        rw [e1]
        exact ⟨_, _, rfl, h4⟩
      -- if costs[rest] is not None and ..
      refine ⟨_, rfl, _, rfl, _, _, _, _, rfl, rfl, hS, a1, _, rfl, ?_⟩
      cases e1 : v.1.getD v.2 none with
      | none =>
        refine iteF (iteF ⟨_, rfl, step H3 ?_⟩)
        have e2 : (est m c k v).1 = v.1 := by
          unfold est
          rw [e1]
        rw [e2]
        exact hH3
      | some x =>
        rw [e1] at a1
        have put : ∀ D : Ends, (∀ σ' H', (∃ y8 y9, σ' = [some (.ref p), some (vN c), some (vN k), some (vN m), some (vN (Nat.gcd c m)), some (vN j), some (vN (estN m c k (l + 1) (u, j)).2), y8, y9] ∧ upd H p (.lst ((estN m c k (l + 1) (u, j)).1.map vO)) = H') → D.nx σ' H') →
            (est m c k v).1 = v.1.set ((v.2 + c) % m) (some (x + k)) → D.nx [some (.ref p), some (vN c), some (vN k), some (vN m), some (vN (Nat.gcd c m)), some (vN j), some (.int ((((v.2 : Nat) : Int) + (c : Int)) % (m : Int))), some (vN l), some (.int ((((v.2 : Nat) : Int) + (c : Int)) % (m : Int)))]
            (upd H3 p (.lst ((v.1.map vO).set ((v.2 + c) % m) (.int ((x : Int) + (k : Int)))))) := fun D kk e2 => kk _ _ (step _ (by
              rw [← hH3, upd_upd, e2]
              exact congrArg (fun z => upd H p (HO.lst z)) vO_set.symm))
        refine iteT ⟨_, rfl, _, rfl, _, _, _, _, rfl, rfl, hS, a2, _, rfl, ?_⟩
        cases e3 : v.1.getD ((v.2 + c) % m) none with
        | none =>
          have e2 : (est m c k v).1 = v.1.set ((v.2 + c) % m) (some (x + k)) := by
            unfold est
            simp only [e1, e3]
          refine iteT (iteT ⟨_, rfl, _, rfl, _, _, _, _, rfl, rfl, hS, a1, _, rfl, _, _, rfl, rfl, _, rfl, _, rfl, _, _, _, (v.2 + c) % m, rfl, rfl, h3, ixN_of rfl (by rw [List.length_map]; omega), _, rfl, ?_⟩)
          exact put _ (fun _ _ z => z) e2
        | some y =>
          rw [e3] at a2
          refine iteF ⟨_, rfl, _, rfl, _, _, _, _, rfl, rfl, hS, a1, _, rfl, _, _, rfl, rfl, _, rfl, _, rfl, _, _, _, _, rfl, rfl, hS, a2, _, _, rfl, rfl, _, rfl, ?_⟩
          by_cases hlt : x + k < y
          · rw [decide_eq_true (show (x : Int) + (k : Int) < (y : Int) by omega)]
            have e2 : (est m c k v).1 = v.1.set ((v.2 + c) % m) (some (x + k)) := by
              unfold est
              simp only [e1, e3, if_pos hlt]
            refine iteT ⟨_, rfl, _, rfl, _, _, _, _, rfl, rfl, hS, a1, _, rfl, _, _, rfl, rfl, _, rfl, _, rfl, _, _, _, (v.2 + c) % m, rfl, rfl, h3, ixN_of rfl (by rw [List.length_map]; omega), _, rfl, ?_⟩
            exact put _ (fun _ _ z => z) e2
          · rw [decide_eq_false (show ¬ (x : Int) + (k : Int) < (y : Int) by omega)]
            have e2 : (est m c k v).1 = v.1 := by
              unfold est
              simp only [e1, e3, if_neg hlt]
            refine iteF ⟨_, rfl, step H3 ?_⟩
            rw [e2]
            exact hH3
    · rintro σ H3 ⟨_, _, rfl, h3⟩
      exact ⟨_, _, _, _, rfl, by rw [show easeN m c k (2 * (m / Nat.gcd c m)) (j + 1) t = (estN m c k (2 * (m / Nat.gcd c m)) (u, j)).1 by rw [← hu]; rfl]; exact h3⟩
  · rintro σ H2 ⟨_, _, _, _, rfl, rfl⟩
    exact q
abbrev sLeastCosts : Stmt := topS 70
theorem scLeastCosts : FnScope ["size", "steps", "found", "step", "cost"] ["size", "steps"] (defScope sLeastCosts) := ⟨rfl, rfl, rfl, by decide +kernel, rfl, by decide +kernel, by decide +kernel⟩
def prL (sk : Nat × Nat) : List Nat := [sk.1, sk.2]
def spCosts (K : PySem.W.Frag) : Sp := fun vs H Q _ => ∃ (m : Nat) (l : Addr) (xs : List V) (prs : List (Nat × Nat)), vs = [vN m, .ref l] ∧ 0 < m ∧ m ≤ 12 ∧ SqL K H l xs ∧ TupsN K H xs (prs.map prL) ∧ (∀ sk ∈ prs, sk.1 ≤ 12) ∧
  ∀ H' p, Same H H' → H p = none → H' p = some (.lst ((costTab m prs).map vO)) → Q (.ref p) H'
theorem ok_least_costs (d_eased : DefOk P w K mg base "eased" 2 ["costs", "step", "cost"] (spEased K)) (A : At K mg "least_costs" sLeastCosts) : DefOk P w K mg base "least_costs" 3 ["size", "steps"] (spCosts K) := by
  refine mkDef A scLeastCosts (fun _ _ _ _ _ _ us hl => match us, hl with | [_, _], _ => rfl) (by rintro _ _ _ _ ⟨_, _, _, _, rfl, _⟩; rfl) fun f cdv A outer s H vs Q E hr h => ?_
  obtain ⟨m, l, xs, prs, rfl, hm0, hm, hl, hx, hb, q⟩ := h
  refine ⟨_, pss_cons (ps_set (i := 2) scLeastCosts.nd rfl (Or.inl rfl) (pe_op op_cat (pe_lst (pa_cons (pe_int) pa_nil)) (pe_op op_rep (pe_lst (pa_cons (pe_non) pa_nil)) (pe_op op_sub (pv 0) (pe_int)))))
      (pss_cons (ps_for PassesOwn.never rfl (pi_list (pv 1)) (pg_tup rfl (pgs_cons (pg_name (i := 3) scLeastCosts.nd rfl (Or.inl rfl)) (pgs_cons (pg_name (i := 4) scLeastCosts.nd rfl (Or.inl rfl)) pgs_nil)))
        (pss_one (ps_if (pt_cmpR op_gt (pv 3) (pe_int) (nomark _))
            (pss_one (ps_expr (pe_callD d_eased hr rfl (pa_cons (pv 2) (pa_cons (pv 3) (pa_cons (pv 4) pa_nil))))))
            (pss_nil))))
      (pss_one (ps_ret (pv 2)))), ?_⟩
  refine cat_rep (k := m - 1) (fun H1 Q1 h1 => ⟨_, rfl, _, _, rfl, rfl, ?_⟩) (by omega) fun p H0 s0 np hp => ?_
  · have e : (m : Int) - 1 = ((m - 1 : Nat) : Int) := by omega
    show Q1 (.int ((m : Int) - 1)) H1
    rw [e]
    exact h1
  refine ⟨_, rfl, l, rfl, ⟨_, s0.seq hl⟩, for_list (xs := xs) (fun i σ H' => ∃ y3 y4, σ = [some (vN m), some (.ref l), some (.ref p), y3, y4] ∧ Same H H' ∧ H' p = some (.lst ((costTab m (prs.take i)).map vO)))
    ⟨_, _, rfl, s0, hp.trans (by rw [← start_map]; rfl)⟩ (fun i σ H' _ ⟨_, _, _, s1, _⟩ => s1.seq hl) ?_ ?_⟩
  · rintro i x σ H1 hxi ⟨_, _, rfl, s1, h1⟩
    obtain ⟨ps, hps, tp⟩ := pget hx hxi
    rw [List.getElem?_map] at hps
    obtain ⟨⟨c, k⟩, hsk, rfl⟩ := Option.map_eq_some_iff.mp hps
    obtain ⟨u, rfl, hu⟩ := tp.mono s1
    have hc2 : c ≤ 12 := hb _ (List.mem_of_getElem? hsk)
    have st : costTab m (prs.take (i + 1)) = if 0 < c then ease m c k (costTab m (prs.take i)) else costTab m (prs.take i) := by
      unfold costTab
      rw [foldl_take _ _ hsk]
    have lt : (costTab m (prs.take i)).length = m := costTab_len hm0 _ _ (start_len hm0)
    generalize costTab m (prs.take i) = t at h1 st lt
    refine ⟨u, _, rfl, hu, rfl, _, _, rfl, _, _, rfl, rfl, _, rfl, _, _, rfl, rfl, _, rfl, ?_⟩
    by_cases hc : 0 < c
    · rw [decide_eq_true (show (0 : Int) < (c : Int) by omega)]
      rw [if_pos hc] at st
      refine iteT ⟨_, rfl, _, rfl, _, rfl, p, t, c, k, rfl, h1, by omega, by omega, hc, hc2, ?_⟩
      refine ⟨_, _, rfl, s1.mut np, ?_⟩
      rw [upd_same, st, lt]
    · rw [decide_eq_false (show ¬ (0 : Int) < (c : Int) by omega)]
      rw [if_neg hc] at st
      exact iteF ⟨_, _, rfl, s1, by rw [st]; exact h1⟩
  · rintro σ H1 ⟨_, _, rfl, s1, h1⟩
    have e : prs.take xs.length = prs := List.take_of_length_le (by
      have := Paired.length hx
      rw [List.length_map] at this
      omega)
    rw [e] at h1
    exact ⟨_, rfl, q H1 p s1 np h1⟩
end
end Cn
/-! Least losses, gains; the least and the greatest length. -/
namespace Cn
open PySem PySem.Spec PyProof.Rows L2 RZ StX Mp
theorem Coins.last {cs : List Nat} (h : Coins cs) : cs.getLast? = some (top cs) := by
  have hl : 0 < cs.length := List.length_pos_iff.mpr h.ne
  unfold top
  rw [List.getLast?_eq_getElem?, List.getElem?_eq_getElem (by omega), List.getD_eq_getElem?_getD, List.getElem?_eq_getElem (by omega)]
  rfl
theorem Coins.first {cs : List Nat} (h : Coins cs) : cs[0]? = some (low cs) := by
  have hl : 0 < cs.length := List.length_pos_iff.mpr h.ne
  unfold low
  rw [List.getElem?_eq_getElem (by omega), List.getD_eq_getElem?_getD, List.getElem?_eq_getElem (by omega)]
  rfl
theorem Coins.le_top {cs : List Nat} (h : Coins cs) {c : Nat} (hc : c ∈ cs) : c ≤ top cs := by
  obtain ⟨i, hi, rfl⟩ := List.getElem_of_mem hc
  have e := h.last
  rw [List.getLast?_eq_getElem?] at e
  obtain ⟨h1, h2⟩ := List.getElem?_eq_some_iff.mp e
  rw [← h2]
  by_cases e : i = cs.length - 1
  · subst e
    exact Nat.le_refl _
  · exact Nat.le_of_lt (List.pairwise_iff_getElem.mp h.up i (cs.length - 1) hi h1 (by omega))
theorem Coins.low_le {cs : List Nat} (h : Coins cs) {c : Nat} (hc : c ∈ cs) : low cs ≤ c := by
  obtain ⟨i, hi, rfl⟩ := List.getElem_of_mem hc
  obtain ⟨h1, h2⟩ := List.getElem?_eq_some_iff.mp h.first
  rw [← h2]
  by_cases e : i = 0
  · subst e
    exact Nat.le_refl _
  · exact Nat.le_of_lt (List.pairwise_iff_getElem.mp h.up 0 i h1 hi (by omega))
theorem Coins.top_ok {cs : List Nat} (h : Coins cs) : 0 < top cs ∧ top cs ≤ 12 := h.pos _ (List.mem_of_getLast? h.last)
theorem Coins.low_ok {cs : List Nat} (h : Coins cs) : 0 < low cs ∧ low cs ≤ 12 := h.pos _ (List.mem_of_getElem? h.first)
theorem Coins.second {cs : List Nat} (h : Coins cs) (h1 : 1 < cs.length) : atI (cs.map vN) (-2) = some (vN (cs.getD (cs.length - 2) 0)) ∧ 0 < cs.getD (cs.length - 2) 0 ∧ cs.getD (cs.length - 2) 0 ≤ 12 := by
  have e : ixN (cs.map vN).length (-2) = some (cs.length - 2) := by
    rw [List.length_map]
    unfold ixN
    rw [if_neg (by decide), if_pos (by omega)]
    congr 1
    omega
  have e2 : cs[cs.length - 2]? = some (cs.getD (cs.length - 2) 0) := by
    rw [List.getD_eq_getElem?_getD, List.getElem?_eq_getElem (by omega)]
    rfl
  refine ⟨?_, h.pos _ (List.mem_of_getElem? e2)⟩
  unfold atI
  rw [e]
  exact vN_map_get e2
section
variable {P : Program} {w : World} {K : PySem.W.Frag} {mg : Str → Option Value} {base : Heap} {C : Addr}
/-- a table got of the coins -/
def spTabOf (K : PySem.W.Frag) (g : List Nat → OT) : Sp := fun vs H Q _ => ∃ (a : Addr) (cs : List Nat), vs = [.ref a] ∧ SqT K H a (cs.map vN) ∧ Coins cs ∧ ∀ H' p, Same H H' → H p = none → H' p = some (.lst ((g cs).map vO)) → Q (.ref p) H'
abbrev sLeastLosses : Stmt := topS 71
theorem scLeastLosses : FnScope ["coins", "greatest", "coin"] ["coins"] (defScope sLeastLosses) := ⟨rfl, rfl, rfl, by decide +kernel, rfl, by decide +kernel, by decide +kernel⟩
theorem ok_least_losses (d_least_costs : DefOk P w K mg base "least_costs" 3 ["size", "steps"] (spCosts K)) (A : At K mg "least_losses" sLeastLosses) : DefOk P w K mg base "least_losses" 4 ["coins"] (spTabOf K lossTab) := by
  refine mkDef A scLeastLosses (fun _ _ _ _ _ _ us hl => match us, hl with | [_], _ => rfl) (by rintro _ _ _ _ ⟨_, _, rfl, _⟩; rfl) fun f cdv A outer s H vs Q E hr h => ?_
  obtain ⟨a, cs, rfl, hq, hC, q⟩ := h
  have hl4 := hC.few
  refine ⟨_, pss_cons (ps_set (i := 1) scLeastLosses.nd rfl (Or.inr rfl) (pe_ix ix_tup (pv 0) (pe_un un_neg (pe_int)) (fun _ _ => rfl)))
      (pss_one (ps_ret (pe_callD d_least_costs hr rfl (pa_cons (pv 1) (pa_cons (pe_lc (own := [("coin", 2)]) (g := gName 2) (tt := tYes) rfl scLeastLosses.nd (pi_tup (pe_slice sl_tupA (pv 0) po_none (po_some (pe_un un_neg (pe_int))))) (blkOk_by (N := ["coins", "greatest", "coin"]) (sc := defScope sLeastLosses) (by decide +kernel)) (fun _ _ _ _ _ => (pg_name (i := 2) scLeastLosses.nd rfl (Or.inl rfl))) (fun _ _ _ _ _ => pts_nil) (fun _ _ _ _ _ => pe_tup (pa_cons (pv 2) (pa_cons (pe_op op_sub (pv 1) (pv 2)) pa_nil)))) pa_nil))))), ?_⟩
  refine ⟨_, rfl, _, rfl, _, _, _, _, rfl, rfl, hq, at_last hC.last, ?_⟩
  refine ⟨_, rfl, _, rfl, _, rfl, _, rfl, slA (ys := (cs.take (cs.length - 1)).map vN) hq (by show cutV _ none (some (-1)) = _; rw [cutV_init, List.length_map, List.map_take]) fun H1 p1 s1 hp1 => ?_⟩
  refine ⟨p1, rfl, ⟨_, hp1⟩, fun D nD => lc_tup (fun j H' => ∃ ys, Same H1 H' ∧ H' D = some (.lst ys) ∧ TupsN K H' ys ((((cs.take (cs.length - 1)).take j).map fun c => (c, top cs - c)).map prL)) ⟨[], same_upd nD, upd_same, .nil⟩ (fun j H' _ ⟨_, s2, _⟩ => s2.seqT hp1) ?_ ?_⟩
  · rintro j x H2 hx ⟨ys, s2, h2, hy⟩
    obtain ⟨c, hci, rfl⟩ := get_of_map hx
    have hct : c ≤ top cs := hC.le_top (List.mem_of_mem_take (List.mem_of_getElem? hci))
    have ly : ys.length ≤ 4 := by
      have := Paired.length hy
      rw [List.length_map, List.length_map, List.length_take, List.length_take] at this
      omega
    refine ⟨rfl, _, rfl, _, rfl, _, rfl, _, _, rfl, rfl, sz _ (by show 2 ≤ 16000000; decide), fun T nT => ?_⟩
    have DT : D ≠ T := ne_of_none h2 nT
    have hD3 : (upd H2 T (.tup [vN c, .int ((top cs : Int) - (c : Int))])) D = some (.lst ys) := by rw [upd_ne DT]; exact h2
    refine ⟨ys, hD3, szl _ (by omega), ys ++ [.ref T], (s2.new nT).mut nD, upd_same, ?_⟩
    rw [List.take_add_one, hci, List.map_append, List.map_append]
    refine papp ((TupsN.mono (same_upd nT) hy).put hD3) (pone ⟨T, rfl, SqT.of ?_⟩)
    rw [upd_ne (Ne.symm DT), upd_same]
    have e : (top cs : Int) - (c : Int) = ((top cs - c : Nat) : Int) := by omega
    show some (HO.tup [vN c, V.int ((top cs : Int) - (c : Int))]) = _
    rw [e]
    rfl
  · rintro H2 ⟨ys, s2, h2, hy⟩
    rw [List.length_map, List.take_length] at hy
    refine ⟨top cs, D, ys, (cs.take (cs.length - 1)).map fun c => (c, top cs - c), rfl, hC.top_ok.1, hC.top_ok.2, SqL.of h2, hy, ?_, fun H3 p s3 n3 h3 => ?_⟩
    · rintro sk hsk
      obtain ⟨c, hc, rfl⟩ := List.mem_map.mp hsk
      exact (hC.pos c (List.mem_of_mem_take hc)).2
    · exact q H3 p ((s1.trans s2).trans s3) ((s1.trans s2).free n3) h3
abbrev sLeastGains : Stmt := topS 72
theorem scLeastGains : FnScope ["coins", "least_one", "coin"] ["coins"] (defScope sLeastGains) := ⟨rfl, rfl, rfl, by decide +kernel, rfl, by decide +kernel, by decide +kernel⟩
theorem ok_least_gains (B : Bl mg) (d_least_costs : DefOk P w K mg base "least_costs" 3 ["size", "steps"] (spCosts K)) (A : At K mg "least_gains" sLeastGains) : DefOk P w K mg base "least_gains" 4 ["coins"] (spTabOf K gainTab) := by
  refine mkDef A scLeastGains (fun _ _ _ _ _ _ us hl => match us, hl with | [_], _ => rfl) (by rintro _ _ _ _ ⟨_, _, rfl, _⟩; rfl) fun f cdv A outer s H vs Q E hr h => ?_
  obtain ⟨a, cs, rfl, hq, hC, q⟩ := h
  have hl4 := hC.few
  have l0 := hC.low_ok
  have hmap : (cs.map vN).drop 1 = (cs.drop 1).map vN := List.map_drop.symm
  refine ⟨_, pss_cons (ps_set (i := 1) scLeastGains.nd rfl (Or.inr rfl) (pe_ix ix_tup (pv 0) (pe_int) (fun _ _ => rfl)))
      (pss_one (ps_ret (pe_callD d_least_costs hr rfl (pa_cons (pv 1) (pa_cons (pe_lc (own := [("coin", 2)]) (g := gName 2) (tt := tYes) rfl scLeastGains.nd (pi_tup (pe_slice sl_tupA (pv 0) (po_some (pe_int)) po_none)) (blkOk_by (N := ["coins", "least_one", "coin"]) (sc := defScope sLeastGains) (by decide +kernel)) (fun _ _ _ _ _ => (pg_name (i := 2) scLeastGains.nd rfl (Or.inl rfl))) (fun _ _ _ _ _ => pts_nil) (fun _ _ _ _ _ => pe_tup (pa_cons (pe_op op_mod (pe_callTy call_int1 (by rfl) B.z_int (by decide +kernel) (pa_cons (pv 2) pa_nil)) (pv 1)) (pa_cons (pe_op op_sub (pv 2) (pv 1)) pa_nil)))) pa_nil))))), ?_⟩
  refine ⟨_, rfl, _, _, _, _, rfl, rfl, hq, at_of (j := 0) rfl (vN_map_get hC.first), ?_⟩
  refine ⟨_, rfl, _, rfl, _, rfl, noPart (slA (ys := (cs.drop 1).map vN) hq ((cutV_from _ (k := 1) rfl).trans hmap) fun H1 p1 s1 hp1 => ?_)⟩
  refine ⟨p1, rfl, ⟨_, hp1⟩, fun D nD => lc_tup (fun j H' => ∃ ys, Same H1 H' ∧ H' D = some (.lst ys) ∧ TupsN K H' ys ((((cs.drop 1).take j).map fun c => (c % low cs, c - low cs)).map prL)) ⟨[], same_upd nD, upd_same, .nil⟩ (fun j H' _ ⟨_, s2, _⟩ => s2.seqT hp1) ?_ ?_⟩
  · rintro j x H2 hx ⟨ys, s2, h2, hy⟩
    obtain ⟨c, hci, rfl⟩ := get_of_map hx
    have hct : low cs ≤ c := hC.low_le (List.mem_of_mem_drop (List.mem_of_getElem? hci))
    have ly : ys.length ≤ 4 := by
      have := Paired.length hy
      rw [List.length_map, List.length_map, List.length_take, List.length_drop] at this
      omega
    refine ⟨rfl, _, rfl, .inl ⟨_, rfl, _, rfl, _, _, rfl, rfl, (by omega), _, rfl, _, rfl, _, _, rfl, rfl, sz _ (by show 2 ≤ 16000000; decide), fun T nT => ?_⟩⟩
    have DT : D ≠ T := ne_of_none h2 nT
    have hD3 : (upd H2 T (.tup [.int ((c : Int) % (low cs : Int)), .int ((c : Int) - (low cs : Int))])) D = some (.lst ys) := by rw [upd_ne DT]; exact h2
    refine ⟨ys, hD3, szl _ (by omega), ys ++ [.ref T], (s2.new nT).mut nD, upd_same, ?_⟩
    rw [List.take_add_one, hci, List.map_append, List.map_append]
    refine papp ((TupsN.mono (same_upd nT) hy).put hD3) (pone ⟨T, rfl, SqT.of ?_⟩)
    rw [upd_ne (Ne.symm DT), upd_same]
    have e : (c : Int) - (low cs : Int) = ((c - low cs : Nat) : Int) := by omega
    show some (HO.tup [vN (c % low cs), V.int ((c : Int) - (low cs : Int))]) = _
    rw [e]
    rfl
  · rintro H2 ⟨ys, s2, h2, hy⟩
    rw [List.length_map, List.take_length] at hy
    refine ⟨low cs, D, ys, (cs.drop 1).map fun c => (c % low cs, c - low cs), rfl, l0.1, l0.2, SqL.of h2, hy, ?_, fun H3 p s3 n3 h3 => ?_⟩
    · rintro sk hsk
      obtain ⟨c, hc, rfl⟩ := List.mem_map.mp hsk
      have := Nat.mod_lt c l0.1
      show c % low cs ≤ 12
      omega
    · exact q H3 p ((s1.trans s2).trans s3) ((s1.trans s2).free n3) h3
def spNum (K : PySem.W.Frag) (g : List Nat → Nat) : Sp := fun vs H Q _ => ∃ (a : Addr) (cs : List Nat), vs = [.ref a] ∧ SqT K H a (cs.map vN) ∧ Coins cs ∧ ∀ H', Same H H' → Q (vN (g cs)) H'
abbrev sLeastBound : Stmt := topS 73
theorem scLeastBound : FnScope ["coins"] ["coins"] (defScope sLeastBound) := ⟨rfl, rfl, rfl, by decide +kernel, rfl, by decide +kernel, by decide +kernel⟩
theorem ok_least_bound (B : Bl mg) (A : At K mg "least_bound" sLeastBound) : DefOk P w K mg base "least_bound" 1 ["coins"] (spNum K lBound) := by
  refine mkDef A scLeastBound (fun _ _ _ _ _ _ us hl => match us, hl with | [_], _ => rfl) (by rintro _ _ _ _ ⟨_, _, rfl, _⟩; rfl) fun f cdv A outer s H vs Q E hr h => ?_
  obtain ⟨a, cs, rfl, hq, hC, q⟩ := h
  have q := q H (Same.refl H)
  unfold lBound at q
  have t0 := hC.top_ok
  refine ⟨_, pss_one (ps_ret (pe_ifExp (pt_cmpR op_gt (pe_callB call_len_seq (by rfl) B.z_len (by decide +kernel) (pa_cons (pv 0) pa_nil)) (pe_int) (nomark _)) (pe_op op_mul (pe_op op_sub (pe_ix ix_tup (pv 0) (pe_un un_neg (pe_int)) (fun _ _ => rfl)) (pe_int)) (pe_ix ix_tup (pv 0) (pe_un un_neg (pe_int)) (fun _ _ => rfl))) (pe_int))), ?_⟩
  refine ⟨_, rfl, a, _, rfl, .inr hq, _, _, rfl, rfl, _, rfl, ?_⟩
  rw [List.length_map]
  by_cases h1 : 1 < cs.length
  · rw [if_pos h1] at q
    obtain ⟨e2, e3, e4⟩ := hC.second h1
    rw [decide_eq_true (show (1 : Int) < (cs.length : Int) by omega)]
    refine iteT ⟨_, rfl, _, rfl, _, _, _, _, rfl, rfl, hq, at_last hC.last, _, _, rfl, rfl, _, rfl, _, rfl, _, _, _, _, rfl, rfl, hq, e2, _, _, rfl, rfl, .inl ⟨by omega, by omega⟩, ?_⟩
    have e5 : (top cs : Int) - 1 = ((top cs - 1 : Nat) : Int) := by omega
    show Q (.int (((top cs : Int) - 1) * ((cs.getD (cs.length - 2) 0 : Nat) : Int))) H
    rw [e5]
    exact q
  · rw [if_neg h1] at q
    rw [decide_eq_false (show ¬ (1 : Int) < (cs.length : Int) by omega)]
    exact iteF q
abbrev sMostBound : Stmt := topS 74
theorem scMostBound : FnScope ["coins"] ["coins"] (defScope sMostBound) := ⟨rfl, rfl, rfl, by decide +kernel, rfl, by decide +kernel, by decide +kernel⟩
theorem ok_most_bound (B : Bl mg) (A : At K mg "most_bound" sMostBound) : DefOk P w K mg base "most_bound" 1 ["coins"] (spNum K mBound) := by
  refine mkDef A scMostBound (fun _ _ _ _ _ _ us hl => match us, hl with | [_], _ => rfl) (by rintro _ _ _ _ ⟨_, _, rfl, _⟩; rfl) fun f cdv A outer s H vs Q E hr h => ?_
  obtain ⟨a, cs, rfl, hq, hC, q⟩ := h
  have q := q H (Same.refl H)
  unfold mBound at q
  have t0 := hC.top_ok
  have l0 := hC.low_ok
  refine ⟨_, pss_one (ps_ret (pe_ifExp (pt_cmpR op_gt (pe_callB call_len_seq (by rfl) B.z_len (by decide +kernel) (pa_cons (pv 0) pa_nil)) (pe_int) (nomark _)) (pe_op op_mul (pe_op op_sub (pe_ix ix_tup (pv 0) (pe_int) (fun _ _ => rfl)) (pe_int)) (pe_ix ix_tup (pv 0) (pe_un un_neg (pe_int)) (fun _ _ => rfl))) (pe_int))), ?_⟩
  refine ⟨_, rfl, a, _, rfl, .inr hq, _, _, rfl, rfl, _, rfl, ?_⟩
  rw [List.length_map]
  by_cases h1 : 1 < cs.length
  · rw [if_pos h1] at q
    rw [decide_eq_true (show (1 : Int) < (cs.length : Int) by omega)]
    refine iteT ⟨_, rfl, _, _, _, _, rfl, rfl, hq, at_of (j := 0) rfl (vN_map_get hC.first), _, _, rfl, rfl, _, rfl, _, rfl, _, _, _, _, rfl, rfl, hq, at_last hC.last, _, _, rfl, rfl, .inl ⟨by omega, by omega⟩, ?_⟩
    have e5 : (low cs : Int) - 1 = ((low cs - 1 : Nat) : Int) := by omega
    show Q (.int (((low cs : Int) - 1) * (top cs : Int))) H
    rw [e5]
    exact q
  · rw [if_neg h1] at q
    rw [decide_eq_false (show ¬ (1 : Int) < (cs.length : Int) by omega)]
    exact iteF q
def spLenOf (K : PySem.W.Frag) (g : List Nat → Nat → Option Nat) : Sp := fun vs H Q _ => ∃ (a : Addr) (cs : List Nat) (t : Nat), vs = [.ref a, vN t] ∧ SqT K H a (cs.map vN) ∧ Coins cs ∧ t ≤ 400 ∧ LenOk cs t ∧ ∀ H', Same H H' → Q (vO (g cs t)) H'
theorem lossTab_len {cs : List Nat} (h : Coins cs) : (lossTab cs).length = top cs := costTab_len h.top_ok.1 _ _ (start_len h.top_ok.1)
theorem gainTab_len {cs : List Nat} (h : Coins cs) : (gainTab cs).length = low cs := costTab_len h.low_ok.1 _ _ (start_len h.low_ok.1)
abbrev sLeastLength : Stmt := topS 75
theorem scLeastLength : FnScope ["coins", "amount"] ["coins", "amount"] (defScope sLeastLength) := ⟨rfl, rfl, rfl, by decide +kernel, rfl, by decide +kernel, by decide +kernel⟩
theorem ok_least_length (B : Bl mg) (d_is_paid_by : DefOk P w K mg base "is_paid_by" 3 ["coins", "amount"] (spPaidBy K)) (d_least_bound : DefOk P w K mg base "least_bound" 1 ["coins"] (spNum K lBound)) (d_least_lengths : DefOk P w K mg base "least_lengths" 1 ["coins", "most"] (spLengths K minLen)) (d_least_losses : DefOk P w K mg base "least_losses" 4 ["coins"] (spTabOf K lossTab)) (A : At K mg "least_length" sLeastLength) : DefOk P w K mg base "least_length" 5 ["coins", "amount"] (spLenOf K leastLen) := by
  refine mkDef A scLeastLength (fun _ _ _ _ _ _ us hl => match us, hl with | [_, _], _ => rfl) (by rintro _ _ _ _ ⟨_, _, _, rfl, _⟩; rfl) fun f cdv A outer s H vs Q E hr h => ?_
  obtain ⟨a, cs, t, rfl, hq, hC, ht, hok, q⟩ := h
  have t0 := hC.top_ok
  unfold leastLen at q
  refine ⟨_, pss_cons (ps_if (pt_not (pt_val (pe_callD d_is_paid_by hr rfl (pa_cons (pv 0) (pa_cons (pv 1) pa_nil)))))
        (pss_one (ps_ret (pe_non)))
        (pss_nil))
      (pss_cons (ps_if (pt_cmpR op_lt (pv 1) (pe_callD d_least_bound hr rfl (pa_cons (pv 0) pa_nil)) (nomark _))
        (pss_one (ps_ret (pe_ix ix_list (pe_callD d_least_lengths hr rfl (pa_cons (pv 0) (pa_cons (pv 1) pa_nil))) (pv 1) (fun _ _ => rfl))))
        (pss_nil))
      (pss_one (ps_ret (pe_op op_fdiv (pe_op op_add (pv 1) (pe_ix ix_list (pe_callD d_least_losses hr rfl (pa_cons (pv 0) pa_nil)) (pe_op op_mod (pe_callTy call_int1 (by rfl) B.z_int (by decide +kernel) (pa_cons (pv 1) pa_nil)) (pe_ix ix_tup (pv 0) (pe_un un_neg (pe_int)) (fun _ _ => rfl))) (fun _ _ => rfl))) (pe_ix ix_tup (pv 0) (pe_un un_neg (pe_int)) (fun _ _ => rfl)))))), ?_⟩
  refine ⟨_, rfl, _, rfl, a, cs, t, rfl, hq, hC, fun H1 s1 => ⟨_, rfl, ?_⟩⟩
  by_cases hp : isPaid cs t = true
  · rw [if_pos hp] at q
    rw [hp]
    refine iteF ⟨_, rfl, _, rfl, a, cs, rfl, s1.seqT hq, hC, fun H2 s2 => ⟨_, _, rfl, rfl, _, rfl, ?_⟩⟩
    have s12 : Same H H2 := s1.trans s2
    by_cases hb : t < lBound cs
    · rw [if_pos hb] at q
      rw [decide_eq_true (show (t : Int) < (lBound cs : Int) by omega)]
      refine iteT ⟨_, rfl, _, rfl, a, cs, t, rfl, s12.seqT hq, hC.pos, hC.few, ht, fun H3 p s3 n3 h3 => ?_⟩
      exact ⟨_, rfl, _, _, _, _, rfl, rfl, SqL.of h3, tab_at (i := t) rfl (by omega), q H3 (s12.trans s3)⟩
    · rw [if_neg hb] at q
      rw [decide_eq_false (show ¬ (t : Int) < (lBound cs : Int) by omega)]
      obtain ⟨v, hv⟩ := hok.lo hp hb
      rw [hv] at q
      refine iteF ⟨_, rfl, _, rfl, a, cs, rfl, s12.seqT hq, hC, fun H3 p s3 n3 h3 => ?_⟩
      have hq3 := (s12.trans s3).seqT hq
      have aL : atI ((lossTab cs).map vO) ((t : Int) % (top cs : Int)) = some (vO ((lossTab cs).getD (t % top cs) none)) := atO (i := t % top cs) rfl (by rw [lossTab_len hC]; exact Nat.mod_lt _ t0.1)
      rw [hv] at aL
      refine ⟨_, rfl, .inl ⟨_, rfl, _, rfl, _, rfl, _, _, _, _, rfl, rfl, hq3, at_last hC.last, _, _, rfl, rfl, (by omega), _, _, _, _, rfl, rfl, SqL.of h3, aL, _, _, rfl, rfl, _, rfl, _, rfl, _, _, _, _, rfl, rfl, hq3, at_last hC.last, _, _, rfl, rfl, ⟨by omega, by omega⟩, ?_⟩⟩
      exact q H3 (s12.trans s3)
  · rw [if_neg hp] at q
    have : isPaid cs t = false := by simpa using hp
    rw [this]
    exact iteT (q H1 s1)
abbrev sMostLength : Stmt := topS 76
theorem scMostLength : FnScope ["coins", "amount"] ["coins", "amount"] (defScope sMostLength) := ⟨rfl, rfl, rfl, by decide +kernel, rfl, by decide +kernel, by decide +kernel⟩
theorem ok_most_length (B : Bl mg) (d_is_paid_by : DefOk P w K mg base "is_paid_by" 3 ["coins", "amount"] (spPaidBy K)) (d_most_bound : DefOk P w K mg base "most_bound" 1 ["coins"] (spNum K mBound)) (d_most_lengths : DefOk P w K mg base "most_lengths" 1 ["coins", "most"] (spLengths K maxLen)) (d_least_gains : DefOk P w K mg base "least_gains" 4 ["coins"] (spTabOf K gainTab)) (A : At K mg "most_length" sMostLength) : DefOk P w K mg base "most_length" 5 ["coins", "amount"] (spLenOf K mostLen) := by
  refine mkDef A scMostLength (fun _ _ _ _ _ _ us hl => match us, hl with | [_, _], _ => rfl) (by rintro _ _ _ _ ⟨_, _, _, rfl, _⟩; rfl) fun f cdv A outer s H vs Q E hr h => ?_
  obtain ⟨a, cs, t, rfl, hq, hC, ht, hok, q⟩ := h
  have l0 := hC.low_ok
  unfold mostLen at q
  refine ⟨_, pss_cons (ps_if (pt_not (pt_val (pe_callD d_is_paid_by hr rfl (pa_cons (pv 0) (pa_cons (pv 1) pa_nil)))))
        (pss_one (ps_ret (pe_non)))
        (pss_nil))
      (pss_cons (ps_if (pt_cmpR op_lt (pv 1) (pe_callD d_most_bound hr rfl (pa_cons (pv 0) pa_nil)) (nomark _))
        (pss_one (ps_ret (pe_ix ix_list (pe_callD d_most_lengths hr rfl (pa_cons (pv 0) (pa_cons (pv 1) pa_nil))) (pv 1) (fun _ _ => rfl))))
        (pss_nil))
      (pss_one (ps_ret (pe_op op_fdiv (pe_op op_sub (pv 1) (pe_ix ix_list (pe_callD d_least_gains hr rfl (pa_cons (pv 0) pa_nil)) (pe_op op_mod (pe_callTy call_int1 (by rfl) B.z_int (by decide +kernel) (pa_cons (pv 1) pa_nil)) (pe_ix ix_tup (pv 0) (pe_int) (fun _ _ => rfl))) (fun _ _ => rfl))) (pe_ix ix_tup (pv 0) (pe_int) (fun _ _ => rfl)))))), ?_⟩
  refine ⟨_, rfl, _, rfl, a, cs, t, rfl, hq, hC, fun H1 s1 => ⟨_, rfl, ?_⟩⟩
  by_cases hp : isPaid cs t = true
  · rw [if_pos hp] at q
    rw [hp]
    refine iteF ⟨_, rfl, _, rfl, a, cs, rfl, s1.seqT hq, hC, fun H2 s2 => ⟨_, _, rfl, rfl, _, rfl, ?_⟩⟩
    have s12 : Same H H2 := s1.trans s2
    by_cases hb : t < mBound cs
    · rw [if_pos hb] at q
      rw [decide_eq_true (show (t : Int) < (mBound cs : Int) by omega)]
      refine iteT ⟨_, rfl, _, rfl, a, cs, t, rfl, s12.seqT hq, hC.pos, hC.few, ht, fun H3 p s3 n3 h3 => ?_⟩
      exact ⟨_, rfl, _, _, _, _, rfl, rfl, SqL.of h3, tab_at (i := t) rfl (by omega), q H3 (s12.trans s3)⟩
    · rw [if_neg hb] at q
      rw [decide_eq_false (show ¬ (t : Int) < (mBound cs : Int) by omega)]
      obtain ⟨v, hv, hvt⟩ := hok.hi hp hb
      rw [hv] at q
      refine iteF ⟨_, rfl, _, rfl, a, cs, rfl, s12.seqT hq, hC, fun H3 p s3 n3 h3 => ?_⟩
      have hq3 := (s12.trans s3).seqT hq
      have af : atI (cs.map vN) 0 = some (vN (low cs)) := at_of (j := 0) rfl (vN_map_get hC.first)
      have aL : atI ((gainTab cs).map vO) ((t : Int) % (low cs : Int)) = some (vO ((gainTab cs).getD (t % low cs) none)) := atO (i := t % low cs) rfl (by rw [gainTab_len hC]; exact Nat.mod_lt _ l0.1)
      rw [hv] at aL
      refine ⟨_, rfl, .inl ⟨_, rfl, _, rfl, _, _, _, _, rfl, rfl, hq3, af, _, _, rfl, rfl, (by omega), _, _, _, _, rfl, rfl, SqL.of h3, aL, _, _, rfl, rfl, _, rfl, _, _, _, _, rfl, rfl, hq3, af, _, _, rfl, rfl, ⟨by omega, by omega⟩, ?_⟩⟩
      have e : (t : Int) - (v : Int) = ((t - v : Nat) : Int) := by omega
      show Q (.int (((t : Int) - (v : Int)) / (low cs : Int))) H3
      rw [e]
      exact q H3 (s12.trans s3)
  · rw [if_neg hp] at q
    have : isPaid cs t = false := by simpa using hp
    rw [this]
    exact iteT (q H1 s1)
def spLen (K : PySem.W.Frag) (C : Addr) (g : List Nat → Nat → Option Nat) : Sp := fun vs H Q _ => ∃ (v : V) (cs : List Nat) (t : Nat), vs = [v, vN t] ∧ LotN K C H v cs ∧ Coins cs ∧ t ≤ 400 ∧ LenOk cs t ∧ ∀ H', Same H H' → Q (vO (g cs t)) H'
abbrev sLeast : Stmt := topS 77
theorem scLeast : FnScope ["lot", "amount"] ["lot", "amount"] (defScope sLeast) := ⟨rfl, rfl, rfl, by decide +kernel, rfl, by decide +kernel, by decide +kernel⟩
theorem ok_least (G : LotG P w K mg base C) (d_check_lot : DefOk P w K mg base "check_lot" 1 ["value"] (spCheckLot K C)) (d_check_amount : DefOk P w K mg base "check_amount" 3 ["value"] (spCheck 0 (10 ^ 30))) (d_least_length : DefOk P w K mg base "least_length" 5 ["coins", "amount"] (spLenOf K leastLen)) (A : At K mg "least" sLeast) : DefOk P w K mg base "least" 6 ["lot", "amount"] (spLen K C leastLen) := by
  refine mkDef A scLeast (fun _ _ _ _ _ _ us hl => match us, hl with | [_, _], _ => rfl) (by rintro _ _ _ _ ⟨_, _, _, rfl, _⟩; rfl) fun f cdv A outer s H vs Q E hr h => ?_
  obtain ⟨v, cs, t, rfl, hL, hC, ht, hok, q⟩ := h
  obtain ⟨a, dx, c, rfl, h1, h2⟩ := id hL
  refine ⟨_, pss_cons (ps_expr (pe_callD d_check_lot hr rfl (pa_cons (pv 0) pa_nil)))
      (pss_cons (ps_expr (pe_callD d_check_amount hr rfl (pa_cons (pv 1) pa_nil)))
      (pss_one (ps_ret (pe_callD d_least_length hr rfl (pa_cons (pe_coins G hr (pv 0)) (pa_cons (pv 1) pa_nil)))))), ?_⟩
  exact ⟨_, rfl, _, cs, rfl, hL, _, rfl, _, rfl, by omega, by omega, _, rfl, a, dx, _, rfl, h1, _, rfl, c, cs, t, rfl, h2, hC, ht, hok, q⟩
abbrev sMost : Stmt := topS 78
theorem scMost : FnScope ["lot", "amount"] ["lot", "amount"] (defScope sMost) := ⟨rfl, rfl, rfl, by decide +kernel, rfl, by decide +kernel, by decide +kernel⟩
theorem ok_most (G : LotG P w K mg base C) (d_check_lot : DefOk P w K mg base "check_lot" 1 ["value"] (spCheckLot K C)) (d_check_amount : DefOk P w K mg base "check_amount" 3 ["value"] (spCheck 0 (10 ^ 30))) (d_most_length : DefOk P w K mg base "most_length" 5 ["coins", "amount"] (spLenOf K mostLen)) (A : At K mg "most" sMost) : DefOk P w K mg base "most" 6 ["lot", "amount"] (spLen K C mostLen) := by
  refine mkDef A scMost (fun _ _ _ _ _ _ us hl => match us, hl with | [_, _], _ => rfl) (by rintro _ _ _ _ ⟨_, _, _, rfl, _⟩; rfl) fun f cdv A outer s H vs Q E hr h => ?_
  obtain ⟨v, cs, t, rfl, hL, hC, ht, hok, q⟩ := h
  obtain ⟨a, dx, c, rfl, h1, h2⟩ := id hL
  refine ⟨_, pss_cons (ps_expr (pe_callD d_check_lot hr rfl (pa_cons (pv 0) pa_nil)))
      (pss_cons (ps_expr (pe_callD d_check_amount hr rfl (pa_cons (pv 1) pa_nil)))
      (pss_one (ps_ret (pe_callD d_most_length hr rfl (pa_cons (pe_coins G hr (pv 0)) (pa_cons (pv 1) pa_nil)))))), ?_⟩
  exact ⟨_, rfl, _, cs, rfl, hL, _, rfl, _, rfl, by omega, by omega, _, rfl, a, dx, _, rfl, h1, _, rfl, c, cs, t, rfl, h2, hC, ht, hok, q⟩
def spTabT (K : PySem.W.Frag) (C : Addr) (g : List Nat → OT) : Sp := fun vs H Q _ => ∃ (v : V) (cs : List Nat), vs = [v] ∧ LotN K C H v cs ∧ Coins cs ∧ ∀ H' p, Same H H' → H' p = some (.tup ((g cs).map vO)) → Q (.ref p) H'
abbrev sLosses : Stmt := topS 80
theorem scLosses : FnScope ["lot"] ["lot"] (defScope sLosses) := ⟨rfl, rfl, rfl, by decide +kernel, rfl, by decide +kernel, by decide +kernel⟩
theorem ok_losses (B : Bl mg) (G : LotG P w K mg base C) (d_check_lot : DefOk P w K mg base "check_lot" 1 ["value"] (spCheckLot K C)) (d_least_losses : DefOk P w K mg base "least_losses" 4 ["coins"] (spTabOf K lossTab)) (A : At K mg "losses" sLosses) : DefOk P w K mg base "losses" 5 ["lot"] (spTabT K C lossTab) := by
  refine mkDef A scLosses (fun _ _ _ _ _ _ us hl => match us, hl with | [_], _ => rfl) (by rintro _ _ _ _ ⟨_, _, rfl, _⟩; rfl) fun f cdv A outer s H vs Q E hr h => ?_
  obtain ⟨v, cs, rfl, hL, hC, q⟩ := h
  obtain ⟨a, dx, c, rfl, h1, h2⟩ := id hL
  refine ⟨_, pss_cons (ps_expr (pe_callD d_check_lot hr rfl (pa_cons (pv 0) pa_nil)))
      (pss_one (ps_ret (pe_callTy cr_tupOf (by rfl) B.z_tuple (by decide +kernel) (pa_cons (pe_callD d_least_losses hr rfl (pa_cons (pe_coins G hr (pv 0)) pa_nil)) pa_nil)))), ?_⟩
  exact ⟨_, rfl, _, cs, rfl, hL, _, rfl, a, dx, _, rfl, h1, c, cs, rfl, h2, hC, fun H1 p s1 n1 hp => ⟨p, _, rfl, .inl ⟨SqL.of hp, fun l nl => q _ _ (s1.new nl) upd_same⟩⟩⟩
abbrev sGains : Stmt := topS 81
theorem scGains : FnScope ["lot"] ["lot"] (defScope sGains) := ⟨rfl, rfl, rfl, by decide +kernel, rfl, by decide +kernel, by decide +kernel⟩
theorem ok_gains (B : Bl mg) (G : LotG P w K mg base C) (d_check_lot : DefOk P w K mg base "check_lot" 1 ["value"] (spCheckLot K C)) (d_least_gains : DefOk P w K mg base "least_gains" 4 ["coins"] (spTabOf K gainTab)) (A : At K mg "gains" sGains) : DefOk P w K mg base "gains" 5 ["lot"] (spTabT K C gainTab) := by
  refine mkDef A scGains (fun _ _ _ _ _ _ us hl => match us, hl with | [_], _ => rfl) (by rintro _ _ _ _ ⟨_, _, rfl, _⟩; rfl) fun f cdv A outer s H vs Q E hr h => ?_
  obtain ⟨v, cs, rfl, hL, hC, q⟩ := h
  obtain ⟨a, dx, c, rfl, h1, h2⟩ := id hL
  refine ⟨_, pss_cons (ps_expr (pe_callD d_check_lot hr rfl (pa_cons (pv 0) pa_nil)))
      (pss_one (ps_ret (pe_callTy cr_tupOf (by rfl) B.z_tuple (by decide +kernel) (pa_cons (pe_callD d_least_gains hr rfl (pa_cons (pe_coins G hr (pv 0)) pa_nil)) pa_nil)))), ?_⟩
  exact ⟨_, rfl, _, cs, rfl, hL, _, rfl, a, dx, _, rfl, h1, c, cs, rfl, h2, hC, fun H1 p s1 n1 hp => ⟨p, _, rfl, .inl ⟨SqL.of hp, fun l nl => q _ _ (s1.new nl) upd_same⟩⟩⟩
end
end Cn
/-! All lengths, by dicts. -/
namespace Mp
theorem nodup_lt_len : ∀ (n : Nat) (l : List Nat), l.Nodup → (∀ x ∈ l, x < n) → l.length ≤ n
  | 0, [], _, _ => Nat.le_refl _
  | 0, x :: l, _, h => absurd (h x List.mem_cons_self) (Nat.not_lt_zero x)
  | n + 1, l, hd, h => by
    have h1 := nodup_lt_len n (l.erase n) (hd.erase n) fun x hx => by
      have h2 := (List.Nodup.mem_erase_iff hd).mp hx
      have := h x h2.2
      omega
    rw [List.length_erase] at h1
    split at h1 <;> omega
theorem sum_le_val : ∀ {cs p : List Nat}, (∀ c ∈ cs, 0 < c) → p.length = cs.length → p.sum ≤ val cs p
  | [], [], _, _ => Nat.le_refl _
  | [], _ :: _, _, h => by simp at h
  | _ :: _, [], _, h => by simp at h
  | c :: cs, k :: p, hp, h => by
    have h1 := sum_le_val (cs := cs) (p := p) (fun d hd => hp d (List.mem_cons_of_mem _ hd)) (by simpa using h)
    have h2 : 1 * k ≤ c * k := Nat.mul_le_mul_right k (hp c List.mem_cons_self)
    rw [List.sum_cons]
    show k + p.sum ≤ c * k + val cs p
    omega
theorem lens_le {cs : List Nat} (hp : ∀ c ∈ cs, 0 < c) {t n : Nat} (h : n ∈ lens cs t) : n ≤ t := by
  obtain ⟨p, h1, h2, rfl⟩ := (mem_lens hp).mp h
  rw [← h2]
  exact sum_le_val hp h1
def addS (ks : List Nat) (n : Nat) : List Nat := if n ∈ ks then ks else ks ++ [n]
theorem mem_addS {ks : List Nat} {n m : Nat} : m ∈ addS ks n ↔ m ∈ ks ∨ m = n := by
  unfold addS
  split
  · rename_i h
    constructor
    · exact .inl
    · rintro (h1 | rfl)
      · exact h1
      · exact h
  · rw [List.mem_append, List.mem_singleton]
theorem addS_nodup {ks : List Nat} {n : Nat} (h : ks.Nodup) : (addS ks n).Nodup := by
  unfold addS
  split
  · exact h
  · rename_i h1
    rw [List.nodup_append]
    exact ⟨h, by simp, fun a ha b hb => by
      rw [List.mem_singleton] at hb
      subst hb
      rintro rfl
      exact h1 ha⟩
end Mp
namespace Cn
open PySem PySem.Spec PyProof.Rows L2 RZ StX Mp
abbrev kN (n : Nat) : Key := Sum.inl (n : Int)
theorem kN_mem {kvs : List (Key × V)} {ks : List Nat} (h : kvs.map (·.1) = ks.map kN) (n : Nat) : (kvs.any fun kv => decide (kv.1 = kN n)) = true ↔ n ∈ ks := by
  rw [List.any_eq_true]
  constructor
  · rintro ⟨kv, h1, h2⟩
    have h3 : kv.1 ∈ kvs.map (·.1) := List.mem_map.mpr ⟨kv, h1, rfl⟩
    rw [h, of_decide_eq_true h2] at h3
    obtain ⟨m, hm, e⟩ := List.mem_map.mp h3
    have : (m : Int) = (n : Int) := Sum.inl.inj e
    rw [show n = m by omega]
    exact hm
  · intro hn
    have h3 : kN n ∈ kvs.map (·.1) := by
      rw [h]
      exact List.mem_map.mpr ⟨n, hn, rfl⟩
    obtain ⟨kv, h1, h2⟩ := List.mem_map.mp h3
    exact ⟨kv, h1, decide_eq_true h2⟩
theorem put_keys {kvs : List (Key × V)} {ks : List Nat} (h : kvs.map (·.1) = ks.map kN) (n : Nat) (v : V) : (putK kvs (kN n) v).map (·.1) = (addS ks n).map kN := by
  unfold putK addS
  by_cases hn : n ∈ ks
  · rw [if_pos ((kN_mem h n).mpr hn), if_pos hn, List.map_map, ← h]
    apply List.map_congr_left
    intro kv _
    show (if kv.1 = kN n then (kv.1, v) else kv).1 = kv.1
    split <;> rfl
  · rw [if_neg (fun z => hn ((kN_mem h n).mp z)), if_neg hn, List.map_append, List.map_append, h]
    rfl
/-- a dict with these keys -/
def DicN (H : Hp) (v : V) (S : Nat → Prop) : Prop := ∃ (d : Addr) (kvs : List (Key × V)) (ks : List Nat), v = .ref d ∧ H d = some (.dK kvs) ∧ kvs.map (·.1) = ks.map kN ∧ ks.Nodup ∧ ∀ n, n ∈ ks ↔ S n
theorem DicN.mono {H H' : Hp} {v : V} {S : Nat → Prop} (s : Same H H') (h : DicN H v S) : DicN H' v S := by
  obtain ⟨d, kvs, ks, e, h1, h2⟩ := h
  exact ⟨d, kvs, ks, e, s _ _ h1, h2⟩
theorem DicN.put {H : Hp} {v : V} {S : Nat → Prop} {p : Addr} {l : List V} {o : HO} (hp : H p = some (.lst l)) (h : DicN H v S) : DicN (upd H p o) v S := by
  obtain ⟨d, kvs, ks, e, h1, h2⟩ := h
  exact ⟨d, kvs, ks, e, by rw [upd_ne (ne_of h1 hp (by intro z; cases z))]; exact h1, h2⟩
def DicsN (H : Hp) (cs : List Nat) (xs : List V) : Prop := ∀ i x, xs[i]? = some x → DicN H x fun n => n ∈ lens cs i
theorem upd3 {H : Hp} {d e : Addr} {X U F : HO} (he : H e = some U) (hde : d ≠ e) : upd (upd (upd H e F) d X) e U = upd H d X := by
  funext a
  by_cases h1 : a = e
  · subst h1
    rw [upd_same, upd_ne (Ne.symm hde), he]
  · rw [upd_ne h1]
    by_cases h2 : a = d
    · subst h2
      rw [upd_same, upd_same]
    · rw [upd_ne h2, upd_ne h2, upd_ne h1]
section
variable {P : Program} {w : World} {K : PySem.W.Frag} {mg : Str → Option Value} {base : Heap} {C : Addr}
abbrev sLengths : Stmt := topS 79
theorem scLengths : FnScope ["lot", "small", "table", "total", "found", "coin", "length"] ["lot", "small"] (defScope sLengths) := ⟨rfl, rfl, rfl, by decide +kernel, rfl, by decide +kernel, by decide +kernel⟩
def spLengthsT (K : PySem.W.Frag) (C : Addr) : Sp := fun vs H Q _ => ∃ (v : V) (cs : List Nat) (t : Nat), vs = [v, vN t] ∧ LotN K C H v cs ∧ Coins cs ∧ t ≤ 60 ∧
  ∀ H' u ns, Same H H' → TupN K H' u ns → ns.Pairwise (· < ·) → (∀ n, n ∈ ns ↔ n ∈ lens cs t) → Q u H'
theorem ints_back {ys : List Int} {ks : List Nat} (h : ys.Perm (ks.map fun n : Nat => (n : Int))) (hn : ks.Nodup) (hs : ys.Pairwise (· ≤ ·)) : ∃ ns : List Nat, ys.map V.int = ns.map vN ∧ ns.Pairwise (· < ·) ∧ ∀ n, n ∈ ns ↔ n ∈ ks := by
  have hy : ys = (ys.map Int.toNat).map fun n : Nat => (n : Int) := by
    rw [List.map_map]
    conv => lhs; rw [← List.map_id ys]
    apply List.map_congr_left
    intro y hy
    obtain ⟨k, _, rfl⟩ := List.mem_map.mp (h.mem_iff.mp hy)
    rfl
  have hnd : ys.Nodup := h.nodup_iff.mpr (List.pairwise_map.mpr (hn.imp fun {a b} hab z => hab (by omega)))
  refine ⟨ys.map Int.toNat, ?_, ?_, fun n => ?_⟩
  · conv => lhs; rw [hy]
    rw [List.map_map]
    rfl
  · have hlt : ys.Pairwise (· < ·) := (List.Pairwise.and hs hnd).imp fun {a b} hab => by
      have := hab.1
      have := hab.2
      omega
    rw [hy] at hlt
    exact (List.pairwise_map.mp hlt).imp fun {a b} hab => by omega
  · rw [List.mem_map]
    constructor
    · rintro ⟨y, h1, rfl⟩
      obtain ⟨k, hk, rfl⟩ := List.mem_map.mp (h.mem_iff.mp h1)
      exact hk
    · intro hk
      exact ⟨(n : Int), h.mem_iff.mpr (List.mem_map.mpr ⟨n, hk, rfl⟩), rfl⟩
theorem ok_lengths (B : Bl mg) (G : LotG P w K mg base C) (d_check_lot : DefOk P w K mg base "check_lot" 1 ["value"] (spCheckLot K C)) (d_check_small : DefOk P w K mg base "check_small" 3 ["value"] (spCheck 0 400)) (A : At K mg "lengths" sLengths) : DefOk P w K mg base "lengths" 4 ["lot", "small"] (spLengthsT K C) := by
  refine mkDef A scLengths (fun _ _ _ _ _ _ us hl => match us, hl with | [_, _], _ => rfl) (by rintro _ _ _ _ ⟨_, _, _, rfl, _⟩; rfl) fun f cdv A outer s H vs Q E hr h => ?_
  obtain ⟨v, cs, t, rfl, hL, hC, ht, q⟩ := h
  have hp : ∀ c ∈ cs, 0 < c := fun c h => (hC.pos c h).1
  have hu := hu_of hr
  refine ⟨_, pss_cons (ps_expr (pe_callD d_check_lot hr rfl (pa_cons (pv 0) pa_nil)))
      (pss_cons (ps_expr (pe_callD d_check_small hr rfl (pa_cons (pv 1) pa_nil)))
      (pss_cons (ps_set (i := 2) scLengths.nd rfl (Or.inl rfl) (pe_lst (pa_cons (pe_disp (pps_cons (pe_int) (pe_bl) pps_nil) (by rfl) (by rfl) (fun z => by cases z) (by decide)) pa_nil)))
      (pss_cons (ps_for PassesOwn.never rfl (pi_range2 rfl B.z_range (pa_cons (pe_int) (pa_cons (pe_op op_add (pv 1) (pe_int)) pa_nil))) (pg_name (i := 3) scLengths.nd rfl (Or.inl rfl))
        (pss_cons (ps_set (i := 4) scLengths.nd rfl (Or.inl rfl) (pe_dnewK))
          (pss_cons (ps_for PassesOwn.never rfl (pi_tup (pe_coins G hr (pv 0))) (pg_name (i := 5) scLengths.nd rfl (Or.inl rfl))
            (pss_one (ps_if (pt_cmpR op_le (pv 5) (pv 3) (nomark _))
                (pss_one (ps_lock (ps_for PassesOwn.never rfl (pi_keys (pe_ix ix_list (pv 2) (pe_op op_sub (pv 3) (pv 5)) (fun _ _ => rfl))) (pg_name (i := 6) scLengths.nd rfl (Or.inl rfl))
                    (pss_one (ps_dput hu (pv 4) (pe_op op_add (pv 6) (pe_int)) (pe_bl) rfl)))))
                (pss_nil))))
          (pss_one (ps_expr (pe_bm PySem.F.plainAttrs_list PySem.F.slot_list_append PySem.F.type_list_append mt_append (pv 2) (pa_cons (pv 4) pa_nil)))))))
      (pss_one (ps_ret (pe_callTy cr_tupOf (by rfl) B.z_tuple (by decide +kernel) (pa_cons (pe_callB (call_sortedDI rfl) (by rfl) B.z_sorted (by decide +kernel) (pa_cons (pe_ix ix_list (pv 2) (pv 1) (fun _ _ => rfl)) pa_nil)) pa_nil))))))), ?_⟩
  refine ⟨_, rfl, _, cs, rfl, hL, _, rfl, _, rfl, by omega, by omega, ?_⟩
  refine fun p np => ⟨upd_same, [(kN 0, .bl true)], rfl, by decide, sz _ (by show 1 ≤ 16000000; decide), fun l nl => ?_⟩
  have s1 : Same H (upd (upd H p (.dK [])) p (.dK (mergeK [] [(kN 0, .bl true)]))) := (same_upd np).mut np
  have h1 : (upd (upd H p (.dK [])) p (.dK (mergeK [] [(kN 0, .bl true)]))) p = some (.dK [(kN 0, .bl true)]) := upd_same
  generalize upd (upd H p (.dK [])) p (.dK (mergeK [] [(kN 0, .bl true)])) = H1 at s1 h1 nl
  have nlH : H l = none := s1.free nl
  refine ⟨_, rfl, _, _, rfl, rfl, _, _, rfl, ⟨by omega, by omega, by omega, by omega⟩, ?_⟩
  refine for_rN 1 t rfl (by omega) (fun i σ H' => ∃ y3 y4 y5 y6 xs, σ = [some v, some (vN t), some (.ref l), y3, y4, y5, y6] ∧ Same H H' ∧ H' l = some (.lst xs) ∧ xs.length = i + 1 ∧ DicsN H' cs xs)
    ⟨_, _, _, _, [.ref p], rfl, s1.new nl, upd_same, rfl, ?_⟩ ?_ ?_
  · rintro i x hx
    cases i with
    | zero =>
      rw [← Option.some.inj hx]
      exact ⟨p, _, [0], rfl, (same_upd nl) _ _ h1, rfl, by simp, fun n => by rw [List.mem_singleton]; exact (lens_zero hp).symm⟩
    | succ i => simp at hx
  · rintro i σ H2 hi ⟨_, _, _, _, xs, rfl, s2, h2, lx, hD⟩
    -- found = {}
    refine fun d nd => ?_
    have sd : ∀ kvs, Same H2 (upd H2 d (.dK kvs)) := fun kvs => same_upd nd
    have hld : l ≠ d := ne_of_none h2 nd
    obtain ⟨a, dx, c, rfl, hL1, hL2⟩ := hL.mono s2
    refine ⟨_, rfl, a, dx, _, rfl, (sd _) _ _ hL1, c, rfl, ⟨_, (sd _).seqT hL2⟩, for_tup (fun j σ H' => ∃ (y5 y6 : Option V) (kvs : List (Key × V)) (ks : List Nat), σ = [some (.ref a), some (vN t), some (.ref l), some (vN (1 + i)), some (.ref d), y5, y6] ∧ upd H2 d (.dK kvs) = H' ∧ kvs.map (·.1) = ks.map kN ∧ ks.Nodup ∧
        ∀ n, n ∈ ks ↔ ∃ c ∈ cs.take j, c ≤ 1 + i ∧ ∃ m ∈ lens cs (1 + i - c), n = m + 1)
      ⟨_, _, [], [], rfl, rfl, rfl, List.nodup_nil, fun n => by simp⟩ (fun j σ H' _ ⟨_, _, kvs, _, _, e, _⟩ => by rw [← e]; exact (sd kvs).seqT hL2) ?_ ?_⟩
    · rintro j x σ H3 hx ⟨_, _, kvs, ks, rfl, rfl, hk, hn, hm⟩
      obtain ⟨c1, hci, rfl⟩ := get_of_map hx
      have hc1 := hp c1 (List.mem_of_getElem? hci)
      have tk : ∀ c, c ∈ cs.take (j + 1) ↔ c ∈ cs.take j ∨ c = c1 := fun c => by
        rw [List.take_add_one, hci, List.mem_append]
        simp
      refine ⟨_, rfl, _, rfl, _, _, rfl, rfl, _, rfl, ?_⟩
      by_cases hct : c1 ≤ 1 + i
      · rw [decide_eq_true (show (c1 : Int) ≤ ((1 + i : Nat) : Int) by omega)]
        have hix : 1 + i - c1 < xs.length := by omega
        have gx : xs[1 + i - c1]? = some xs[1 + i - c1] := List.getElem?_eq_getElem hix
        obtain ⟨e, kvs', ks', ee, he, hk', hn', hm'⟩ := hD _ _ gx
        rw [ee] at gx
        have hde : d ≠ e := fun z => by
          rw [z, he] at nd
          cases nd
        have he2 : (upd H2 d (.dK kvs)) e = some (.dK kvs') := (sd kvs) _ _ he
        refine iteT ⟨e, _, he2, trivial, fun od => ?_⟩
        have h2' : (upd (upd H2 d (.dK kvs)) e (.frz od (.dK kvs'))) l = some (.lst xs) := by
          rw [upd_ne (ne_of h2 he (by intro z; cases z)), upd_ne hld]
          exact h2
        refine ⟨_, rfl, _, rfl, _, rfl, _, _, rfl, rfl, _, _, _, _, rfl, rfl, SqL.of h2', at_of (j := 1 + i - c1) (by omega) gx, e, od, rfl, .inl ⟨kvs', upd_same, ?_⟩⟩
        refine for_it walk_keys (fun m σ H' => ∃ (y6 : Option V) (kvs2 : List (Key × V)) (ks2 : List Nat), σ = [some (.ref a), some (vN t), some (.ref l), some (vN (1 + i)), some (.ref d), some (vN c1), y6] ∧ upd (upd H2 e (.frz od (.dK kvs'))) d (.dK kvs2) = H' ∧ kvs2.map (·.1) = ks2.map kN ∧ ks2.Nodup ∧
            ks2.length ≤ ks.length + m ∧ ∀ n, n ∈ ks2 ↔ n ∈ ks ∨ ∃ m' ∈ ks'.take m, n = m' + 1)
          ⟨_, kvs, ks, rfl, ?_, hk, hn, Nat.le_refl _, fun n => by simp⟩ (fun m σ H' _ ⟨_, _, _, _, e2, _⟩ => by rw [← e2, upd_ne (Ne.symm hde), upd_same]) ?_ ?_
        · funext b
          by_cases h1 : b = e
          · subst h1
            rw [upd_same, upd_ne (Ne.symm hde), upd_same]
          · by_cases h3 : b = d
            · subst h3
              rw [upd_same, upd_ne h1, upd_same]
            · rw [upd_ne h3, upd_ne h1, upd_ne h1, upd_ne h3]
        · rintro m x σ H4 H5 hml ⟨_, kvs2, ks2, rfl, rfl, hk2, hn2, hlen2, hm2⟩ ⟨rfl, k, vv, hkv, rfl⟩
          have hkm : (kvs'.map (·.1))[m]? = some k := by rw [List.getElem?_map, hkv]; rfl
          rw [hk', List.getElem?_map] at hkm
          obtain ⟨n1, hn1, rfl⟩ := Option.map_eq_some_iff.mp hkm
          have len2 : kvs2.length = ks2.length := by
            have := congrArg List.length hk2
            rwa [List.length_map, List.length_map] at this
          have hks : ks.length ≤ 2 + i := nodup_lt_len _ _ hn fun x hx => by
            obtain ⟨c, hc, hcl, m', hm', rfl⟩ := (hm x).mp hx
            have := lens_le hp hm'
            have := hp c (List.mem_of_mem_take hc)
            omega
          have hkl : kvs'.length = ks'.length := by
            have := congrArg List.length hk'
            rwa [List.length_map, List.length_map] at this
          have hks' : ks'.length ≤ 1 + i := nodup_lt_len _ _ hn' fun x hx => by
            have := lens_le hp ((hm' x).mp hx)
            omega
          refine ⟨_, rfl, _, rfl, _, _, rfl, rfl, d, _, rfl, DPut.k (k := kN (n1 + 1)) upd_same (szl _ (by omega)), ?_⟩
          refine ⟨_, _, addS ks2 (n1 + 1), rfl, by rw [upd_upd], put_keys hk2 (n1 + 1) _, addS_nodup hn2, ?_, fun n => ?_⟩
          · unfold addS
            split
            · omega
            · rw [List.length_append]
              show ks2.length + 1 ≤ _
              omega
          · rw [mem_addS, hm2, List.take_add_one, hn1]
            constructor
            · rintro ((h | ⟨m', h, e⟩) | e)
              · exact .inl h
              · exact .inr ⟨m', List.mem_append_left _ h, e⟩
              · exact .inr ⟨n1, List.mem_append_right _ (by simp), e⟩
            · rintro (h | ⟨m', h, e⟩)
              · exact .inl (.inl h)
              · rcases List.mem_append.mp h with h | h
                · exact .inl (.inr ⟨m', h, e⟩)
                · have : m' = n1 := by simpa using h
                  exact .inr (by rw [e, this])
        · rintro σ H4 ⟨_, kvs2, ks2, rfl, rfl, hk2, hn2, _, hm2⟩
          have hkl : kvs'.length = ks'.length := by
            have := congrArg List.length hk'
            rwa [List.length_map, List.length_map] at this
          rw [hkl, List.take_length] at hm2
          refine ⟨by rw [upd_ne (Ne.symm hde), upd_same], _, _, kvs2, ks2, rfl, (upd3 he hde).symm, hk2, hn2, fun n => ?_⟩
          rw [hm2, hm]
          constructor
          · rintro (⟨c, hc, hcl, h⟩ | ⟨m', h, e⟩)
            · exact ⟨c, (tk c).mpr (.inl hc), hcl, h⟩
            · exact ⟨c1, (tk c1).mpr (.inr rfl), hct, m', (hm' m').mp h, e⟩
          · rintro ⟨c, hc, hcl, m', h, e⟩
            rcases (tk c).mp hc with hc | rfl
            · exact .inl ⟨c, hc, hcl, m', h, e⟩
            · exact .inr ⟨m', (hm' m').mpr h, e⟩
      · rw [decide_eq_false (show ¬ (c1 : Int) ≤ ((1 + i : Nat) : Int) by omega)]
        refine iteF ⟨_, _, kvs, ks, rfl, rfl, hk, hn, fun n => ?_⟩
        rw [hm]
        constructor
        · rintro ⟨c, hc, hcl, h⟩
          exact ⟨c, (tk c).mpr (.inl hc), hcl, h⟩
        · rintro ⟨c, hc, hcl, h⟩
          rcases (tk c).mp hc with hc | rfl
          · exact ⟨c, hc, hcl, h⟩
          · exact absurd hcl hct
    · rintro σ H3 ⟨_, _, kvs, ks, rfl, rfl, hk, hn, hm⟩
      rw [List.length_map, List.take_length] at hm
      have h2' : (upd H2 d (.dK kvs)) l = some (.lst xs) := (sd kvs) _ _ h2
      refine ⟨_, rfl, .inl ⟨rfl, _, SqL.of h2'⟩, _, rfl, l, _, _, rfl, rfl, h2', szl _ (by omega), ?_⟩
      refine ⟨_, _, _, _, xs ++ [.ref d], rfl, (s2.trans (sd kvs)).mut nlH, upd_same, by rw [List.length_append, lx]; rfl, fun k x hx => ?_⟩
      by_cases hkl : k < xs.length
      · rw [List.getElem?_append_left hkl] at hx
        exact ((hD k x hx).mono (sd kvs)).put h2'
      · have hk1 : k = 1 + i := by
          have := (List.getElem?_eq_some_iff.mp hx).1
          rw [List.length_append, lx] at this
          have : ([V.ref d] : List V).length = 1 := rfl
          omega
        subst hk1
        rw [List.getElem?_append_right (by omega), show 1 + i - xs.length = 0 by omega] at hx
        rw [← Option.some.inj hx]
        refine ⟨d, kvs, ks, rfl, by rw [upd_ne (Ne.symm hld), upd_same], hk, hn, fun n => ?_⟩
        rw [hm]
        exact (lens_step hp (by omega)).symm
  · rintro σ H2 ⟨_, _, _, _, xs, rfl, s2, h2, lx, hD⟩
    have hix : t < xs.length := by omega
    have gx : xs[t]? = some xs[t] := List.getElem?_eq_getElem hix
    obtain ⟨e, kvs', ks', ee, he, hk', hn', hm'⟩ := hD _ _ gx
    rw [ee] at gx
    have hks' : ks'.length ≤ t + 1 := nodup_lt_len _ _ hn' fun x hx => by
      have := lens_le hp ((hm' x).mp hx)
      omega
    refine ⟨_, rfl, _, rfl, _, _, _, _, rfl, rfl, SqL.of h2, at_of (j := t) rfl gx, e, kvs', ks'.map fun n : Nat => (n : Int), rfl, Rd.of he, by rw [hk', List.map_map]; rfl, by rw [List.length_map]; omega, fun ys p2 hpm hsr n2 => ?_⟩
    obtain ⟨ns, e1, e2, e3⟩ := ints_back hpm hn' hsr
    refine ⟨p2, _, rfl, .inl ⟨SqL.of upd_same, fun l2 n3 => q _ _ ns ((s2.new n2).new n3) ⟨l2, rfl, SqT.of ?_⟩ e2 fun n => (e3 n).trans (hm' n)⟩⟩
    rw [upd_same, e1]
end
end Cn
/-! The paper of all ways. -/
namespace Cn
open PySem PySem.Spec PyProof.Rows L2 RZ StX Mp
/-- a coin's digits -/
def dig (c : Nat) : Str := Str.ofString (toString (c : Int))
theorem dig_len : ∀ c : Nat, c < 13 → (dig c).length ≤ 2 := by decide +kernel
theorem dig_small : ∀ c : Nat, c < 13 → ((c : Int)).natAbs.log2 < 1920 := by decide +kernel
theorem digs_len : ∀ {cs : List Nat}, (∀ c ∈ cs, 0 < c ∧ c ≤ 12) → ((cs.map dig).map (·.length)).sum ≤ 2 * cs.length
  | [], _ => Nat.le_refl _
  | c :: cs, h => by
    have h1 := digs_len (cs := cs) fun d hd => h d (List.mem_cons_of_mem _ hd)
    have h2 := dig_len c (by have := (h c List.mem_cons_self).2; omega)
    rw [List.map_cons, List.map_cons, List.sum_cons, List.length_cons]
    omega
/-- the tables of the coins from the first, one more each -/
def WaysOf (K : PySem.W.Frag) (H : Hp) (cs : List Nat) (n : Nat) (xs : List V) (many : Nat) : Prop := xs.length = many ∧ ∀ i x, xs[i]? = some x → ∃ b, x = .ref b ∧ H b = some (.lst (tabC n (cnt (cs.take (i + 1)))))
theorem WaysOf.mono {K : PySem.W.Frag} {H H' : Hp} {cs : List Nat} {n : Nat} {xs : List V} {m : Nat} (s : Same H H') (h : WaysOf K H cs n xs m) : WaysOf K H' cs n xs m :=
  ⟨h.1, fun i x hx => by
    obtain ⟨b, e, q⟩ := h.2 i x hx
    exact ⟨b, e, s _ _ q⟩⟩
theorem first_take {cs : List Nat} (hc : ∀ c ∈ cs, 0 < c) (i t : Nat) : (cs.take i).foldl (fun f c => addc c f) (cnt []) t = cnt (cs.take i) t :=
  fromFirst_cnt (cs.take i) (fun c h => hc c (List.mem_of_mem_take h)) t
section
variable {P : Program} {w : World} {K : PySem.W.Frag} {mg : Str → Option Value} {base : Heap} {C : Addr}
abbrev sTextOf : Stmt := topS 34
theorem scTextOf : FnScope ["coins", "coin"] ["coins"] (defScope sTextOf) := ⟨rfl, rfl, rfl, by decide +kernel, rfl, by decide +kernel, by decide +kernel⟩
def spTextOf (K : PySem.W.Frag) : Sp := fun vs H Q _ => ∃ (a : Addr) (cs : List Nat), vs = [.ref a] ∧ SqT K H a (cs.map vN) ∧ (∀ c ∈ cs, 0 < c ∧ c ≤ 12) ∧ cs.length ≤ 4 ∧ ∀ H' x, Same H H' → Q (.str x) H'
theorem ok_text_of (B : Bl mg) (A : At K mg "text_of" sTextOf) : DefOk P w K mg base "text_of" 1 ["coins"] (spTextOf K) := by
  refine mkDef A scTextOf (fun _ _ _ _ _ _ us hl => match us, hl with | [_], _ => rfl) (by rintro _ _ _ _ ⟨_, _, rfl, _⟩; rfl) fun f cdv A outer s H vs Q E hr h => ?_
  obtain ⟨a, cs, rfl, hq, hc, h4, q⟩ := h
  refine ⟨_, pss_one (ps_ret (pe_join (pe_str) (pe_lc (own := [("coin", 1)]) (g := gName 1) (tt := tYes) rfl scTextOf.nd (pi_tup (pv 0)) (blkOk_by (N := ["coins", "coin"]) (sc := defScope sTextOf) (by decide +kernel)) (fun _ _ _ _ _ => (pg_name (i := 1) scTextOf.nd rfl (Or.inl rfl))) (fun _ _ _ _ _ => pts_nil) (fun _ _ _ _ _ => pe_callTy call_str_int (by rfl) B.z_str (by decide +kernel) (pa_cons (pv 1) pa_nil))))), ?_⟩
  refine ⟨⟨_, rfl⟩, _, rfl, a, rfl, ⟨_, hq⟩, fun D nD => lc_tup (fun j H' => Same H H' ∧ H' D = some (.lst (((cs.take j).map dig).map V.str))) ⟨same_upd nD, upd_same⟩ (fun j H' _ p => p.1.seqT hq) ?_ ?_⟩
  · rintro j x H2 hx ⟨s2, h2⟩
    obtain ⟨c, hci, rfl⟩ := get_of_map hx
    have cb := hc c (List.mem_of_getElem? hci)
    refine ⟨rfl, _, rfl, _, rfl, dig_small c (by omega), _, h2, szl _ (by rw [List.length_map, List.length_map, List.length_take]; omega), s2.mut nD, ?_⟩
    rw [upd_same, List.take_add_one, hci, List.map_append, List.map_append]
    rfl
  · rintro H2 ⟨s2, h2⟩
    rw [List.length_map, List.take_length] at h2
    refine ⟨_, D, cs.map dig, rfl, rfl, .inl (SqL.of h2), ?_, q H2 _ s2⟩
    have := digs_len hc
    rw [List.length_map]
    have e : (" " : Str).length = 1 := by decide +kernel
    show ((cs.map dig).map (·.length)).sum + cs.length * (" " : Str).length ≤ 16777216
    rw [e]
    omega
abbrev sWaysTables : Stmt := topS 83
theorem scWaysTables : FnScope ["coins", "amount", "found", "ways", "coin", "total"] ["coins", "amount"] (defScope sWaysTables) := ⟨rfl, rfl, rfl, by decide +kernel, rfl, by decide +kernel, by decide +kernel⟩
def spWaysTables (K : PySem.W.Frag) : Sp := fun vs H Q _ => ∃ (a : Addr) (cs : List Nat) (t : Nat), vs = [.ref a, vN t] ∧ SqT K H a (cs.map vN) ∧ (∀ c ∈ cs, 0 < c ∧ c ≤ 12) ∧ cs.length ≤ 4 ∧ t ≤ 400 ∧
  ∀ H' p xs, Same H H' → H' p = some (.lst xs) → WaysOf K H' cs (t + 1) xs cs.length → Q (.ref p) H'
theorem ok_ways_tables (B : Bl mg) (A : At K mg "ways_tables" sWaysTables) : DefOk P w K mg base "ways_tables" 1 ["coins", "amount"] (spWaysTables K) := by
  refine mkDef A scWaysTables (fun _ _ _ _ _ _ us hl => match us, hl with | [_, _], _ => rfl) (by rintro _ _ _ _ ⟨_, _, _, rfl, _⟩; rfl) fun f cdv A outer s H vs Q E hr h => ?_
  obtain ⟨a, cs, t, rfl, hq, hc, h4, ht, q⟩ := h
  have hp0 : ∀ c ∈ cs, 0 < c := fun c h => (hc c h).1
  refine ⟨_, pss_cons (ps_par (i := 2) (j := 3) (by rfl) scWaysTables.nd rfl rfl (by decide) rfl rfl (pa_cons (pe_lst pa_nil) (pa_cons (pe_op op_cat (pe_lst (pa_cons (pe_int) pa_nil)) (pe_op op_rep (pe_lst (pa_cons (pe_int) pa_nil)) (pv 1))) pa_nil)) (by rfl))
      (pss_cons (ps_for PassesOwn.never rfl (pi_tup (pv 0)) (pg_name (i := 4) scWaysTables.nd rfl (Or.inl rfl))
        (pss_cons (ps_for PassesOwn.never rfl (pi_range2 rfl B.z_range (pa_cons (pv 4) (pa_cons (pe_op op_add (pv 1) (pe_int)) pa_nil))) (pg_name (i := 5) scWaysTables.nd rfl (Or.inl rfl))
            (pss_one (ps_asg (pe_op op_add (pe_ix ix_list (pv 3) (pv 5) (fun _ _ => rfl)) (pe_ix ix_list (pv 3) (pe_op op_sub (pv 5) (pv 4)) (fun _ _ => rfl))) (pg_sub (pv 3) (pv 5) set_list))))
          (pss_one (ps_expr (pe_bm PySem.F.plainAttrs_list PySem.F.slot_list_append PySem.F.type_list_append mt_append (pv 2) (pa_cons (pe_callTy call_list_of (by rfl) B.z_list (by decide +kernel) (pa_cons (pv 3) pa_nil)) pa_nil))))))
      (pss_one (ps_ret (pv 2)))), ?_⟩
  refine ⟨sz 0 (by decide), fun l nl => ?_⟩
  have s0 : Same H (upd H l (.lst [])) := same_upd nl
  have hl0 : (upd H l (.lst [])) l = some (.lst []) := upd_same
  generalize upd H l (.lst []) = H0 at s0 hl0
  refine cat_rep (k := t) (fun H1 Q1 h1 => ⟨_, rfl, h1⟩) (by omega) fun p H1 s1 np hp => ⟨_, _, rfl, ?_⟩
  have hl1 := s1 _ _ hl0
  have hlp : l ≠ p := ne_of_none hl0 np
  have npH : H p = none := s0.free np
  refine ⟨_, rfl, a, rfl, ⟨_, (s0.trans s1).seqT hq⟩, for_tup (fun i σ H' => ∃ (y4 y5 : Option V) (xs : List V), σ = [some (.ref a), some (vN t), some (.ref l), some (.ref p), y4, y5] ∧ Same H H' ∧ H' l = some (.lst xs) ∧
      H' p = some (.lst (tabC (t + 1) ((cs.take i).foldl (fun f c => addc c f) (cnt [])))) ∧ WaysOf K H' cs (t + 1) xs i ∧ (∀ k : Nat, xs[k]? ≠ some (V.ref p)) ∧ ∀ k : Nat, xs[k]? ≠ some (V.ref l))
    ⟨_, _, [], rfl, s0.trans s1, hl1, by rw [hp, tab0]; rfl, ⟨rfl, fun i x hx => by simp at hx⟩, fun k z => by simp at z, fun k z => by simp at z⟩ (fun i σ H' _ ⟨_, _, _, _, s2, _⟩ => s2.seqT hq) ?_ ?_⟩
  · rintro i x σ H2 hx ⟨_, _, xs, rfl, s2, hl2, hp2, hW, hnp, hnl⟩
    obtain ⟨c, hci, rfl⟩ := get_of_map hx
    obtain ⟨hc1, hc2⟩ := hc c (List.mem_of_getElem? hci)
    have hfold := foldl_take (fun f c => addc c f) (cnt []) hci
    have lx : xs.length = i := hW.1
    have hi4 : i < cs.length := (List.getElem?_eq_some_iff.mp hci).1
    have hcn : ∀ s, (cs.take (i + 1)).foldl (fun f c => addc c f) (cnt []) s = cnt (cs.take (i + 1)) s := first_take hp0 (i + 1)
    generalize (cs.take i).foldl (fun f c => addc c f) (cnt []) = g at hp2 hfold
    have eH : upd H2 p (.lst (tabC (t + 1) g)) = H2 := upd_id hp2
    refine ⟨_, rfl, _, rfl, _, _, rfl, rfl, _, _, rfl, ⟨by omega, by omega, by omega, by omega⟩, ?_⟩
    refine for_rN c (t + 1 - c) rfl (by omega) (fun j σ H' => ∃ y, σ = [some (.ref a), some (vN t), some (.ref l), some (.ref p), some (vN c), y] ∧ upd H2 p (.lst (tabC (t + 1) (half c j g))) = H')
      ⟨_, rfl, (congrArg (fun z => upd H2 p (HO.lst z)) (tab_congr fun t _ => congrArg vN (half_zero t))).trans eH⟩ ?_ ?_
    · rintro j σ H3 hj ⟨y, rfl, rfl⟩
      have hin : c + j < t + 1 := by omega
      have a1 := tab_at (n := t + 1) (i := c + j) (f := fun t => vN (half c j g t)) (z := ((c + j : Nat) : Int)) rfl hin
      have a2 := tab_at (n := t + 1) (i := j) (f := fun t => vN (half c j g t)) (z := ((c + j : Nat) : Int) - (c : Int)) (by omega) (by omega)
      have h2 : (upd H2 p (.lst (tabC (t + 1) (half c j g)))) p = some (.lst (tabC (t + 1) (half c j g))) := upd_same
      refine ⟨_, rfl, _, rfl, _, _, _, _, rfl, rfl, SqL.of h2, a1, _, rfl, _, rfl, _, rfl, _, _, rfl, rfl, _, _, _, _, rfl, rfl, SqL.of h2, a2, _, _, rfl, rfl, _, rfl, _, rfl, _, _, _, c + j, rfl, rfl, h2, ixN_tab rfl (by rw [tab_len]; exact hin), ?_⟩
      refine ⟨_, rfl, ?_⟩
      rw [upd_upd, tab_set]
      refine congrArg (fun z => upd H2 p (HO.lst z)) (tab_congr fun t _ => ?_)
      rw [← half_step hc1 t]
      by_cases e : t = c + j
      · rw [if_pos e, if_pos e]
        rfl
      · rw [if_neg e, if_neg e]
    · rintro σ H3 ⟨y, rfl, rfl⟩
      have e1 : upd H2 p (.lst (tabC (t + 1) (half c (t + 1 - c) g))) = upd H2 p (.lst (tabC (t + 1) ((cs.take (i + 1)).foldl (fun f c => addc c f) (cnt [])))) := by
        rw [hfold]
        exact congrArg (fun z => upd H2 p (HO.lst z)) (tab_congr fun t ht => congrArg vN (half_end ht))
      rw [e1]
      have hlp2 : H2 l = some (.lst xs) := hl2
      have h3l : (upd H2 p (.lst (tabC (t + 1) ((cs.take (i + 1)).foldl (fun f c => addc c f) (cnt []))))) l = some (.lst xs) := by rw [upd_ne hlp]; exact hl2
      have h3p : (upd H2 p (.lst (tabC (t + 1) ((cs.take (i + 1)).foldl (fun f c => addc c f) (cnt []))))) p = some (.lst (tabC (t + 1) ((cs.take (i + 1)).foldl (fun f c => addc c f) (cnt [])))) := upd_same
      have hW3 : WaysOf K (upd H2 p (.lst (tabC (t + 1) ((cs.take (i + 1)).foldl (fun f c => addc c f) (cnt []))))) cs (t + 1) xs i := ⟨lx, fun k x hx => by
        obtain ⟨b, rfl, hb⟩ := hW.2 k x hx
        have hbp : b ≠ p := fun z => hnp k (by rw [hx, z])
        exact ⟨b, rfl, by rw [upd_ne hbp]; exact hb⟩⟩
      have s3 : Same H (upd H2 p (.lst (tabC (t + 1) ((cs.take (i + 1)).foldl (fun f c => addc c f) (cnt []))))) := s2.mut npH
      generalize upd H2 p (.lst (tabC (t + 1) ((cs.take (i + 1)).foldl (fun f c => addc c f) (cnt [])))) = H3 at h3l h3p hW3 s3
      -- found.append(list(ways))
      refine ⟨_, rfl, .inl ⟨rfl, _, SqL.of h3l⟩, _, rfl, p, _, rfl, .inl (SqL.of h3p), fun b nb => ⟨l, _, _, rfl, rfl, (same_upd nb) _ _ h3l, szl _ (by omega), ?_⟩⟩
      have hbl : b ≠ l := fun z => by
        rw [z, h3l] at nb
        cases nb
      have hbp : b ≠ p := fun z => by
        rw [z, h3p] at nb
        cases nb
      have s4 : Same H3 (upd H3 b (.lst (tabC (t + 1) ((cs.take (i + 1)).foldl (fun f c => addc c f) (cnt []))))) := same_upd nb
      refine ⟨_, _, xs ++ [V.ref b], rfl, (s3.trans s4).mut nl, upd_same, ?_, ⟨by rw [List.length_append, lx]; rfl, fun k x h5 => ?_⟩, fun k z => ?_, fun k z => ?_⟩
      · rw [upd_ne (Ne.symm hlp), upd_ne (Ne.symm hbp)]
        exact h3p
      · by_cases hkl : k < xs.length
        · rw [List.getElem?_append_left hkl] at h5
          obtain ⟨b', rfl, hb'⟩ := hW3.2 k x h5
          have hb'l : b' ≠ l := fun z => hnl k (by rw [h5, z])
          exact ⟨b', rfl, by rw [upd_ne hb'l]; exact s4 _ _ hb'⟩
        · have hk1 : k = i := by
            have := (List.getElem?_eq_some_iff.mp h5).1
            rw [List.length_append, lx] at this
            have e : ([V.ref b] : List V).length = 1 := rfl
            omega
          subst hk1
          rw [List.getElem?_append_right (by omega), show k - xs.length = 0 by omega] at h5
          rw [← Option.some.inj h5]
          refine ⟨b, rfl, ?_⟩
          rw [upd_ne hbl, upd_same]
          exact congrArg (fun z => some (HO.lst z)) (tab_congr fun s _ => congrArg vN (hcn s))
      · by_cases hkl : k < xs.length
        · rw [List.getElem?_append_left hkl] at z
          exact hnp k z
        · rw [List.getElem?_append_right (by omega)] at z
          have h0 : k - xs.length = 0 := by
            have := (List.getElem?_eq_some_iff.mp z).1
            have e : ([V.ref b] : List V).length = 1 := rfl
            omega
          rw [h0] at z
          exact hbp (V.ref.inj (Option.some.inj z))
      · by_cases hkl : k < xs.length
        · rw [List.getElem?_append_left hkl] at z
          exact hnl k z
        · rw [List.getElem?_append_right (by omega)] at z
          have h0 : k - xs.length = 0 := by
            have := (List.getElem?_eq_some_iff.mp z).1
            have e : ([V.ref b] : List V).length = 1 := rfl
            omega
          rw [h0] at z
          exact hbl (V.ref.inj (Option.some.inj z))
  · rintro σ H2 ⟨_, _, xs, rfl, s2, hl2, hp2, hW, hnp, hnl⟩
    rw [List.length_map] at hW
    exact ⟨_, rfl, q H2 l xs s2 hl2 hW⟩
abbrev sCertifyWays : Stmt := topS 85
theorem scCertifyWays : FnScope ["lot", "small", "tables", "table"] ["lot", "small"] (defScope sCertifyWays) := ⟨rfl, rfl, rfl, by decide +kernel, rfl, by decide +kernel, by decide +kernel⟩
/-- the paper: the claim ends with the count, the last table ends with it, too -/
def Paper (K : PySem.W.Frag) (H : Hp) (v : V) (cs : List Nat) (t : Nat) : Prop := ∃ (p c q : Addr) (x y : V) (xs : List V) (b : Addr), v = .ref p ∧ SqT K H p [.ref c, .ref q] ∧ SqT K H c [x, y, vN t, vN (cnt cs t)] ∧ SqT K H q xs ∧ atI xs (-1) = some (.ref b) ∧ SqT K H b (tabC (t + 1) (cnt cs))
def spCertify (K : PySem.W.Frag) (C : Addr) : Sp := fun vs H Q _ => ∃ (v : V) (cs : List Nat) (t : Nat), vs = [v, vN t] ∧ LotN K C H v cs ∧ Coins cs ∧ t ≤ 400 ∧ ∀ H' u, Same H H' → Paper K H' u cs t → Q u H'
theorem at_end {xs : List V} {x : V} (h : xs.getLast? = some x) : atI xs (-1) = some x := by
  have hn : xs ≠ [] := by
    rintro rfl
    cases h
  have hl : 0 < xs.length := List.length_pos_iff.mpr hn
  rw [List.getLast?_eq_getElem?] at h
  have e : ixN xs.length (-1) = some (xs.length - 1) := by
    unfold ixN
    rw [if_neg (by decide), if_pos (by omega)]
    congr 1
    omega
  unfold atI
  rw [e]
  exact h
theorem ok_certify_ways (B : Bl mg) (G : LotG P w K mg base C) (d_check_lot : DefOk P w K mg base "check_lot" 1 ["value"] (spCheckLot K C)) (d_check_small : DefOk P w K mg base "check_small" 3 ["value"] (spCheck 0 400)) (d_ways_tables : DefOk P w K mg base "ways_tables" 1 ["coins", "amount"] (spWaysTables K)) (d_text_of : DefOk P w K mg base "text_of" 1 ["coins"] (spTextOf K)) (A : At K mg "certify_ways" sCertifyWays) : DefOk P w K mg base "certify_ways" 4 ["lot", "small"] (spCertify K C) := by
  refine mkDef A scCertifyWays (fun _ _ _ _ _ _ us hl => match us, hl with | [_, _], _ => rfl) (by rintro _ _ _ _ ⟨_, _, _, rfl, _⟩; rfl) fun f cdv A outer s H vs Q E hr h => ?_
  obtain ⟨v, cs, t, rfl, hL, hC, ht, q⟩ := h
  obtain ⟨a, dx, c, rfl, h1, h2⟩ := id hL
  have hl0 : 0 < cs.length := List.length_pos_iff.mpr hC.ne
  refine ⟨_, pss_cons (ps_expr (pe_callD d_check_lot hr rfl (pa_cons (pv 0) pa_nil)))
      (pss_cons (ps_expr (pe_callD d_check_small hr rfl (pa_cons (pv 1) pa_nil)))
      (pss_cons (ps_set (i := 2) scCertifyWays.nd rfl (Or.inl rfl) (pe_callD d_ways_tables hr rfl (pa_cons (pe_coins G hr (pv 0)) (pa_cons (pv 1) pa_nil))))
      (pss_one (ps_ret (pe_tup (pa_cons (pe_tup (pa_cons (pe_str) (pa_cons (pe_callD d_text_of hr rfl (pa_cons (pe_coins G hr (pv 0)) pa_nil)) (pa_cons (pv 1) (pa_cons (pe_ix ix_list (pe_ix ix_list (pv 2) (pe_un un_neg (pe_int)) (fun _ _ => rfl)) (pv 1) (fun _ _ => rfl)) pa_nil))))) (pa_cons (pe_callTy cr_tupOf (by rfl) B.z_tuple (by decide +kernel) (pa_cons (pe_lc (own := [("table", 3)]) (g := gName 3) (tt := tYes) (te := tCB (rTupOf K) (tCons (tVar 3) tNil)) rfl scCertifyWays.nd (pi_list (pv 2)) (blkOk_by (N := ["lot", "small", "tables", "table"]) (sc := defScope sCertifyWays) (by decide +kernel)) (fun _ _ _ _ _ => (pg_name (i := 3) scCertifyWays.nd rfl (Or.inl rfl))) (fun _ _ _ _ _ => pts_nil) (fun _ _ _ _ _ => pe_callTy cr_tupOf (by rfl) B.z_tuple (by decide +kernel) (pa_cons (pv 3) pa_nil))) pa_nil)) pa_nil))))))), ?_⟩
  refine ⟨_, rfl, _, cs, rfl, hL, _, rfl, _, rfl, by omega, by omega, _, rfl, a, dx, _, rfl, h1, _, rfl, c, cs, t, rfl, h2, hC.pos, hC.few, ht, fun H1 l xs s1 hl hW => ?_⟩
  have lx : xs.length = cs.length := hW.1
  have gl : xs[cs.length - 1]? = some xs[cs.length - 1] := List.getElem?_eq_getElem (by omega)
  obtain ⟨b, eb, hb⟩ := hW.2 _ _ gl
  rw [eb] at gl
  rw [show cs.length - 1 + 1 = cs.length by omega, List.take_length] at hb
  have el : xs.getLast? = some (.ref b) := by rw [List.getLast?_eq_getElem?, lx]; exact gl
  refine ⟨_, rfl, a, dx, _, rfl, s1 _ _ h1, c, cs, rfl, s1.seqT h2, hC.pos, hC.few, fun H2 x s2 => ?_⟩
  refine ⟨_, rfl, _, rfl, _, rfl, _, _, _, _, rfl, rfl, SqL.of (s2 _ _ hl), at_end el, _, rfl, _, _, _, _, rfl, rfl, SqL.of (s2 _ _ hb), tab_at (i := t) rfl (by omega), sz _ (by show 4 ≤ 16000000; decide), fun c1 n1 => ?_⟩
  have s3 : Same H2 (upd H2 c1 (.tup [.str "ways", .str x, vN t, vN (cnt cs t)])) := same_upd n1
  have h3c : (upd H2 c1 (.tup [.str "ways", .str x, vN t, vN (cnt cs t)])) c1 = some (.tup [.str "ways", .str x, vN t, vN (cnt cs t)]) := upd_same
  generalize upd H2 c1 (.tup [.str "ways", .str x, vN t, vN (cnt cs t)]) = H3 at s3 h3c
  have hl3 := s3 _ _ (s2 _ _ hl)
  have hW3 := (hW.mono s2).mono s3
  refine ⟨_, rfl, l, rfl, ⟨_, SqL.of hl3⟩, fun D nD => lc_list (fun j H' => ∃ ys, Same H3 H' ∧ H' D = some (.lst ys) ∧ ys.length = j ∧ (∀ k x, ys[k]? = some x → ∃ b, x = .ref b ∧ SqT K H' b (tabC (t + 1) (cnt (cs.take (k + 1)))))) ⟨[], same_upd nD, upd_same, rfl, fun k x hx => by simp at hx⟩ (fun j H' _ ⟨_, s4, _⟩ => SqL.of (s4 _ _ hl3)) ?_ ?_⟩
  · rintro j x1 H4 hx ⟨ys, s4, h4, ly, hy⟩
    obtain ⟨b1, rfl, hb1⟩ := hW3.2 j _ hx
    have hj : j < 4 := by
      have := (List.getElem?_eq_some_iff.mp hx).1
      have := hC.few
      omega
    refine ⟨rfl, _, rfl, b1, _, rfl, .inl ⟨SqL.of (s4 _ _ hb1), fun T nT => ?_⟩⟩
    have DT : D ≠ T := ne_of_none h4 nT
    have hD5 : (upd H4 T (.tup (tabC (t + 1) (cnt (cs.take (j + 1)))))) D = some (.lst ys) := by rw [upd_ne DT]; exact h4
    refine ⟨ys, hD5, szl _ (by omega), ys ++ [.ref T], (s4.new nT).mut nD, upd_same, by rw [List.length_append, ly]; rfl, fun k z hz => ?_⟩
    by_cases hkl : k < ys.length
    · rw [List.getElem?_append_left hkl] at hz
      obtain ⟨b2, rfl, hb2⟩ := hy k z hz
      exact ⟨b2, rfl, SqT.put hD5 ((same_upd nT).seqT hb2)⟩
    · have hk1 : k = j := by
        have := (List.getElem?_eq_some_iff.mp hz).1
        rw [List.length_append, ly] at this
        have e : ([V.ref T] : List V).length = 1 := rfl
        omega
      subst hk1
      rw [List.getElem?_append_right (by omega), show k - ys.length = 0 by omega] at hz
      rw [← Option.some.inj hz]
      exact ⟨T, rfl, SqT.of (by rw [upd_ne (Ne.symm DT), upd_same])⟩
  · rintro H4 ⟨ys, s4, h4, ly, hy⟩
    rw [lx] at ly
    have gy : ys[cs.length - 1]? = some ys[cs.length - 1] := List.getElem?_eq_getElem (by omega)
    obtain ⟨b2, eb2, hb2⟩ := hy _ _ gy
    rw [eb2] at gy
    rw [show cs.length - 1 + 1 = cs.length by omega, List.take_length] at hb2
    have ey : ys.getLast? = some (.ref b2) := by rw [List.getLast?_eq_getElem?, ly]; exact gy
    refine ⟨D, ys, rfl, .inl ⟨SqL.of h4, fun q1 nq => ⟨sz _ (by show 2 ≤ 16000000; decide), fun p np => ?_⟩⟩⟩
    have s5 : Same H4 (upd (upd H4 q1 (.tup ys)) p (.tup [.ref c1, .ref q1])) := (same_upd nq).new np
    refine q _ _ ((((s1.trans s2).trans s3).trans s4).trans s5) ⟨p, c1, q1, _, _, ys, b2, rfl, SqT.of upd_same, SqT.of (s5 _ _ (s4 _ _ h3c)), SqT.of ?_, at_end ey, s5.seqT hb2⟩
    exact (same_upd np) _ _ upd_same
end
end Cn
/-! Sums with few payments; single payments. -/
namespace Cn
open PySem PySem.Spec PyProof.Rows L2 RZ StX Mp
section
variable {P : Program} {w : World} {K : PySem.W.Frag} {mg : Str → Option Value} {base : Heap} {C : Addr}
theorem ofts_succ {cs : List Nat} {c w i o : Nat} (h : cs[i]? = some o) : ofts (cs.take (i + 1)) c w = ofts (cs.take i) c w ++ if o ≠ c then [w * o / Nat.gcd c o] else [] := by
  unfold ofts
  rw [List.take_add_one, h, List.filter_append, List.map_append]
  congr 1
  show ([o].filter fun o => decide (o ≠ c)).map (fun o => w * o / Nat.gcd c o) = _
  by_cases e : o ≠ c
  · rw [if_pos e, List.filter_cons_of_pos (by simpa using e)]
    rfl
  · rw [if_neg e, List.filter_cons_of_neg (by simpa using e)]
    rfl
theorem ofts_len (cs : List Nat) (c w : Nat) : (ofts cs c w).length ≤ cs.length := by
  unfold ofts
  rw [List.length_map]
  exact List.length_filter_le _ _
abbrev sMostOften : Stmt := topS 88
theorem scMostOften : FnScope ["coins", "coin", "ways", "other"] ["coins", "coin", "ways"] (defScope sMostOften) := ⟨rfl, rfl, rfl, by decide +kernel, rfl, by decide +kernel, by decide +kernel⟩
def spMostOften (K : PySem.W.Frag) : Sp := fun vs H Q _ => ∃ (a : Addr) (cs : List Nat) (c w : Nat), vs = [.ref a, vN c, vN w] ∧ SqT K H a (cs.map vN) ∧ Coins cs ∧ c ∈ cs ∧ 2 ≤ cs.length ∧ 0 < w ∧ w ≤ 4 ∧ ∀ H', Same H H' → Q (vN (mostOft cs c w)) H'
theorem ok_most_often (B : Bl mg) (d_common_divisor : DefOk P w K mg base "common_divisor" 1 ["one", "other"] spGcd) (A : At K mg "most_often" sMostOften) : DefOk P w K mg base "most_often" 2 ["coins", "coin", "ways"] (spMostOften K) := by
  refine mkDef A scMostOften (fun _ _ _ _ _ _ us hl => match us, hl with | [_, _, _], _ => rfl) (by rintro _ _ _ _ ⟨_, _, _, _, rfl, _⟩; rfl) fun f cdv A outer s H vs Q E hr h => ?_
  obtain ⟨a, cs, c, w, rfl, hq, hC, hcm, h2, hw0, hw, q⟩ := h
  have hc := hC.pos
  have h4 := hC.few
  refine ⟨_, pss_one (ps_ret (pe_op op_sub (pe_callB (cr_min rfl) (by rfl) B.z_min (by decide +kernel) (pa_cons (pe_lc (own := [("other", 3)]) (g := gName 3) rfl scMostOften.nd (pi_tup (pv 0)) (blkOk_by (N := ["coins", "coin", "ways", "other"]) (sc := defScope sMostOften) (by decide +kernel)) (fun _ _ _ _ _ => (pg_name (i := 3) scMostOften.nd rfl (Or.inl rfl))) (fun _ _ _ _ _ => pts_one (pt_cmpR op_ne (pv 3) (pv 1) (nomark _))) (fun _ _ _ _ _ => pe_op op_fdiv (pe_op op_mul (pv 2) (pv 3)) (pe_callD d_common_divisor hr rfl (pa_cons (pv 1) (pa_cons (pv 3) pa_nil))))) pa_nil)) (pe_int))), ?_⟩
  refine ⟨_, rfl, a, rfl, ⟨_, hq⟩, fun D nD => lc_tup (fun j H' => Same H H' ∧ H' D = some (.lst ((ofts (cs.take j) c w).map vN))) ⟨same_upd nD, upd_same⟩ (fun j H' _ p => p.1.seqT hq) ?_ ?_⟩
  · rintro j x H2 hx ⟨s2, hD⟩
    obtain ⟨o, ho, rfl⟩ := get_of_map hx
    have ob := hc o (List.mem_of_getElem? ho)
    have e1 := ofts_succ (c := c) (w := w) ho
    have ll := ofts_len (cs.take j) c w
    rw [List.length_take] at ll
    have g1 : 0 < Nat.gcd c o := Nat.gcd_pos_of_pos_right _ ob.1
    have g2 : Nat.gcd c o ≤ o := Nat.gcd_le_right _ ob.1
    refine ⟨rfl, _, rfl, _, rfl, rfl, _, rfl, ?_⟩
    by_cases e : o = c
    · subst e
      rw [if_neg (by simp), List.append_nil] at e1
      rw [decide_eq_true rfl]
      exact iteF ⟨s2, by rw [e1]; exact hD⟩
    · rw [if_pos e] at e1
      rw [decide_eq_false (show ¬ vN o = vN c from fun z => e (by have := V.int.inj z; omega))]
      refine iteT ⟨_, rfl, _, rfl, _, _, rfl, rfl, .inl ⟨by omega, by omega⟩, _, rfl, _, rfl, c, o, rfl, _, _, rfl, rfl, ⟨by omega, by omega⟩, _, hD, szl _ (by rw [List.length_map]; omega), s2.mut nD, ?_⟩
      rw [upd_same, e1, List.map_append]
      rfl
  · rintro H2 ⟨s2, hD⟩
    rw [List.length_map, List.take_length] at hD
    obtain ⟨o, ho, hoc⟩ : ∃ o ∈ cs, o ≠ c := by
      have g0 : 0 < cs.length := by omega
      have g1 : 1 < cs.length := by omega
      by_cases e : cs[0] = c
      · refine ⟨cs[1], List.getElem_mem g1, fun z => ?_⟩
        have := List.pairwise_iff_getElem.mp hC.up 0 1 g0 g1 (by decide)
        omega
      · exact ⟨cs[0], List.getElem_mem g0, e⟩
    have hne : ofts cs c w ≠ [] := List.ne_nil_of_mem (List.mem_map.mpr ⟨o, List.mem_filter.mpr ⟨ho, by simpa using hoc⟩, rfl⟩)
    refine ⟨D, (ofts cs c w).map fun n : Nat => (n : Int), rfl, SqL.of (by rw [List.map_map]; exact hD), by rw [List.length_map]; exact List.length_pos_iff.mpr hne, fun m hm hle => ⟨_, _, rfl, rfl, ?_⟩⟩
    obtain ⟨k, hk, rfl⟩ := List.mem_map.mp hm
    have em : (ofts cs c w).min? = some k := List.min?_eq_some_iff.mpr ⟨hk, fun b hb => by
      have := hle b (List.mem_map.mpr ⟨b, hb, rfl⟩)
      omega⟩
    have q := q H2 s2
    unfold mostOft at q
    rw [em] at q
    obtain ⟨o2, ho2, e2⟩ := List.mem_map.mp hk
    have ob := hc o2 (List.mem_filter.mp ho2).1
    have g1 : 0 < Nat.gcd c o2 := Nat.gcd_pos_of_pos_right _ ob.1
    have g2 : Nat.gcd c o2 ≤ o2 := Nat.gcd_le_right _ ob.1
    have k1 : 1 ≤ k := by
      rw [← e2]
      refine (Nat.le_div_iff_mul_le g1).mpr ?_
      have : 1 * o2 ≤ w * o2 := Nat.mul_le_mul_right o2 hw0
      omega
    have e3 : (k : Int) - 1 = ((k - 1 : Nat) : Int) := by omega
    show Q (.int ((k : Int) - 1)) H2
    rw [e3]
    exact q
abbrev sBoundFor : Stmt := topS 89
theorem scBoundFor : FnScope ["coins", "ways", "coin"] ["coins", "ways"] (defScope sBoundFor) := ⟨rfl, rfl, rfl, by decide +kernel, rfl, by decide +kernel, by decide +kernel⟩
def spBoundFor (K : PySem.W.Frag) : Sp := fun vs H Q _ => ∃ (a : Addr) (cs : List Nat) (w : Nat), vs = [.ref a, vN w] ∧ SqT K H a (cs.map vN) ∧ Coins cs ∧ 2 ≤ cs.length ∧ 0 < w ∧ w ≤ 4 ∧ ∀ H', Same H H' → Q (vN (boundF cs w)) H'
theorem ok_bound_for (B : Bl mg) (d_most_often : DefOk P w K mg base "most_often" 2 ["coins", "coin", "ways"] (spMostOften K)) (A : At K mg "bound_for" sBoundFor) : DefOk P w K mg base "bound_for" 3 ["coins", "ways"] (spBoundFor K) := by
  refine mkDef A scBoundFor (fun _ _ _ _ _ _ us hl => match us, hl with | [_, _], _ => rfl) (by rintro _ _ _ _ ⟨_, _, _, rfl, _⟩; rfl) fun f cdv A outer s H vs Q E hr h => ?_
  obtain ⟨a, cs, w, rfl, hq, hC, h2, hw0, hw, q⟩ := h
  have h4 := hC.few
  refine ⟨_, pss_one (ps_ret (pe_callB (cr_sum rfl) (by rfl) B.z_sum (by decide +kernel) (pa_cons (pe_lc (own := [("coin", 2)]) (g := gName 2) (tt := tYes) rfl scBoundFor.nd (pi_tup (pv 0)) (blkOk_by (N := ["coins", "ways", "coin"]) (sc := defScope sBoundFor) (by decide +kernel)) (fun _ _ _ _ _ => (pg_name (i := 2) scBoundFor.nd rfl (Or.inl rfl))) (fun _ _ _ _ _ => pts_nil) (fun _ _ _ _ _ => pe_op op_mul (pv 2) (pe_callD d_most_often hr rfl (pa_cons (pv 0) (pa_cons (pv 2) (pa_cons (pv 1) pa_nil)))))) pa_nil))), ?_⟩
  refine ⟨_, rfl, a, rfl, ⟨_, hq⟩, fun D nD => lc_tup (fun j H' => Same H H' ∧ H' D = some (.lst (((cs.take j).map fun c => c * mostOft cs c w).map vN))) ⟨same_upd nD, upd_same⟩ (fun j H' _ p => p.1.seqT hq) ?_ ?_⟩
  · rintro j x H2 hx ⟨s2, hD⟩
    obtain ⟨c, hci, rfl⟩ := get_of_map hx
    have cb := hC.pos c (List.mem_of_getElem? hci)
    refine ⟨rfl, _, rfl, _, rfl, _, rfl, _, rfl, a, cs, c, w, rfl, s2.seqT hq, hC, List.mem_of_getElem? hci, h2, hw0, hw, fun H3 s3 => ⟨_, _, rfl, rfl, .inl ⟨by omega, by omega⟩, _, s3 _ _ hD, szl _ (by rw [List.length_map, List.length_map, List.length_take]; omega), (s2.trans s3).mut nD, ?_⟩⟩
    rw [upd_same, List.take_add_one, hci, List.map_append, List.map_append]
    rfl
  · rintro H2 ⟨s2, hD⟩
    rw [List.length_map, List.take_length] at hD
    refine ⟨D, (cs.map fun c => c * mostOft cs c w).map fun n : Nat => (n : Int), rfl, SqL.of (by rw [List.map_map]; exact hD), ?_⟩
    rw [sum_cast]
    exact q H2 s2
abbrev sCappedTable : Stmt := topS 90
theorem scCappedTable : FnScope ["coins", "amount", "most", "found", "coin", "total"] ["coins", "amount", "most"] (defScope sCappedTable) := ⟨rfl, rfl, rfl, by decide +kernel, rfl, by decide +kernel, by decide +kernel⟩
def spCapped (K : PySem.W.Frag) : Sp := fun vs H Q _ => ∃ (a : Addr) (cs : List Nat) (t w : Nat), vs = [.ref a, vN t, vN w] ∧ SqT K H a (cs.map vN) ∧ (∀ c ∈ cs, 0 < c ∧ c ≤ 12) ∧ t ≤ 100000 ∧ 0 < w ∧
  ∀ H' p, Same H H' → H p = none → H' p = some (.lst (tabC (t + 1) fun s => min w (cnt cs s))) → Q (.ref p) H'
theorem ok_capped_table (B : Bl mg) (A : At K mg "capped_table" sCappedTable) : DefOk P w K mg base "capped_table" 1 ["coins", "amount", "most"] (spCapped K) := by
  refine mkDef A scCappedTable (fun _ _ _ _ _ _ us hl => match us, hl with | [_, _, _], _ => rfl) (by rintro _ _ _ _ ⟨_, _, _, _, rfl, _⟩; rfl) fun f cdv A outer s H vs Q E hr h => ?_
  obtain ⟨a, cs, t, w, rfl, hq, hc, ht, hw, q⟩ := h
  refine ⟨_, pss_cons (ps_set (i := 3) scCappedTable.nd rfl (Or.inl rfl) (pe_op op_cat (pe_lst (pa_cons (pe_int) pa_nil)) (pe_op op_rep (pe_lst (pa_cons (pe_int) pa_nil)) (pv 1))))
      (pss_cons (ps_for PassesOwn.never rfl (pi_tup (pv 0)) (pg_name (i := 4) scCappedTable.nd rfl (Or.inl rfl))
        (pss_one (ps_for PassesOwn.never rfl (pi_range2 rfl B.z_range (pa_cons (pv 4) (pa_cons (pe_op op_add (pv 1) (pe_int)) pa_nil))) (pg_name (i := 5) scCappedTable.nd rfl (Or.inl rfl))
            (pss_one (ps_asg (pe_callB (call_min2 rfl) (by rfl) B.z_min (by decide +kernel) (pa_cons (pv 2) (pa_cons (pe_op op_add (pe_ix ix_list (pv 3) (pv 5) (fun _ _ => rfl)) (pe_ix ix_list (pv 3) (pe_op op_sub (pv 5) (pv 4)) (fun _ _ => rfl))) pa_nil))) (pg_sub (pv 3) (pv 5) set_list))))))
      (pss_one (ps_ret (pv 3)))), ?_⟩
  refine cat_rep (k := t) (fun H1 Q1 h1 => ⟨_, rfl, h1⟩) (by omega) fun p H0 s0 np hp => ?_
  refine ⟨_, rfl, a, rfl, ⟨_, s0.seqT hq⟩, for_tup (fun i σ H' => ∃ (y4 y5 : Option V), σ = [some (.ref a), some (vN t), some (vN w), some (.ref p), y4, y5] ∧ Same H H' ∧
      H' p = some (.lst (tabC (t + 1) fun s => min w ((cs.take i).foldl (fun f c => addc c f) (cnt []) s))))
    ⟨_, _, rfl, s0, by
      rw [hp, tab0]
      refine congrArg (fun z => some (HO.lst z)) (tab_congr fun s _ => congrArg vN ?_)
      show cnt [] s = min w (cnt [] s)
      rw [Mp.cnt_nil]
      split <;> omega⟩ (fun i σ H' _ ⟨_, _, _, s2, _⟩ => s2.seqT hq) ?_ ?_⟩
  · rintro i x σ H2 hx ⟨_, _, rfl, s2, hp2⟩
    obtain ⟨c, hci, rfl⟩ := get_of_map hx
    obtain ⟨hc1, hc2⟩ := hc c (List.mem_of_getElem? hci)
    have hfold := foldl_take (fun f c => addc c f) (cnt []) hci
    generalize (cs.take i).foldl (fun f c => addc c f) (cnt []) = g at hp2 hfold
    refine ⟨_, rfl, _, rfl, _, _, rfl, rfl, _, _, rfl, ⟨by omega, by omega, by omega, by omega⟩, ?_⟩
    refine for_rN c (t + 1 - c) rfl (by omega) (fun j σ H' => ∃ y, σ = [some (.ref a), some (vN t), some (vN w), some (.ref p), some (vN c), y] ∧ Same H H' ∧ H' p = some (.lst (tabC (t + 1) fun s => min w (half c j g s))))
      ⟨_, rfl, s2, hp2.trans (congrArg (fun z => some (HO.lst z)) (tab_congr fun t _ => congrArg (fun z => vN (min w z)) (half_zero t).symm))⟩ ?_ ?_
    · rintro j σ H3 hj ⟨y, rfl, s3, h2⟩
      have hin : c + j < t + 1 := by omega
      have a1 := tab_at (n := t + 1) (i := c + j) (f := fun t => vN (min w (half c j g t))) (z := ((c + j : Nat) : Int)) rfl hin
      have a2 := tab_at (n := t + 1) (i := j) (f := fun t => vN (min w (half c j g t))) (z := ((c + j : Nat) : Int) - (c : Int)) (by omega) (by omega)
      refine ⟨_, rfl, _, rfl, _, rfl, _, _, _, _, rfl, rfl, SqL.of h2, a1, _, rfl, _, rfl, _, rfl, _, _, rfl, rfl, _, _, _, _, rfl, rfl, SqL.of h2, a2, _, _, rfl, rfl, _, _, rfl, _, rfl, _, rfl, _, _, _, c + j, rfl, rfl, h2, ixN_tab rfl (by rw [tab_len]; exact hin), ?_⟩
      refine ⟨_, rfl, s3.mut np, ?_⟩
      rw [upd_same, tab_set]
      refine congrArg (fun z => some (HO.lst z)) (tab_congr fun s _ => ?_)
      show _ = vN (min w (half c (j + 1) g s))
      rw [← half_step hc1 s]
      by_cases e : s = c + j
      · rw [if_pos e, if_pos e, ← cap_add]
        have em : ∀ x y : Nat, (if (y : Int) < (x : Int) then (y : Int) else (x : Int)) = ((min x y : Nat) : Int) := fun x y => by
          split <;> omega
        exact congrArg V.int (em w (min w (half c j g (c + j)) + min w (half c j g j)))
      · rw [if_neg e, if_neg e]
    · rintro σ H3 ⟨y, rfl, s3, h3⟩
      refine ⟨_, _, rfl, s3, ?_⟩
      rw [h3, hfold]
      exact congrArg (fun z => some (HO.lst z)) (tab_congr fun t ht => congrArg (fun z => vN (min w z)) (half_end ht))
  · rintro σ H2 ⟨_, _, rfl, s2, hp2⟩
    refine ⟨_, rfl, q H2 p s2 np ?_⟩
    rw [hp2, List.length_map, List.take_length]
    exact congrArg (fun z => some (HO.lst z)) (tab_congr fun s _ => congrArg (fun z => vN (min w z)) (fromFirst_cnt cs (fun c h => (hc c h).1) s))
abbrev sFewList : Stmt := topS 91
theorem scFewList : FnScope ["coins", "ways", "table", "total", "many"] ["coins", "ways"] (defScope sFewList) := ⟨rfl, rfl, rfl, by decide +kernel, rfl, by decide +kernel, by decide +kernel⟩
def spFewList (K : PySem.W.Frag) : Sp := fun vs H Q _ => ∃ (a : Addr) (cs : List Nat) (w : Nat), vs = [.ref a, vN w] ∧ SqT K H a (cs.map vN) ∧ Coins cs ∧ 2 ≤ cs.length ∧ 0 < w ∧ w ≤ 4 ∧ ∀ H' p, Same H H' → H' p = some (.lst ((fewL cs w).map vN)) → Q (.ref p) H'
theorem few_succ (cs : List Nat) (w i : Nat) : (List.range (i + 1)).filter (fun t => decide (1 ≤ cnt cs t ∧ cnt cs t ≤ w)) = (List.range i).filter (fun t => decide (1 ≤ cnt cs t ∧ cnt cs t ≤ w)) ++ if 1 ≤ cnt cs i ∧ cnt cs i ≤ w then [i] else [] := by
  rw [List.range_succ, List.filter_append]
  congr 1
  by_cases e : 1 ≤ cnt cs i ∧ cnt cs i ≤ w
  · rw [if_pos e, List.filter_cons_of_pos (by simpa using e)]
    rfl
  · rw [if_neg e, List.filter_cons_of_neg (by simpa using e)]
    rfl
theorem ok_few_list (B : Bl mg) (d_bound_for : DefOk P w K mg base "bound_for" 3 ["coins", "ways"] (spBoundFor K)) (d_capped_table : DefOk P w K mg base "capped_table" 1 ["coins", "amount", "most"] (spCapped K)) (A : At K mg "few_list" sFewList) : DefOk P w K mg base "few_list" 4 ["coins", "ways"] (spFewList K) := by
  refine mkDef A scFewList (fun _ _ _ _ _ _ us hl => match us, hl with | [_, _], _ => rfl) (by rintro _ _ _ _ ⟨_, _, _, rfl, _⟩; rfl) fun f cdv A outer s H vs Q E hr h => ?_
  obtain ⟨a, cs, w, rfl, hq, hC, h2, hw0, hw, q⟩ := h
  have hb := boundF_le (w := w) hC.pos hC.few
  have hb2 : 4 * (12 * (w * 12)) ≤ 4 * (12 * (4 * 12)) := Nat.mul_le_mul_left _ (Nat.mul_le_mul_left _ (Nat.mul_le_mul_right _ hw))
  refine ⟨_, pss_cons (ps_set (i := 2) scFewList.nd rfl (Or.inl rfl) (pe_callD d_capped_table hr rfl (pa_cons (pv 0) (pa_cons (pe_callD d_bound_for hr rfl (pa_cons (pv 0) (pa_cons (pv 1) pa_nil))) (pa_cons (pe_op op_add (pv 1) (pe_int)) pa_nil)))))
      (pss_one (ps_ret (pe_lc (own := [("total", 3), ("many", 4)]) (g := gPair K 3 4) rfl scFewList.nd (pi_enum (by rfl) B.z_enumerate (pa_cons (pv 2) pa_nil)) (blkOk_by (N := ["coins", "ways", "table", "total", "many"]) (sc := defScope sFewList) (by decide +kernel)) (fun _ _ _ _ _ => (pg_tup rfl (pgs_cons (pg_name (i := 3) scFewList.nd rfl (Or.inl rfl)) (pgs_cons (pg_name (i := 4) scFewList.nd rfl (Or.inl rfl)) pgs_nil)))) (fun _ _ _ _ _ => pts_one (pt_chain op_le op_le (pe_int) (pv 4) (pv 1))) (fun _ _ _ _ _ => pv 3)))), ?_⟩
  refine ⟨_, rfl, _, rfl, _, rfl, a, cs, w, rfl, hq, hC, h2, hw0, hw, fun H1 s1 => ⟨_, rfl, _, _, rfl, rfl, a, cs, boundF cs w, w + 1, rfl, s1.seqT hq, hC.pos, by omega, by omega, fun H2 p s2 n2 hp => ?_⟩⟩
  have q := fun H' p s e => q H' p s e
  unfold fewL at q
  generalize boundF cs w = N at hp q hb
  refine ⟨_, rfl, p, _, rfl, SqL.of hp, fun D nD => lc_pair walk_enum (fun i H' => Same H2 H' ∧ H' D = some (.lst (((List.range i).filter fun t => decide (1 ≤ cnt cs t ∧ cnt cs t ≤ w)).map vN)))
    ⟨same_upd nD, upd_same⟩ (fun i H' _ p => SqL.of (p.1 _ _ hp)) (fun _ _ => rfl) ?_ ?_⟩
  · rintro i x y T H3 hi ⟨s3, h3⟩ nT hx hy
    rw [tab_len] at hi
    have ex : x = vN i := (Option.some.inj hx).symm
    subst ex
    rw [tab_get hi] at hy
    have ey : y = vN (min (w + 1) (cnt cs i)) := (Option.some.inj hy).symm
    subst ey
    have DT : D ≠ T := ne_of_none h3 nT
    have s4 : Same H2 (upd H3 T (.tup [vN i, vN (min (w + 1) (cnt cs i))])) := s3.new nT
    have h4 : (upd H3 T (.tup [vN i, vN (min (w + 1) (cnt cs i))])) D = some (.lst (((List.range i).filter fun t => decide (1 ≤ cnt cs t ∧ cnt cs t ≤ w)).map vN)) := by rw [upd_ne DT]; exact h3
    generalize upd H3 T (.tup [vN i, vN (min (w + 1) (cnt cs i))]) = H4 at s4 h4
    have fs := few_succ cs w i
    have hlen : ((List.range i).filter fun t => decide (1 ≤ cnt cs t ∧ cnt cs t ≤ w)).length ≤ 5000 := by
      refine Nat.le_trans (List.length_filter_le _ _) ?_
      rw [List.length_range]
      omega
    refine ⟨_, rfl, _, _, rfl, rfl, _, rfl, ?_⟩
    by_cases h1 : 1 ≤ cnt cs i
    · rw [decide_eq_true (show (1 : Int) ≤ ((min (w + 1) (cnt cs i) : Nat) : Int) by omega)]
      refine iteT ⟨_, rfl, _, _, rfl, rfl, _, rfl, ?_⟩
      by_cases h5 : cnt cs i ≤ w
      · rw [decide_eq_true (show ((min (w + 1) (cnt cs i) : Nat) : Int) ≤ (w : Int) by omega)]
        rw [if_pos ⟨h1, h5⟩] at fs
        refine iteT ⟨_, rfl, _, h4, szl _ (by rw [List.length_map]; omega), s4.mut nD, ?_⟩
        rw [upd_same, fs, List.map_append]
        rfl
      · rw [decide_eq_false (show ¬ ((min (w + 1) (cnt cs i) : Nat) : Int) ≤ (w : Int) by omega)]
        rw [if_neg (fun z => h5 z.2), List.append_nil] at fs
        exact iteF ⟨s4, by rw [fs]; exact h4⟩
    · rw [decide_eq_false (show ¬ (1 : Int) ≤ ((min (w + 1) (cnt cs i) : Nat) : Int) by omega)]
      rw [if_neg (fun z => h1 z.1), List.append_nil] at fs
      exact iteF ⟨_, rfl, iteF ⟨s4, by rw [fs]; exact h4⟩⟩
  · rintro H3 ⟨s3, h3⟩
    rw [tab_len] at h3
    exact q H3 D ((s1.trans s2).trans s3) h3
abbrev sCheckTwoCoins : Stmt := topS 92
theorem scCheckTwoCoins : FnScope ["lot"] ["lot"] (defScope sCheckTwoCoins) := ⟨rfl, rfl, rfl, by decide +kernel, rfl, by decide +kernel, by decide +kernel⟩
def spTwoCoins (K : PySem.W.Frag) (C : Addr) : Sp := fun vs H Q _ => ∃ (v : V) (cs : List Nat), vs = [v] ∧ LotN K C H v cs ∧ 2 ≤ cs.length ∧ Q .non H
theorem ok_check_two_coins (B : Bl mg) (G : LotG P w K mg base C) (A : At K mg "check_two_coins" sCheckTwoCoins) : DefOk P w K mg base "check_two_coins" 3 ["lot"] (spTwoCoins K C) := by
  refine mkDef A scCheckTwoCoins (fun _ _ _ _ _ _ us hl => match us, hl with | [_], _ => rfl) (by rintro _ _ _ _ ⟨_, _, rfl, _⟩; rfl) fun f cdv A outer s H vs Q E hr h => ?_
  obtain ⟨v, cs, rfl, ⟨a, dx, c, rfl, h1, h2⟩, hl, q⟩ := h
  refine ⟨_, pss_one (ps_if (pt_cmpR op_eq (pe_callB call_len_seq (by rfl) B.z_len (by decide +kernel) (pa_cons (pe_coins G hr (pv 0)) pa_nil)) (pe_int) (nomark _))
        (pss_one (ps_never))
        (pss_nil)), ?_⟩
  refine ⟨_, rfl, a, dx, _, rfl, h1, c, _, rfl, .inr h2, rfl, _, rfl, ?_⟩
  rw [decide_eq_false (show ¬ V.int (((cs.map vN).length : Nat) : Int) = V.int 1 from fun z => by have := V.int.inj z; rw [List.length_map] at this; omega)]
  exact iteF q
abbrev sFewSums : Stmt := topS 93
theorem scFewSums : FnScope ["lot", "ways"] ["lot", "ways"] (defScope sFewSums) := ⟨rfl, rfl, rfl, by decide +kernel, rfl, by decide +kernel, by decide +kernel⟩
def spFewSums (K : PySem.W.Frag) (C : Addr) : Sp := fun vs H Q _ => ∃ (v : V) (cs : List Nat) (w : Nat), vs = [v, vN w] ∧ LotN K C H v cs ∧ Coins cs ∧ 2 ≤ cs.length ∧ 0 < w ∧ w ≤ 4 ∧ ∀ H' u, Same H H' → TupN K H' u (fewL cs w) → Q u H'
theorem ok_few_sums (B : Bl mg) (G : LotG P w K mg base C) (d_check_lot : DefOk P w K mg base "check_lot" 1 ["value"] (spCheckLot K C)) (d_check_within : DefOk P w K mg base "check_within" 3 ["value", "least", "most"] spCheckW) (d_check_two_coins : DefOk P w K mg base "check_two_coins" 3 ["lot"] (spTwoCoins K C)) (d_few_list : DefOk P w K mg base "few_list" 4 ["coins", "ways"] (spFewList K)) (A : At K mg "few_sums" sFewSums) : DefOk P w K mg base "few_sums" 5 ["lot", "ways"] (spFewSums K C) := by
  refine mkDef A scFewSums (fun _ _ _ _ _ _ us hl => match us, hl with | [_, _], _ => rfl) (by rintro _ _ _ _ ⟨_, _, _, rfl, _⟩; rfl) fun f cdv A outer s H vs Q E hr h => ?_
  obtain ⟨v, cs, w, rfl, hL, hC, hl, hw0, hw, q⟩ := h
  obtain ⟨a, dx, c, rfl, h1, h2⟩ := id hL
  refine ⟨_, pss_cons (ps_expr (pe_callD d_check_lot hr rfl (pa_cons (pv 0) pa_nil)))
      (pss_cons (ps_expr (pe_callD d_check_within hr rfl (pa_cons (pv 1) (pa_cons (pe_int) (pa_cons (pe_gint rfl B.MOST_WAYS) pa_nil)))))
      (pss_cons (ps_expr (pe_callD d_check_two_coins hr rfl (pa_cons (pv 0) pa_nil)))
      (pss_one (ps_ret (pe_callTy cr_tupOf (by rfl) B.z_tuple (by decide +kernel) (pa_cons (pe_callD d_few_list hr rfl (pa_cons (pe_coins G hr (pv 0)) (pa_cons (pv 1) pa_nil))) pa_nil)))))), ?_⟩
  exact ⟨_, rfl, _, cs, rfl, hL, _, rfl, _, _, _, rfl, by omega, by omega, _, rfl, _, cs, rfl, hL, hl, _, rfl, a, dx, _, rfl, h1, _, rfl, c, cs, w, rfl, h2, hC, hl, hw0, hw, fun H1 p s1 hp =>
    ⟨p, _, rfl, .inl ⟨SqL.of hp, fun l nl => q _ _ (s1.new nl) ⟨l, rfl, SqT.of upd_same⟩⟩⟩⟩
abbrev sCheckToldPayment : Stmt := topS 94
theorem scCheckToldPayment : FnScope ["lot", "payment"] ["lot", "payment"] (defScope sCheckToldPayment) := ⟨rfl, rfl, rfl, by decide +kernel, rfl, by decide +kernel, by decide +kernel⟩
def spToldPayment (K : PySem.W.Frag) (C : Addr) : Sp := fun vs H Q _ => ∃ (v u : V) (cs ps : List Nat), vs = [v, u] ∧ LotN K C H v cs ∧ Coins cs ∧ TupN K H u ps ∧ cs.length = ps.length ∧ val cs ps ≤ 400 ∧ ∀ H', Same H H' → Q .non H'
theorem ok_check_told_payment (B : Bl mg) (G : LotG P w K mg base C) (d_check_lot : DefOk P w K mg base "check_lot" 1 ["value"] (spCheckLot K C)) (d_check_payment : DefOk P w K mg base "check_payment" 4 ["lot", "value"] (spCheckPayment K C)) (d_sum_of : DefOk P w K mg base "sum_of" 1 ["coins", "payment"] (spSumOf K)) (A : At K mg "check_told_payment" sCheckToldPayment) : DefOk P w K mg base "check_told_payment" 5 ["lot", "payment"] (spToldPayment K C) := by
  refine mkDef A scCheckToldPayment (fun _ _ _ _ _ _ us hl => match us, hl with | [_, _], _ => rfl) (by rintro _ _ _ _ ⟨_, _, _, _, rfl, _⟩; rfl) fun f cdv A outer s H vs Q E hr h => ?_
  obtain ⟨v, u, cs, ps, rfl, hL, hC, ⟨b, rfl, hb⟩, hl, hv, q⟩ := h
  refine ⟨_, pss_cons (ps_expr (pe_callD d_check_lot hr rfl (pa_cons (pv 0) pa_nil)))
      (pss_cons (ps_expr (pe_callD d_check_payment hr rfl (pa_cons (pv 0) (pa_cons (pv 1) pa_nil))))
      (pss_one (ps_if (pt_cmpR op_gt (pe_callD d_sum_of hr rfl (pa_cons (pe_coins G hr (pv 0)) (pa_cons (pv 1) pa_nil))) (pe_gint rfl B.MOST_TOLD_SUM) (nomark _))
        (pss_one (ps_never))
        (pss_nil)))), ?_⟩
  refine ⟨_, rfl, _, cs, rfl, hL, _, rfl, _, rfl, v, cs, b, ps, rfl, hL, hb, hl, fun H1 s1 => ?_⟩
  obtain ⟨a, dx, c, rfl, h1, h2⟩ := hL.mono s1
  refine ⟨_, rfl, a, dx, _, rfl, h1, _, rfl, c, b, cs, ps, rfl, h2, s1.seqT hb, hC.pos, hl, hC.few, fun H2 s2 => ⟨_, _, rfl, rfl, _, rfl, ?_⟩⟩
  rw [decide_eq_false (show ¬ (4000 : Int) < ((val cs ps : Nat) : Int) by omega)]
  exact iteF (q H2 (s1.trans s2))
abbrev sOtherOf : Stmt := topS 95
theorem scOtherOf : FnScope ["coins", "payment", "total", "others", "told"] ["coins", "payment"] (defScope sOtherOf) := ⟨rfl, rfl, rfl, by decide +kernel, rfl, by decide +kernel, by decide +kernel⟩
def spOther (K : PySem.W.Frag) : Sp := fun vs H Q _ => ∃ (a : Addr) (u : V) (cs ps : List Nat) (t : Nat), vs = [.ref a, u] ∧ SqT K H a (cs.map vN) ∧ Coins cs ∧ TupN K H u ps ∧ t ≤ 400 ∧ PaidOk cs t ∧ ps ∈ pays cs t ∧
  ∀ H' v, Same H H' → ((cnt cs t = 1 ∧ v = .non) ∨ (cnt cs t ≠ 1 ∧ ∃ b, v = .ref b)) → Q v H'
theorem ok_other_of (B : Bl mg) (d_sum_of : DefOk P w K mg base "sum_of" 1 ["coins", "payment"] (spSumOf K)) (d_first_of : DefOk P w K mg base "first_of" 3 ["coins", "amount"] (spFirstOf K)) (d_last_of : DefOk P w K mg base "last_of" 3 ["coins", "amount"] (spLastOf K)) (A : At K mg "other_of" sOtherOf) : DefOk P w K mg base "other_of" 4 ["coins", "payment"] (spOther K) := by
  refine mkDef A scOtherOf (fun _ _ _ _ _ _ us hl => match us, hl with | [_, _], _ => rfl) (by rintro _ _ _ _ ⟨_, _, _, _, _, rfl, _⟩; rfl) fun f cdv A outer s H vs Q E hr h => ?_
  obtain ⟨a, u, cs, ps, t, rfl, hq, hC, ⟨b, rfl, hb⟩, ht, hpd, hm, q⟩ := h
  obtain ⟨hl, hv⟩ := (mem_pays fun c h => (hC.pos c h).1).mp hm
  have hne := List.ne_nil_of_mem hm
  have hl0 : 0 < (pays cs t).length := List.length_pos_iff.mpr hne
  obtain ⟨p0, h0⟩ : ∃ p0, (pays cs t)[0]? = some p0 := ⟨_, List.getElem?_eq_getElem hl0⟩
  obtain ⟨p1, h1⟩ : ∃ p1, (pays cs t).getLast? = some p1 := ⟨_, List.getLast?_eq_some_getLast hne⟩
  have ends := one_ends (pays_nodup cs t) h0 h1 hm
  refine ⟨_, pss_cons (ps_set (i := 2) scOtherOf.nd rfl (Or.inl rfl) (pe_callD d_sum_of hr rfl (pa_cons (pv 0) (pa_cons (pv 1) pa_nil))))
      (pss_cons (ps_setLc (i := 3) (own := [("told", 4)]) (g := gName 4) (tt := tTest (tOp (rNeD K) (tVar 4) (tVar 1))) rfl scOtherOf.nd rfl rfl (sw_true rfl rfl rfl (by decide +kernel)) (pi_tup (pe_tup (pa_cons (pe_callD d_first_of hr rfl (pa_cons (pv 0) (pa_cons (pv 2) pa_nil))) (pa_cons (pe_callD d_last_of hr rfl (pa_cons (pv 0) (pa_cons (pv 2) pa_nil))) pa_nil)))) (blkOk_by (N := ["coins", "payment", "total", "others", "told"]) (sc := defScope sOtherOf) (by decide +kernel)) (fun _ _ _ _ _ => (pg_name (i := 4) scOtherOf.nd rfl (Or.inl rfl))) (fun _ _ _ _ _ => pts_one (pt_cmpR (op_neD hr.units) (pv 4) (pv 1) (nomark _))) (fun _ _ _ _ _ => pv 4))
      (pss_one (ps_ret (pe_ifExp (pt_cmpR (op_neD hr.units) (pv 3) (pe_lst pa_nil) (nomark _)) (pe_ix ix_list (pv 3) (pe_int) (fun _ _ => rfl)) (pe_non))))), ?_⟩
  refine ⟨_, rfl, _, rfl, a, b, cs, ps, rfl, hq, hb, hC.pos, hl.symm, hC.few, fun H1 s1 => ?_⟩
  rw [hv]
  refine ⟨_, rfl, _, rfl, a, cs, t, p0, rfl, s1.seqT hq, hC, ht, hpd, h0, fun H2 u0 s2 hu0 => ⟨_, rfl, _, rfl, a, cs, t, p1, rfl, (s1.trans s2).seqT hq, hC, ht, hpd, h1, fun H3 u1 s3 hu1 => ⟨sz _ (by show 2 ≤ 16000000; decide), fun T nT => ?_⟩⟩⟩
  have s4 : Same H3 (upd H3 T (.tup [u0, u1])) := same_upd nT
  have hT : SqT K (upd H3 T (.tup [u0, u1])) T [u0, u1] := SqT.of upd_same
  have hb4 : SqT K (upd H3 T (.tup [u0, u1])) b (ps.map vN) := (((s1.trans s2).trans s3).trans s4).seqT hb
  have hU : TupsN K (upd H3 T (.tup [u0, u1])) [u0, u1] [p0, p1] := .cons (((hu0.mono s3).mono s4)) (.cons (hu1.mono s4) .nil)
  have s04 : Same H (upd H3 T (.tup [u0, u1])) := ((s1.trans s2).trans s3).trans s4
  generalize upd H3 T (.tup [u0, u1]) = H4 at hT hb4 hU s04
  refine ⟨T, rfl, ⟨_, hT⟩, fun D nD => lc_tup (fun j H' => ∃ ys, Same H4 H' ∧ H' D = some (.lst ys) ∧ TupsN K H' ys (([p0, p1].take j).filter fun p => decide (p ≠ ps))) ⟨[], same_upd nD, upd_same, .nil⟩ (fun j H' _ ⟨_, s5, _⟩ => s5.seqT hT) ?_ ?_⟩
  · rintro j x H5 hx ⟨ys, s5, h5, hy⟩
    obtain ⟨pj, hpj, tp⟩ := pget hU hx
    have tp5 := tp.mono s5
    obtain ⟨e, rfl, he⟩ := id tp5
    have hj : j < 2 := (List.getElem?_eq_some_iff.mp hx).1
    have ly : ys.length ≤ 2 := by
      have := Paired.length hy
      have h2 := List.length_filter_le (fun p => decide (p ≠ ps)) ([p0, p1].take j)
      rw [List.length_take] at h2
      have e : ([p0, p1] : List (List Nat)).length = 2 := rfl
      omega
    refine ⟨rfl, _, rfl, _, rfl, encT pj, encT ps, dp_tup tp5, dp_tup ⟨b, rfl, s5.seqT hb4⟩, encT_shaped _, encT_shaped _, _, rfl, ?_⟩
    rw [eqv_encT]
    have ft : ([p0, p1].take (j + 1)).filter (fun p => decide (p ≠ ps)) = ([p0, p1].take j).filter (fun p => decide (p ≠ ps)) ++ if pj ≠ ps then [pj] else [] := by
      rw [List.take_add_one, hpj, List.filter_append]
      congr 1
      by_cases e : pj ≠ ps
      · rw [if_pos e]
        show [pj].filter _ = _
        rw [List.filter_cons_of_pos (by simpa using e)]
        rfl
      · rw [if_neg e]
        show [pj].filter _ = _
        rw [List.filter_cons_of_neg (by simpa using e)]
        rfl
    by_cases e : pj = ps
    · rw [if_neg (fun z => z e), List.append_nil] at ft
      rw [decide_eq_true e]
      exact iteF ⟨ys, s5, h5, by rw [ft]; exact hy⟩
    · rw [if_pos e] at ft
      rw [decide_eq_false e]
      refine iteT ⟨_, rfl, ys, h5, szl _ (by omega), ys ++ [V.ref _], s5.mut nD, upd_same, ?_⟩
      rw [ft]
      exact papp (TupsN.put h5 hy) (pone (tp5.put h5))
  · rintro H5 ⟨ys, s5, h5, hy⟩
    have e2 : ([p0, p1].take ([u0, u1] : List V).length).filter (fun p => decide (p ≠ ps)) = [p0, p1].filter fun p => decide (p ≠ ps) := rfl
    rw [e2] at hy
    refine ⟨_, rfl, sz 0 (by decide), fun l nl => ⟨encP _, encP [], dp_lstP ((same_upd nl).seq (SqL.of h5)) (TupsN.mono (same_upd nl) hy), dp_lstP (SqL.of upd_same) .nil, encP_shaped _, encP_shaped _, _, rfl, ?_⟩⟩
    rw [eqv_encP]
    have s6 : Same H (upd H5 l (.lst [])) := (s04.trans s5).new nl
    have h6 : (upd H5 l (.lst [])) D = some (.lst ys) := (same_upd nl) _ _ h5
    have hy6 := TupsN.mono (same_upd nl (o := .lst [])) hy
    generalize upd H5 l (.lst []) = H6 at s6 h6 hy6
    by_cases e : [p0, p1].filter (fun p => decide (p ≠ ps)) = []
    · rw [decide_eq_true e]
      have e3 := List.filter_eq_nil_iff.mp e
      have c1 : cnt cs t = 1 := ends.mp ⟨by simpa using e3 p0 (by simp), by simpa using e3 p1 (by simp)⟩
      exact iteF (q H6 _ s6 (.inl ⟨c1, rfl⟩))
    · rw [decide_eq_false e]
      have c1 : cnt cs t ≠ 1 := fun z => e (by
        have := ends.mpr z
        refine List.filter_eq_nil_iff.mpr fun p hp => ?_
        rcases List.mem_cons.mp hp with rfl | hp
        · simpa using this.1
        · rcases List.mem_cons.mp hp with rfl | hp
          · simpa using this.2
          · cases hp)
      generalize [p0, p1].filter (fun p => decide (p ≠ ps)) = fl at hy6 e
      cases hy6 with
      | nil => exact absurd rfl e
      | cons r rest =>
        obtain ⟨d, rfl, hd⟩ := r
        refine iteT ⟨_, rfl, _, _, _, _, rfl, rfl, SqL.of h6, at_of (j := 0) rfl rfl, q H6 _ s6 (.inr ⟨c1, d, rfl⟩)⟩
abbrev sIsSingle : Stmt := topS 96
theorem scIsSingle : FnScope ["lot", "payment"] ["lot", "payment"] (defScope sIsSingle) := ⟨rfl, rfl, rfl, by decide +kernel, rfl, by decide +kernel, by decide +kernel⟩
def spSingle (K : PySem.W.Frag) (C : Addr) : Sp := fun vs H Q _ => ∃ (v u : V) (cs ps : List Nat) (t : Nat), vs = [v, u] ∧ LotN K C H v cs ∧ Coins cs ∧ TupN K H u ps ∧ t ≤ 400 ∧ PaidOk cs t ∧ ps ∈ pays cs t ∧ ∀ H', Same H H' → Q (.bl (decide (cnt cs t = 1))) H'
theorem ok_is_single (G : LotG P w K mg base C) (d_check_told_payment : DefOk P w K mg base "check_told_payment" 5 ["lot", "payment"] (spToldPayment K C)) (d_other_of : DefOk P w K mg base "other_of" 4 ["coins", "payment"] (spOther K)) (A : At K mg "is_single" sIsSingle) : DefOk P w K mg base "is_single" 6 ["lot", "payment"] (spSingle K C) := by
  refine mkDef A scIsSingle (fun _ _ _ _ _ _ us hl => match us, hl with | [_, _], _ => rfl) (by rintro _ _ _ _ ⟨_, _, _, _, _, rfl, _⟩; rfl) fun f cdv A outer s H vs Q E hr h => ?_
  obtain ⟨v, u, cs, ps, t, rfl, hL, hC, hu, ht, hpd, hm, q⟩ := h
  obtain ⟨hl, hv⟩ := (mem_pays fun c h => (hC.pos c h).1).mp hm
  refine ⟨_, pss_cons (ps_expr (pe_callD d_check_told_payment hr rfl (pa_cons (pv 0) (pa_cons (pv 1) pa_nil))))
      (pss_one (ps_ret (pe_cmp (pc_isN (pe_callD d_other_of hr rfl (pa_cons (pe_coins G hr (pv 0)) (pa_cons (pv 1) pa_nil))))))), ?_⟩
  refine ⟨_, rfl, _, rfl, v, u, cs, ps, rfl, hL, hC, hu, hl.symm, by omega, fun H1 s1 => ?_⟩
  obtain ⟨a, dx, c, rfl, h1, h2⟩ := hL.mono s1
  refine ⟨_, rfl, a, dx, _, rfl, h1, _, rfl, c, u, cs, ps, t, rfl, h2, hC, hu.mono s1, ht, hpd, hm, fun H2 v s2 hv => ?_⟩
  have q := q H2 (s1.trans s2)
  rcases hv with ⟨e, rfl⟩ | ⟨e, b, rfl⟩
  · rw [decide_eq_true e] at q
    exact q
  · rw [decide_eq_false e] at q
    exact q
end
end Cn
/-! The law's own: pots, draws, lots drawn, divisors, what is gathered. -/
namespace Cn
open PySem PySem.Spec PyProof.Rows L2 RZ StX Mp
/-- a pot: three numbers, the first not below 0 -/
def Pot (H : Hp) (p : Addr) : Prop := ∃ x y z : Int, 0 ≤ x ∧ H p = some (.lst [.int x, .int y, .int z])
theorem del_del {H : Hp} {p : Addr} : del (del H p) p = del H p := by
  funext a
  by_cases h : a = p
  · rw [h, del_self, del_self]
  · rw [del_ne h]
/-- all but p stays -/
theorem sx_trans {H H' H'' : Hp} {p : Addr} (s : Same (del H p) H') (t : Same (del H' p) H'') : Same (del H p) H'' := fun b o e => by
  have hb : b ≠ p := by
    rintro rfl
    rw [del_self] at e
    cases e
  exact t b o (by rw [del_ne hb]; exact s b o e)
theorem sx_of {H H' : Hp} {p : Addr} (s : Same H H') : Same (del H p) H' := fun b o e => by
  have hb : b ≠ p := by
    rintro rfl
    rw [del_self] at e
    cases e
  rw [del_ne hb] at e
  exact s b o e
theorem sx_at {H H' : Hp} {p a : Addr} {o : HO} (s : Same (del H p) H') (h : H a = some o) (ha : a ≠ p) : H' a = some o := s a o (by rw [del_ne ha]; exact h)
theorem sx_put {H H' : Hp} {p : Addr} {o : HO} (s : Same (del H p) H') : Same (del H p) (upd H' p o) := s.mut del_self
theorem sx_new {H H' : Hp} {p q : Addr} {o : HO} (s : Same (del H p) H') (h : H' q = none) : Same (del H p) (upd H' q o) := s.new h
theorem Pot.mono {H H' : Hp} {p : Addr} (s : Same H H') (h : Pot H p) : Pot H' p := by
  obtain ⟨x, y, z, h1, h2⟩ := h
  exact ⟨x, y, z, h1, s _ _ h2⟩
theorem Pot.lst {H : Hp} {p : Addr} (h : Pot H p) : ∃ l, H p = some (.lst l) := by
  obtain ⟨x, y, z, h1, h2⟩ := h
  exact ⟨_, h2⟩
theorem sx_seqT {K : PySem.W.Frag} {H H' : Hp} {p a : Addr} {xs : List V} (s : Same (del H p) H') (hp : Pot H p) (h : SqT K H a xs) : SqT K H' a xs := by
  obtain ⟨l, hp⟩ := hp.lst
  rcases h with (h | ⟨u, h⟩) | h
  · exact .inl (.inl (sx_at s h (ne_of h hp (by intro z; cases z))))
  · exact .inl (.inr ⟨u, sx_at s h (ne_of h hp (by intro z; cases z))⟩)
  · exact .inr h
theorem sx_tupN {K : PySem.W.Frag} {H H' : Hp} {p : Addr} {v : V} {ns : List Nat} (s : Same (del H p) H') (hp : Pot H p) (h : TupN K H v ns) : TupN K H' v ns := by
  obtain ⟨a, e, q⟩ := h
  exact ⟨a, e, sx_seqT s hp q⟩
theorem sx_lot {K : PySem.W.Frag} {C : Addr} {H H' : Hp} {p : Addr} {v : V} {cs : List Nat} (s : Same (del H p) H') (hp : Pot H p) (h : LotN K C H v cs) : LotN K C H' v cs := by
  obtain ⟨a, dx, c, e, h1, h2⟩ := h
  obtain ⟨l, hp'⟩ := hp.lst
  exact ⟨a, dx, c, e, sx_at s h1 (ne_of h1 hp' (by intro z; cases z)), sx_seqT s hp h2⟩
theorem abs0 (x : Int) : 0 ≤ if x < 0 then -x else x := by split <;> omega
section
variable {P : Program} {w : World} {K : PySem.W.Frag} {mg : Str → Option Value} {base : Heap} {C : Addr}
abbrev sLawPot : Stmt := topS 98
theorem scLawPot : FnScope ["_law_script", "_law_turn", "_law_cell", "_law_mixed", "_law_each"] ["_law_script", "_law_turn"] (defScope sLawPot) := ⟨rfl, rfl, rfl, by decide +kernel, rfl, by decide +kernel, by decide +kernel⟩
def spPot (K : PySem.W.Frag) : Sp := fun vs H Q _ => ∃ (a : Addr) (ns : List Int) (i : Nat), vs = [.ref a, vN i] ∧ SqL K H a (ns.map V.int) ∧ ns.length ≤ 1000 ∧ i ≤ 1000 ∧ ∀ H' p, Same H H' → H p = none → Pot H' p → Q (.ref p) H'
theorem ok_law_pot (B : Bl mg) (A : At K mg "_law_pot" sLawPot) : DefOk P w K mg base "_law_pot" 1 ["_law_script", "_law_turn"] (spPot K) := by
  refine mkDef A scLawPot (fun _ _ _ _ _ _ us hl => match us, hl with | [_, _], _ => rfl) (by rintro _ _ _ _ ⟨_, _, _, rfl, _⟩; rfl) fun f cdv A outer s H vs Q E hr h => ?_
  obtain ⟨a, ns, i, rfl, hq, hn, hi, q⟩ := h
  refine ⟨_, pss_cons (ps_set (i := 2) scLawPot.nd rfl (Or.inl rfl) (pe_ifExp (pt_cmpR op_lt (pv 1) (pe_callB call_len_seq (by rfl) B.z_len (by decide +kernel) (pa_cons (pv 0) pa_nil)) (nomark _)) (pe_callTy call_int1 (by rfl) B.z_int (by decide +kernel) (pa_cons (pe_ix ix_list (pv 0) (pv 1) (fun _ _ => rfl)) pa_nil)) (pe_op op_add (pe_op op_mul (pe_int) (pv 1)) (pe_op op_mod (pe_callTy call_int1 (by rfl) B.z_int (by decide +kernel) (pa_cons (pe_callB (cr_sum rfl) (by rfl) B.z_sum (by decide +kernel) (pa_cons (pe_slice sl_list (pv 0) po_none (po_some (pe_int))) pa_nil)) pa_nil)) (pe_int)))))
      (pss_cons (ps_set (i := 3) scLawPot.nd rfl (Or.inl rfl) (pe_op op_add (pe_int) (pe_op op_mul (pe_int) (pv 1))))
      (pss_cons (ps_for PassesOwn.never rfl (pi_list (pe_op op_cat (pe_slice sl_list (pv 0) po_none (po_some (pe_int))) (pe_lst (pa_cons (pv 2) pa_nil)))) (pg_name (i := 4) scLawPot.nd rfl (Or.inl rfl))
        (pss_one (ps_set (i := 3) scLawPot.nd rfl (Or.inl rfl) (pe_op op_mod (pe_callTy call_int1 (by rfl) B.z_int (by decide +kernel) (pa_cons (pe_op op_add (pe_op op_add (pe_op op_mul (pv 3) (pe_int)) (pe_op op_mod (pe_callTy call_int1 (by rfl) B.z_int (by decide +kernel) (pa_cons (pv 4) pa_nil)) (pe_int))) (pe_int)) pa_nil)) (pe_int)))))
      (pss_one (ps_ret (pe_lst (pa_cons (pe_ifExp (PW.pt (pw_or (pt_cmpR op_lt (pv 2) (pe_int) (nomark _)) (pw_or1 (pt_cmpR op_ge (pv 2) (pe_op op_pow (pe_int) (pe_int)) (nomark _))))) (pe_callB call_abs (by rfl) B.z_abs (by decide +kernel) (pa_cons (pv 2) pa_nil)) (pe_int)) (pa_cons (pv 3) (pa_cons (pe_int) pa_nil)))))))), ?_⟩
  refine ⟨_, rfl, _, rfl, a, _, rfl, .inl hq, _, _, rfl, rfl, _, rfl, ?_⟩
  rw [List.length_map]
  by_cases hin : i < ns.length
  · rw [decide_eq_true (show (i : Int) < (ns.length : Int) by omega)]
    refine iteT ⟨_, rfl, _, rfl, _, _, _, _, rfl, rfl, hq, at_of (j := i) rfl (show (ns.map V.int)[i]? = some (V.int ns[i]) by rw [List.getElem?_map, List.getElem?_eq_getElem hin]; rfl), .inl ⟨_, rfl, ?_⟩⟩
    have hq1 : SqL K H a (ns.map V.int) := (Same.refl H).seq hq
    refine ⟨_, rfl, _, _, rfl, rfl, .inl ⟨by decide, by decide⟩, _, _, rfl, rfl, ?_⟩
    refine ⟨_, rfl, _, rfl, a, _, rfl, hq1, fun p1 n1 => ⟨_, rfl, sz _ (by show 1 ≤ 16000000; decide), fun p2 n2 => ⟨_, _, _, _, rfl, rfl, (same_upd n2) _ _ upd_same, upd_same, sz _ ?_, fun p3 n3 => ⟨p3, rfl, ⟨_, SqL.of upd_same⟩, ?_⟩⟩⟩⟩
    · have := cutV_length (ns.map V.int) none (some 6)
      rw [List.length_map] at this
      show (cutV (ns.map V.int) none (some 6)).length + 1 ≤ _
      omega
    have s4 := (((Same.refl H).new n1 (o := .lst (cutV (ns.map V.int) none (some 6)))).new n2).new n3 (o := .lst (cutV (ns.map V.int) none (some 6) ++ [V.int ns[i]]))
    have h3 : _ = some (HO.lst (cutV (ns.map V.int) none (some 6) ++ [V.int ns[i]])) := upd_same (H := upd (upd H p1 (.lst (cutV (ns.map V.int) none (some 6)))) p2 (.lst [V.int ns[i]])) (a := p3)
    refine for_list (xs := cutV (ns.map V.int) none (some 6) ++ [V.int ns[i]]) (fun j σ H' => ∃ (m : Int) (y : Option V), σ = [some (.ref a), some (vN i), some (.int ns[i]), some (.int m), y] ∧ Same (upd (upd (upd H p1 (.lst (cutV (ns.map V.int) none (some 6)))) p2 (.lst [V.int ns[i]])) p3 (.lst (cutV (ns.map V.int) none (some 6) ++ [V.int ns[i]]))) H')
      ⟨_, _, rfl, Same.refl _⟩ (fun j σ H' _ ⟨_, _, _, s5⟩ => SqL.of (s5 _ _ h3)) ?_ ?_
    · rintro j v σ H2 hv ⟨m, y, rfl, s5⟩
      obtain ⟨k, rfl⟩ : ∃ k, v = V.int k := by
        rcases List.mem_append.mp (List.mem_of_getElem? hv) with h | h
        · obtain ⟨k, _, e⟩ := List.mem_map.mp (List.mem_of_mem_drop (List.mem_of_mem_take h))
          exact ⟨k, e.symm⟩
        · exact ⟨_, List.mem_singleton.mp h⟩
      exact ⟨_, rfl, _, _, rfl, rfl, .inr ⟨by decide, by decide⟩, _, rfl, .inl ⟨_, rfl, _, _, rfl, rfl, (by show (0 : Int) < _; decide), _, _, rfl, rfl, _, _, rfl, rfl, .inl ⟨_, rfl, _, _, rfl, rfl, (by show (0 : Int) < _; decide), _, _, rfl, s5⟩⟩⟩
    · rintro σ H2 ⟨m, y, rfl, s5⟩
      have s6 : Same H H2 := s4.trans s5
      have fin : ∀ x : Int, 0 ≤ x → ∀ l, H2 l = none → Q (.ref l) (upd H2 l (.lst [V.int x, V.int m, V.int 0])) := fun x hx l nl => q _ l (s6.new nl) (s6.free nl) ⟨x, m, 0, hx, upd_same⟩
      refine ⟨_, rfl, _, _, rfl, rfl, _, rfl, ?_⟩
      by_cases hneg : ns[i] < 0
      · rw [decide_eq_true hneg]
        exact iteT (iteT ⟨_, rfl, _, rfl, _, rfl, sz _ (by show 3 ≤ 16000000; decide), fun l nl => fin _ (abs0 _) l nl⟩)
      · rw [decide_eq_false hneg]
        refine iteF ⟨_, rfl, _, _, rfl, rfl, ⟨by decide, by decide, by decide⟩, _, _, rfl, rfl, _, rfl, ?_⟩
        by_cases hbig : (10 : Int) ^ (18 : Int).toNat ≤ ns[i]
        · rw [decide_eq_true hbig]
          exact iteT ⟨_, rfl, _, rfl, _, rfl, sz _ (by show 3 ≤ 16000000; decide), fun l nl => fin _ (abs0 _) l nl⟩
        · rw [decide_eq_false hbig]
          exact iteF ⟨_, rfl, sz _ (by show 3 ≤ 16000000; decide), fun l nl => fin 0 (Int.le_refl 0) l nl⟩
  · rw [decide_eq_false (show ¬ (i : Int) < (ns.length : Int) by omega)]
    refine iteF ⟨_, rfl, _, _, rfl, rfl, .inl ⟨by decide, by decide⟩, _, rfl, _, rfl, a, _, rfl, hq, fun p0 n0 => ⟨p0, (ns.drop (HT.sIx (ns.map V.int).length 0 none)).take (HT.sIx (ns.map V.int).length (ns.map V.int).length (some 1) - HT.sIx (ns.map V.int).length 0 none), rfl, SqL.of (by rw [upd_same]; unfold cutV; rw [List.map_take, List.map_drop]), .inl ⟨_, rfl, _, _, rfl, rfl, (by show (0 : Int) < _; decide), _, _, rfl, rfl, ?_⟩⟩⟩
    have s00 : Same H (upd H p0 (.lst (cutV (ns.map V.int) none (some 1)))) := same_upd n0

    have hq1 : SqL K (upd H p0 (.lst (cutV (ns.map V.int) none (some 1)))) a (ns.map V.int) := s00.seq hq
    refine ⟨_, rfl, _, _, rfl, rfl, .inl ⟨by decide, by decide⟩, _, _, rfl, rfl, ?_⟩
    refine ⟨_, rfl, _, rfl, a, _, rfl, hq1, fun p1 n1 => ⟨_, rfl, sz _ (by show 1 ≤ 16000000; decide), fun p2 n2 => ⟨_, _, _, _, rfl, rfl, (same_upd n2) _ _ upd_same, upd_same, sz _ ?_, fun p3 n3 => ⟨p3, rfl, ⟨_, SqL.of upd_same⟩, ?_⟩⟩⟩⟩
    · have := cutV_length (ns.map V.int) none (some 6)
      rw [List.length_map] at this
      show (cutV (ns.map V.int) none (some 6)).length + 1 ≤ _
      omega
    have s4 := ((s00.new n1 (o := .lst (cutV (ns.map V.int) none (some 6)))).new n2).new n3 (o := .lst (cutV (ns.map V.int) none (some 6) ++ [V.int (6007 * (i : Int) + ((ns.drop (HT.sIx (ns.map V.int).length 0 none)).take (HT.sIx (ns.map V.int).length (ns.map V.int).length (some 1) - HT.sIx (ns.map V.int).length 0 none)).sum % 1000003)]))
    have h3 : _ = some (HO.lst (cutV (ns.map V.int) none (some 6) ++ [V.int (6007 * (i : Int) + ((ns.drop (HT.sIx (ns.map V.int).length 0 none)).take (HT.sIx (ns.map V.int).length (ns.map V.int).length (some 1) - HT.sIx (ns.map V.int).length 0 none)).sum % 1000003)])) := upd_same (H := upd (upd (upd H p0 (.lst (cutV (ns.map V.int) none (some 1)))) p1 (.lst (cutV (ns.map V.int) none (some 6)))) p2 (.lst [V.int (6007 * (i : Int) + ((ns.drop (HT.sIx (ns.map V.int).length 0 none)).take (HT.sIx (ns.map V.int).length (ns.map V.int).length (some 1) - HT.sIx (ns.map V.int).length 0 none)).sum % 1000003)])) (a := p3)
    refine for_list (xs := cutV (ns.map V.int) none (some 6) ++ [V.int (6007 * (i : Int) + ((ns.drop (HT.sIx (ns.map V.int).length 0 none)).take (HT.sIx (ns.map V.int).length (ns.map V.int).length (some 1) - HT.sIx (ns.map V.int).length 0 none)).sum % 1000003)]) (fun j σ H' => ∃ (m : Int) (y : Option V), σ = [some (.ref a), some (vN i), some (.int (6007 * (i : Int) + ((ns.drop (HT.sIx (ns.map V.int).length 0 none)).take (HT.sIx (ns.map V.int).length (ns.map V.int).length (some 1) - HT.sIx (ns.map V.int).length 0 none)).sum % 1000003)), some (.int m), y] ∧ Same (upd (upd (upd (upd H p0 (.lst (cutV (ns.map V.int) none (some 1)))) p1 (.lst (cutV (ns.map V.int) none (some 6)))) p2 (.lst [V.int (6007 * (i : Int) + ((ns.drop (HT.sIx (ns.map V.int).length 0 none)).take (HT.sIx (ns.map V.int).length (ns.map V.int).length (some 1) - HT.sIx (ns.map V.int).length 0 none)).sum % 1000003)])) p3 (.lst (cutV (ns.map V.int) none (some 6) ++ [V.int (6007 * (i : Int) + ((ns.drop (HT.sIx (ns.map V.int).length 0 none)).take (HT.sIx (ns.map V.int).length (ns.map V.int).length (some 1) - HT.sIx (ns.map V.int).length 0 none)).sum % 1000003)]))) H')
      ⟨_, _, rfl, Same.refl _⟩ (fun j σ H' _ ⟨_, _, _, s5⟩ => SqL.of (s5 _ _ h3)) ?_ ?_
    · rintro j v σ H2 hv ⟨m, y, rfl, s5⟩
      obtain ⟨k, rfl⟩ : ∃ k, v = V.int k := by
        rcases List.mem_append.mp (List.mem_of_getElem? hv) with h | h
        · obtain ⟨k, _, e⟩ := List.mem_map.mp (List.mem_of_mem_drop (List.mem_of_mem_take h))
          exact ⟨k, e.symm⟩
        · exact ⟨_, List.mem_singleton.mp h⟩
      exact ⟨_, rfl, _, _, rfl, rfl, .inr ⟨by decide, by decide⟩, _, rfl, .inl ⟨_, rfl, _, _, rfl, rfl, (by show (0 : Int) < _; decide), _, _, rfl, rfl, _, _, rfl, rfl, .inl ⟨_, rfl, _, _, rfl, rfl, (by show (0 : Int) < _; decide), _, _, rfl, s5⟩⟩⟩
    · rintro σ H2 ⟨m, y, rfl, s5⟩
      have s6 : Same H H2 := s4.trans s5
      have fin : ∀ x : Int, 0 ≤ x → ∀ l, H2 l = none → Q (.ref l) (upd H2 l (.lst [V.int x, V.int m, V.int 0])) := fun x hx l nl => q _ l (s6.new nl) (s6.free nl) ⟨x, m, 0, hx, upd_same⟩
      refine ⟨_, rfl, _, _, rfl, rfl, _, rfl, ?_⟩
      by_cases hneg : (6007 * (i : Int) + ((ns.drop (HT.sIx (ns.map V.int).length 0 none)).take (HT.sIx (ns.map V.int).length (ns.map V.int).length (some 1) - HT.sIx (ns.map V.int).length 0 none)).sum % 1000003) < 0
      · rw [decide_eq_true hneg]
        exact iteT (iteT ⟨_, rfl, _, rfl, _, rfl, sz _ (by show 3 ≤ 16000000; decide), fun l nl => fin _ (abs0 _) l nl⟩)
      · rw [decide_eq_false hneg]
        refine iteF ⟨_, rfl, _, _, rfl, rfl, ⟨by decide, by decide, by decide⟩, _, _, rfl, rfl, _, rfl, ?_⟩
        by_cases hbig : (10 : Int) ^ (18 : Int).toNat ≤ (6007 * (i : Int) + ((ns.drop (HT.sIx (ns.map V.int).length 0 none)).take (HT.sIx (ns.map V.int).length (ns.map V.int).length (some 1) - HT.sIx (ns.map V.int).length 0 none)).sum % 1000003)
        · rw [decide_eq_true hbig]
          exact iteT ⟨_, rfl, _, rfl, _, rfl, sz _ (by show 3 ≤ 16000000; decide), fun l nl => fin _ (abs0 _) l nl⟩
        · rw [decide_eq_false hbig]
          exact iteF ⟨_, rfl, sz _ (by show 3 ≤ 16000000; decide), fun l nl => fin 0 (Int.le_refl 0) l nl⟩
abbrev sLawDraw : Stmt := topS 99
theorem scLawDraw : FnScope ["_law_pot_here", "_law_size", "_law_digit", "_law_by"] ["_law_pot_here", "_law_size"] (defScope sLawDraw) := ⟨rfl, rfl, rfl, by decide +kernel, rfl, by decide +kernel, by decide +kernel⟩
def spDraw : Sp := fun vs H Q _ => ∃ (p : Addr) (n : Nat), vs = [.ref p, vN n] ∧ 0 < n ∧ n ≤ 1000000 ∧ Pot H p ∧ ∀ H' d, Same (del H p) H' → Pot H' p → d < n → Q (vN d) H'
theorem ok_law_draw (B : Bl mg) (A : At K mg "_law_draw" sLawDraw) : DefOk P w K mg base "_law_draw" 1 ["_law_pot_here", "_law_size"] spDraw := by
  refine mkDef A scLawDraw (fun _ _ _ _ _ _ us hl => match us, hl with | [_, _], _ => rfl) (by rintro _ _ _ _ ⟨_, _, rfl, _⟩; rfl) fun f cdv A outer s H vs Q E hr h => ?_
  obtain ⟨p, n, rfl, hn0, hn, ⟨x, y, z, hx, hp⟩, q⟩ := h
  refine ⟨_, pss_cons (ps_asg (pe_op op_add (pe_ix ix_list (pv 0) (pe_int) (fun _ _ => rfl)) (pe_int)) (pg_sub (pv 0) (pe_int) set_list))
      (pss_cons (ps_if (pt_cmpR op_gt (pe_ix ix_list (pv 0) (pe_int) (fun _ _ => rfl)) (pe_int) (nomark _))
        (pss_cons (ps_asg (pe_callB call_divmod (by rfl) B.z_divmod (by decide +kernel) (pa_cons (pe_ix ix_list (pv 0) (pe_int) (fun _ _ => rfl)) (pa_cons (pv 1) pa_nil))) (pg_tup rfl (pgs_cons (pg_sub (pv 0) (pe_int) set_list) (pgs_cons (pg_name (i := 2) scLawDraw.nd rfl (Or.inl rfl)) pgs_nil))))
          (pss_one (ps_ret (pv 2))))
        (pss_nil))
      (pss_cons (ps_set (i := 3) scLawDraw.nd rfl (Or.inl rfl) (pe_op op_add (pe_op op_mod (pe_callTy call_int1 (by rfl) B.z_int (by decide +kernel) (pa_cons (pe_ix ix_list (pv 0) (pe_int) (fun _ _ => rfl)) pa_nil)) (pe_int)) (pe_int)))
      (pss_cons (ps_asg (pe_op op_mod (pe_callTy call_int1 (by rfl) B.z_int (by decide +kernel) (pa_cons (pe_op op_add (pe_op op_add (pe_op op_mul (pe_ix ix_list (pv 0) (pe_int) (fun _ _ => rfl)) (pv 3)) (pe_op op_mul (pe_int) (pe_ix ix_list (pv 0) (pe_int) (fun _ _ => rfl)))) (pe_int)) pa_nil)) (pe_int)) (pg_sub (pv 0) (pe_int) set_list))
      (pss_one (ps_ret (pe_op op_mod (pe_callTy call_int1 (by rfl) B.z_int (by decide +kernel) (pa_cons (pe_op op_fdiv (pe_ix ix_list (pv 0) (pe_int) (fun _ _ => rfl)) (pe_int)) pa_nil)) (pv 1))))))), ?_⟩
  have mod : ∀ i : Int, ∃ d : Nat, d < n ∧ i % (n : Int) = (d : Int) := fun i => by
    have h1 := Int.emod_nonneg i (show (n : Int) ≠ 0 by omega)
    have h2 := Int.emod_lt_of_pos i (show (0 : Int) < (n : Int) by omega)
    exact ⟨(i % (n : Int)).toNat, by omega, by omega⟩
  -- pot[2] = pot[2] + 1
  refine ⟨_, rfl, _, _, _, _, rfl, rfl, SqL.of hp, (show atI [V.int x, V.int y, V.int z] 2 = some (V.int z) from rfl), _, _, rfl, rfl, _, rfl, _, _, _, 2, rfl, rfl, hp, rfl, ?_⟩
  refine ⟨_, rfl, _, _, _, _, rfl, rfl, SqL.of upd_same, (show atI [V.int x, V.int y, V.int (z + 1)] 0 = some (V.int x) from rfl), _, _, rfl, rfl, _, rfl, ?_⟩
  by_cases hpos : (0 : Int) < x
  · rw [decide_eq_true hpos]
    obtain ⟨d, hd, ed⟩ := mod x
    refine iteT ⟨_, rfl, _, _, _, _, rfl, rfl, SqL.of upd_same, (show atI [V.int x, V.int y, V.int (z + 1)] 0 = some (V.int x) from rfl), _, rfl, _, _, rfl, ⟨by omega, by omega⟩, fun T nT => ⟨T, _, rfl, SqT.of upd_same, rfl, _, _, rfl, _, rfl, _, _, _, 0, rfl, rfl, (same_upd nT) _ _ upd_same, rfl, _, _, rfl, rfl, _, rfl, ?_⟩⟩
    show Q (.int (x % (n : Int))) _
    rw [ed]
    exact q _ d (sx_put (sx_new (sx_put del_same) nT)) ⟨x / (n : Int), y, z + 1, Int.ediv_nonneg hx (by omega), upd_same⟩ hd
  · rw [decide_eq_false hpos]
    refine iteF ⟨_, rfl, _, _, _, _, rfl, rfl, SqL.of upd_same, (show atI [V.int x, V.int y, V.int (z + 1)] 1 = some (V.int y) from rfl), .inl ⟨_, rfl, _, _, rfl, rfl, (by show (0 : Int) < _; decide), _, _, rfl, rfl, ?_⟩⟩
    have b1 := Int.emod_nonneg y (show (30011 : Int) ≠ 0 by decide)
    have b2 := Int.emod_lt_of_pos y (show (0 : Int) < 30011 by decide)
    refine ⟨_, rfl, _, _, _, _, rfl, rfl, SqL.of upd_same, (show atI [V.int x, V.int y, V.int (z + 1)] 1 = some (V.int y) from rfl), _, rfl, _, _, rfl, rfl, .inr ⟨?_, ?_⟩, _, rfl, _, _, _, _, rfl, rfl, SqL.of upd_same, (show atI [V.int x, V.int y, V.int (z + 1)] 2 = some (V.int (z + 1)) from rfl), _, _, rfl, rfl, .inl ⟨by decide, by decide⟩, _, _, rfl, rfl, _, _, rfl, rfl, .inl ⟨_, rfl, _, _, rfl, rfl, (by show (0 : Int) < _; decide), _, rfl, _, _, _, 1, rfl, rfl, upd_same, rfl, ?_⟩⟩
    · show -(2 ^ 64) < y % 30011 + 40013
      omega
    · show y % 30011 + 40013 < 2 ^ 64
      omega
    obtain ⟨d, hd, ed⟩ := mod (((y * (y % 30011 + 40013) + 60013 * (z + 1) + 11) % 2147483549) / 97)
    refine ⟨_, rfl, _, _, _, _, rfl, rfl, SqL.of upd_same, (show atI [V.int x, V.int ((y * (y % 30011 + 40013) + 60013 * (z + 1) + 11) % 2147483549), V.int (z + 1)] 1 = some (V.int ((y * (y % 30011 + 40013) + 60013 * (z + 1) + 11) % 2147483549)) from rfl), _, _, rfl, rfl, ⟨by decide, by decide⟩, .inl ⟨_, rfl, _, rfl, _, _, rfl, rfl, by omega, ?_⟩⟩
    show Q (.int (((y * (y % 30011 + 40013) + 60013 * (z + 1) + 11) % 2147483549) / 97 % (n : Int))) _
    rw [ed]
    exact q _ d (sx_put (sx_put del_same)) ⟨x, ((y * (y % 30011 + 40013) + 60013 * (z + 1) + 11) % 2147483549), z + 1, hx, upd_same⟩ hd
end
end Cn
/-! Lots drawn, divisors, periods. -/
namespace Cn
open PySem PySem.Spec PyProof.Rows L2 RZ StX Mp
section
variable {P : Program} {w : World} {K : PySem.W.Frag} {mg : Str → Option Value} {base : Heap} {C : Addr}
abbrev sLawDrawnLot : Stmt := topS 100
theorem scLawDrawnLot : FnScope ["_law_pot_here", "_law_top", "_law_many", "_law_turn"] ["_law_pot_here", "_law_top", "_law_many"] (defScope sLawDrawnLot) := ⟨rfl, rfl, rfl, by decide +kernel, rfl, by decide +kernel, by decide +kernel⟩
def spDrawnLot (K : PySem.W.Frag) : Sp := fun vs H Q _ => ∃ p : Addr, vs = [.ref p, vN 12, vN 4] ∧ Pot H p ∧ ∀ H' u cs, Same (del H p) H' → Pot H' p → TupN K H' u cs → Coins cs → Q u H'
theorem ok_law_drawn_lot (B : Bl mg) (d__law_draw : DefOk P w K mg base "_law_draw" 1 ["_law_pot_here", "_law_size"] spDraw) (A : At K mg "_law_drawn_lot" sLawDrawnLot) : DefOk P w K mg base "_law_drawn_lot" 2 ["_law_pot_here", "_law_top", "_law_many"] (spDrawnLot K) := by
  refine mkDef A scLawDrawnLot (fun _ _ _ _ _ _ us hl => match us, hl with | [_, _, _], _ => rfl) (by rintro _ _ _ _ ⟨_, rfl, _⟩; rfl) fun f cdv A outer s H vs Q E hr h => ?_
  obtain ⟨p, rfl, hp, q⟩ := h
  refine ⟨_, pss_one (ps_ret (pe_callTy cr_tupOf (by rfl) B.z_tuple (by decide +kernel) (pa_cons (pe_callB (cr_sortedSet rfl) (by rfl) B.z_sorted (by decide +kernel) (pa_cons (pe_callTy (cr_setL rfl) (by rfl) B.z_set (by decide +kernel) (pa_cons (pe_lc (own := [("_law_turn", 3)]) (g := gName 3) (tt := tYes) rfl scLawDrawnLot.nd (pi_range1 rfl B.z_range (pa_cons (pe_op op_add (pe_int) (pe_callD d__law_draw hr rfl (pa_cons (pv 0) (pa_cons (pv 2) pa_nil)))) pa_nil)) (blkOk_by (N := ["_law_pot_here", "_law_top", "_law_many", "_law_turn"]) (sc := defScope sLawDrawnLot) (by decide +kernel)) (fun _ _ _ _ _ => (pg_name (i := 3) scLawDrawnLot.nd rfl (Or.inl rfl))) (fun _ _ _ _ _ => pts_nil) (fun _ _ _ _ _ => pe_op op_add (pe_int) (pe_callD d__law_draw hr rfl (pa_cons (pv 0) (pa_cons (pv 1) pa_nil))))) pa_nil)) pa_nil)) pa_nil))), ?_⟩
  refine ⟨_, rfl, _, rfl, p, 4, rfl, by decide, by decide, hp, fun H1 d s1 hp1 hd => ⟨_, _, rfl, rfl, _, rfl, by omega, by omega, fun D nD => ?_⟩⟩
  have nDp : D ≠ p := fun z => by
    obtain ⟨x, y, zz, _, e⟩ := hp1
    rw [z, e] at nD
    cases nD
  have en : ((1 : Int) + (d : Int)).toNat = 1 + d := by omega
  refine lc_r0 (1 + d) en (fun i H' => ∃ ns : List Nat, Same (del H p) H' ∧ Pot H' p ∧ H' D = some (.lst (ns.map vN)) ∧ ns.length = i ∧ ∀ n ∈ ns, 0 < n ∧ n ≤ 12)
    ⟨[], sx_new s1 nD, hp1.mono (same_upd nD), upd_same, rfl, fun n hn => by cases hn⟩ (fun _ => rfl) ?_ ?_
  · rintro i H2 hi ⟨ns, s2, hp2, h2, ln, hb⟩
    refine ⟨_, rfl, _, rfl, p, 12, rfl, by decide, by decide, hp2, fun H3 e s3 hp3 he => ⟨_, _, rfl, rfl, ns.map vN, sx_at s3 h2 nDp, szl _ (by rw [List.length_map]; omega), ?_⟩⟩
    refine ⟨ns ++ [1 + e], ?_, ?_, ?_, by rw [List.length_append, ln]; rfl, ?_⟩
    · intro b o hb'
      have hD : H D = none := by
        cases hh : H D with
        | none => rfl
        | some o2 =>
          have := s1 D o2 (by rw [del_ne nDp]; exact hh)
          rw [nD] at this
          cases this
      have hbD : b ≠ D := by
        rintro rfl
        rw [del_ne nDp, hD] at hb'
        cases hb'
      rw [upd_ne hbD]
      exact sx_trans s2 s3 b o hb'
    · obtain ⟨x, y, z, hx, hz⟩ := hp3
      exact ⟨x, y, z, hx, by rw [upd_ne (Ne.symm nDp)]; exact hz⟩
    · rw [upd_same, List.map_append]
      rfl
    · intro n hn
      rcases List.mem_append.mp hn with h | h
      · exact hb n h
      · rw [List.mem_singleton.mp h]
        omega
  · rintro H2 ⟨ns, s2, hp2, h2, ln, hb⟩
    have l4 : ns.length ≤ 4 := by omega
    refine ⟨D, ns.map fun n : Nat => (n : Int), rfl, SqL.of (by rw [List.map_map]; exact h2), by rw [List.length_map]; omega, fun q1 c nq hc _ => ?_⟩
    rw [List.length_map] at hc
    refine ⟨q1, _, c, rfl, upd_same, by omega, fun ks p2 hks hm hl np2 => ⟨p2, _, rfl, .inl ⟨SqL.of upd_same, fun l nl => ?_⟩⟩⟩
    have hmem : ∀ k : Int, k ∈ ks ↔ ∃ n ∈ ns, k = (n : Int) := fun k => by
      rw [hm k, decide_eq_true_iff, List.mem_map]
      constructor
      · rintro ⟨n, hn, e⟩
        exact ⟨n, hn, e.symm⟩
      · rintro ⟨n, hn, e⟩
        exact ⟨n, hn, e.symm⟩
    have ek : ks = (ks.map Int.toNat).map fun n : Nat => (n : Int) := by
      rw [List.map_map]
      conv => lhs; rw [← List.map_id ks]
      apply List.map_congr_left
      intro k hk
      obtain ⟨n, _, rfl⟩ := (hmem k).mp hk
      rfl
    have hmn : ∀ n : Nat, n ∈ ks.map Int.toNat ↔ n ∈ ns := fun n => by
      rw [List.mem_map]
      constructor
      · rintro ⟨k, hk, rfl⟩
        obtain ⟨m, hm, rfl⟩ := (hmem k).mp hk
        exact hm
      · intro hn
        exact ⟨(n : Int), (hmem _).mpr ⟨n, hn, rfl⟩, rfl⟩
    have s3 : Same H2 (upd (upd (upd H2 q1 (SetO w q1 (fun j => decide (j ∈ ns.map fun n : Nat => (n : Int))) c)) p2 (.lst (ks.map V.int))) l (.tup (ks.map V.int))) := ((same_upd nq).new np2).new nl
    refine q _ _ (ks.map Int.toNat) (fun b o hb' => s3 b o (s2 b o hb')) (hp2.mono s3) ⟨l, rfl, SqT.of ?_⟩ ⟨fun c hc => hb c ((hmn c).mp hc), ?_, ?_, ?_⟩
    · rw [upd_same]
      conv => lhs; rw [ek]
      rw [List.map_map]
      rfl
    · rw [List.length_map, hl]
      omega
    · intro z
      have h0 : 0 < ns.length := by omega
      have : ns[0] ∈ ks.map Int.toNat := (hmn _).mpr (List.getElem_mem h0)
      rw [z] at this
      cases this
    · rw [ek] at hks
      exact (List.pairwise_map.mp hks).imp fun {a b} h => by omega
abbrev sLawShared : Stmt := topS 101
theorem scLawShared : FnScope ["_law_numbers", "_law_found", "_law_number"] ["_law_numbers"] (defScope sLawShared) := ⟨rfl, rfl, rfl, by decide +kernel, rfl, by decide +kernel, by decide +kernel⟩
def spShared (K : PySem.W.Frag) : Sp := fun vs H Q _ => ∃ (l : Addr) (a b : Nat), vs = [.ref l] ∧ SqL K H l [vN a, vN b] ∧ Q (vN (Nat.gcd a b)) H
theorem ok_law_shared (B : Bl mg) (A : At K mg "_law_shared" sLawShared) : DefOk P w K mg base "_law_shared" 1 ["_law_numbers"] (spShared K) := by
  refine mkDef A scLawShared (fun _ _ _ _ _ _ us hl => match us, hl with | [_], _ => rfl) (by rintro _ _ _ _ ⟨_, _, _, rfl, _⟩; rfl) fun f cdv A outer s H vs Q E hr h => ?_
  obtain ⟨l, a, b, rfl, hq, q⟩ := h
  refine ⟨_, pss_cons (ps_set (i := 1) scLawShared.nd rfl (Or.inl rfl) (pe_int))
      (pss_cons (ps_for PassesOwn.never rfl (pi_list (pv 0)) (pg_name (i := 2) scLawShared.nd rfl (Or.inl rfl))
        (pss_one (ps_while PassesOwn.never (pt_cmpR op_gt (pv 2) (pe_int) (nomark _))
            (pss_one (ps_par (i := 1) (j := 2) (by rfl) scLawShared.nd rfl rfl (by decide) rfl rfl (pa_cons (pv 2) (pa_cons (pe_op op_mod (pe_callTy call_int1 (by rfl) B.z_int (by decide +kernel) (pa_cons (pv 1) pa_nil)) (pv 2)) pa_nil)) (by rfl))))))
      (pss_one (ps_ret (pv 1)))), ?_⟩
  refine ⟨_, rfl, l, rfl, ⟨_, hq⟩, for_list (xs := [a, b].map vN) (fun i σ H' => ∃ (g : Nat) (y : Option V), σ = [some (.ref l), some (vN g), y] ∧ H = H' ∧ g = ([a, b].take i).foldl Nat.gcd 0) ⟨0, _, rfl, rfl, rfl⟩ (fun i σ H' _ ⟨_, _, _, e, _⟩ => e ▸ hq) ?_ ?_⟩
  · rintro i x σ H' hx ⟨g, y, rfl, rfl, hg⟩
    obtain ⟨c, hc, rfl⟩ := get_of_map hx
    have hf := foldl_take Nat.gcd 0 hc
    rw [← hg] at hf
    refine ⟨fun m σ H' => ∃ x y : Nat, σ = [some (.ref l), some (vN x), some (vN y)] ∧ m = y ∧ Nat.gcd x y = Nat.gcd g c ∧ H = H', ⟨c, g, c, rfl, rfl, rfl, rfl⟩, ?_⟩
    rintro m σ H' ⟨x, y, rfl, rfl, e, rfl⟩
    refine ⟨_, rfl, _, _, rfl, rfl, _, rfl, ?_⟩
    by_cases hy : 0 < m
    · rw [decide_eq_true (show (0 : Int) < (m : Int) by omega)]
      refine iteT ⟨fun σ H' => ∃ x' y' : Nat, σ = [some (.ref l), some (vN x'), some (vN y')] ∧ y' < m ∧ Nat.gcd x' y' = Nat.gcd g c ∧ H = H', ?_, ?_⟩
      · rintro σ H' ⟨x', y', rfl, l, e', rfl⟩
        exact ⟨y', l, x', y', rfl, rfl, e', rfl⟩
      · refine ⟨_, rfl, _, rfl, .inl ⟨_, rfl, _, rfl, _, _, rfl, rfl, (show (0 : Int) < (m : Int) by omega), _, _, rfl, ?_⟩⟩
        refine ⟨m, x % m, rfl, Nat.mod_lt _ hy, ?_, rfl⟩
        rw [← e, Nat.gcd_comm x m, Nat.gcd_rec m x]
        exact Nat.gcd_comm _ _
    · rw [decide_eq_false (show ¬ (0 : Int) < (m : Int) by omega)]
      have e0 : m = 0 := by omega
      subst e0
      rw [Nat.gcd_zero_right] at e
      exact iteF ⟨x, _, rfl, rfl, by rw [hf, e]⟩
  · rintro σ H' ⟨g, y, rfl, rfl, hg⟩
    have e : ([a, b].take ([a, b].map vN).length).foldl Nat.gcd 0 = Nat.gcd a b := by
      show Nat.gcd (Nat.gcd 0 a) b = _
      rw [Nat.gcd_zero_left]
    rw [e] at hg
    subst hg
    exact ⟨_, rfl, q⟩
abbrev sLawPeriod : Stmt := topS 103
theorem scLawPeriod : FnScope ["_law_coins", "_law_found", "_law_coin"] ["_law_coins"] (defScope sLawPeriod) := ⟨rfl, rfl, rfl, by decide +kernel, rfl, by decide +kernel, by decide +kernel⟩
theorem lcm_eq (f c : Nat) : f * c / Nat.gcd f c = f / Nat.gcd f c * c := by
  rw [Nat.div_mul_right_comm (Nat.gcd_dvd_left f c)]
theorem ok_law_period (d__law_shared : DefOk P w K mg base "_law_shared" 1 ["_law_numbers"] (spShared K)) (A : At K mg "_law_period" sLawPeriod) : DefOk P w K mg base "_law_period" 2 ["_law_coins"] (spPeriodOf K) := by
  refine mkDef A scLawPeriod (fun _ _ _ _ _ _ us hl => match us, hl with | [_], _ => rfl) (by rintro _ _ _ _ ⟨_, _, rfl, _⟩; rfl) fun f cdv A outer s H vs Q E hr h => ?_
  obtain ⟨a, cs, rfl, hq, hc, h4, q⟩ := h
  refine ⟨_, pss_cons (ps_set (i := 1) scLawPeriod.nd rfl (Or.inl rfl) (pe_int))
      (pss_cons (ps_for PassesOwn.never rfl (pi_tup (pv 0)) (pg_name (i := 2) scLawPeriod.nd rfl (Or.inl rfl))
        (pss_one (ps_set (i := 1) scLawPeriod.nd rfl (Or.inl rfl) (pe_op op_fdiv (pe_op op_mul (pv 1) (pv 2)) (pe_callD d__law_shared hr rfl (pa_cons (pe_lst (pa_cons (pv 1) (pa_cons (pv 2) pa_nil))) pa_nil))))))
      (pss_one (ps_ret (pv 1)))), ?_⟩
  refine ⟨_, rfl, a, rfl, ⟨_, hq⟩, for_tup (fun i σ H' => ∃ g y, σ = [some (.ref a), some (vN g), y] ∧ Same H H' ∧ g = (cs.take i).foldl (fun f c => f / Nat.gcd f c * c) 1 ∧ 0 < g ∧ g ≤ 12 ^ i)
    ⟨1, _, rfl, Same.refl H, rfl, by decide, by decide⟩ (fun i σ H' _ ⟨_, _, _, s1, _⟩ => s1.seqT hq) ?_ ?_⟩
  · rintro i x σ H1 hx ⟨g, _, rfl, s1, hg, g0, g1⟩
    obtain ⟨c, hci, rfl⟩ := get_of_map hx
    obtain ⟨hc1, hc2⟩ := hc c (List.mem_of_getElem? hci)
    have hi : i < 4 := by
      have := (List.getElem?_eq_some_iff.mp hci).1
      omega
    have g2 : g ≤ 20736 := Nat.le_trans g1 (Nat.le_trans (Nat.pow_le_pow_right (by decide) (show i ≤ 4 by omega)) (by decide))
    have st := lcm_step g0 hc1
    have gg : 0 < Nat.gcd g c := Nat.gcd_pos_of_pos_left _ g0
    have gg2 : Nat.gcd g c ≤ c := Nat.gcd_le_right _ hc1
    refine ⟨_, rfl, _, rfl, _, _, rfl, rfl, .inr ⟨by omega, by omega⟩, _, rfl, _, rfl, sz _ (by show 2 ≤ 16000000; decide), fun l nl => ⟨l, g, c, rfl, SqL.of upd_same, _, _, rfl, rfl, ⟨by omega, by omega⟩, ?_⟩⟩
    refine ⟨g / Nat.gcd g c * c, some (vN c), ?_, s1.new nl, ?_, st.1, ?_⟩
    · show [_, some (V.int (((g * c / Nat.gcd g c : Nat) : Nat) : Int)), _] = _
      rw [lcm_eq]
    · rw [foldl_take _ _ hci, ← hg]
    · rw [Nat.pow_succ]
      exact Nat.le_trans st.2 (Nat.le_trans (lcm_le12 hc2) (Nat.mul_le_mul_right 12 g1))
  · rintro σ H1 ⟨g, _, rfl, s1, hg, g0, g1⟩
    rw [List.length_map, List.take_length] at hg
    rw [List.length_map] at g1
    have g2 : g ≤ 20736 := Nat.le_trans g1 (Nat.le_trans (Nat.pow_le_pow_right (by decide) h4) (by decide))
    subst hg
    exact ⟨_, rfl, q H1 s1 g0 g2⟩
end
end Cn
/-! All payments, gathered. -/
namespace Cn
open PySem PySem.Spec PyProof.Rows L2 RZ StX Mp
/-- a tuple (some coins' numbers, what is left) -/
def PairN (K : PySem.W.Frag) (H : Hp) (v : V) (p : List Nat × Nat) : Prop := ∃ T s, v = .ref T ∧ SqT K H T [.ref s, vN p.2] ∧ SqT K H s (p.1.map vN)
theorem PairN.mono {K : PySem.W.Frag} {H H' : Hp} {v : V} {p : List Nat × Nat} (s : Same H H') (h : PairN K H v p) : PairN K H' v p := by
  obtain ⟨T, u, e, h1, h2⟩ := h
  exact ⟨T, u, e, s.seqT h1, s.seqT h2⟩
theorem PairN.put {K : PySem.W.Frag} {H : Hp} {v : V} {p : List Nat × Nat} {q : Addr} {l : List V} {o : HO} (hq : H q = some (.lst l)) (h : PairN K H v p) : PairN K (upd H q o) v p := by
  obtain ⟨T, u, e, h1, h2⟩ := h
  exact ⟨T, u, e, SqT.put hq h1, SqT.put hq h2⟩
def PairsN (K : PySem.W.Frag) (H : Hp) (xs : List V) (ps : List (List Nat × Nat)) : Prop := Paired (PairN K H) xs ps
theorem PairsN.mono {K : PySem.W.Frag} {H H' : Hp} {xs : List V} {ps : List (List Nat × Nat)} (s : Same H H') (h : PairsN K H xs ps) : PairsN K H' xs ps := Paired.mapP h fun _ _ t => t.mono s
theorem PairsN.put {K : PySem.W.Frag} {H : Hp} {xs : List V} {ps : List (List Nat × Nat)} {q : Addr} {l : List V} {o : HO} (hq : H q = some (.lst l)) (h : PairsN K H xs ps) : PairsN K (upd H q o) xs ps := Paired.mapP h fun _ _ t => t.put hq
theorem catA {K : PySem.W.Frag} {H : Hp} {a b : Addr} {xs ys : List V} {Q : VK} (ha : SqT K H a xs) (hb : SqT K H b ys) (hx : xs ≠ []) (hz : xs.length + ys.length ≤ sizeLine) (q : ∀ H' p, Same H H' → SqT K H' p (xs ++ ys) → Q (.ref p) H') : rCatA K (.ref a) (.ref b) H Q := by
  refine ⟨a, b, xs, ys, rfl, rfl, ha, hb, hz, fun e => absurd e hx, fun _ e => ?_, fun _ _ p np => q _ p (same_upd np) (SqT.of upd_same)⟩
  subst e
  refine q H a (Same.refl H) ?_
  rw [List.append_nil]
  exact ha
section
variable {P : Program} {w : World} {K : PySem.W.Frag} {mg : Str → Option Value} {base : Heap} {C : Addr}
abbrev sLawGathered : Stmt := topS 102
theorem scLawGathered : FnScope ["_law_coins", "_law_total", "_law_found", "_law_coin", "_law_longer", "_law_some", "_law_left", "_law_many"] ["_law_coins", "_law_total"] (defScope sLawGathered) := ⟨rfl, rfl, rfl, by decide +kernel, rfl, by decide +kernel, by decide +kernel⟩
def spGathered (K : PySem.W.Frag) : Sp := fun vs H Q _ => ∃ (a : Addr) (cs : List Nat) (t : Nat), vs = [.ref a, vN t] ∧ SqT K H a (cs.map vN) ∧ Coins cs ∧ t ≤ 45 ∧
  ∀ H' p xs, Same H H' → H p = none → H' p = some (.lst xs) → TupsN K H' xs (pays cs t) → Q (.ref p) H'
theorem gath_small {t : Nat} {ds : List Nat} (hp : ∀ d ∈ ds, 0 < d) (ht : t ≤ 45) (hl : ds.length ≤ 4) : (gath t ds).length ≤ 4477456 := by
  refine Nat.le_trans (gath_len hp) (Nat.le_trans (Nat.pow_le_pow_left (show t + 1 ≤ 46 by omega) _) (Nat.le_trans (Nat.pow_le_pow_right (by decide) hl) (by decide)))
theorem gStep_cons (c : Nat) (l : List (List Nat × Nat)) (i : Nat) {p : List Nat × Nat} (h : l[i]? = some p) : gStep c (l.take (i + 1)) = gStep c (l.take i) ++ (List.range (p.2 / c + 1)).map fun k => (k :: p.1, p.2 - c * k) := by
  unfold gStep
  rw [List.take_add_one, h, List.flatMap_append]
  congr 1
  show [p].flatMap _ = _
  rw [List.flatMap_singleton]
theorem gStep_len_le (c : Nat) (l : List (List Nat × Nat)) (i : Nat) : (gStep c (l.take i)).length ≤ (gStep c l).length := by
  have e : gStep c l = gStep c (l.take i) ++ gStep c (l.drop i) := by
    unfold gStep
    rw [← List.flatMap_append, List.take_append_drop]
  rw [e, List.length_append]
  omega
theorem ok_law_gathered (B : Bl mg) (A : At K mg "_law_gathered" sLawGathered) : DefOk P w K mg base "_law_gathered" 1 ["_law_coins", "_law_total"] (spGathered K) := by
  refine mkDef A scLawGathered (fun _ _ _ _ _ _ us hl => match us, hl with | [_, _], _ => rfl) (by rintro _ _ _ _ ⟨_, _, _, rfl, _⟩; rfl) fun f cdv A outer s H vs Q E hr h => ?_
  obtain ⟨a, cs, t, rfl, hq, hC, ht, q⟩ := h
  have hp0 : ∀ c ∈ cs, 0 < c := fun c h => (hC.pos c h).1
  have h4 := hC.few
  refine ⟨_, pss_cons (ps_set (i := 2) scLawGathered.nd rfl (Or.inl rfl) (pe_lst (pa_cons (pe_tup (pa_cons (pe_tup pa_nil) (pa_cons (pv 1) pa_nil))) pa_nil)))
      (pss_cons (ps_for PassesOwn.never rfl (pi_tup (pe_revU (pv 0))) (pg_name (i := 3) scLawGathered.nd rfl (Or.inr rfl))
        (pss_cons (ps_set (i := 4) scLawGathered.nd rfl (Or.inl rfl) (pe_lst pa_nil))
          (pss_cons (ps_for PassesOwn.never rfl (pi_list (pv 2)) (pg_tup rfl (pgs_cons (pg_name (i := 5) scLawGathered.nd rfl (Or.inr rfl)) (pgs_cons (pg_name (i := 6) scLawGathered.nd rfl (Or.inr rfl)) pgs_nil)))
            (pss_one (ps_expr (pe_bm PySem.F.plainAttrs_list PySem.F.slot_list_extend PySem.F.type_list_extend mt_extend (pv 4) (pa_cons (pe_lc (own := [("_law_many", 7)]) (g := gName 7) (tt := tYes) (te := tTup (tCons (tOp (rCatA K) (tTup (tCons (tVar 7) tNil)) (tVar 5)) (tCons (tOp (rI0 fun i j => .int (i - j)) (tVar 6) (tOp (rI CMul fun i j => .int (i * j)) (tVar 3) (tVar 7))) tNil))) rfl scLawGathered.nd (pi_range1 rfl B.z_range (pa_cons (pe_op op_add (pe_op op_fdiv (pv 6) (pv 3)) (pe_int)) pa_nil)) (blkOk_by (N := ["_law_coins", "_law_total", "_law_found", "_law_coin", "_law_longer", "_law_some", "_law_left", "_law_many"]) (sc := defScope sLawGathered) (by decide +kernel)) (fun _ _ _ _ _ => (pg_name (i := 7) scLawGathered.nd rfl (Or.inl rfl))) (fun _ _ _ _ _ => pts_nil) (fun _ _ _ _ _ => pe_tup (pa_cons (pe_op op_catA (pe_tup (pa_cons (pv 7) pa_nil)) (pv 5)) (pa_cons (pe_op op_sub (pv 6) (pe_op op_mul (pv 3) (pv 7))) pa_nil)))) pa_nil)))))
          (pss_one (ps_set (i := 2) scLawGathered.nd rfl (Or.inl rfl) (pv 4))))))
      (pss_one (ps_ret (pe_callB (cr_sortedU hr.units) (by rfl) B.z_sorted (by decide +kernel) (pa_cons (pe_lc (own := [("_law_some", 5), ("_law_left", 6)]) (g := gPair K 5 6) rfl scLawGathered.nd (pi_list (pv 2)) (blkOk_by (N := ["_law_coins", "_law_total", "_law_found", "_law_coin", "_law_longer", "_law_some", "_law_left", "_law_many"]) (sc := defScope sLawGathered) (by decide +kernel)) (fun _ _ _ _ _ => (pg_tup rfl (pgs_cons (pg_name (i := 5) scLawGathered.nd rfl (Or.inl rfl)) (pgs_cons (pg_name (i := 6) scLawGathered.nd rfl (Or.inl rfl)) pgs_nil)))) (fun _ _ _ _ _ => pts_one (pt_cmpR op_eq (pv 6) (pe_int) (nomark _))) (fun _ _ _ _ _ => pv 5)) pa_nil))))), ?_⟩
  -- found = [((), total)]
  refine ⟨sz 0 (by decide), fun e0 ne0 => ⟨_, rfl, sz _ (by show 2 ≤ 16000000; decide), fun T0 nT0 => ⟨sz _ (by show 1 ≤ 16000000; decide), fun l0 nl0 => ?_⟩⟩⟩
  have s0 : Same H (upd (upd (upd H e0 (.tup [])) T0 (.tup [.ref e0, vN t])) l0 (.lst [.ref T0])) := ((same_upd ne0).new nT0).new nl0
  have hP0 : PairsN K (upd (upd (upd H e0 (.tup [])) T0 (.tup [.ref e0, vN t])) l0 (.lst [.ref T0])) [.ref T0] [([], t)] := by
    refine .cons ⟨T0, e0, rfl, SqT.of ((same_upd nl0) _ _ upd_same), SqT.of ?_⟩ .nil
    exact (same_upd nl0) _ _ ((same_upd nT0) _ _ upd_same)
  have hl0 : (upd (upd (upd H e0 (.tup [])) T0 (.tup [.ref e0, vN t])) l0 (.lst [.ref T0])) l0 = some (.lst [.ref T0]) := upd_same
  have nlH : H l0 = none := ((same_upd ne0).new nT0).free nl0
  generalize upd (upd (upd H e0 (.tup [])) T0 (.tup [.ref e0, vN t])) l0 (.lst [.ref T0]) = H0 at s0 hP0 hl0
  -- for coin in coins[::-1]
  have er : (cs.map vN).reverse = cs.reverse.map vN := List.map_reverse.symm
  refine ⟨_, rfl, a, _, rfl, s0.seqT hq, fun r nr => ⟨r, rfl, ⟨_, SqT.of upd_same⟩, ?_⟩⟩
  have sr : Same H0 (upd H0 r (.tup (cs.map vN).reverse)) := same_upd nr
  have hr0 : (upd H0 r (.tup (cs.map vN).reverse)) r = some (.tup (cs.reverse.map vN)) := by rw [upd_same, er]
  rw [er]
  rw [er] at sr hr0
  generalize upd H0 r (.tup (cs.reverse.map vN)) = H1 at sr hr0
  refine for_tup (xs := cs.reverse.map vN) (fun i σ H' => ∃ (l : Addr) (xs : List V) (y3 y4 y5 y6 y7 : Option V), σ = [some (.ref a), some (vN t), some (.ref l), y3, y4, y5, y6, y7] ∧ Same H1 H' ∧ H l = none ∧
      H' l = some (.lst xs) ∧ PairsN K H' xs (gath t (cs.drop (cs.length - i))))
    ⟨l0, _, _, _, _, _, _, rfl, Same.refl _, nlH, sr _ _ hl0, by rw [Nat.sub_zero, List.drop_length]; exact hP0.mono sr⟩ (fun i σ H' _ ⟨_, _, _, _, _, _, _, _, s2, _⟩ => SqT.of (s2 _ _ hr0)) ?_ ?_
  · rintro i x σ H2 hx ⟨l, xs, _, _, _, _, _, rfl, s2, nl, h2, hP⟩
    obtain ⟨c, hci, rfl⟩ := get_of_map hx
    have hi : i < cs.length := by
      have := (List.getElem?_eq_some_iff.mp hci).1
      rwa [List.length_reverse] at this
    have hcs : cs[cs.length - 1 - i]? = some c := by rw [List.getElem?_reverse hi] at hci; exact hci
    obtain ⟨hc1, hc2⟩ := hC.pos c (List.mem_of_getElem? hcs)
    have hj : cs.length - (i + 1) < cs.length := by omega
    have hds : cs.drop (cs.length - (i + 1)) = c :: cs.drop (cs.length - i) := by
      rw [List.drop_eq_getElem_cons hj, show cs.length - (i + 1) + 1 = cs.length - i by omega]
      congr 1
      obtain ⟨_, e⟩ := List.getElem?_eq_some_iff.mp hcs
      rw [← e]
      congr 1
      omega
    have hds0 : ∀ d ∈ cs.drop (cs.length - (i + 1)), 0 < d := fun d hd => hp0 d (List.mem_of_mem_drop hd)
    have hbig := gath_small (t := t) hds0 ht (by rw [List.length_drop]; omega)
    have hle0 : ∀ p ∈ gath t (cs.drop (cs.length - i)), p.2 ≤ t := fun p hp => gath_le (fun d hd => hp0 d (List.mem_of_mem_drop hd)) hp
    have eG : gath t (cs.drop (cs.length - (i + 1))) = gStep c (gath t (cs.drop (cs.length - i))) := by rw [hds]; rfl
    rw [eG] at hbig
    have lcs : ∀ p ∈ gath t (cs.drop (cs.length - i)), p.1.length ≤ 4 := fun p hp => by
      have := ((mem_gath (fun d hd => hp0 d (List.mem_of_mem_drop hd))).mp hp).1
      rw [this, List.length_drop]
      omega
    generalize gath t (cs.drop (cs.length - i)) = G at hP eG hbig hle0 lcs
    -- longer = []
    refine ⟨sz 0 (by decide), fun l2 nl2 => ?_⟩
    have sl2 : Same H2 (upd H2 l2 (.lst [])) := same_upd nl2
    have nl2H : H l2 = none := (s0.trans (sr.trans s2)).free nl2
    refine ⟨_, rfl, l, rfl, ⟨_, SqL.of (sl2 _ _ h2)⟩, for_list (xs := xs) (fun j σ H' => ∃ (ys : List V) (y5 y6 y7 : Option V), σ = [some (.ref a), some (vN t), some (.ref l), some (vN c), some (.ref l2), y5, y6, y7] ∧ Same H2 H' ∧
        H' l2 = some (.lst ys) ∧ PairsN K H' ys (gStep c (G.take j))) ⟨[], _, _, _, rfl, sl2, upd_same, .nil⟩ (fun j σ H' _ ⟨_, _, _, _, _, s3, _⟩ => SqL.of (s3 _ _ h2)) ?_ ?_⟩
    · rintro j x σ H3 hxj ⟨ys, _, _, _, rfl, s3, h3, hY⟩
      obtain ⟨⟨ps, lf⟩, hpj, tp⟩ := pget hP hxj
      have hlf : lf ≤ t := hle0 _ (List.mem_of_getElem? hpj)
      have lps : ps.length ≤ 4 := lcs _ (List.mem_of_getElem? hpj)
      obtain ⟨T, u, rfl, hT, hu⟩ := tp.mono s3
      have gs := gStep_cons c G j hpj
      have ly : ys.length ≤ 4477456 := by
        have e1 := Paired.length hY
        have e2 := gStep_len_le c G j
        omega
      have lfc : lf / c ≤ lf := Nat.div_le_self _ _
      have en : (((lf : Int) / (c : Int)) + 1).toNat = lf / c + 1 := by
        show ((lf / c + 1 : Nat) : Int).toNat = _
        exact Int.toNat_natCast _
      refine ⟨T, _, rfl, hT, rfl, _, _, rfl, _, _, rfl, rfl, ?_⟩
      refine ⟨_, rfl, .inl ⟨rfl, _, SqL.of h3⟩, _, rfl, _, rfl, _, _, rfl, rfl, ⟨by omega, by omega⟩, _, _, rfl, rfl, _, rfl, ?_, ?_, fun D nD => ?_⟩
      · show -(2 ^ 62) ≤ ((lf / c : Nat) : Int) + 1
        have := Int.natCast_nonneg (lf / c)
        omega
      · show ((lf / c : Nat) : Int) + 1 < 2 ^ 62
        omega
      refine lc_r0 (lf / c + 1) en (fun k H' => ∃ zs, Same H3 H' ∧ H' D = some (.lst zs) ∧ PairsN K H' zs ((List.range k).map fun k => (k :: ps, lf - c * k))) ⟨[], same_upd nD, upd_same, .nil⟩ (fun _ => rfl) ?_ ?_
      · rintro k H4 hk ⟨zs, s4, h4', hZ⟩
        have lz : zs.length = k := by
          have := Paired.length hZ
          rwa [List.length_map, List.length_range] at this
        have hck : c * k ≤ lf := by
          rw [Nat.mul_comm]
          exact (Nat.le_div_iff_mul_le hc1).mp (by omega)
        have eL : (lf : Int) - (c : Int) * (k : Int) = ((lf - c * k : Nat) : Int) := by
          have : (c : Int) * (k : Int) = ((c * k : Nat) : Int) := rfl
          omega
        refine ⟨_, rfl, sz _ (by show 1 ≤ 16000000; decide), fun u1 nu1 => ⟨_, rfl, catA (SqT.of upd_same) ((s4.new nu1).seqT hu) (List.cons_ne_nil _ _) (sz _ ?_) fun H5 w1 s5 hw => ?_⟩⟩
        · rw [List.length_map]
          show 1 + ps.length ≤ _
          omega
        have h5 : H5 D = some (.lst zs) := s5 _ _ ((same_upd nu1) _ _ h4')
        have s45 : Same H4 H5 := (same_upd nu1).trans s5
        refine ⟨_, rfl, _, rfl, _, rfl, _, _, rfl, rfl, .inl ⟨by omega, by omega⟩, _, _, rfl, rfl, sz _ (by show 2 ≤ 16000000; decide), fun T2 nT2 => ?_⟩
        have hD6 : (upd H5 T2 (.tup [.ref w1, .int ((lf : Int) - (c : Int) * (k : Int))])) D = some (.lst zs) := (same_upd nT2) _ _ h5
        refine ⟨zs, hD6, szl _ (by omega), zs ++ [.ref T2], ((s4.trans s45).new nT2).mut nD, upd_same, ?_⟩
        rw [List.range_succ, List.map_append]
        refine papp (((hZ.mono s45).mono (same_upd nT2)).put hD6) (pone (PairN.put hD6 ⟨T2, w1, rfl, SqT.of ?_, (same_upd nT2).seqT hw⟩))
        rw [upd_same]
        show some (HO.tup [V.ref w1, V.int ((lf : Int) - (c : Int) * (k : Int))]) = _
        rw [eL]
      · rintro H4 ⟨zs, s4, h4', hZ⟩
        have lz : zs.length = lf / c + 1 := by
          have := Paired.length hZ
          rwa [List.length_map, List.length_range] at this
        refine ⟨l2, D, ys, zs, rfl, rfl, s4 _ _ h3, h4', sz _ (by omega), ?_⟩
        refine ⟨ys ++ zs, _, _, _, rfl, (s3.trans s4).mut nl2, upd_same, ?_⟩
        rw [gs]
        exact papp ((hY.mono s4).put (s4 _ _ h3)) (hZ.put (s4 _ _ h3))
    · rintro σ H3 ⟨ys, _, _, _, rfl, s3, h3, hY⟩
      have lx : xs.length = G.length := Paired.length hP
      rw [lx, List.take_length] at hY
      refine ⟨_, rfl, l2, ys, _, _, _, _, _, rfl, s2.trans s3, nl2H, h3, ?_⟩
      rw [eG]
      exact hY
  · rintro σ H2 ⟨l, xs, _, _, _, _, _, rfl, s2, nl, h2, hP⟩
    rw [List.length_map, List.length_reverse, Nat.sub_self, List.drop_zero] at hP
    have hsG := sorted_gath (t := t) hp0
    have hne : ∀ ps ∈ gEnd (gath t cs), ps ≠ [] := fun ps h z => by
      have h1 := ((mem_pays hp0).mp ((gEnd_perm (t := t) hp0).mem_iff.mp h)).1
      rw [z] at h1
      exact hC.ne (List.eq_nil_of_length_eq_zero h1.symm)
    have hsm := gath_small (t := t) hp0 ht h4
    generalize gath t cs = G at hP hsG hne hsm
    refine ⟨_, rfl, l, rfl, ⟨_, SqL.of h2⟩, fun D nD => lc_list (xs := xs) (fun j H' => ∃ ys, Same H2 H' ∧ H' D = some (.lst ys) ∧ TupsN K H' ys (gEnd (G.take j))) ⟨[], same_upd nD, upd_same, .nil⟩ (fun j H' _ ⟨_, s3, _⟩ => SqL.of (s3 _ _ h2)) ?_ ?_⟩
    · rintro j x H3 hxj ⟨ys, s3, h3, hY⟩
      obtain ⟨⟨ps, lf⟩, hpj, tp⟩ := pget hP hxj
      obtain ⟨T, u, rfl, hT, hu⟩ := tp.mono s3
      have ly : ys.length ≤ 4477456 := by
        have e1 := Paired.length hY
        unfold gEnd at e1
        rw [List.length_map] at e1
        have e2 := List.length_filter_le (fun p : List Nat × Nat => decide (p.2 = 0)) (G.take j)
        rw [List.length_take] at e2
        omega
      have ge : gEnd (G.take (j + 1)) = gEnd (G.take j) ++ if lf = 0 then [ps] else [] := by
        unfold gEnd
        rw [List.take_add_one, hpj, List.filter_append, List.map_append]
        congr 1
        show ([(ps, lf)].filter fun p => decide (p.2 = 0)).map (·.1) = _
        by_cases e : lf = 0
        · rw [if_pos e, List.filter_cons_of_pos (by simpa using e)]
          rfl
        · rw [if_neg e, List.filter_cons_of_neg (by simpa using e)]
          rfl
      refine ⟨T, _, rfl, hT, rfl, _, _, rfl, _, _, rfl, rfl, rfl, _, rfl, rfl, _, rfl, ?_⟩
      by_cases e : lf = 0
      · rw [if_pos e] at ge
        rw [decide_eq_true (show vN lf = V.int 0 by rw [e]; rfl)]
        refine iteT ⟨_, rfl, ys, h3, szl _ (by omega), ys ++ [.ref u], s3.mut nD, upd_same, ?_⟩
        rw [ge]
        exact papp (TupsN.put h3 hY) (pone ⟨u, rfl, SqT.put h3 hu⟩)
      · rw [if_neg e, List.append_nil] at ge
        rw [decide_eq_false (show ¬ vN lf = V.int 0 from fun z => e (by have := V.int.inj z; omega))]
        exact iteF ⟨ys, s3, h3, by rw [ge]; exact hY⟩
    · rintro H3 ⟨ys, s3, h3, hY⟩
      have lx : xs.length = G.length := Paired.length hP
      rw [lx, List.take_length] at hY
      refine ⟨D, ys, gEnd G, rfl, SqL.of h3, hY, hne, fun zs p np hz => ?_⟩
      rw [hsG] at hz
      have sA : Same H H3 := (s0.trans (sr.trans s2)).trans s3
      exact q _ p zs (sA.new np) (sA.free np) upd_same (TupsN.mono (same_upd np) hz)
end
end Cn
/-! What the check says of a lot. -/
namespace Cn
open Mp
theorem Coins.tail {cs : List Nat} (hC : Coins cs) {i : Nat} (hi : i < cs.length) : Coins (cs.drop i) where
  pos := fun c h => hC.pos c (List.mem_of_mem_drop h)
  few := by
    have := hC.few
    rw [List.length_drop]
    omega
  ne := fun e => by
    have := congrArg List.length e
    rw [List.length_drop] at this
    exact absurd this (by show ¬ cs.length - i = 0; omega)
  up := hC.up.sublist (List.drop_sublist i cs)
theorem Coins.ok {cs : List Nat} (hC : Coins cs) {t : Nat} (ht : t ≤ 45) : Ok cs t := all_ok hC.pos hC.few hC.ne hC.up ht
theorem Coins.paidOk {cs : List Nat} (hC : Coins cs) {t : Nat} (ht : t ≤ 45) : PaidOk cs t := fun i hi l hl => ((hC.tail hi).ok (Nat.le_trans hl ht)).paid
theorem Coins.paid {cs : List Nat} (hC : Coins cs) {t : Nat} (ht : t ≤ 45) : isPaid cs t = decide (0 < cnt cs t) := by
  have h := (hC.ok ht).paid
  cases e : isPaid cs t with
  | true => exact (decide_eq_true (h.mp e)).symm
  | false => exact (decide_eq_false fun z => by rw [h.mpr z] at e; cases e).symm
theorem Coins.lenOk {cs : List Nat} (hC : Coins cs) {t : Nat} (ht : t ≤ 45) : LenOk cs t where
  lo := fun h _ => by
    obtain ⟨v, u, a, b, e, _⟩ := (hC.ok ht).len ((hC.ok ht).paid.mp h)
    exact ⟨v, e⟩
  hi := fun h _ => by
    obtain ⟨v, u, a, b, _, e, _, _, _, l, _⟩ := (hC.ok ht).len ((hC.ok ht).paid.mp h)
    exact ⟨u, e, by omega⟩
theorem lens_nil {cs : List Nat} {t : Nat} (h : cnt cs t = 0) : lens cs t = [] := by
  unfold lens
  rw [List.eq_nil_of_length_eq_zero h]
  rfl
theorem Coins.least {cs : List Nat} (hC : Coins cs) {t : Nat} (ht : t ≤ 45) : leastLen cs t = minLen cs t := by
  unfold leastLen
  by_cases h : isPaid cs t = true
  · rw [if_pos h]
    obtain ⟨v, u, a, b, e1, _, e3, _, _, _, h1, _⟩ := (hC.ok ht).len ((hC.ok ht).paid.mp h)
    by_cases hb : t < lBound cs
    · rw [if_pos hb]
    · rw [if_neg hb, e1, e3, ← h1 hb]
      rfl
  · rw [if_neg h]
    have h0 : cnt cs t = 0 := by
      have := mt (hC.ok ht).paid.mpr h
      omega
    unfold minLen
    rw [lens_nil h0]
    rfl
theorem Coins.most {cs : List Nat} (hC : Coins cs) {t : Nat} (ht : t ≤ 45) : mostLen cs t = maxLen cs t := by
  unfold mostLen
  by_cases h : isPaid cs t = true
  · rw [if_pos h]
    obtain ⟨v, u, a, b, _, e2, _, e4, _, _, _, h2⟩ := (hC.ok ht).len ((hC.ok ht).paid.mp h)
    by_cases hb : t < mBound cs
    · rw [if_pos hb]
    · rw [if_neg hb, e2, e4, ← h2 hb]
      rfl
  · rw [if_neg h]
    have h0 : cnt cs t = 0 := by
      have := mt (hC.ok ht).paid.mpr h
      omega
    unfold maxLen
    rw [lens_nil h0]
    rfl
theorem Coins.fewSum {cs : List Nat} (hC : Coins cs) {t : Nat} (ht : t ≤ 45) (h2 : 2 ≤ cs.length) : t ∈ fewL cs 2 ↔ cnt cs t = 1 ∨ cnt cs t = 2 := by
  unfold fewL
  rw [List.mem_filter, List.mem_range, decide_eq_true_iff]
  constructor
  · rintro ⟨_, h⟩
    omega
  · intro h
    have := (hC.ok ht).few h2 (by omega) (by omega)
    exact ⟨by omega, by omega, by omega⟩
/-! ### the lengths, ascending -/
theorem asc_min {ks : List Nat} (hp : ks.Pairwise (· < ·)) {ls : List Nat} (hm : ∀ n, n ∈ ks ↔ n ∈ ls) {a : Nat} (e : ls.min? = some a) : ks[0]? = some a := by
  obtain ⟨ha, hl⟩ := List.min?_eq_some_iff.mp e
  have h1 := (hm a).mpr ha
  cases ks with
  | nil => cases h1
  | cons k ks =>
    have hk := hl k ((hm k).mp List.mem_cons_self)
    rcases List.mem_cons.mp h1 with rfl | h1
    · rfl
    · have := (List.pairwise_cons.mp hp).1 a h1
      omega
theorem asc_max {ks : List Nat} (hp : ks.Pairwise (· < ·)) {ls : List Nat} (hm : ∀ n, n ∈ ks ↔ n ∈ ls) {a : Nat} (e : ls.max? = some a) : ks.getLast? = some a := by
  obtain ⟨ha, hl⟩ := List.max?_eq_some_iff.mp e
  have h1 := (hm a).mpr ha
  have hn : ks ≠ [] := List.ne_nil_of_mem h1
  rw [List.getLast?_eq_some_getLast hn]
  have hk := hl _ ((hm _).mp (List.getLast_mem hn))
  obtain ⟨i, hi, ei⟩ := List.getElem_of_mem h1
  rw [List.getLast_eq_getElem] at hk ⊢
  by_cases h : i = ks.length - 1
  · subst h
    rw [ei]
  · have := (List.pairwise_iff_getElem.mp hp) i (ks.length - 1) hi (by omega) (by omega)
    rw [ei] at this
    omega
theorem asc_same {ks ls : List Nat} (hk : ks.Pairwise (· < ·)) (hl : ls.Pairwise (· < ·)) (hm : ∀ n, n ∈ ks ↔ n ∈ ls) : ks = ls :=
  List.Perm.eq_of_pairwise (le := (· < ·)) (fun a b _ _ h1 h2 => absurd (Nat.lt_trans h1 h2) (Nat.lt_irrefl a)) hk hl ((List.perm_ext_iff_of_nodup (hk.imp Nat.ne_of_lt) (hl.imp Nat.ne_of_lt)).mpr hm)
end Cn
/-! A new lot; the three parts of the law. -/
namespace Cn
open PySem PySem.Spec PyProof.Rows L2 RZ StX Mp
section
variable {P : Program} {w : World} {K : PySem.W.Frag} {mg : Str → Option Value} {base : Heap} {C : Addr}
abbrev sLotInit : Stmt := inClass (topS 35) 0
theorem scLotInit : FnScope ["self", "coins", "wrong"] ["self", "coins"] (defScope sLotInit) := ⟨rfl, rfl, rfl, by decide +kernel, rfl, by decide +kernel, by decide +kernel⟩
/-- the def that makes a lot -/
structure AtI (K : PySem.W.Frag) (C : Addr) : Prop where
  ex : ∃ f fd, FunD K "__init__" "Lot.__init__" (defArgs sLotInit) (defBody sLotInit) (defScope sLotInit) [] [] f fd ∧ Mk K C f
def spInit (K : PySem.W.Frag) (C : Addr) : Sp := fun vs H Q _ => ∃ (x dx a : Addr) (cs : List Nat), vs = [.ref x, .ref a] ∧ H x = some (.ins C dx []) ∧ SqT K H a (cs.map vN) ∧ Coins cs ∧
  ∀ H', Same H H' → Q .non (upd H' x (.ins C dx [("kinds", .ref a)]))
structure LotI (P : Program) (w : World) (K : PySem.W.Frag) (mg : Str → Option Value) (base : Heap) (C : Addr) : Prop where
  ex : ∃ f fd, Mk K C f ∧ FnOk P w K mg base CX0 4 f fd ["self", "coins"] (spInit K C) ∧ Binds K fd ["self", "coins"] []
theorem pe_makeL {X : Cx} {e : Expr} {es : List Expr} {t : TA} {p pos : Pos} (D : LotI X.prog X.w X.K X.mg X.base C) (hm : X.mg "Lot" = some (.ref C)) {j : Nat} (hr : Room j X.A) (hg : Gl X "Lot") (ha : PA X (e :: es) t) (hj : 5 ≤ j := by first | decide | omega)
    (he : starEach (e :: es) X.env = (false, eval e X.env) :: starEach es X.env := by rfl) (hpl : (backTo pos (starEach es X.env)).any (·.1) = false := by rfl) : PE X (.Call (.Name "Lot" p) (e :: es) [] pos) (tMake C (spInit X.K C) [] E0 t) := by
  obtain ⟨f, fd, M, F, b⟩ := D.ex
  exact pe_make M F (hr.mono hj) hg hm b .nil pass0 ha (by decide) he hpl
theorem ok_lot (B : Bl mg) (G : LotG P w K mg base C) (d_first_wrong : DefOk P w K mg base "first_wrong" 3 ["value"] (spFirstWrong K)) (A : AtI K C) : LotI P w K mg base C := by
  obtain ⟨f, fd, F, M⟩ := A.ex
  refine ⟨f, fd, M, F.ok scLotInit (by rintro _ _ _ _ ⟨_, _, _, _, rfl, _⟩; rfl) (fun cdv A outer s H vs Q E hr h => ?_), F.bindsN fun _ _ _ _ _ _ us hl => match us, hl with | [_, _], _ => rfl⟩
  obtain ⟨x, dx, a, cs, rfl, hx, hq, hC, q⟩ := h
  suffices hh : ∃ t, PSs (cxOf CX0 P w K mg base ["self", "coins", "wrong"] "Lot.__init__" (defScope sLotInit) f cdv A outer s H E).nox (defBody sLotInit) t ∧ t { nx := fun _ H' => Q .non H', rt := Q } (start ["self", "coins", "wrong"] [.ref x, .ref a]) H by
    obtain ⟨t, h1, h2⟩ := hh
    exact ⟨t, h1.nox, h2⟩
  refine ⟨_, pss_cons (ps_if (PW.pt (pw_or (pt_not (pt_val (pe_callB call_isi (by rfl) B.z_isinstance (by decide +kernel) (pa_cons (pv 1) (pa_cons (pe_bltn (v := .ty "tuple") (u := .type "tuple") (by rfl) B.z_tuple (by decide +kernel) rfl) pa_nil))))) (pw_or1 (pt_cmpR (op_eqD hr.units) (pv 1) (pe_tup pa_nil) (nomark _)))))
        (pss_one (ps_never))
        (pss_nil))
      (pss_cons (ps_set (i := 2) scLotInit.nd rfl (Or.inl rfl) (pe_callD d_first_wrong hr rfl (pa_cons (pv 1) pa_nil)))
      (pss_cons (ps_if (pt_cmp (pc_notN (pv 2)))
        (pss_one (ps_never))
        (pss_nil))
      (pss_one (ps_fld (pv 0) (pv 1) rfl)))), ?_⟩
  have hne : PyData.eqv (encT cs) (encT []) = false := by
    rw [eqv_encT]
    exact decide_eq_false hC.ne
  refine ⟨_, rfl, _, _, _, _, _, rfl, .ty "tuple", tyx_tup hq, (kit_ty (by decide +kernel)), true, rfl, iteF ⟨_, rfl, sz 0 (by decide), fun e0 n0 => ⟨encT cs, encT [], ?_, ?_, encT_shaped _, encT_shaped _, _, rfl, ?_⟩⟩⟩
  · exact dp_tup ⟨a, rfl, (same_upd n0).seqT hq⟩
  · exact dp_tup ⟨e0, rfl, SqT.of upd_same⟩
  rw [hne]
  have s0 : Same H (upd H e0 (.tup [])) := same_upd n0
  refine iteF ⟨_, rfl, a, cs, rfl, s0.seqT hq, hC, fun H1 s1 => ⟨_, rfl, _, rfl, iteF ⟨_, rfl, _, rfl, x, C, dx, [], rfl, s1 _ _ (s0 _ _ hx), G.c.cl, G.c.nK, by decide, ?_⟩⟩⟩
  exact q H1 (s0.trans s1)
end
end Cn
/-! The counts are right. -/
namespace Cn
open PySem PySem.Spec PyProof.Rows L2 RZ StX Mp
section
variable {P : Program} {w : World} {K : PySem.W.Frag} {mg : Str → Option Value} {base : Heap} {C : Addr}
abbrev sLawCountsRight : Stmt := topS 104
theorem scLawCountsRight : FnScope ["_law_lot", "_law_total", "_law_every", "_law_claim", "_law_paper", "_law_told"] ["_law_lot", "_law_total", "_law_every"] (defScope sLawCountsRight) := ⟨rfl, rfl, rfl, by decide +kernel, rfl, by decide +kernel, by decide +kernel⟩
def spCountsRight (K : PySem.W.Frag) (C : Addr) : Sp := fun vs H Q _ => ∃ (v : V) (cs : List Nat) (t : Nat) (e : Addr) (xs : List V), vs = [v, vN t, .ref e] ∧ LotN K C H v cs ∧ Coins cs ∧ t ≤ 45 ∧ cnt cs t ≤ 400 ∧ H e = some (.lst xs) ∧ TupsN K H xs (pays cs t) ∧
  ∀ H', Same H H' → Q (.bl true) H'
theorem pays_len (cs : List Nat) (t : Nat) : (pays cs t).length = cnt cs t := rfl
theorem told_ok {K : PySem.W.Frag} {H : Hp} {l r : Addr} {n k : Nat} (hl : SqL K H l (List.replicate k (vN n))) (hr : SqL K H r (List.replicate k (vN n))) {Q : VK} (q : Q (.bl false) H) : rNeD K (.ref l) (.ref r) H Q := by
  refine ⟨encI (List.replicate k n), encI (List.replicate k n), dp_lst (by rw [List.map_replicate]; exact hl), dp_lst (by rw [List.map_replicate]; exact hr), encI_shaped _, encI_shaped _, ?_⟩
  rw [eqv_encI, decide_eq_true rfl]
  exact q
theorem every_ok {K : PySem.W.Frag} {H : Hp} {l r : Addr} {xs ys : List V} {pss : List (List Nat)} (hl : SqL K H l xs) (tl : TupsN K H xs pss) (hr : SqL K H r ys) (tr : TupsN K H ys pss) {Q : VK} (q : Q (.bl false) H) : rNeD K (.ref l) (.ref r) H Q := by
  refine ⟨encP pss, encP pss, dp_lstP hl tl, dp_lstP hr tr, encP_shaped _, encP_shaped _, ?_⟩
  rw [eqv_encP, decide_eq_true rfl]
  exact q
theorem none_ne {K : PySem.W.Frag} {H : Hp} {l r : Addr} {xs : List V} {cs : List Nat} {t : Nat} (hl : SqL K H l xs) (tl : TupsN K H xs (pays cs t)) (hr : SqL K H r []) {Q : VK} (q : Q (.bl (decide (0 < cnt cs t))) H) : rNeD K (.ref l) (.ref r) H Q := by
  refine ⟨encP (pays cs t), encP [], dp_lstP hl tl, dp_lstP hr .nil, encP_shaped _, encP_shaped _, ?_⟩
  rw [eqv_encP]
  have e : (!decide (pays cs t = [])) = decide (0 < cnt cs t) := by
    unfold Mp.cnt
    cases pays cs t with
    | nil => rfl
    | cons p ps => exact (decide_eq_true (Nat.succ_pos _)).symm
  rw [e]
  exact q
theorem flat_ns : ∀ l : List Nat, (l.map vN).all flatV = true
  | [] => rfl
  | _ :: l => flat_ns l
theorem inV_ns (n : Nat) : ∀ l : List Nat, inV (vN n) (l.map vN) = decide (n ∈ l)
  | [] => rfl
  | x :: l => by
    show (((x : Int) == (n : Int)) || inV (vN n) (l.map vN)) = _
    rw [inV_ns n l]
    by_cases h : x = n
    · rw [h, decide_eq_true List.mem_cons_self, beq_self_eq_true]
      rfl
    · rw [show ((x : Int) == (n : Int)) = false from beq_false_of_ne (by omega), Bool.false_or]
      refine decide_eq_decide.mpr ⟨List.mem_cons_of_mem _, fun z => ?_⟩
      rcases List.mem_cons.mp z with z | z
      · exact absurd z.symm h
      · exact z
theorem ok_law_counts_right (B : Bl mg) (G : LotG P w K mg base C) (d_certify_ways : DefOk P w K mg base "certify_ways" 4 ["lot", "small"] (spCertify K C)) (d_count_payments : DefOk P w K mg base "count_payments" 4 ["lot", "small"] (spCountPayments K C)) (d_payments : DefOk P w K mg base "payments" 7 ["lot", "small"] (spPayments K C))
    (d__law_period : DefOk P w K mg base "_law_period" 2 ["_law_coins"] (spPeriodOf K)) (d_great_count : DefOk P w K mg base "great_count" 5 ["lot", "amount"] (spGreat K C)) (d_is_paid : DefOk P w K mg base "is_paid" 4 ["lot", "amount"] (spPaid K C)) (d_few_sums : DefOk P w K mg base "few_sums" 5 ["lot", "ways"] (spFewSums K C)) (A : At K mg "_law_counts_right" sLawCountsRight) : DefOk P w K mg base "_law_counts_right" 8 ["_law_lot", "_law_total", "_law_every"] (spCountsRight K C) := by
  refine mkDef A scLawCountsRight (fun _ _ _ _ _ _ us hl => match us, hl with | [_, _, _], _ => rfl) (by rintro _ _ _ _ ⟨_, _, _, _, _, rfl, _⟩; rfl) fun f cdv A outer s H vs Q E hr h => ?_
  obtain ⟨v, cs, t, e, xs, rfl, hL, hC, ht, hm, he, hT, q⟩ := h
  have ht4 : t ≤ 400 := Nat.le_trans ht (by decide)
  refine ⟨_, pss_cons (ps_asg (pe_callD d_certify_ways hr rfl (pa_cons (pv 0) (pa_cons (pv 1) pa_nil))) (pg_tup rfl (pgs_cons (pg_name (i := 3) scLawCountsRight.nd rfl (Or.inl rfl)) (pgs_cons (pg_name (i := 4) scLawCountsRight.nd rfl (Or.inl rfl)) pgs_nil))))
      (pss_cons (ps_set (i := 5) scLawCountsRight.nd rfl (Or.inl rfl) (pe_lst (pa_cons (pe_callD d_count_payments hr rfl (pa_cons (pv 0) (pa_cons (pv 1) pa_nil))) (pa_cons (pe_callB call_len_seq (by rfl) B.z_len (by decide +kernel) (pa_cons (pe_callD d_payments hr rfl (pa_cons (pv 0) (pa_cons (pv 1) pa_nil))) pa_nil)) (pa_cons (pe_ix ix_tup (pv 3) (pe_int) (fun _ _ => rfl)) (pa_cons (pe_ix ix_tup (pe_ix ix_tup (pv 4) (pe_un un_neg (pe_int)) (fun _ _ => rfl)) (pv 1) (fun _ _ => rfl)) pa_nil))))))
      (pss_cons (ps_if (pt_cmpR op_le (pe_callD d__law_period hr rfl (pa_cons (pe_coins G hr (pv 0)) pa_nil)) (pe_int) (nomark _))
        (pss_one (ps_expr (pe_bm PySem.F.plainAttrs_list PySem.F.slot_list_append PySem.F.type_list_append mt_append (pv 5) (pa_cons (pe_callD d_great_count hr rfl (pa_cons (pv 0) (pa_cons (pv 1) pa_nil))) pa_nil))))
        (pss_nil))
      (pss_cons (ps_if (PW.pt (pw_or (pt_cmpR (op_neD hr.units) (pv 5) (pe_op op_rep (pe_lst (pa_cons (pe_callB call_len_seq (by rfl) B.z_len (by decide +kernel) (pa_cons (pv 2) pa_nil)) pa_nil)) (pe_callB call_len_seq (by rfl) B.z_len (by decide +kernel) (pa_cons (pv 5) pa_nil))) (nomark _)) (pw_or1 (pt_cmpR (op_neD hr.units) (pe_callTy call_list_of (by rfl) B.z_list (by decide +kernel) (pa_cons (pe_callD d_payments hr rfl (pa_cons (pv 0) (pa_cons (pv 1) pa_nil))) pa_nil)) (pv 2) (nomark _)))))
        (pss_one (ps_ret (pe_bl)))
        (pss_nil))
      (pss_cons (ps_if (pt_cmpR op_ne (pe_callD d_is_paid hr rfl (pa_cons (pv 0) (pa_cons (pv 1) pa_nil))) (pe_cmpR (op_neD hr.units) (pv 2) (pe_lst pa_nil) (nomark _)) (nomark _))
        (pss_one (ps_ret (pe_bl)))
        (pss_nil))
      (pss_one (ps_ret (pe_or (pe_cmpR op_eq (pe_callB call_len_seq (by rfl) B.z_len (by decide +kernel) (pa_cons (pe_coins G hr (pv 0)) pa_nil)) (pe_int) (nomark _)) (pe_one (pe_cmpR op_eq (pe_cmpR op_in_seq (pv 1) (pe_callD d_few_sums hr rfl (pa_cons (pv 0) (pa_cons (pe_int) pa_nil))) (by rfl)) (pe_cmpR op_in_seq (pe_callB call_len_seq (by rfl) B.z_len (by decide +kernel) (pa_cons (pv 2) pa_nil)) (pe_lst (pa_cons (pe_int) (pa_cons (pe_int) pa_nil))) (by rfl)) (nomark _)))))))))), ?_⟩
  refine ⟨_, rfl, _, rfl, v, cs, t, rfl, hL, hC, ht4, fun H1 u s1 hP => ?_⟩
  obtain ⟨pp, pc, pq, x, y, ys, pb, rfl, h1, h2, h3, h4, h5⟩ := hP
  refine ⟨pp, _, rfl, h1, rfl, _, _, rfl, _, _, rfl, rfl, ?_⟩
  refine ⟨_, rfl, _, rfl, v, cs, t, rfl, hL.mono s1, hC, ht4, fun H2 s2 => ⟨_, rfl, _, rfl, v, cs, t, rfl, hL.mono (s1.trans s2), hC, ht4, hm, fun H3 u s3 hU => ?_⟩⟩
  obtain ⟨p3, us, rfl, hp3, hus⟩ := hU
  have s13 : Same H1 H3 := s2.trans s3
  refine ⟨p3, us, rfl, .inr hp3, _, rfl, _, _, _, _, rfl, rfl, s13.seqT h2, rfl, _, rfl, _, rfl, _, _, _, _, rfl, rfl, s13.seqT h3, h4, _, rfl, _, _, _, _, rfl, rfl, s13.seqT h5, tab_at rfl (Nat.lt_succ_self t), sz _ (by show 4 ≤ 16000000; decide), fun l nl => ?_⟩
  have s3' : Same H H3 := s1.trans s13
  have lu : us.length = cnt cs t := (Paired.length hus).trans rfl
  rw [lu]
  have s4 : Same H (upd H3 l (.lst [vN (cnt cs t), vN (cnt cs t), vN (cnt cs t), vN (cnt cs t)])) := s3'.new nl
  have hl : (upd H3 l (.lst [vN (cnt cs t), vN (cnt cs t), vN (cnt cs t), vN (cnt cs t)])) l = some (.lst (List.replicate 4 (vN (cnt cs t)))) := upd_same
  have nlH : H l = none := s3'.free nl
  generalize upd H3 l (.lst [vN (cnt cs t), vN (cnt cs t), vN (cnt cs t), vN (cnt cs t)]) = H4 at s4 hl
  have hL' := hL
  obtain ⟨a, dx, c, rfl, hins, hcq⟩ := hL'
  refine ⟨_, rfl, a, dx, _, rfl, s4 _ _ hins, c, cs, rfl, s4.seqT hcq, hC.pos, hC.few, fun H5 s5 hp5 hb5 => ⟨_, _, rfl, rfl, _, rfl, ?_⟩⟩
  have s5' := s4.trans s5
  have hl5 := s5 _ _ hl
  by_cases hb : lcmF cs ≤ 2520
  case' pos =>
    rw [decide_eq_true (show (lcmF cs : Int) ≤ 2520 by omega)]
    refine iteT ⟨_, rfl, .inl ⟨rfl, _, SqL.of hl5⟩, _, rfl, _, rfl, .ref a, cs, t, rfl, hL.mono s5', hC, (hC.ok ht).big, hb, ht4, fun H6 s6 => ⟨l, _, _, rfl, rfl, s6 _ _ hl5, szl _ (by rw [List.length_replicate]; decide), ?_⟩⟩
    rw [(hC.ok ht).great]
    have s7 : Same H (upd H6 l (.lst (List.replicate 4 (vN (cnt cs t)) ++ [vN (cnt cs t)]))) := (s5'.trans s6).mut nlH
    have hl7 : (upd H6 l (.lst (List.replicate 4 (vN (cnt cs t)) ++ [vN (cnt cs t)]))) l = some (.lst (List.replicate 5 (vN (cnt cs t)))) := upd_same
    show tSeq _ _ _ _ (upd H6 l (.lst (List.replicate 4 (vN (cnt cs t)) ++ [vN (cnt cs t)])))
    generalize upd H6 l (.lst (List.replicate 4 (vN (cnt cs t)) ++ [vN (cnt cs t)])) = H7 at s7 hl7 ⊢
    have hk : ∃ k, k = 5 := ⟨_, rfl⟩
    obtain ⟨k, ek⟩ := hk
    rw [← ek] at hl7
  case' neg =>
    rw [decide_eq_false (show ¬ (lcmF cs : Int) ≤ 2520 by omega)]
    have s7 := s5'
    have hl7 := hl5
    have hk : ∃ k, k = 4 := ⟨_, rfl⟩
    obtain ⟨k, ek⟩ := hk
    rw [← ek] at hl7
    refine iteF ?_
    generalize H5 = H7 at s7 hl7 ⊢
  all_goals
    have hT7 := hT.mono s7
    have he7 := s7 _ _ he
    have lx : xs.length = cnt cs t := (Paired.length hT).trans rfl
    have k5 : k ≤ 5 := by omega
    refine ⟨_, rfl, _, rfl, e, xs, rfl, .inl (SqL.of he7), sz 1 (by decide), fun l1 nl1 => ⟨_, rfl, l, _, rfl, .inl (SqL.of ((same_upd nl1) _ _ hl7)), l1, (k : Int), _, rfl, congrArg (fun n : Nat => V.int (n : Int)) List.length_replicate, upd_same, by omega, by omega, sz _ (by show 1 * (k : Int).toNat ≤ 16000000; omega), fun l2 nl2 => ?_⟩⟩
    rw [lx] at nl2 ⊢
    have s78 : Same H7 (upd (upd H7 l1 (.lst [vN (cnt cs t)])) l2 (.lst (List.replicate (k : Int).toNat [vN (cnt cs t)]).flatten)) := (same_upd nl1).new nl2
    have hl2 : (upd (upd H7 l1 (.lst [vN (cnt cs t)])) l2 (.lst (List.replicate (k : Int).toNat [vN (cnt cs t)]).flatten)) l2 = some (.lst (List.replicate k (vN (cnt cs t)))) := by
      rw [upd_same, Int.toNat_natCast, rep1]
    generalize upd (upd H7 l1 (.lst [vN (cnt cs t)])) l2 (.lst (List.replicate (k : Int).toNat [vN (cnt cs t)]).flatten) = H8 at s78 hl2 ⊢
    have s8 : Same H H8 := s7.trans s78
    refine told_ok (SqL.of (s78 _ _ hl7)) (SqL.of hl2) ?_
    refine ⟨_, rfl, iteF ⟨_, rfl, _, rfl, .ref a, cs, t, rfl, hL.mono s8, hC, ht4, hm, fun H9 u s9 hU => ?_⟩⟩
    obtain ⟨p9, us9, rfl, hp9, hus9⟩ := hU
    refine ⟨p9, us9, rfl, .inr hp9, fun l3 nl3 => ⟨_, rfl, ?_⟩⟩
    have s10 : Same H (upd H9 l3 (.lst us9)) := (s8.trans s9).new nl3
    refine every_ok (SqL.of upd_same) (hus9.mono (same_upd nl3)) (SqL.of (s10 _ _ he)) (hT.mono s10) ?_
    generalize upd H9 l3 (.lst us9) = H10 at s10 ⊢
    refine ⟨_, rfl, iteF ⟨_, rfl, _, rfl, .ref a, cs, t, rfl, hL.mono s10, hC, ht4, fun H11 s11 => ⟨_, rfl, sz 0 (by decide), fun l4 nl4 => ?_⟩⟩⟩
    have s12 : Same H (upd H11 l4 (.lst [])) := (s10.trans s11).new nl4
    refine none_ne (SqL.of (s12 _ _ he)) (hT.mono s12) (SqL.of upd_same) ⟨rfl, ?_⟩
    generalize upd H11 l4 (.lst []) = H12 at s12 ⊢
    rw [hC.paid ht, decide_eq_true rfl]
    refine ⟨_, rfl, iteF ?_⟩
    refine ⟨_, rfl, a, dx, _, rfl, s12 _ _ hins, c, _, rfl, .inr (s12.seqT hcq), rfl, _, rfl, ?_⟩
    by_cases h1 : cs.length = 1
    · rw [List.length_map, h1]
      exact iteT (q _ s12)
    · rw [List.length_map, decide_eq_false (show ¬ V.int (cs.length : Int) = V.int 1 from fun z => by have := V.int.inj z; omega)]
      have h2 : 2 ≤ cs.length := by
        have := List.length_pos_iff.mpr hC.ne
        omega
      refine iteF ⟨_, rfl, _, rfl, .ref a, cs, 2, rfl, hL.mono s12, hC, h2, by decide, by decide, fun H13 u s13 hF => ?_⟩
      obtain ⟨fa, rfl, hfa⟩ := hF
      have s14 := s12.trans s13
      refine ⟨fa, _, rfl, .inr hfa, rfl, flat_ns _, _, rfl, e, xs, rfl, .inl (SqL.of (s14 _ _ he)), sz _ (by show 2 ≤ 16000000; decide), fun l5 nl5 => ⟨l5, _, rfl, .inl (SqL.of upd_same), rfl, rfl, rfl, ?_⟩⟩
      have s15 : Same H (upd H13 l5 (.lst [V.int 1, V.int 2])) := s14.new nl5
      have eb : (if false = true then !inV (vN t) ((fewL cs 2).map vN) else inV (vN t) ((fewL cs 2).map vN)) = (if false = true then !inV (V.int (xs.length : Int)) [V.int 1, V.int 2] else inV (V.int (xs.length : Int)) [V.int 1, V.int 2]) := by
        rw [if_neg (by decide), if_neg (by decide), inV_ns, lx]
        show _ = inV (vN (cnt cs t)) ([1, 2].map vN)
        rw [inV_ns]
        refine decide_eq_decide.mpr ((hC.fewSum ht h2).trans ?_)
        rw [List.mem_cons, List.mem_singleton]
      rw [eb, decide_eq_true rfl]
      exact q _ s15
end
end Cn
/-! The places are right. -/
namespace Cn
open PySem PySem.Spec PyProof.Rows L2 RZ StX Mp
theorem none_eq {K : PySem.W.Frag} {H : Hp} {l r : Addr} {xs : List V} {cs : List Nat} {t : Nat} (hl : SqL K H l xs) (tl : TupsN K H xs (pays cs t)) (hr : SqL K H r []) {Q : VK} (q : Q (.bl (decide (Mp.cnt cs t = 0))) H) : rEqD K (.ref l) (.ref r) H Q := by
  refine ⟨encP (pays cs t), encP [], dp_lstP hl tl, dp_lstP hr .nil, encP_shaped _, encP_shaped _, ?_⟩
  rw [eqv_encP]
  have e : decide (pays cs t = []) = decide (Mp.cnt cs t = 0) := by
    unfold Mp.cnt
    cases pays cs t with
    | nil => rfl
    | cons p ps => rfl
  rw [e]
  exact q
theorem tup_ne {K : PySem.W.Frag} {H : Hp} {u v : V} {ps : List Nat} (hu : TupN K H u ps) (hv : TupN K H v ps) {Q : VK} (q : Q (.bl false) H) : rNeD K u v H Q := by
  refine ⟨encT ps, encT ps, dp_tup hu, dp_tup hv, encT_shaped _, encT_shaped _, ?_⟩
  rw [eqv_encT, decide_eq_true rfl]
  exact q
theorem two_ends {α : Type} {l : List α} (h : 0 < l.length) : ∃ x y, l[0]? = some x ∧ l.getLast? = some y := by
  cases l with
  | nil => exact absurd h (Nat.lt_irrefl 0)
  | cons a l => exact ⟨a, _, rfl, List.getLast?_eq_some_getLast (List.cons_ne_nil a l)⟩
theorem paired_last {R : V → List Nat → Prop} {xs : List V} {ps : List (List Nat)} (h : Paired R xs ps) {y : List Nat} (hy : ps.getLast? = some y) : ∃ x, xs.getLast? = some x ∧ R x y := by
  have hl := Paired.length h
  rw [List.getLast?_eq_getElem?] at hy
  obtain ⟨x, hx, r⟩ := pget' h hy
  refine ⟨x, ?_, r⟩
  rw [List.getLast?_eq_getElem?, hl]
  exact hx
section
variable {P : Program} {w : World} {K : PySem.W.Frag} {mg : Str → Option Value} {base : Heap} {C : Addr}
abbrev sLawPlacesRight : Stmt := topS 105
theorem scLawPlacesRight : FnScope ["_law_pot_here", "_law_lot", "_law_total", "_law_every", "_law_at"] ["_law_pot_here", "_law_lot", "_law_total", "_law_every"] (defScope sLawPlacesRight) := ⟨rfl, rfl, rfl, by decide +kernel, rfl, by decide +kernel, by decide +kernel⟩
def spPlacesRight (K : PySem.W.Frag) (C : Addr) : Sp := fun vs H Q _ => ∃ (p : Addr) (v : V) (cs : List Nat) (t : Nat) (e : Addr) (xs : List V), vs = [.ref p, v, vN t, .ref e] ∧ Pot H p ∧ LotN K C H v cs ∧ Coins cs ∧ t ≤ 45 ∧ Mp.cnt cs t ≤ 400 ∧ e ≠ p ∧ H e = some (.lst xs) ∧ TupsN K H xs (pays cs t) ∧
  ∀ H', Same (del H p) H' → Pot H' p → Q (.bl true) H'
theorem ok_law_places_right (B : Bl mg) (G : LotG P w K mg base C) (d__law_draw : DefOk P w K mg base "_law_draw" 1 ["_law_pot_here", "_law_size"] spDraw) (d_nth_payment : DefOk P w K mg base "nth_payment" 5 ["lot", "small", "index"] (spNth K C)) (d_place_of : DefOk P w K mg base "place_of" 5 ["lot", "payment"] (spPlaceOf K C))
    (d_first_payment : DefOk P w K mg base "first_payment" 5 ["lot", "amount"] (spEnd K C (·[0]?))) (d_last_payment : DefOk P w K mg base "last_payment" 5 ["lot", "amount"] (spEnd K C (·.getLast?))) (d_is_single : DefOk P w K mg base "is_single" 6 ["lot", "payment"] (spSingle K C)) (A : At K mg "_law_places_right" sLawPlacesRight) : DefOk P w K mg base "_law_places_right" 7 ["_law_pot_here", "_law_lot", "_law_total", "_law_every"] (spPlacesRight K C) := by
  refine mkDef A scLawPlacesRight (fun _ _ _ _ _ _ us hl => match us, hl with | [_, _, _, _], _ => rfl) (by rintro _ _ _ _ ⟨_, _, _, _, _, _, rfl, _⟩; rfl) fun f cdv A outer s H vs Q E hr h => ?_
  obtain ⟨p, v, cs, t, e, xs, rfl, hp, hL, hC, ht, hm, hep, he, hT, q⟩ := h
  have ht4 : t ≤ 400 := Nat.le_trans ht (by decide)
  have lx : xs.length = Mp.cnt cs t := (Paired.length hT).trans rfl
  refine ⟨_, pss_cons (ps_if (pt_cmpR (op_eqD hr.units) (pv 3) (pe_lst pa_nil) (nomark _))
        (pss_one (ps_ret (pe_bl)))
        (pss_nil))
      (pss_cons (ps_set (i := 4) scLawPlacesRight.nd rfl (Or.inl rfl) (pe_callD d__law_draw hr rfl (pa_cons (pv 0) (pa_cons (pe_callB call_len_seq (by rfl) B.z_len (by decide +kernel) (pa_cons (pv 3) pa_nil)) pa_nil))))
      (pss_cons (ps_if (PW.pt (pw_or (pt_cmpR (op_neD hr.units) (pe_callD d_nth_payment hr rfl (pa_cons (pv 1) (pa_cons (pv 2) (pa_cons (pv 4) pa_nil)))) (pe_ix ix_list (pv 3) (pv 4) (fun _ _ => rfl)) (nomark _)) (pw_or1 (pt_cmpR op_ne (pe_callD d_place_of hr rfl (pa_cons (pv 1) (pa_cons (pe_ix ix_list (pv 3) (pv 4) (fun _ _ => rfl)) pa_nil))) (pv 4) (nomark _)))))
        (pss_one (ps_ret (pe_bl)))
        (pss_nil))
      (pss_cons (ps_if (pt_cmpR (op_neD hr.units) (pe_lst (pa_cons (pe_callD d_first_payment hr rfl (pa_cons (pv 1) (pa_cons (pv 2) pa_nil))) (pa_cons (pe_callD d_last_payment hr rfl (pa_cons (pv 1) (pa_cons (pv 2) pa_nil))) pa_nil))) (pe_lst (pa_cons (pe_ix ix_list (pv 3) (pe_int) (fun _ _ => rfl)) (pa_cons (pe_ix ix_list (pv 3) (pe_un un_neg (pe_int)) (fun _ _ => rfl)) pa_nil))) (nomark _))
        (pss_one (ps_ret (pe_bl)))
        (pss_nil))
      (pss_one (ps_ret (pe_cmpR op_eq (pe_callD d_is_single hr rfl (pa_cons (pv 1) (pa_cons (pe_ix ix_list (pv 3) (pv 4) (fun _ _ => rfl)) pa_nil))) (pe_cmpR op_eq (pe_callB call_len_seq (by rfl) B.z_len (by decide +kernel) (pa_cons (pv 3) pa_nil)) (pe_int) (nomark _)) (nomark _))))))), ?_⟩
  refine ⟨_, rfl, sz 0 (by decide), fun l0 nl0 => ?_⟩
  have s0 : Same H (upd H l0 (.lst [])) := same_upd nl0
  refine none_eq (SqL.of (s0 _ _ he)) (hT.mono s0) (SqL.of upd_same) ⟨_, rfl, ?_⟩
  generalize upd H l0 (.lst []) = H0 at s0 ⊢
  by_cases h0 : Mp.cnt cs t = 0
  · rw [decide_eq_true h0]
    exact iteT (q _ (sx_of s0) (hp.mono s0))
  rw [decide_eq_false h0]
  refine iteF ⟨_, rfl, _, rfl, e, xs, rfl, .inl (SqL.of (s0 _ _ he)), p, xs.length, rfl, by omega, by omega, hp.mono s0, fun H1 d s1 hp1 hd => ?_⟩
  have x1 : Same (del H p) H1 := sx_trans (sx_of s0) s1
  have hT1 : TupsN K H1 xs (pays cs t) := Paired.mapP hT fun _ _ z => sx_tupN x1 hp z
  have he1 : H1 e = some (.lst xs) := sx_at x1 he hep
  have hL1 : LotN K C H1 v cs := sx_lot x1 hp hL
  obtain ⟨ps, hps⟩ : ∃ ps, (pays cs t)[d]? = some ps := ⟨_, List.getElem?_eq_getElem (show d < (pays cs t).length from (show d < Mp.cnt cs t by omega))⟩
  obtain ⟨u, hu, hup⟩ := pget' hT1 hps
  refine ⟨_, rfl, _, rfl, _, rfl, v, cs, t, d, ps, rfl, hL1, hC, ht4, hps, fun H2 u2 s2 hu2 => ⟨_, rfl, _, rfl, _, _, _, _, rfl, rfl, SqL.of (s2 _ _ he1), at_of rfl hu, ?_⟩⟩
  refine tup_ne hu2 (hup.mono s2) ⟨_, rfl, iteF ?_⟩
  refine ⟨_, rfl, _, rfl, _, rfl, _, _, _, _, rfl, rfl, SqL.of (s2 _ _ he1), at_of rfl hu, v, u, cs, ps, t, d, rfl, hL1.mono s2, hC, hup.mono s2, ht4, hps, fun H3 s3 => ⟨_, rfl, rfl, ?_⟩⟩
  rw [decide_eq_true rfl]
  refine ⟨_, rfl, iteF ?_⟩
  have s13 : Same H1 H3 := s2.trans s3
  obtain ⟨p0, pl, hp0, hpl⟩ := two_ends (l := pays cs t) (show 0 < Mp.cnt cs t by omega)
  obtain ⟨x0, hx0, r0⟩ := pget' hT1 hp0
  obtain ⟨xl, hxl, rl⟩ := paired_last hT1 hpl
  have hpd := hC.paidOk ht
  refine ⟨_, rfl, _, rfl, v, cs, t, p0, rfl, hL1.mono s13, hC, ht4, hpd, hp0, fun H4 u4 s4 hu4 => ⟨_, rfl, _, rfl, v, cs, t, pl, rfl, hL1.mono (s13.trans s4), hC, ht4, hpd, hpl, fun H5 u5 s5 hu5 => ⟨sz _ (by show 2 ≤ 16000000; decide), fun l1 nl1 => ?_⟩⟩⟩
  have s15 : Same H1 (upd H5 l1 (.lst [u4, u5])) := ((s13.trans s4).trans s5).new nl1
  refine ⟨_, rfl, _, _, _, _, rfl, rfl, SqL.of (s15 _ _ he1), at_of rfl hx0, _, rfl, _, rfl, _, _, _, _, rfl, rfl, SqL.of (s15 _ _ he1), at_end hxl, sz _ (by show 2 ≤ 16000000; decide), fun l2 nl2 => ?_⟩
  have s56 : Same H5 (upd (upd H5 l1 (.lst [u4, u5])) l2 (.lst [x0, xl])) := (same_upd nl1).new nl2
  have s16 : Same H1 (upd (upd H5 l1 (.lst [u4, u5])) l2 (.lst [x0, xl])) := s15.new nl2
  refine every_ok (pss := [p0, pl]) (SqL.of ((same_upd nl2) _ _ upd_same)) (.cons ((hu4.mono s5).mono s56) (.cons (hu5.mono s56) .nil)) (SqL.of upd_same) (.cons (r0.mono s16) (.cons (rl.mono s16) .nil)) ⟨_, rfl, iteF ?_⟩
  generalize upd (upd H5 l1 (.lst [u4, u5])) l2 (.lst [x0, xl]) = H6 at s16 ⊢
  refine ⟨_, rfl, _, rfl, _, rfl, _, _, _, _, rfl, rfl, SqL.of (s16 _ _ he1), at_of rfl hu, v, u, cs, ps, t, rfl, hL1.mono s16, hC, hup.mono s16, ht4, hpd, List.mem_of_getElem? hps, fun H7 s7 => ?_⟩
  have s17 := s16.trans s7
  refine ⟨_, rfl, e, xs, rfl, .inl (SqL.of (s17 _ _ he1)), rfl, rfl, ?_⟩
  have eb : decide (Mp.cnt cs t = 1) = decide (V.int (xs.length : Int) = V.int 1) := by
    rw [lx]
    exact decide_eq_decide.mpr ⟨fun z => by rw [z]; rfl, fun z => by have := V.int.inj z; omega⟩
  rw [eb, decide_eq_true rfl]
  exact q _ (fun b o hb => s17 _ _ (x1 b o hb)) (hp1.mono s17)
end
end Cn
/-! The lengths are right. -/
namespace Cn
open PySem PySem.Spec PyProof.Rows L2 RZ StX Mp
theorem sum_cast : ∀ l : List Nat, (l.map fun n : Nat => (n : Int)).sum = (l.sum : Int)
  | [] => rfl
  | x :: l => by
    rw [List.map_cons, List.sum_cons, List.sum_cons, sum_cast l]
    exact (Int.natCast_add ..).symm
theorem ints_nat {ks : List Int} {ls : List Nat} (hk : ks.Pairwise (· < ·)) (hm : ∀ k : Int, k ∈ ks ↔ ∃ n, n ∈ ls ∧ ((n : Nat) : Int) = k) : ∃ kn : List Nat, ks = kn.map (fun n : Nat => (n : Int)) ∧ kn.Pairwise (· < ·) ∧ ∀ n, n ∈ kn ↔ n ∈ ls := by
  have ek : ks = (ks.map Int.toNat).map fun n : Nat => (n : Int) := by
    rw [List.map_map]
    conv => lhs; rw [← List.map_id ks]
    apply List.map_congr_left
    intro k hk
    obtain ⟨n, _, rfl⟩ := (hm k).mp hk
    rfl
  refine ⟨ks.map Int.toNat, ek, ?_, fun n => ?_⟩
  · rw [ek] at hk
    exact (List.pairwise_map.mp hk).imp fun {a b} h => by omega
  · rw [List.mem_map]
    constructor
    · rintro ⟨k, hk, rfl⟩
      obtain ⟨m, hm, rfl⟩ := (hm k).mp hk
      exact hm
    · intro hn
      exact ⟨(n : Int), (hm _).mpr ⟨n, hn, rfl⟩, rfl⟩
theorem nums_eq {K : PySem.W.Frag} {H : Hp} {l r : Addr} {a b : List Nat} (hl : SqL K H l (a.map vN)) (hr : SqL K H r (b.map vN)) {Q : VK} (q : Q (.bl (decide (a = b))) H) : rEqD K (.ref l) (.ref r) H Q := by
  refine ⟨encI a, encI b, dp_lst hl, dp_lst hr, encI_shaped _, encI_shaped _, ?_⟩
  rw [eqv_encI]
  exact q
theorem nums_ne {K : PySem.W.Frag} {H : Hp} {l r : Addr} {a : List Nat} (hl : SqL K H l (a.map vN)) (hr : SqL K H r (a.map vN)) {Q : VK} (q : Q (.bl false) H) : rNeD K (.ref l) (.ref r) H Q := by
  refine ⟨encI a, encI a, dp_lst hl, dp_lst hr, encI_shaped _, encI_shaped _, ?_⟩
  rw [eqv_encI, decide_eq_true rfl]
  exact q
section
variable {P : Program} {w : World} {K : PySem.W.Frag} {mg : Str → Option Value} {base : Heap} {C : Addr}
abbrev sLawLengthsRight : Stmt := topS 106
theorem scLawLengthsRight : FnScope ["_law_lot", "_law_total", "_law_every", "_law_known", "_law_coins", "_law_greatest", "_law_low", "_law_high", "_law_some"] ["_law_lot", "_law_total", "_law_every"] (defScope sLawLengthsRight) := ⟨rfl, rfl, rfl, by decide +kernel, rfl, by decide +kernel, by decide +kernel⟩
def spLengthsRight (K : PySem.W.Frag) (C : Addr) : Sp := fun vs H Q _ => ∃ (v : V) (cs : List Nat) (t : Nat) (e : Addr) (xs : List V), vs = [v, vN t, .ref e] ∧ LotN K C H v cs ∧ Coins cs ∧ t ≤ 45 ∧ Mp.cnt cs t ≤ 400 ∧ H e = some (.lst xs) ∧ TupsN K H xs (pays cs t) ∧
  ∀ H', Same H H' → Q (.bl true) H'
theorem ok_law_lengths_right (B : Bl mg) (G : LotG P w K mg base C) (d_lengths : DefOk P w K mg base "lengths" 4 ["lot", "small"] (spLengthsT K C)) (d_least : DefOk P w K mg base "least" 6 ["lot", "amount"] (spLen K C leastLen)) (d_most : DefOk P w K mg base "most" 6 ["lot", "amount"] (spLen K C mostLen))
    (d_losses : DefOk P w K mg base "losses" 5 ["lot"] (spTabT K C lossTab)) (d_gains : DefOk P w K mg base "gains" 5 ["lot"] (spTabT K C gainTab)) (A : At K mg "_law_lengths_right" sLawLengthsRight) : DefOk P w K mg base "_law_lengths_right" 7 ["_law_lot", "_law_total", "_law_every"] (spLengthsRight K C) := by
  refine mkDef A scLawLengthsRight (fun _ _ _ _ _ _ us hl => match us, hl with | [_, _, _], _ => rfl) (by rintro _ _ _ _ ⟨_, _, _, _, _, rfl, _⟩; rfl) fun f cdv A outer s H vs Q E hr h => ?_
  obtain ⟨v, cs, t, e, xs, rfl, hL, hC, ht, hm, he, hT, q⟩ := h
  have ht4 : t ≤ 400 := Nat.le_trans ht (by decide)
  have hp0 : ∀ c ∈ cs, 0 < c := fun c h => (hC.pos c h).1
  have lx : xs.length = (pays cs t).length := Paired.length hT
  have lp : (pays cs t).length ≤ 400 := hm
  refine ⟨_, pss_cons (ps_set (i := 3) scLawLengthsRight.nd rfl (Or.inl rfl) (pe_callB (cr_sortedSet rfl) (by rfl) B.z_sorted (by decide +kernel) (pa_cons (pe_callTy (cr_setL rfl) (by rfl) B.z_set (by decide +kernel) (pa_cons (pe_lc (own := [("_law_some", 8)]) (g := gName 8) (tt := tYes) (te := tCB (rSumU K) (tCons (tVar 8) tNil)) rfl scLawLengthsRight.nd (pi_list (pv 2)) (blkOk_by (N := ["_law_lot", "_law_total", "_law_every", "_law_known", "_law_coins", "_law_greatest", "_law_low", "_law_high", "_law_some"]) (sc := defScope sLawLengthsRight) (by decide +kernel)) (fun _ _ _ _ _ => (pg_name (i := 8) scLawLengthsRight.nd rfl (Or.inl rfl))) (fun _ _ _ _ _ => pts_nil) (fun _ _ _ _ _ => pe_callB (cr_sumU rfl) (by rfl) B.z_sum (by decide +kernel) (pa_cons (pv 8) pa_nil))) pa_nil)) pa_nil)))
      (pss_cons (ps_if (pt_cmpR (op_neD hr.units) (pe_callTy call_list_of (by rfl) B.z_list (by decide +kernel) (pa_cons (pe_callD d_lengths hr rfl (pa_cons (pv 0) (pa_cons (pv 1) pa_nil))) pa_nil)) (pv 3) (nomark _))
        (pss_one (ps_ret (pe_bl)))
        (pss_nil))
      (pss_cons (ps_if (pt_cmpR (op_eqD hr.units) (pv 3) (pe_lst pa_nil) (nomark _))
        (pss_one (ps_ret (pe_cmpR (op_eqD hr.units) (pe_lst (pa_cons (pe_callD d_least hr rfl (pa_cons (pv 0) (pa_cons (pv 1) pa_nil))) (pa_cons (pe_callD d_most hr rfl (pa_cons (pv 0) (pa_cons (pv 1) pa_nil))) pa_nil))) (pe_lst (pa_cons (pe_non) (pa_cons (pe_non) pa_nil))) (nomark _))))
        (pss_nil))
      (pss_cons (ps_par (i := 4) (j := 5) (by rfl) scLawLengthsRight.nd rfl rfl (by decide) rfl rfl (pa_cons (pe_coins G hr (pv 0)) (pa_cons (pe_ix ix_tup (pe_coins G hr (pv 0)) (pe_un un_neg (pe_int)) (fun _ _ => rfl)) pa_nil)) (by rfl))
      (pss_cons (ps_set (i := 6) scLawLengthsRight.nd rfl (Or.inl rfl) (pe_ix ix_tup (pe_callD d_losses hr rfl (pa_cons (pv 0) pa_nil)) (pe_op op_mod (pe_callTy call_int1 (by rfl) B.z_int (by decide +kernel) (pa_cons (pv 1) pa_nil)) (pv 5)) (fun _ _ => rfl)))
      (pss_cons (ps_set (i := 7) scLawLengthsRight.nd rfl (Or.inl rfl) (pe_ix ix_tup (pe_callD d_gains hr rfl (pa_cons (pv 0) pa_nil)) (pe_op op_mod (pe_callTy call_int1 (by rfl) B.z_int (by decide +kernel) (pa_cons (pv 1) pa_nil)) (pe_ix ix_tup (pv 4) (pe_int) (fun _ _ => rfl))) (fun _ _ => rfl)))
      (pss_cons (ps_if (PW.pt (pw_or (pt_cmp (pc_isN (pv 6))) (pw_or (pt_cmp (pc_isN (pv 7))) (pw_or (pt_cmpR op_gt (pv 6) (pe_op op_sub (pe_op op_mul (pv 5) (pe_ix ix_list (pv 3) (pe_int) (fun _ _ => rfl))) (pv 1)) (nomark _)) (pw_or1 (pt_cmpR op_gt (pv 7) (pe_op op_sub (pv 1) (pe_op op_mul (pe_ix ix_tup (pv 4) (pe_int) (fun _ _ => rfl)) (pe_ix ix_list (pv 3) (pe_un un_neg (pe_int)) (fun _ _ => rfl)))) (nomark _)))))))
        (pss_one (ps_ret (pe_bl)))
        (pss_nil))
      (pss_one (ps_ret (pe_cmpR (op_eqD hr.units) (pe_lst (pa_cons (pe_callD d_least hr rfl (pa_cons (pv 0) (pa_cons (pv 1) pa_nil))) (pa_cons (pe_callD d_most hr rfl (pa_cons (pv 0) (pa_cons (pv 1) pa_nil))) pa_nil))) (pe_lst (pa_cons (pe_ix ix_list (pv 3) (pe_int) (fun _ _ => rfl)) (pa_cons (pe_ix ix_list (pv 3) (pe_un un_neg (pe_int)) (fun _ _ => rfl)) pa_nil))) (nomark _)))))))))), ?_⟩
  refine ⟨_, rfl, e, rfl, ⟨_, SqL.of he⟩, fun D nD => lc_list (xs := xs) (fun j H' => Same H H' ∧ H' D = some (.lst (((pays cs t).take j).map fun ps => vN ps.sum))) ⟨same_upd nD, upd_same⟩ (fun j H' _ z => SqL.of (z.1 _ _ he)) ?_ ?_⟩
  · rintro j x H1 hx ⟨s1, h1⟩
    obtain ⟨ps, hps, hu⟩ := pget hT hx
    obtain ⟨a, rfl, ha⟩ := hu.mono s1
    refine ⟨rfl, _, rfl, a, ps.map (fun n : Nat => (n : Int)), rfl, by rw [List.map_map]; exact ha, _, h1, szl _ (by rw [List.length_map, List.length_take]; omega), s1.mut nD, ?_⟩
    rw [upd_same, sum_cast, List.take_add_one, hps, List.map_append]
    rfl
  · rintro H1 ⟨s1, h1⟩
    rw [lx, List.take_length] at h1
    have h1' : H1 D = some (.lst ((lens cs t).map vN)) := by
      rw [h1]
      unfold lens
      rw [List.map_map]
      rfl
    have ll : (lens cs t).length ≤ 400 := by
      unfold lens
      rw [List.length_map]
      exact lp
    refine ⟨D, (lens cs t).map fun n : Nat => (n : Int), rfl, SqL.of (by rw [List.map_map]; exact h1'), by rw [List.length_map]; omega, fun q1 c nq1 hc1 hc2 => ?_⟩
    have c46 : c ≤ 46 := hc2 46 fun k hk => by
      obtain ⟨n, hn, rfl⟩ := List.mem_map.mp hk
      have := lens_le hp0 hn
      omega
    refine ⟨q1, _, c, rfl, upd_same, by omega, fun ks p2 hks hmem hl np2 => ?_⟩
    obtain ⟨kn, rfl, hkn, hkm⟩ := ints_nat (ls := lens cs t) hks fun k => by rw [hmem k, decide_eq_true_iff, List.mem_map]
    have s2 : Same H (upd (upd H1 q1 (SetO w q1 (fun j => decide (j ∈ (lens cs t).map fun n : Nat => (n : Int))) c)) p2 (.lst ((kn.map fun n : Nat => (n : Int)).map V.int))) := (s1.new nq1).new np2
    have h2 : (upd (upd H1 q1 (SetO w q1 (fun j => decide (j ∈ (lens cs t).map fun n : Nat => (n : Int))) c)) p2 (.lst ((kn.map fun n : Nat => (n : Int)).map V.int))) p2 = some (.lst (kn.map vN)) := by
      rw [upd_same, List.map_map]
      rfl
    show gName 3 (V.ref p2) _ (upd (upd H1 q1 (SetO w q1 (fun j => decide (j ∈ (lens cs t).map fun n : Nat => (n : Int))) c)) p2 (.lst ((kn.map fun n : Nat => (n : Int)).map V.int))) _
    generalize upd (upd H1 q1 (SetO w q1 (fun j => decide (j ∈ (lens cs t).map fun n : Nat => (n : Int))) c)) p2 (.lst ((kn.map fun n : Nat => (n : Int)).map V.int)) = H2 at s2 h2 ⊢
    clear hl hmem np2 hc1 hc2 nq1 h1 h1' nD
    -- lengths
    refine ⟨_, rfl, _, rfl, v, cs, t, rfl, hL.mono s2, hC, Nat.le_trans ht (by decide), fun H3 u ns s3 hu hns hnm => ?_⟩
    obtain ⟨ua, rfl, hua⟩ := hu
    refine ⟨ua, _, rfl, .inr hua, fun l nl => ⟨_, rfl, ?_⟩⟩
    obtain rfl : ns = kn := asc_same hns hkn fun n => (hnm n).trans (hkm n).symm
    have s4 : Same H2 (upd H3 l (.lst (ns.map vN))) := s3.new nl
    refine nums_ne (SqL.of upd_same) (SqL.of (s4 _ _ h2)) ⟨_, rfl, iteF ⟨_, rfl, sz 0 (by decide), fun l4 nl4 => ?_⟩⟩
    have s5 : Same H2 (upd (upd H3 l (.lst (ns.map vN))) l4 (.lst [])) := s4.new nl4
    refine nums_eq (a := ns) (b := []) (SqL.of (s5 _ _ h2)) (SqL.of upd_same) ⟨_, rfl, ?_⟩
    have h5 := s5 _ _ h2
    have s6 := s2.trans s5
    generalize upd (upd H3 l (.lst (ns.map vN))) l4 (.lst []) = H5 at s6 h5 ⊢
    clear s5 s4 s3 s2 h2 nl4 nl hua
    have eL := hC.least ht
    have eM := hC.most ht
    by_cases hn : ns = []
    · rw [decide_eq_true hn]
      subst hn
      have hl0 : lens cs t = [] := List.eq_nil_iff_forall_not_mem.mpr fun n z => nomatch (hkm n).mpr z
      have eL0 : leastLen cs t = none := by
        rw [eL]
        unfold minLen
        rw [hl0]
        rfl
      have eM0 : mostLen cs t = none := by
        rw [eM]
        unfold maxLen
        rw [hl0]
        rfl
      refine iteT ⟨_, rfl, _, rfl, v, cs, t, rfl, hL.mono s6, hC, ht4, hC.lenOk ht, fun H6 s7 => ⟨_, rfl, _, rfl, v, cs, t, rfl, hL.mono (s6.trans s7), hC, ht4, hC.lenOk ht, fun H7 s8 => ⟨sz _ (by show 2 ≤ 16000000; decide), fun l5 nl5 => ⟨sz _ (by show 2 ≤ 16000000; decide), fun l6 nl6 => ?_⟩⟩⟩⟩
      rw [eL0, eM0] at nl6 ⊢
      refine ⟨.list [.none, .none], .list [.none, .none], .lst (SqL.of ((same_upd nl6) _ _ upd_same)) (.cons .non (.cons .non .nil)), .lst (SqL.of upd_same) (.cons .non (.cons .non .nil)), by decide +kernel, by decide +kernel, ?_⟩
      have e : PyData.eqv (.list [.none, .none]) (.list [.none, .none]) = true := by decide +kernel
      rw [e]
      exact q _ (((s6.trans s7).trans s8).new nl5 |>.new nl6)
    rw [decide_eq_false hn]
    have hcnt : 0 < Mp.cnt cs t := by
      obtain ⟨n0, hn0⟩ := List.exists_mem_of_ne_nil _ hn
      have z := (hkm n0).mp hn0
      unfold lens at z
      obtain ⟨ps, hps, _⟩ := List.mem_map.mp z
      exact List.length_pos_of_mem hps
    obtain ⟨lv, gu, a, b, e1, e2, e3, e4, z1, z2, _⟩ := (hC.ok ht).len hcnt
    have a0 : atI (ns.map vN) 0 = some (vN a) := at_of (j := 0) rfl (vN_map_get (asc_min hkn hkm e3))
    have aL : atI (ns.map vN) (-1) = some (vN b) := at_last (asc_max hkn hkm e4)
    have eL1 : leastLen cs t = some a := eL.trans e3
    have eM1 : mostLen cs t = some b := eM.trans e4
    have tp := hC.top_ok
    have lw := hC.low_ok
    have af : atI (cs.map vN) 0 = some (vN (low cs)) := at_of (j := 0) rfl (vN_map_get hC.first)
    have gl : atI ((lossTab cs).map vO) ((t : Int) % (top cs : Int)) = some (vO ((lossTab cs).getD (t % top cs) none)) := atO (i := t % top cs) rfl (by rw [lossTab_len hC]; exact Nat.mod_lt _ tp.1)
    have gg : atI ((gainTab cs).map vO) ((t : Int) % (low cs : Int)) = some (vO ((gainTab cs).getD (t % low cs) none)) := atO (i := t % low cs) rfl (by rw [gainTab_len hC]; exact Nat.mod_lt _ lw.1)
    rw [e1] at gl
    rw [e2] at gg
    have hL' := hL
    obtain ⟨la, dx, cc, rfl, hins, hcq⟩ := hL'
    refine iteF ⟨_, rfl, la, dx, _, rfl, s6 _ _ hins, _, rfl, la, dx, _, rfl, s6 _ _ hins, _, rfl, _, _, _, _, rfl, rfl, s6.seqT hcq, at_last hC.last, _, _, rfl, ?_⟩
    refine ⟨_, rfl, .ref la, cs, rfl, hL.mono s6, hC, fun H6 p6 s7 h6 => ⟨_, rfl, .inl ⟨_, rfl, _, rfl, _, _, rfl, rfl, (by omega), _, _, _, _, rfl, rfl, SqT.of h6, gl, ?_⟩⟩⟩
    have s67 := s6.trans s7
    refine ⟨_, rfl, .ref la, cs, rfl, hL.mono s67, hC, fun H7 p7 s8 h7 => ⟨_, rfl, .inl ⟨_, rfl, _, rfl, _, _, _, _, rfl, rfl, (s67.trans s8).seqT hcq, af, _, _, rfl, rfl, (by omega), _, _, _, _, rfl, rfl, SqT.of h7, gg, ?_⟩⟩⟩
    have s9 := s67.trans s8
    have h9 := s8 _ _ (s7 _ _ h5)
    have la45 : a ≤ 45 := by
      have := lens_le hp0 (List.min?_eq_some_iff.mp e3).1
      omega
    have lb45 : b ≤ 45 := by
      have := lens_le hp0 (List.max?_eq_some_iff.mp e4).1
      omega
    refine ⟨_, rfl, _, rfl, iteF ⟨_, rfl, _, rfl, iteF ⟨_, rfl, _, rfl, _, rfl, _, _, _, _, rfl, rfl, SqL.of h9, a0, _, _, rfl, rfl, .inl ⟨by omega, by omega⟩, _, rfl, _, _, rfl, rfl, _, _, rfl, rfl, _, rfl, ?_⟩⟩⟩
    have m1 : (top cs : Int) * (a : Int) = ((top cs * a : Nat) : Int) := rfl
    have m2 : (low cs : Int) * (b : Int) = ((low cs * b : Nat) : Int) := rfl
    rw [decide_eq_false (show ¬ ((top cs : Int) * (a : Int) - (t : Int) < (lv : Int)) by rw [m1]; omega)]
    refine iteF ⟨_, rfl, _, rfl, _, rfl, _, _, _, _, rfl, rfl, s9.seqT hcq, af, _, rfl, _, rfl, _, _, _, _, rfl, rfl, SqL.of h9, aL, _, _, rfl, rfl, .inl ⟨by omega, by omega⟩, _, _, rfl, rfl, _, _, rfl, rfl, _, rfl, ?_⟩
    rw [decide_eq_false (show ¬ ((t : Int) - (low cs : Int) * (b : Int) < (gu : Int)) by rw [m2]; omega)]
    refine iteF ⟨_, rfl, _, rfl, .ref la, cs, t, rfl, hL.mono s9, hC, ht4, hC.lenOk ht, fun H8 s10 => ⟨_, rfl, _, rfl, .ref la, cs, t, rfl, hL.mono (s9.trans s10), hC, ht4, hC.lenOk ht, fun H9 s11 => ⟨sz _ (by show 2 ≤ 16000000; decide), fun l5 nl5 => ?_⟩⟩⟩
    rw [eL1, eM1]
    have s12 : Same H9 (upd H9 l5 (.lst [vN a, vN b])) := same_upd nl5
    have h12 := s12 _ _ (s11 _ _ (s10 _ _ h9))
    refine ⟨_, rfl, _, _, _, _, rfl, rfl, SqL.of h12, a0, _, rfl, _, rfl, _, _, _, _, rfl, rfl, SqL.of h12, aL, sz _ (by show 2 ≤ 16000000; decide), fun l6 nl6 => ?_⟩
    refine nums_eq (a := [a, b]) (b := [a, b]) (SqL.of ((same_upd nl6) _ _ upd_same)) (SqL.of upd_same) ?_
    rw [decide_eq_true rfl]
    exact q _ ((((s9.trans s10).trans s11).trans s12).new nl6)
end
end Cn
/-! A lot drawn is right; the law. -/
namespace Cn
open PySem PySem.Spec PyProof.Rows L2 RZ StX Mp
section
variable {P : Program} {w : World} {K : PySem.W.Frag} {mg : Str → Option Value} {base : Heap} {C : Addr}
abbrev sLawRight : Stmt := topS 107
theorem scLawRight : FnScope ["_law_pot_here", "_law_coins", "_law_total", "_law_lot", "_law_every", "_law_turn"] ["_law_pot_here"] (defScope sLawRight) := ⟨rfl, rfl, rfl, by decide +kernel, rfl, by decide +kernel, by decide +kernel⟩
def spRight : Sp := fun vs H Q _ => ∃ p : Addr, vs = [.ref p] ∧ Pot H p ∧ ∀ H', Same (del H p) H' → Q (.bl true) H'
theorem ok_law_right (B : Bl mg) (G : LotG P w K mg base C) (LI : LotI P w K mg base C) (d__law_drawn_lot : DefOk P w K mg base "_law_drawn_lot" 2 ["_law_pot_here", "_law_top", "_law_many"] (spDrawnLot K)) (d__law_draw : DefOk P w K mg base "_law_draw" 1 ["_law_pot_here", "_law_size"] spDraw) (d__law_gathered : DefOk P w K mg base "_law_gathered" 1 ["_law_coins", "_law_total"] (spGathered K))
    (d__law_counts_right : DefOk P w K mg base "_law_counts_right" 8 ["_law_lot", "_law_total", "_law_every"] (spCountsRight K C)) (d__law_places_right : DefOk P w K mg base "_law_places_right" 7 ["_law_pot_here", "_law_lot", "_law_total", "_law_every"] (spPlacesRight K C)) (d__law_lengths_right : DefOk P w K mg base "_law_lengths_right" 7 ["_law_lot", "_law_total", "_law_every"] (spLengthsRight K C)) (A : At K mg "_law_right" sLawRight) : DefOk P w K mg base "_law_right" 9 ["_law_pot_here"] spRight := by
  refine mkDef A scLawRight (fun _ _ _ _ _ _ us hl => match us, hl with | [_], _ => rfl) (by rintro _ _ _ _ ⟨_, rfl, _⟩; rfl) fun f cdv A outer s H vs Q E hr h => ?_
  obtain ⟨p, rfl, hp, q⟩ := h
  refine ⟨_, pss_cons (ps_par (i := 1) (j := 2) (by rfl) scLawRight.nd rfl rfl (by decide) rfl rfl (pa_cons (pe_callD d__law_drawn_lot hr rfl (pa_cons (pv 0) (pa_cons (pe_int) (pa_cons (pe_int) pa_nil)))) (pa_cons (pe_callD d__law_draw hr rfl (pa_cons (pv 0) (pa_cons (pe_int) pa_nil))) pa_nil)) (by rfl))
      (pss_cons (ps_par (i := 3) (j := 4) (by rfl) scLawRight.nd rfl rfl (by decide) rfl rfl (pa_cons (pe_makeL LI G.c.lot hr rfl (pa_cons (pv 1) pa_nil)) (pa_cons (pe_callD d__law_gathered hr rfl (pa_cons (pv 1) (pa_cons (pv 2) pa_nil))) pa_nil)) (by rfl))
      (pss_cons (ps_for PassesOwn.never rfl (pi_range1 rfl B.z_range (pa_cons (pe_int) pa_nil)) (pg_name (i := 5) scLawRight.nd rfl (Or.inl rfl))
        (pss_one (ps_if (pt_cmpR op_gt (pe_callB call_len_seq (by rfl) B.z_len (by decide +kernel) (pa_cons (pv 4) pa_nil)) (pe_int) (nomark _))
            (pss_cons (ps_set (i := 2) scLawRight.nd rfl (Or.inl rfl) (pe_op op_fdiv (pv 2) (pe_int)))
              (pss_one (ps_set (i := 4) scLawRight.nd rfl (Or.inl rfl) (pe_callD d__law_gathered hr rfl (pa_cons (pv 1) (pa_cons (pv 2) pa_nil))))))
            (pss_nil))))
      (pss_cons (ps_if (PW.pt (pw_or (pt_not (pt_val (pe_callD d__law_counts_right hr rfl (pa_cons (pv 3) (pa_cons (pv 2) (pa_cons (pv 4) pa_nil)))))) (pw_or1 (pt_not (pt_val (pe_callD d__law_places_right hr rfl (pa_cons (pv 0) (pa_cons (pv 3) (pa_cons (pv 2) (pa_cons (pv 4) pa_nil))))))))))
        (pss_one (ps_ret (pe_bl)))
        (pss_nil))
      (pss_one (ps_ret (pe_callD d__law_lengths_right hr rfl (pa_cons (pv 3) (pa_cons (pv 2) (pa_cons (pv 4) pa_nil))))))))), ?_⟩
  refine ⟨_, rfl, p, rfl, hp, fun H1 u cs s1 hp1 hu hC => ⟨_, rfl, p, 46, rfl, by decide, by decide, hp1, fun H2 d s2 hp2 hd => ⟨_, _, rfl, ?_⟩⟩⟩
  obtain ⟨ca, rfl, hca⟩ := sx_tupN s2 hp1 hu
  have x2 : Same (del H p) H2 := sx_trans s1 s2
  clear s1 s2 hp1 hu
  refine ⟨_, rfl, fun x dx nx ndx hne => ⟨x, dx, ca, cs, rfl, upd_same, ?_, hC, fun H3 s3 => ⟨rfl, ?_⟩⟩⟩
  · exact ((same_upd ndx).new (show (upd H2 dx (.own x)) x = none by rw [upd_ne (Ne.symm hne)]; exact nx)).seqT hca
  have s23 : Same H2 H3 := ((same_upd ndx).new (show (upd H2 dx (.own x)) x = none by rw [upd_ne (Ne.symm hne)]; exact nx)).trans s3
  have s4 : Same H2 (upd H3 x (.ins C dx [("kinds", .ref ca)])) := s23.mut nx
  have hL : LotN K C (upd H3 x (.ins C dx [("kinds", .ref ca)])) (.ref x) cs := ⟨x, dx, ca, rfl, upd_same, s4.seqT hca⟩
  generalize upd H3 x (.ins C dx [("kinds", .ref ca)]) = H4 at s4 hL ⊢
  refine ⟨_, rfl, _, rfl, ca, cs, d, rfl, s4.seqT hca, hC, by omega, fun H5 e xs s5 ne h5 hT => ⟨_, _, rfl, ?_⟩⟩
  have s25 := s4.trans s5
  have x5 : Same (del H p) H5 := fun b o hb => s25 b o (x2 b o hb)
  have hep : e ≠ p := fun z => by
    obtain ⟨l, hl⟩ := hp2.lst
    have := s4 _ _ hl
    rw [← z, ne] at this
    cases this
  have hp5 := hp2.mono s25
  have hcnt : ∀ {t : Nat} {xs : List V} {H' : Hp}, TupsN K H' xs (pays cs t) → xs.length = Mp.cnt cs t := fun h => (Paired.length h).trans rfl
  refine ⟨(6 : Int), rfl, by decide, by decide, for_r0 6 rfl (fun i σ H' => ∃ (t : Nat) (e : Addr) (xs : List V) (y : Option V), σ = [some (.ref p), some (.ref ca), some (vN t), some (.ref x), some (.ref e), y] ∧ Same (del H p) H' ∧ Pot H' p ∧
    LotN K C H' (.ref x) cs ∧ SqT K H' ca (cs.map vN) ∧ t ≤ 45 ∧ (0 < i → Mp.cnt cs t ≤ 400) ∧ e ≠ p ∧ H' e = some (.lst xs) ∧ TupsN K H' xs (pays cs t))
    ⟨d, e, xs, _, rfl, x5, hp5, hL.mono s5, s25.seqT hca, by omega, fun z => absurd z (Nat.lt_irrefl 0), hep, h5, hT⟩ ?_ ?_⟩
  · rintro i σ H6 hi ⟨t, e6, xs6, _, rfl, x6, hp6, hL6, hc6, ht, hm, hep6, he6, hT6⟩
    refine ⟨_, rfl, e6, xs6, rfl, .inl (SqL.of he6), _, _, rfl, rfl, _, rfl, ?_⟩
    rw [hcnt hT6]
    by_cases hb : 400 < Mp.cnt cs t
    · rw [decide_eq_true (show (400 : Int) < (Mp.cnt cs t : Int) by omega)]
      refine iteT ⟨_, rfl, _, _, rfl, rfl, ⟨by omega, by omega⟩, _, rfl, _, rfl, ca, cs, t / 2, rfl, hc6, hC, by omega, fun H7 e7 xs7 s7 n7 h7 hT7 => ?_⟩
      have hep7 : e7 ≠ p := fun z => by
        obtain ⟨l, hl⟩ := hp6.lst
        rw [← z, n7] at hl
        cases hl
      have h22 : t / 2 ≤ 22 := by omega
      exact ⟨t / 2, e7, xs7, _, rfl, fun b o hb => s7 b o (x6 b o hb), hp6.mono s7, hL6.mono s7, s7.seqT hc6, by omega, fun _ => (hC.ok (by omega)).small h22, hep7, h7, hT7⟩
    · rw [decide_eq_false (show ¬ (400 : Int) < (Mp.cnt cs t : Int) by omega)]
      exact iteF ⟨t, e6, xs6, _, rfl, x6, hp6, hL6, hc6, ht, fun _ => by omega, hep6, he6, hT6⟩
  · rintro σ H6 ⟨t, e6, xs6, _, rfl, x6, hp6, hL6, hc6, ht, hm, hep6, he6, hT6⟩
    have hm6 := hm (by decide)
    refine ⟨_, rfl, _, rfl, _, rfl, .ref x, cs, t, e6, xs6, rfl, hL6, hC, ht, hm6, he6, hT6, fun H7 s7 => ⟨true, rfl, iteF ?_⟩⟩
    refine ⟨_, rfl, _, rfl, _, rfl, _, rfl, p, .ref x, cs, t, e6, xs6, rfl, hp6.mono s7, hL6.mono s7, hC, ht, hm6, hep6, s7 _ _ he6, hT6.mono s7, fun H8 s8 hp8 => ⟨true, rfl, iteF ?_⟩⟩
    have hp7 := hp6.mono s7
    have x7 : Same (del H p) H7 := fun b o hb => s7 b o (x6 b o hb)
    exact ⟨_, rfl, _, rfl, _, rfl, .ref x, cs, t, e6, xs6, rfl, sx_lot s8 hp7 (hL6.mono s7), hC, ht, hm6, sx_at s8 (s7 _ _ he6) hep6, Paired.mapP (hT6.mono s7) fun _ _ z => sx_tupN s8 hp7 z, fun H9 s9 => q _ fun b o hb => s9 b o (sx_trans x7 s8 b o hb)⟩
abbrev sLaw : Stmt := topS 108
theorem scLaw : FnScope ["_law_script", "_law_turn"] ["_law_script"] (defScope sLaw) := ⟨rfl, rfl, rfl, by decide +kernel, rfl, by decide +kernel, by decide +kernel⟩
def spLaw (K : PySem.W.Frag) : Sp := fun vs H Q _ => ∃ (a : Addr) (ns : List Int), vs = [.ref a] ∧ SqL K H a (ns.map V.int) ∧ ns.length ≤ 1000 ∧ ∀ H', Same H H' → Q (.bl true) H'
theorem mkFn {x : Str} {st : Stmt} {f : Addr} {fd : FuncData} {N ps : List Str} {k : Nat} {sp : Sp} (F : FnP K x st f fd) (S : FnScope N ps (defScope st)) (len : ∀ vs H Q E, sp vs H Q E → vs.length = ps.length)
    (hbody : ∀ (cdv : Value) (A : Around) (outer : List Env) (s : Shared) (H : Hp) (vs : List V) (Q : VK) (E : XK), Room k (A.deeper (envOfC x (defScope st) s.heap.objs.size f cdv)) → sp vs H Q E →
      ∃ t, PSs (cxOf CX0 P w K mg base N x (defScope st) f cdv A outer s H E).nox (defBody st) t ∧ t { nx := fun _ H' => Q .non H', rt := Q } (start N vs) H) : FnOk P w K mg base CX0 (k + 1) f fd ps sp :=
  F.ok S len (fun cdv A outer s H vs Q E hr h => by
    obtain ⟨t, a, b⟩ := hbody cdv A outer s H vs Q E hr h
    exact ⟨t, a.nox, b⟩)
theorem fn_law {f : Addr} {fd : FuncData} (F : FnP K "law" sLaw f fd) (B : Bl mg) (d__law_pot : DefOk P w K mg base "_law_pot" 1 ["_law_script", "_law_turn"] (spPot K)) (d__law_right : DefOk P w K mg base "_law_right" 9 ["_law_pot_here"] spRight) : FnOk P w K mg base CX0 10 f fd ["_law_script"] (spLaw K) := by
  refine mkFn F scLaw (by rintro _ _ _ _ ⟨_, _, rfl, _⟩; rfl) fun cdv A outer s H vs Q E hr h => ?_
  obtain ⟨a, ns, rfl, hq, hn, q⟩ := h
  refine ⟨_, pss_one (ps_ret (pe_callB (cr_all rfl) (by rfl) B.z_all (by decide +kernel) (pa_cons (pe_lc (own := [("_law_turn", 1)]) (g := gName 1) (tt := tYes) rfl scLaw.nd (pi_range1 rfl B.z_range (pa_cons (pe_int) pa_nil)) (blkOk_by (N := ["_law_script", "_law_turn"]) (sc := defScope sLaw) (by decide +kernel)) (fun _ _ _ _ _ => (pg_name (i := 1) scLaw.nd rfl (Or.inl rfl))) (fun _ _ _ _ _ => pts_nil) (fun _ _ _ _ _ => pe_callD d__law_right hr rfl (pa_cons (pe_callD d__law_pot hr rfl (pa_cons (pv 0) (pa_cons (pv 1) pa_nil))) pa_nil))) pa_nil))), ?_⟩
  refine ⟨(2 : Int), rfl, by decide, by decide, fun D nD => lc_r0 2 rfl (fun i H' => Same H H' ∧ H' D = some (.lst (List.replicate i (.bl true)))) ⟨same_upd nD, upd_same⟩ (fun _ => rfl) ?_ ?_⟩
  · rintro i H1 hi ⟨s1, h1⟩
    refine ⟨_, rfl, _, rfl, a, ns, i, rfl, s1.seq hq, hn, by omega, fun H2 p s2 np hp => ⟨p, rfl, hp, fun H3 s3 => ?_⟩⟩
    have s13 : Same H1 H3 := (s2.to_del np).trans s3
    refine ⟨_, s13 _ _ h1, szl _ (by rw [List.length_replicate]; omega), (s1.trans s13).mut nD, ?_⟩
    rw [upd_same, List.replicate_succ']
  · rintro H1 ⟨s1, h1⟩
    exact ⟨D, [true, true], rfl, SqL.of h1, q _ s1⟩
end
end Cn
/-! What the run says of the module; the law. -/
namespace Cn
open PySem PySem.Spec PyProof.Rows L2 RZ StX Mp
abbrev sLotCoins : Stmt := inClass (topS 35) 2
theorem scLotCoins : FnScope ["self"] ["self"] (defScope sLotCoins) := ⟨rfl, rfl, rfl, by decide +kernel, rfl, by decide +kernel, by decide +kernel⟩
section
variable {K : PySem.W.Frag}
theorem SaysK.fact (c : SaysK K) (i : Nat) {f : He.Fa} (h : fa[i]? = some f := by rfl) : f.ok K = true := by
  have c1 := (He.ba (show ((fa.all fun f => f.ok K) && ((fn.all fun d => d.ok K) && ex K)) = true from congrArg (fun z : He.AlD => z.1) c)).1
  exact List.all_eq_true.mp c1 f (List.mem_of_getElem? h)
theorem SaysK.ex (c : SaysK K) : Cn.ex K = true := (He.ba (He.ba (show ((fa.all fun f => f.ok K) && ((fn.all fun d => d.ok K) && Cn.ex K)) = true from congrArg (fun z : He.AlD => z.1) c)).2).2
theorem SaysK.def_ (c : SaysK K) (i : Nat) {d : He5.DefA} (h : fn[i]? = some d := by rfl) : ∃ fd, FunD K d.name d.qual d.params d.body d.scope (d.dvs K) (d.kws K) (d.at_ K) fd := by
  have c2 := (He.ba (He.ba (show ((fa.all fun f => f.ok K) && ((fn.all fun d => d.ok K) && Cn.ex K)) = true from congrArg (fun z : He.AlD => z.1) c)).2).1
  have e : fn.map (fun d => He5.fnA K (d.at_ K)) = fn.map He5.DefA.val := congrArg (fun z : He.AlD => z.2) c
  have e2 : (fn.map fun d => He5.fnA K (d.at_ K))[i]? = (fn.map He5.DefA.val)[i]? := by rw [e]
  rw [List.getElem?_map, List.getElem?_map, h] at e2
  exact He5.DefA.funD (Option.some.inj e2) (List.all_eq_true.mp c2 d (List.mem_of_getElem? h))
end
section
variable {P : Program} {w : World} {K : PySem.W.Frag} {mg : Str → Option Value} {base h : Heap}
theorem bl_of (X : K.In h) (G : h.Ns mainGlobals mg) (c : SaysK K) : Bl mg where
  z_isinstance := He.free_ok X G (c.fact 75 (f := .free "isinstance") rfl)
  z_int := He.free_ok X G (c.fact 76 (f := .free "int") rfl)
  z_bool := He.free_ok X G (c.fact 77 (f := .free "bool") rfl)
  z_tuple := He.free_ok X G (c.fact 78 (f := .free "tuple") rfl)
  z_list := He.free_ok X G (c.fact 79 (f := .free "list") rfl)
  z_set := He.free_ok X G (c.fact 80 (f := .free "set") rfl)
  z_str := He.free_ok X G (c.fact 81 (f := .free "str") rfl)
  z_len := He.free_ok X G (c.fact 82 (f := .free "len") rfl)
  z_range := He.free_ok X G (c.fact 83 (f := .free "range") rfl)
  z_enumerate := He.free_ok X G (c.fact 84 (f := .free "enumerate") rfl)
  z_zip := He.free_ok X G (c.fact 85 (f := .free "zip") rfl)
  z_sum := He.free_ok X G (c.fact 86 (f := .free "sum") rfl)
  z_min := He.free_ok X G (c.fact 87 (f := .free "min") rfl)
  z_max := He.free_ok X G (c.fact 88 (f := .free "max") rfl)
  z_divmod := He.free_ok X G (c.fact 89 (f := .free "divmod") rfl)
  z_sorted := He.free_ok X G (c.fact 90 (f := .free "sorted") rfl)
  z_abs := He.free_ok X G (c.fact 91 (f := .free "abs") rfl)
  z_all := He.free_ok X G (c.fact 92 (f := .free "all") rfl)
  MOST_COIN := ⟨He.int_ok X G (c.fact 93 (f := .int "MOST_COIN" 60) rfl)⟩
  MOST_COINS := ⟨He.int_ok X G (c.fact 94 (f := .int "MOST_COINS" 15) rfl)⟩
  MOST_AMOUNT := ⟨He.int_ok X G (c.fact 95 (f := .int "MOST_AMOUNT" (10 ^ 30)) rfl)⟩
  MOST_SMALL := ⟨He.int_ok X G (c.fact 96 (f := .int "MOST_SMALL" 400) rfl)⟩
  MOST_LISTED := ⟨He.int_ok X G (c.fact 97 (f := .int "MOST_LISTED" 400) rfl)⟩
  MOST_PERIOD := ⟨He.int_ok X G (c.fact 98 (f := .int "MOST_PERIOD" 2520) rfl)⟩
  MOST_WAYS := ⟨He.int_ok X G (c.fact 99 (f := .int "MOST_WAYS" 4) rfl)⟩
  MOST_TOLD_SUM := ⟨He.int_ok X G (c.fact 100 (f := .int "MOST_TOLD_SUM" 4000) rfl)⟩
theorem lotC_of (X : K.In h) (G : h.Ns mainGlobals mg) (c : SaysK K) : LotC K mg (He.ga K "Lot") := by
  obtain ⟨h1, z⟩ := He.ba c.ex
  obtain ⟨h2, z⟩ := He.ba z
  obtain ⟨h3, z⟩ := He.ba z
  obtain ⟨h4, z⟩ := He.ba z
  obtain ⟨h5, _⟩ := He.ba z
  exact ⟨He.glo_ok X G (c.fact 101 (f := .glo "Lot") rfl), He.cls_ok (c.fact 102 (f := .cls "Lot") rfl), He.noat_ok (c.fact 103 (f := .noat "Lot" "kinds") rfl), He.eqO_ok h1, He.eqO_ok h2, of_decide_eq_true h3, of_decide_eq_true h4, of_decide_eq_true h5⟩
theorem propOf_of (c : SaysK K) : PropOf K (He.ga K "Lot") "coins" (pC K) (He5.wf K (He.ga K "Lot") "property" "coins") := by
  obtain ⟨_, z⟩ := He.ba c.ex
  obtain ⟨_, z⟩ := He.ba z
  obtain ⟨_, z⟩ := He.ba z
  obtain ⟨_, z⟩ := He.ba z
  obtain ⟨_, z⟩ := He.ba z
  obtain ⟨h6, z⟩ := He.ba z
  obtain ⟨h7, z⟩ := He.ba z
  obtain ⟨h8, h9⟩ := He.ba z
  refine ⟨He.eqO_ok h6, He.eqO_ok h7, of_decide_eq_true h8, ?_⟩
  unfold He5.wf
  show ∃ rest, PySem.W.recIn K (pC K) "property" = some (.ref (match PySem.W.recIn K (pC K) "property" with
    | some (.ref f :: _) => f
    | _ => 0) :: rest)
  split at h9
  · rename_i f r e
    exact ⟨r, by rw [e]⟩
  · cases h9
theorem lotG_of (X : K.In h) (G : h.Ns mainGlobals mg) (c : SaysK K) : LotG P w K mg base (He.ga K "Lot") := by
  have LC := lotC_of X G c
  obtain ⟨fd, F⟩ := c.def_ 76 (d := ⟨fun K => He5.wf K (He.ga K "Lot") "property" "coins", "coins", "Lot.coins", defArgs sLotCoins, defBody sLotCoins, defScope sLotCoins, [], []⟩) rfl
  have b : Binds K fd ["self"] [] := FunD.bindsN F fun _ _ _ _ _ _ us hl => match us, hl with | [_], _ => rfl
  obtain ⟨oc, od, dV, kV, doc, pm, an, cdv, ct, osl, rfl, lk, hcd, _, _⟩ := F.ex
  exact ⟨LC, pC K, _, _, propOf_of c, fn_getter lk hcd scLotCoins rfl rfl LC.cl LC.nK, b⟩
theorem atI_of (c : SaysK K) : AtI K (He.ga K "Lot") := by
  obtain ⟨fd, F⟩ := c.def_ 75 (d := ⟨fun K => He.ma K (He.ga K "Lot") "__init__", "__init__", "Lot.__init__", defArgs sLotInit, defBody sLotInit, defScope sLotInit, [], []⟩) rfl
  exact ⟨_, fd, F, He.mkr_ok (c.fact 104 (f := .mkr "Lot") rfl)⟩
theorem at_is_integer (X : K.In h) (G : h.Ns mainGlobals mg) (c : SaysK K) : At K mg "is_integer" sIsInteger := by
  obtain ⟨fd, F⟩ := c.def_ 0 (d := ⟨fun K => He.ga K "is_integer", "is_integer", "is_integer", defArgs sIsInteger, defBody sIsInteger, defScope sIsInteger, [], []⟩) rfl
  exact ⟨_, fd, F, He.glo_ok X G (c.fact 0 (f := .glo "is_integer") rfl)⟩
theorem at_is_within_bounds (X : K.In h) (G : h.Ns mainGlobals mg) (c : SaysK K) : At K mg "is_within_bounds" sIsWithinBounds := by
  obtain ⟨fd, F⟩ := c.def_ 1 (d := ⟨fun K => He.ga K "is_within_bounds", "is_within_bounds", "is_within_bounds", defArgs sIsWithinBounds, defBody sIsWithinBounds, defScope sIsWithinBounds, [], []⟩) rfl
  exact ⟨_, fd, F, He.glo_ok X G (c.fact 1 (f := .glo "is_within_bounds") rfl)⟩
theorem at_check_within (X : K.In h) (G : h.Ns mainGlobals mg) (c : SaysK K) : At K mg "check_within" sCheckWithin := by
  obtain ⟨fd, F⟩ := c.def_ 2 (d := ⟨fun K => He.ga K "check_within", "check_within", "check_within", defArgs sCheckWithin, defBody sCheckWithin, defScope sCheckWithin, [], []⟩) rfl
  exact ⟨_, fd, F, He.glo_ok X G (c.fact 2 (f := .glo "check_within") rfl)⟩
theorem at_check_amount (X : K.In h) (G : h.Ns mainGlobals mg) (c : SaysK K) : At K mg "check_amount" sCheckAmount := by
  obtain ⟨fd, F⟩ := c.def_ 3 (d := ⟨fun K => He.ga K "check_amount", "check_amount", "check_amount", defArgs sCheckAmount, defBody sCheckAmount, defScope sCheckAmount, [], []⟩) rfl
  exact ⟨_, fd, F, He.glo_ok X G (c.fact 3 (f := .glo "check_amount") rfl)⟩
theorem at_check_small (X : K.In h) (G : h.Ns mainGlobals mg) (c : SaysK K) : At K mg "check_small" sCheckSmall := by
  obtain ⟨fd, F⟩ := c.def_ 4 (d := ⟨fun K => He.ga K "check_small", "check_small", "check_small", defArgs sCheckSmall, defBody sCheckSmall, defScope sCheckSmall, [], []⟩) rfl
  exact ⟨_, fd, F, He.glo_ok X G (c.fact 4 (f := .glo "check_small") rfl)⟩
theorem at_common_divisor (X : K.In h) (G : h.Ns mainGlobals mg) (c : SaysK K) : At K mg "common_divisor" sCommonDivisor := by
  obtain ⟨fd, F⟩ := c.def_ 5 (d := ⟨fun K => He.ga K "common_divisor", "common_divisor", "common_divisor", defArgs sCommonDivisor, defBody sCommonDivisor, defScope sCommonDivisor, [], []⟩) rfl
  exact ⟨_, fd, F, He.glo_ok X G (c.fact 5 (f := .glo "common_divisor") rfl)⟩
theorem at_common_multiple (X : K.In h) (G : h.Ns mainGlobals mg) (c : SaysK K) : At K mg "common_multiple" sCommonMultiple := by
  obtain ⟨fd, F⟩ := c.def_ 6 (d := ⟨fun K => He.ga K "common_multiple", "common_multiple", "common_multiple", defArgs sCommonMultiple, defBody sCommonMultiple, defScope sCommonMultiple, [], []⟩) rfl
  exact ⟨_, fd, F, He.glo_ok X G (c.fact 6 (f := .glo "common_multiple") rfl)⟩
theorem at_first_wrong (X : K.In h) (G : h.Ns mainGlobals mg) (c : SaysK K) : At K mg "first_wrong" sFirstWrong := by
  obtain ⟨fd, F⟩ := c.def_ 7 (d := ⟨fun K => He.ga K "first_wrong", "first_wrong", "first_wrong", defArgs sFirstWrong, defBody sFirstWrong, defScope sFirstWrong, [], []⟩) rfl
  exact ⟨_, fd, F, He.glo_ok X G (c.fact 7 (f := .glo "first_wrong") rfl)⟩
theorem at_check_lot (X : K.In h) (G : h.Ns mainGlobals mg) (c : SaysK K) : At K mg "check_lot" sCheckLot := by
  obtain ⟨fd, F⟩ := c.def_ 8 (d := ⟨fun K => He.ga K "check_lot", "check_lot", "check_lot", defArgs sCheckLot, defBody sCheckLot, defScope sCheckLot, [], []⟩) rfl
  exact ⟨_, fd, F, He.glo_ok X G (c.fact 8 (f := .glo "check_lot") rfl)⟩
theorem at_least_table (X : K.In h) (G : h.Ns mainGlobals mg) (c : SaysK K) : At K mg "least_table" sLeastTable := by
  obtain ⟨fd, F⟩ := c.def_ 9 (d := ⟨fun K => He.ga K "least_table", "least_table", "least_table", defArgs sLeastTable, defBody sLeastTable, defScope sLeastTable, [], []⟩) rfl
  exact ⟨_, fd, F, He.glo_ok X G (c.fact 9 (f := .glo "least_table") rfl)⟩
theorem at_is_paid_by (X : K.In h) (G : h.Ns mainGlobals mg) (c : SaysK K) : At K mg "is_paid_by" sIsPaidBy := by
  obtain ⟨fd, F⟩ := c.def_ 10 (d := ⟨fun K => He.ga K "is_paid_by", "is_paid_by", "is_paid_by", defArgs sIsPaidBy, defBody sIsPaidBy, defScope sIsPaidBy, [], []⟩) rfl
  exact ⟨_, fd, F, He.glo_ok X G (c.fact 10 (f := .glo "is_paid_by") rfl)⟩
theorem at_is_paid (X : K.In h) (G : h.Ns mainGlobals mg) (c : SaysK K) : At K mg "is_paid" sIsPaid := by
  obtain ⟨fd, F⟩ := c.def_ 11 (d := ⟨fun K => He.ga K "is_paid", "is_paid", "is_paid", defArgs sIsPaid, defBody sIsPaid, defScope sIsPaid, [], []⟩) rfl
  exact ⟨_, fd, F, He.glo_ok X G (c.fact 11 (f := .glo "is_paid") rfl)⟩
theorem at_sum_of (X : K.In h) (G : h.Ns mainGlobals mg) (c : SaysK K) : At K mg "sum_of" sSumOf := by
  obtain ⟨fd, F⟩ := c.def_ 12 (d := ⟨fun K => He.ga K "sum_of", "sum_of", "sum_of", defArgs sSumOf, defBody sSumOf, defScope sSumOf, [], []⟩) rfl
  exact ⟨_, fd, F, He.glo_ok X G (c.fact 12 (f := .glo "sum_of") rfl)⟩
theorem at_first_wrong_often (X : K.In h) (G : h.Ns mainGlobals mg) (c : SaysK K) : At K mg "first_wrong_often" sFirstWrongOften := by
  obtain ⟨fd, F⟩ := c.def_ 13 (d := ⟨fun K => He.ga K "first_wrong_often", "first_wrong_often", "first_wrong_often", defArgs sFirstWrongOften, defBody sFirstWrongOften, defScope sFirstWrongOften, [], []⟩) rfl
  exact ⟨_, fd, F, He.glo_ok X G (c.fact 13 (f := .glo "first_wrong_often") rfl)⟩
theorem at_check_often (X : K.In h) (G : h.Ns mainGlobals mg) (c : SaysK K) : At K mg "check_often" sCheckOften := by
  obtain ⟨fd, F⟩ := c.def_ 14 (d := ⟨fun K => He.ga K "check_often", "check_often", "check_often", defArgs sCheckOften, defBody sCheckOften, defScope sCheckOften, [], []⟩) rfl
  exact ⟨_, fd, F, He.glo_ok X G (c.fact 14 (f := .glo "check_often") rfl)⟩
theorem at_check_payment (X : K.In h) (G : h.Ns mainGlobals mg) (c : SaysK K) : At K mg "check_payment" sCheckPayment := by
  obtain ⟨fd, F⟩ := c.def_ 15 (d := ⟨fun K => He.ga K "check_payment", "check_payment", "check_payment", defArgs sCheckPayment, defBody sCheckPayment, defScope sCheckPayment, [], []⟩) rfl
  exact ⟨_, fd, F, He.glo_ok X G (c.fact 15 (f := .glo "check_payment") rfl)⟩
theorem at_with_coin (X : K.In h) (G : h.Ns mainGlobals mg) (c : SaysK K) : At K mg "with_coin" sWithCoin := by
  obtain ⟨fd, F⟩ := c.def_ 16 (d := ⟨fun K => He.ga K "with_coin", "with_coin", "with_coin", defArgs sWithCoin, defBody sWithCoin, defScope sWithCoin, [], []⟩) rfl
  exact ⟨_, fd, F, He.glo_ok X G (c.fact 16 (f := .glo "with_coin") rfl)⟩
theorem at_count_table (X : K.In h) (G : h.Ns mainGlobals mg) (c : SaysK K) : At K mg "count_table" sCountTable := by
  obtain ⟨fd, F⟩ := c.def_ 17 (d := ⟨fun K => He.ga K "count_table", "count_table", "count_table", defArgs sCountTable, defBody sCountTable, defScope sCountTable, [], []⟩) rfl
  exact ⟨_, fd, F, He.glo_ok X G (c.fact 17 (f := .glo "count_table") rfl)⟩
theorem at_tail_tables (X : K.In h) (G : h.Ns mainGlobals mg) (c : SaysK K) : At K mg "tail_tables" sTailTables := by
  obtain ⟨fd, F⟩ := c.def_ 18 (d := ⟨fun K => He.ga K "tail_tables", "tail_tables", "tail_tables", defArgs sTailTables, defBody sTailTables, defScope sTailTables, [], []⟩) rfl
  exact ⟨_, fd, F, He.glo_ok X G (c.fact 18 (f := .glo "tail_tables") rfl)⟩
theorem at_listed_from (X : K.In h) (G : h.Ns mainGlobals mg) (c : SaysK K) : At K mg "listed_from" sListedFrom := by
  obtain ⟨fd, F⟩ := c.def_ 19 (d := ⟨fun K => He.ga K "listed_from", "listed_from", "listed_from", defArgs sListedFrom, defBody sListedFrom, defScope sListedFrom, [], []⟩) rfl
  exact ⟨_, fd, F, He.glo_ok X G (c.fact 19 (f := .glo "listed_from") rfl)⟩
theorem at_payment_list (X : K.In h) (G : h.Ns mainGlobals mg) (c : SaysK K) : At K mg "payment_list" sPaymentList := by
  obtain ⟨fd, F⟩ := c.def_ 20 (d := ⟨fun K => He.ga K "payment_list", "payment_list", "payment_list", defArgs sPaymentList, defBody sPaymentList, defScope sPaymentList, [], []⟩) rfl
  exact ⟨_, fd, F, He.glo_ok X G (c.fact 20 (f := .glo "payment_list") rfl)⟩
theorem at_payment_with (X : K.In h) (G : h.Ns mainGlobals mg) (c : SaysK K) : At K mg "payment_with" sPaymentWith := by
  obtain ⟨fd, F⟩ := c.def_ 21 (d := ⟨fun K => He.ga K "payment_with", "payment_with", "payment_with", defArgs sPaymentWith, defBody sPaymentWith, defScope sPaymentWith, [], []⟩) rfl
  exact ⟨_, fd, F, He.glo_ok X G (c.fact 21 (f := .glo "payment_with") rfl)⟩
theorem at_place_among (X : K.In h) (G : h.Ns mainGlobals mg) (c : SaysK K) : At K mg "place_among" sPlaceAmong := by
  obtain ⟨fd, F⟩ := c.def_ 22 (d := ⟨fun K => He.ga K "place_among", "place_among", "place_among", defArgs sPlaceAmong, defBody sPlaceAmong, defScope sPlaceAmong, [], []⟩) rfl
  exact ⟨_, fd, F, He.glo_ok X G (c.fact 22 (f := .glo "place_among") rfl)⟩
theorem at_first_of (X : K.In h) (G : h.Ns mainGlobals mg) (c : SaysK K) : At K mg "first_of" sFirstOf := by
  obtain ⟨fd, F⟩ := c.def_ 23 (d := ⟨fun K => He.ga K "first_of", "first_of", "first_of", defArgs sFirstOf, defBody sFirstOf, defScope sFirstOf, [], []⟩) rfl
  exact ⟨_, fd, F, He.glo_ok X G (c.fact 23 (f := .glo "first_of") rfl)⟩
theorem at_last_of (X : K.In h) (G : h.Ns mainGlobals mg) (c : SaysK K) : At K mg "last_of" sLastOf := by
  obtain ⟨fd, F⟩ := c.def_ 24 (d := ⟨fun K => He.ga K "last_of", "last_of", "last_of", defArgs sLastOf, defBody sLastOf, defScope sLastOf, [], []⟩) rfl
  exact ⟨_, fd, F, He.glo_ok X G (c.fact 24 (f := .glo "last_of") rfl)⟩
theorem at_period_of (X : K.In h) (G : h.Ns mainGlobals mg) (c : SaysK K) : At K mg "period_of" sPeriodOf := by
  obtain ⟨fd, F⟩ := c.def_ 25 (d := ⟨fun K => He.ga K "period_of", "period_of", "period_of", defArgs sPeriodOf, defBody sPeriodOf, defScope sPeriodOf, [], []⟩) rfl
  exact ⟨_, fd, F, He.glo_ok X G (c.fact 25 (f := .glo "period_of") rfl)⟩
theorem at_chosen (X : K.In h) (G : h.Ns mainGlobals mg) (c : SaysK K) : At K mg "chosen" sChosen := by
  obtain ⟨fd, F⟩ := c.def_ 26 (d := ⟨fun K => He.ga K "chosen", "chosen", "chosen", defArgs sChosen, defBody sChosen, defScope sChosen, [], []⟩) rfl
  exact ⟨_, fd, F, He.glo_ok X G (c.fact 26 (f := .glo "chosen") rfl)⟩
theorem at_short_counts (X : K.In h) (G : h.Ns mainGlobals mg) (c : SaysK K) : At K mg "short_counts" sShortCounts := by
  obtain ⟨fd, F⟩ := c.def_ 27 (d := ⟨fun K => He.ga K "short_counts", "short_counts", "short_counts", defArgs sShortCounts, defBody sShortCounts, defScope sShortCounts, [], []⟩) rfl
  exact ⟨_, fd, F, He.glo_ok X G (c.fact 27 (f := .glo "short_counts") rfl)⟩
theorem at_great_count_of (X : K.In h) (G : h.Ns mainGlobals mg) (c : SaysK K) : At K mg "great_count_of" sGreatCountOf := by
  obtain ⟨fd, F⟩ := c.def_ 28 (d := ⟨fun K => He.ga K "great_count_of", "great_count_of", "great_count_of", defArgs sGreatCountOf, defBody sGreatCountOf, defScope sGreatCountOf, [], []⟩) rfl
  exact ⟨_, fd, F, He.glo_ok X G (c.fact 28 (f := .glo "great_count_of") rfl)⟩
theorem at_count_payments (X : K.In h) (G : h.Ns mainGlobals mg) (c : SaysK K) : At K mg "count_payments" sCountPayments := by
  obtain ⟨fd, F⟩ := c.def_ 29 (d := ⟨fun K => He.ga K "count_payments", "count_payments", "count_payments", defArgs sCountPayments, defBody sCountPayments, defScope sCountPayments, [], []⟩) rfl
  exact ⟨_, fd, F, He.glo_ok X G (c.fact 29 (f := .glo "count_payments") rfl)⟩
theorem at_payments (X : K.In h) (G : h.Ns mainGlobals mg) (c : SaysK K) : At K mg "payments" sPayments := by
  obtain ⟨fd, F⟩ := c.def_ 30 (d := ⟨fun K => He.ga K "payments", "payments", "payments", defArgs sPayments, defBody sPayments, defScope sPayments, [], []⟩) rfl
  exact ⟨_, fd, F, He.glo_ok X G (c.fact 30 (f := .glo "payments") rfl)⟩
theorem at_nth_payment (X : K.In h) (G : h.Ns mainGlobals mg) (c : SaysK K) : At K mg "nth_payment" sNthPayment := by
  obtain ⟨fd, F⟩ := c.def_ 31 (d := ⟨fun K => He.ga K "nth_payment", "nth_payment", "nth_payment", defArgs sNthPayment, defBody sNthPayment, defScope sNthPayment, [], []⟩) rfl
  exact ⟨_, fd, F, He.glo_ok X G (c.fact 31 (f := .glo "nth_payment") rfl)⟩
theorem at_place_of (X : K.In h) (G : h.Ns mainGlobals mg) (c : SaysK K) : At K mg "place_of" sPlaceOf := by
  obtain ⟨fd, F⟩ := c.def_ 32 (d := ⟨fun K => He.ga K "place_of", "place_of", "place_of", defArgs sPlaceOf, defBody sPlaceOf, defScope sPlaceOf, [], []⟩) rfl
  exact ⟨_, fd, F, He.glo_ok X G (c.fact 32 (f := .glo "place_of") rfl)⟩
theorem at_check_paid (X : K.In h) (G : h.Ns mainGlobals mg) (c : SaysK K) : At K mg "check_paid" sCheckPaid := by
  obtain ⟨fd, F⟩ := c.def_ 33 (d := ⟨fun K => He.ga K "check_paid", "check_paid", "check_paid", defArgs sCheckPaid, defBody sCheckPaid, defScope sCheckPaid, [], []⟩) rfl
  exact ⟨_, fd, F, He.glo_ok X G (c.fact 33 (f := .glo "check_paid") rfl)⟩
theorem at_first_payment (X : K.In h) (G : h.Ns mainGlobals mg) (c : SaysK K) : At K mg "first_payment" sFirstPayment := by
  obtain ⟨fd, F⟩ := c.def_ 34 (d := ⟨fun K => He.ga K "first_payment", "first_payment", "first_payment", defArgs sFirstPayment, defBody sFirstPayment, defScope sFirstPayment, [], []⟩) rfl
  exact ⟨_, fd, F, He.glo_ok X G (c.fact 34 (f := .glo "first_payment") rfl)⟩
theorem at_last_payment (X : K.In h) (G : h.Ns mainGlobals mg) (c : SaysK K) : At K mg "last_payment" sLastPayment := by
  obtain ⟨fd, F⟩ := c.def_ 35 (d := ⟨fun K => He.ga K "last_payment", "last_payment", "last_payment", defArgs sLastPayment, defBody sLastPayment, defScope sLastPayment, [], []⟩) rfl
  exact ⟨_, fd, F, He.glo_ok X G (c.fact 35 (f := .glo "last_payment") rfl)⟩
theorem at_great_count (X : K.In h) (G : h.Ns mainGlobals mg) (c : SaysK K) : At K mg "great_count" sGreatCount := by
  obtain ⟨fd, F⟩ := c.def_ 36 (d := ⟨fun K => He.ga K "great_count", "great_count", "great_count", defArgs sGreatCount, defBody sGreatCount, defScope sGreatCount, [], []⟩) rfl
  exact ⟨_, fd, F, He.glo_ok X G (c.fact 36 (f := .glo "great_count") rfl)⟩
theorem at_least_lengths (X : K.In h) (G : h.Ns mainGlobals mg) (c : SaysK K) : At K mg "least_lengths" sLeastLengths := by
  obtain ⟨fd, F⟩ := c.def_ 37 (d := ⟨fun K => He.ga K "least_lengths", "least_lengths", "least_lengths", defArgs sLeastLengths, defBody sLeastLengths, defScope sLeastLengths, [], []⟩) rfl
  exact ⟨_, fd, F, He.glo_ok X G (c.fact 37 (f := .glo "least_lengths") rfl)⟩
theorem at_most_lengths (X : K.In h) (G : h.Ns mainGlobals mg) (c : SaysK K) : At K mg "most_lengths" sMostLengths := by
  obtain ⟨fd, F⟩ := c.def_ 38 (d := ⟨fun K => He.ga K "most_lengths", "most_lengths", "most_lengths", defArgs sMostLengths, defBody sMostLengths, defScope sMostLengths, [], []⟩) rfl
  exact ⟨_, fd, F, He.glo_ok X G (c.fact 38 (f := .glo "most_lengths") rfl)⟩
theorem at_eased (X : K.In h) (G : h.Ns mainGlobals mg) (c : SaysK K) : At K mg "eased" sEased := by
  obtain ⟨fd, F⟩ := c.def_ 39 (d := ⟨fun K => He.ga K "eased", "eased", "eased", defArgs sEased, defBody sEased, defScope sEased, [], []⟩) rfl
  exact ⟨_, fd, F, He.glo_ok X G (c.fact 39 (f := .glo "eased") rfl)⟩
theorem at_least_costs (X : K.In h) (G : h.Ns mainGlobals mg) (c : SaysK K) : At K mg "least_costs" sLeastCosts := by
  obtain ⟨fd, F⟩ := c.def_ 40 (d := ⟨fun K => He.ga K "least_costs", "least_costs", "least_costs", defArgs sLeastCosts, defBody sLeastCosts, defScope sLeastCosts, [], []⟩) rfl
  exact ⟨_, fd, F, He.glo_ok X G (c.fact 40 (f := .glo "least_costs") rfl)⟩
theorem at_least_losses (X : K.In h) (G : h.Ns mainGlobals mg) (c : SaysK K) : At K mg "least_losses" sLeastLosses := by
  obtain ⟨fd, F⟩ := c.def_ 41 (d := ⟨fun K => He.ga K "least_losses", "least_losses", "least_losses", defArgs sLeastLosses, defBody sLeastLosses, defScope sLeastLosses, [], []⟩) rfl
  exact ⟨_, fd, F, He.glo_ok X G (c.fact 41 (f := .glo "least_losses") rfl)⟩
theorem at_least_gains (X : K.In h) (G : h.Ns mainGlobals mg) (c : SaysK K) : At K mg "least_gains" sLeastGains := by
  obtain ⟨fd, F⟩ := c.def_ 42 (d := ⟨fun K => He.ga K "least_gains", "least_gains", "least_gains", defArgs sLeastGains, defBody sLeastGains, defScope sLeastGains, [], []⟩) rfl
  exact ⟨_, fd, F, He.glo_ok X G (c.fact 42 (f := .glo "least_gains") rfl)⟩
theorem at_least_bound (X : K.In h) (G : h.Ns mainGlobals mg) (c : SaysK K) : At K mg "least_bound" sLeastBound := by
  obtain ⟨fd, F⟩ := c.def_ 43 (d := ⟨fun K => He.ga K "least_bound", "least_bound", "least_bound", defArgs sLeastBound, defBody sLeastBound, defScope sLeastBound, [], []⟩) rfl
  exact ⟨_, fd, F, He.glo_ok X G (c.fact 43 (f := .glo "least_bound") rfl)⟩
theorem at_most_bound (X : K.In h) (G : h.Ns mainGlobals mg) (c : SaysK K) : At K mg "most_bound" sMostBound := by
  obtain ⟨fd, F⟩ := c.def_ 44 (d := ⟨fun K => He.ga K "most_bound", "most_bound", "most_bound", defArgs sMostBound, defBody sMostBound, defScope sMostBound, [], []⟩) rfl
  exact ⟨_, fd, F, He.glo_ok X G (c.fact 44 (f := .glo "most_bound") rfl)⟩
theorem at_least_length (X : K.In h) (G : h.Ns mainGlobals mg) (c : SaysK K) : At K mg "least_length" sLeastLength := by
  obtain ⟨fd, F⟩ := c.def_ 45 (d := ⟨fun K => He.ga K "least_length", "least_length", "least_length", defArgs sLeastLength, defBody sLeastLength, defScope sLeastLength, [], []⟩) rfl
  exact ⟨_, fd, F, He.glo_ok X G (c.fact 45 (f := .glo "least_length") rfl)⟩
theorem at_most_length (X : K.In h) (G : h.Ns mainGlobals mg) (c : SaysK K) : At K mg "most_length" sMostLength := by
  obtain ⟨fd, F⟩ := c.def_ 46 (d := ⟨fun K => He.ga K "most_length", "most_length", "most_length", defArgs sMostLength, defBody sMostLength, defScope sMostLength, [], []⟩) rfl
  exact ⟨_, fd, F, He.glo_ok X G (c.fact 46 (f := .glo "most_length") rfl)⟩
theorem at_least (X : K.In h) (G : h.Ns mainGlobals mg) (c : SaysK K) : At K mg "least" sLeast := by
  obtain ⟨fd, F⟩ := c.def_ 47 (d := ⟨fun K => He.ga K "least", "least", "least", defArgs sLeast, defBody sLeast, defScope sLeast, [], []⟩) rfl
  exact ⟨_, fd, F, He.glo_ok X G (c.fact 47 (f := .glo "least") rfl)⟩
theorem at_most (X : K.In h) (G : h.Ns mainGlobals mg) (c : SaysK K) : At K mg "most" sMost := by
  obtain ⟨fd, F⟩ := c.def_ 48 (d := ⟨fun K => He.ga K "most", "most", "most", defArgs sMost, defBody sMost, defScope sMost, [], []⟩) rfl
  exact ⟨_, fd, F, He.glo_ok X G (c.fact 48 (f := .glo "most") rfl)⟩
theorem at_losses (X : K.In h) (G : h.Ns mainGlobals mg) (c : SaysK K) : At K mg "losses" sLosses := by
  obtain ⟨fd, F⟩ := c.def_ 49 (d := ⟨fun K => He.ga K "losses", "losses", "losses", defArgs sLosses, defBody sLosses, defScope sLosses, [], []⟩) rfl
  exact ⟨_, fd, F, He.glo_ok X G (c.fact 49 (f := .glo "losses") rfl)⟩
theorem at_gains (X : K.In h) (G : h.Ns mainGlobals mg) (c : SaysK K) : At K mg "gains" sGains := by
  obtain ⟨fd, F⟩ := c.def_ 50 (d := ⟨fun K => He.ga K "gains", "gains", "gains", defArgs sGains, defBody sGains, defScope sGains, [], []⟩) rfl
  exact ⟨_, fd, F, He.glo_ok X G (c.fact 50 (f := .glo "gains") rfl)⟩
theorem at_lengths (X : K.In h) (G : h.Ns mainGlobals mg) (c : SaysK K) : At K mg "lengths" sLengths := by
  obtain ⟨fd, F⟩ := c.def_ 51 (d := ⟨fun K => He.ga K "lengths", "lengths", "lengths", defArgs sLengths, defBody sLengths, defScope sLengths, [], []⟩) rfl
  exact ⟨_, fd, F, He.glo_ok X G (c.fact 51 (f := .glo "lengths") rfl)⟩
theorem at_text_of (X : K.In h) (G : h.Ns mainGlobals mg) (c : SaysK K) : At K mg "text_of" sTextOf := by
  obtain ⟨fd, F⟩ := c.def_ 52 (d := ⟨fun K => He.ga K "text_of", "text_of", "text_of", defArgs sTextOf, defBody sTextOf, defScope sTextOf, [], []⟩) rfl
  exact ⟨_, fd, F, He.glo_ok X G (c.fact 52 (f := .glo "text_of") rfl)⟩
theorem at_ways_tables (X : K.In h) (G : h.Ns mainGlobals mg) (c : SaysK K) : At K mg "ways_tables" sWaysTables := by
  obtain ⟨fd, F⟩ := c.def_ 53 (d := ⟨fun K => He.ga K "ways_tables", "ways_tables", "ways_tables", defArgs sWaysTables, defBody sWaysTables, defScope sWaysTables, [], []⟩) rfl
  exact ⟨_, fd, F, He.glo_ok X G (c.fact 53 (f := .glo "ways_tables") rfl)⟩
theorem at_certify_ways (X : K.In h) (G : h.Ns mainGlobals mg) (c : SaysK K) : At K mg "certify_ways" sCertifyWays := by
  obtain ⟨fd, F⟩ := c.def_ 54 (d := ⟨fun K => He.ga K "certify_ways", "certify_ways", "certify_ways", defArgs sCertifyWays, defBody sCertifyWays, defScope sCertifyWays, [], []⟩) rfl
  exact ⟨_, fd, F, He.glo_ok X G (c.fact 54 (f := .glo "certify_ways") rfl)⟩
theorem at_most_often (X : K.In h) (G : h.Ns mainGlobals mg) (c : SaysK K) : At K mg "most_often" sMostOften := by
  obtain ⟨fd, F⟩ := c.def_ 55 (d := ⟨fun K => He.ga K "most_often", "most_often", "most_often", defArgs sMostOften, defBody sMostOften, defScope sMostOften, [], []⟩) rfl
  exact ⟨_, fd, F, He.glo_ok X G (c.fact 55 (f := .glo "most_often") rfl)⟩
theorem at_bound_for (X : K.In h) (G : h.Ns mainGlobals mg) (c : SaysK K) : At K mg "bound_for" sBoundFor := by
  obtain ⟨fd, F⟩ := c.def_ 56 (d := ⟨fun K => He.ga K "bound_for", "bound_for", "bound_for", defArgs sBoundFor, defBody sBoundFor, defScope sBoundFor, [], []⟩) rfl
  exact ⟨_, fd, F, He.glo_ok X G (c.fact 56 (f := .glo "bound_for") rfl)⟩
theorem at_capped_table (X : K.In h) (G : h.Ns mainGlobals mg) (c : SaysK K) : At K mg "capped_table" sCappedTable := by
  obtain ⟨fd, F⟩ := c.def_ 57 (d := ⟨fun K => He.ga K "capped_table", "capped_table", "capped_table", defArgs sCappedTable, defBody sCappedTable, defScope sCappedTable, [], []⟩) rfl
  exact ⟨_, fd, F, He.glo_ok X G (c.fact 57 (f := .glo "capped_table") rfl)⟩
theorem at_few_list (X : K.In h) (G : h.Ns mainGlobals mg) (c : SaysK K) : At K mg "few_list" sFewList := by
  obtain ⟨fd, F⟩ := c.def_ 58 (d := ⟨fun K => He.ga K "few_list", "few_list", "few_list", defArgs sFewList, defBody sFewList, defScope sFewList, [], []⟩) rfl
  exact ⟨_, fd, F, He.glo_ok X G (c.fact 58 (f := .glo "few_list") rfl)⟩
theorem at_check_two_coins (X : K.In h) (G : h.Ns mainGlobals mg) (c : SaysK K) : At K mg "check_two_coins" sCheckTwoCoins := by
  obtain ⟨fd, F⟩ := c.def_ 59 (d := ⟨fun K => He.ga K "check_two_coins", "check_two_coins", "check_two_coins", defArgs sCheckTwoCoins, defBody sCheckTwoCoins, defScope sCheckTwoCoins, [], []⟩) rfl
  exact ⟨_, fd, F, He.glo_ok X G (c.fact 59 (f := .glo "check_two_coins") rfl)⟩
theorem at_few_sums (X : K.In h) (G : h.Ns mainGlobals mg) (c : SaysK K) : At K mg "few_sums" sFewSums := by
  obtain ⟨fd, F⟩ := c.def_ 60 (d := ⟨fun K => He.ga K "few_sums", "few_sums", "few_sums", defArgs sFewSums, defBody sFewSums, defScope sFewSums, [], []⟩) rfl
  exact ⟨_, fd, F, He.glo_ok X G (c.fact 60 (f := .glo "few_sums") rfl)⟩
theorem at_check_told_payment (X : K.In h) (G : h.Ns mainGlobals mg) (c : SaysK K) : At K mg "check_told_payment" sCheckToldPayment := by
  obtain ⟨fd, F⟩ := c.def_ 61 (d := ⟨fun K => He.ga K "check_told_payment", "check_told_payment", "check_told_payment", defArgs sCheckToldPayment, defBody sCheckToldPayment, defScope sCheckToldPayment, [], []⟩) rfl
  exact ⟨_, fd, F, He.glo_ok X G (c.fact 61 (f := .glo "check_told_payment") rfl)⟩
theorem at_other_of (X : K.In h) (G : h.Ns mainGlobals mg) (c : SaysK K) : At K mg "other_of" sOtherOf := by
  obtain ⟨fd, F⟩ := c.def_ 62 (d := ⟨fun K => He.ga K "other_of", "other_of", "other_of", defArgs sOtherOf, defBody sOtherOf, defScope sOtherOf, [], []⟩) rfl
  exact ⟨_, fd, F, He.glo_ok X G (c.fact 62 (f := .glo "other_of") rfl)⟩
theorem at_is_single (X : K.In h) (G : h.Ns mainGlobals mg) (c : SaysK K) : At K mg "is_single" sIsSingle := by
  obtain ⟨fd, F⟩ := c.def_ 63 (d := ⟨fun K => He.ga K "is_single", "is_single", "is_single", defArgs sIsSingle, defBody sIsSingle, defScope sIsSingle, [], []⟩) rfl
  exact ⟨_, fd, F, He.glo_ok X G (c.fact 63 (f := .glo "is_single") rfl)⟩
theorem at__law_pot (X : K.In h) (G : h.Ns mainGlobals mg) (c : SaysK K) : At K mg "_law_pot" sLawPot := by
  obtain ⟨fd, F⟩ := c.def_ 64 (d := ⟨fun K => He.ga K "_law_pot", "_law_pot", "_law_pot", defArgs sLawPot, defBody sLawPot, defScope sLawPot, [], []⟩) rfl
  exact ⟨_, fd, F, He.glo_ok X G (c.fact 64 (f := .glo "_law_pot") rfl)⟩
theorem at__law_draw (X : K.In h) (G : h.Ns mainGlobals mg) (c : SaysK K) : At K mg "_law_draw" sLawDraw := by
  obtain ⟨fd, F⟩ := c.def_ 65 (d := ⟨fun K => He.ga K "_law_draw", "_law_draw", "_law_draw", defArgs sLawDraw, defBody sLawDraw, defScope sLawDraw, [], []⟩) rfl
  exact ⟨_, fd, F, He.glo_ok X G (c.fact 65 (f := .glo "_law_draw") rfl)⟩
theorem at__law_drawn_lot (X : K.In h) (G : h.Ns mainGlobals mg) (c : SaysK K) : At K mg "_law_drawn_lot" sLawDrawnLot := by
  obtain ⟨fd, F⟩ := c.def_ 66 (d := ⟨fun K => He.ga K "_law_drawn_lot", "_law_drawn_lot", "_law_drawn_lot", defArgs sLawDrawnLot, defBody sLawDrawnLot, defScope sLawDrawnLot, [], []⟩) rfl
  exact ⟨_, fd, F, He.glo_ok X G (c.fact 66 (f := .glo "_law_drawn_lot") rfl)⟩
theorem at__law_shared (X : K.In h) (G : h.Ns mainGlobals mg) (c : SaysK K) : At K mg "_law_shared" sLawShared := by
  obtain ⟨fd, F⟩ := c.def_ 67 (d := ⟨fun K => He.ga K "_law_shared", "_law_shared", "_law_shared", defArgs sLawShared, defBody sLawShared, defScope sLawShared, [], []⟩) rfl
  exact ⟨_, fd, F, He.glo_ok X G (c.fact 67 (f := .glo "_law_shared") rfl)⟩
theorem at__law_period (X : K.In h) (G : h.Ns mainGlobals mg) (c : SaysK K) : At K mg "_law_period" sLawPeriod := by
  obtain ⟨fd, F⟩ := c.def_ 68 (d := ⟨fun K => He.ga K "_law_period", "_law_period", "_law_period", defArgs sLawPeriod, defBody sLawPeriod, defScope sLawPeriod, [], []⟩) rfl
  exact ⟨_, fd, F, He.glo_ok X G (c.fact 68 (f := .glo "_law_period") rfl)⟩
theorem at__law_gathered (X : K.In h) (G : h.Ns mainGlobals mg) (c : SaysK K) : At K mg "_law_gathered" sLawGathered := by
  obtain ⟨fd, F⟩ := c.def_ 69 (d := ⟨fun K => He.ga K "_law_gathered", "_law_gathered", "_law_gathered", defArgs sLawGathered, defBody sLawGathered, defScope sLawGathered, [], []⟩) rfl
  exact ⟨_, fd, F, He.glo_ok X G (c.fact 69 (f := .glo "_law_gathered") rfl)⟩
theorem at__law_counts_right (X : K.In h) (G : h.Ns mainGlobals mg) (c : SaysK K) : At K mg "_law_counts_right" sLawCountsRight := by
  obtain ⟨fd, F⟩ := c.def_ 70 (d := ⟨fun K => He.ga K "_law_counts_right", "_law_counts_right", "_law_counts_right", defArgs sLawCountsRight, defBody sLawCountsRight, defScope sLawCountsRight, [], []⟩) rfl
  exact ⟨_, fd, F, He.glo_ok X G (c.fact 70 (f := .glo "_law_counts_right") rfl)⟩
theorem at__law_places_right (X : K.In h) (G : h.Ns mainGlobals mg) (c : SaysK K) : At K mg "_law_places_right" sLawPlacesRight := by
  obtain ⟨fd, F⟩ := c.def_ 71 (d := ⟨fun K => He.ga K "_law_places_right", "_law_places_right", "_law_places_right", defArgs sLawPlacesRight, defBody sLawPlacesRight, defScope sLawPlacesRight, [], []⟩) rfl
  exact ⟨_, fd, F, He.glo_ok X G (c.fact 71 (f := .glo "_law_places_right") rfl)⟩
theorem at__law_lengths_right (X : K.In h) (G : h.Ns mainGlobals mg) (c : SaysK K) : At K mg "_law_lengths_right" sLawLengthsRight := by
  obtain ⟨fd, F⟩ := c.def_ 72 (d := ⟨fun K => He.ga K "_law_lengths_right", "_law_lengths_right", "_law_lengths_right", defArgs sLawLengthsRight, defBody sLawLengthsRight, defScope sLawLengthsRight, [], []⟩) rfl
  exact ⟨_, fd, F, He.glo_ok X G (c.fact 72 (f := .glo "_law_lengths_right") rfl)⟩
theorem at__law_right (X : K.In h) (G : h.Ns mainGlobals mg) (c : SaysK K) : At K mg "_law_right" sLawRight := by
  obtain ⟨fd, F⟩ := c.def_ 73 (d := ⟨fun K => He.ga K "_law_right", "_law_right", "_law_right", defArgs sLawRight, defBody sLawRight, defScope sLawRight, [], []⟩) rfl
  exact ⟨_, fd, F, He.glo_ok X G (c.fact 73 (f := .glo "_law_right") rfl)⟩
theorem at_law (X : K.In h) (G : h.Ns mainGlobals mg) (c : SaysK K) : At K mg "law" sLaw := by
  obtain ⟨fd, F⟩ := c.def_ 74 (d := ⟨fun K => He.ga K "law", "law", "law", defArgs sLaw, defBody sLaw, defScope sLaw, [], []⟩) rfl
  exact ⟨_, fd, F, He.glo_ok X G (c.fact 74 (f := .glo "law") rfl)⟩
theorem all_defs {f : Addr} {fd : FuncData} (X : K.In h) (G : h.Ns mainGlobals mg) (c : SaysK K) (F : FnP K "law" sLaw f fd) : FnOk P w K mg base CX0 10 f fd ["_law_script"] (spLaw K) := by
  have B := bl_of X G c
  have G' : LotG P w K mg base (He.ga K "Lot") := lotG_of X G c
  have AI := atI_of c
  have d_is_integer := ok_is_integer (P := P) (w := w) (base := base) B (at_is_integer X G c)
  have d_is_within_bounds := ok_is_within_bounds (P := P) (w := w) (base := base) B d_is_integer (at_is_within_bounds X G c)
  have d_check_within := ok_check_within (P := P) (w := w) (base := base) d_is_within_bounds (at_check_within X G c)
  have d_check_amount := ok_check_amount (P := P) (w := w) (base := base) B d_is_within_bounds (at_check_amount X G c)
  have d_check_small := ok_check_small (P := P) (w := w) (base := base) B d_is_within_bounds (at_check_small X G c)
  have d_common_divisor := ok_common_divisor (P := P) (w := w) (base := base) B (at_common_divisor X G c)
  have d_common_multiple := ok_common_multiple (P := P) (w := w) (base := base) d_common_divisor (at_common_multiple X G c)
  have d_first_wrong := ok_first_wrong (P := P) (w := w) (base := base) B d_is_within_bounds (at_first_wrong X G c)
  have d_check_lot := ok_check_lot (P := P) (w := w) (base := base) B G' (at_check_lot X G c)
  have d_least_table := ok_least_table (P := P) (w := w) (base := base) B d_common_divisor (at_least_table X G c)
  have d_is_paid_by := ok_is_paid_by (P := P) (w := w) (base := base) B d_least_table (at_is_paid_by X G c)
  have d_is_paid := ok_is_paid (P := P) (w := w) (base := base) G' d_check_lot d_check_amount d_is_paid_by (at_is_paid X G c)
  have d_sum_of := ok_sum_of (P := P) (w := w) (base := base) B (at_sum_of X G c)
  have d_first_wrong_often := ok_first_wrong_often (P := P) (w := w) (base := base) B d_is_integer (at_first_wrong_often X G c)
  have d_check_often := ok_check_often (P := P) (w := w) (base := base) B d_first_wrong_often (at_check_often X G c)
  have d_check_payment := ok_check_payment (P := P) (w := w) (base := base) B G' d_check_often (at_check_payment X G c)
  have d_with_coin := ok_with_coin (P := P) (w := w) (base := base) B (at_with_coin X G c)
  have d_count_table := ok_count_table (P := P) (w := w) (base := base) d_with_coin (at_count_table X G c)
  have d_tail_tables := ok_tail_tables (P := P) (w := w) (base := base) d_with_coin (at_tail_tables X G c)
  have d_listed_from := ok_listed (P := P) (w := w) (base := base) B (at_listed_from X G c) 4
  have d_payment_list := ok_payment_list (P := P) (w := w) (base := base) d_tail_tables d_listed_from (at_payment_list X G c)
  have d_payment_with := ok_payment_with (P := P) (w := w) (base := base) B d_tail_tables (at_payment_with X G c)
  have d_place_among := ok_place_among (P := P) (w := w) (base := base) B d_sum_of d_tail_tables (at_place_among X G c)
  have d_first_of := ok_first_of (P := P) (w := w) (base := base) B d_least_table (at_first_of X G c)
  have d_last_of := ok_last_of (P := P) (w := w) (base := base) B d_least_table (at_last_of X G c)
  have d_period_of := ok_period_of (P := P) (w := w) (base := base) B d_common_multiple (at_period_of X G c)
  have d_chosen := ok_chosen (P := P) (w := w) (base := base) B (at_chosen X G c)
  have d_short_counts := ok_short_counts (P := P) (w := w) (base := base) B (at_short_counts X G c)
  have d_great_count_of := ok_great_count_of (P := P) (w := w) (base := base) B d_period_of d_chosen d_short_counts (at_great_count_of X G c)
  have d_count_payments := ok_count_payments (P := P) (w := w) (base := base) G' d_check_lot d_check_small d_count_table (at_count_payments X G c)
  have d_payments := ok_payments (P := P) (w := w) (base := base) B G' d_count_payments d_payment_list (at_payments X G c)
  have d_nth_payment := ok_nth_payment (P := P) (w := w) (base := base) G' d_count_payments d_is_within_bounds d_payment_with (at_nth_payment X G c)
  have d_place_of := ok_place_of (P := P) (w := w) (base := base) B G' d_check_lot d_check_payment d_sum_of d_place_among (at_place_of X G c)
  have d_check_paid := ok_check_paid (P := P) (w := w) (base := base) G' d_check_lot d_check_amount d_is_paid_by (at_check_paid X G c)
  have d_first_payment := ok_first_payment (P := P) (w := w) (base := base) G' d_check_paid d_first_of (at_first_payment X G c)
  have d_last_payment := ok_last_payment (P := P) (w := w) (base := base) G' d_check_paid d_last_of (at_last_payment X G c)
  have d_great_count := ok_great_count (P := P) (w := w) (base := base) B G' d_check_lot d_check_amount d_period_of d_great_count_of (at_great_count X G c)
  have d_least_lengths := ok_least_lengths (P := P) (w := w) (base := base) B (at_least_lengths X G c)
  have d_most_lengths := ok_most_lengths (P := P) (w := w) (base := base) B (at_most_lengths X G c)
  have d_eased := ok_eased (P := P) (w := w) (base := base) B d_common_divisor (at_eased X G c)
  have d_least_costs := ok_least_costs (P := P) (w := w) (base := base) d_eased (at_least_costs X G c)
  have d_least_losses := ok_least_losses (P := P) (w := w) (base := base) d_least_costs (at_least_losses X G c)
  have d_least_gains := ok_least_gains (P := P) (w := w) (base := base) B d_least_costs (at_least_gains X G c)
  have d_least_bound := ok_least_bound (P := P) (w := w) (base := base) B (at_least_bound X G c)
  have d_most_bound := ok_most_bound (P := P) (w := w) (base := base) B (at_most_bound X G c)
  have d_least_length := ok_least_length (P := P) (w := w) (base := base) B d_is_paid_by d_least_bound d_least_lengths d_least_losses (at_least_length X G c)
  have d_most_length := ok_most_length (P := P) (w := w) (base := base) B d_is_paid_by d_most_bound d_most_lengths d_least_gains (at_most_length X G c)
  have d_least := ok_least (P := P) (w := w) (base := base) G' d_check_lot d_check_amount d_least_length (at_least X G c)
  have d_most := ok_most (P := P) (w := w) (base := base) G' d_check_lot d_check_amount d_most_length (at_most X G c)
  have d_losses := ok_losses (P := P) (w := w) (base := base) B G' d_check_lot d_least_losses (at_losses X G c)
  have d_gains := ok_gains (P := P) (w := w) (base := base) B G' d_check_lot d_least_gains (at_gains X G c)
  have d_lengths := ok_lengths (P := P) (w := w) (base := base) B G' d_check_lot d_check_small (at_lengths X G c)
  have d_text_of := ok_text_of (P := P) (w := w) (base := base) B (at_text_of X G c)
  have d_ways_tables := ok_ways_tables (P := P) (w := w) (base := base) B (at_ways_tables X G c)
  have d_certify_ways := ok_certify_ways (P := P) (w := w) (base := base) B G' d_check_lot d_check_small d_ways_tables d_text_of (at_certify_ways X G c)
  have d_most_often := ok_most_often (P := P) (w := w) (base := base) B d_common_divisor (at_most_often X G c)
  have d_bound_for := ok_bound_for (P := P) (w := w) (base := base) B d_most_often (at_bound_for X G c)
  have d_capped_table := ok_capped_table (P := P) (w := w) (base := base) B (at_capped_table X G c)
  have d_few_list := ok_few_list (P := P) (w := w) (base := base) B d_bound_for d_capped_table (at_few_list X G c)
  have d_check_two_coins := ok_check_two_coins (P := P) (w := w) (base := base) B G' (at_check_two_coins X G c)
  have d_few_sums := ok_few_sums (P := P) (w := w) (base := base) B G' d_check_lot d_check_within d_check_two_coins d_few_list (at_few_sums X G c)
  have d_check_told_payment := ok_check_told_payment (P := P) (w := w) (base := base) B G' d_check_lot d_check_payment d_sum_of (at_check_told_payment X G c)
  have d_other_of := ok_other_of (P := P) (w := w) (base := base) B d_sum_of d_first_of d_last_of (at_other_of X G c)
  have d_is_single := ok_is_single (P := P) (w := w) (base := base) G' d_check_told_payment d_other_of (at_is_single X G c)
  have d__law_pot := ok_law_pot (P := P) (w := w) (base := base) B (at__law_pot X G c)
  have d__law_draw := ok_law_draw (P := P) (w := w) (base := base) B (at__law_draw X G c)
  have d__law_drawn_lot := ok_law_drawn_lot (P := P) (w := w) (base := base) B d__law_draw (at__law_drawn_lot X G c)
  have d__law_shared := ok_law_shared (P := P) (w := w) (base := base) B (at__law_shared X G c)
  have d__law_period := ok_law_period (P := P) (w := w) (base := base) d__law_shared (at__law_period X G c)
  have d__law_gathered := ok_law_gathered (P := P) (w := w) (base := base) B (at__law_gathered X G c)
  have LI := ok_lot (P := P) (w := w) (base := base) B G' d_first_wrong AI
  have d__law_counts_right := ok_law_counts_right (P := P) (w := w) (base := base) B G' d_certify_ways d_count_payments d_payments d__law_period d_great_count d_is_paid d_few_sums (at__law_counts_right X G c)
  have d__law_places_right := ok_law_places_right (P := P) (w := w) (base := base) B G' d__law_draw d_nth_payment d_place_of d_first_payment d_last_payment d_is_single (at__law_places_right X G c)
  have d__law_lengths_right := ok_law_lengths_right (P := P) (w := w) (base := base) B G' d_lengths d_least d_most d_losses d_gains (at__law_lengths_right X G c)
  have d__law_right := ok_law_right (P := P) (w := w) (base := base) B G' LI d__law_drawn_lot d__law_draw d__law_gathered d__law_counts_right d__law_places_right d__law_lengths_right (at__law_right X G c)
  exact fn_law F B d__law_pot d__law_right
end
end Cn
open PySem PySem.W PySem.Calls PyProof.Rows
theorem PySem.Challenge.cw_mintlots_k92_whole_ways_of_counting_meet_holds : PySem.Challenge.rw_mintlots_k92_whole_ways_of_counting_meet.Holds := by
  w_on; o_law
  refine HandSHeadRun.head_any (r := OpenLaw.row PySem.Challenge.rw_mintlots_k92_whole_ways_of_counting_meet) (q := view (OpenLaw.row PySem.Challenge.rw_mintlots_k92_whole_ways_of_counting_meet).prog [108]) (H := Cn.hk) (ob := Cn.ob) (M := 6000) (loose := Cn.loose) (d := HandSHeadRun.topDef (OpenLaw.row PySem.Challenge.rw_mintlots_k92_whole_ways_of_counting_meet).prog 108) (kwd := []) Cn.ob_eq
    (by kernel_rfl) (fun s => by kernel_rfl) Cn.run (by kernel_rfl) (by kernel_rfl) (by kernel_rfl) (by rfl) (by first | assumption | decide +kernel) (by decide +kernel) ⟨rfl, rfl, rfl, rfl, rfl, by decide +kernel⟩ ?hw ?hc
  case hw => w_witness2
  case hc =>
    refine L2.walk_ofE (l := PySem.Challenge.rw_mintlots_k92_whole_ways_of_counting_meet) (n := 63) (k := 10) (x := "_law_script") (CX := L2.CX0) rfl (by decide) (by kernel_rfl) ⟨rfl, by decide, by decide⟩ ?F (fun _ _ _ _ z => z)
    intro w mg fa h Y G hmg0
    obtain ⟨K, KX, c⟩ := Y
    have hmg : mg ("law" : PySem.Str) = some (.ref fa) := by
      have e : (HandSHeadRun.topDef (OpenLaw.row PySem.Challenge.rw_mintlots_k92_whole_ways_of_counting_meet).prog 108).name = ("law" : PySem.Str) := by kernel_rfl
      rw [← e]
      exact hmg0
    obtain ⟨fd0, F0⟩ := c.def_ 74 (d := ⟨fun K => He.ga K "law", "law", "law", L2.defArgs Cn.sLaw, L2.defBody Cn.sLaw, L2.defScope Cn.sLaw, [], []⟩) rfl
    have e := hmg.symm.trans (He.glo_ok KX G (c.fact 74 (f := .glo "law") rfl))
    cases e
    have b := L2.FunD.bindsA (ps := ["_law_script"]) F0 fun _ _ _ _ _ _ us hl => match us, hl with | [_], _ => rfl
    refine ⟨K, fd0, Cn.spLaw K, KX, fun s v => b s [v] rfl, fun H a ns hl _ hS => ⟨a, ns, rfl, hS, Nat.le_trans hl (by decide), fun _ _ => rfl⟩, fun base _ _ => Cn.all_defs KX G c F0⟩
