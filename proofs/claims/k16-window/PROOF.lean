import PyProof.Rows.All
import Wide.All
import OpenK.AllK
import Wide.FinOn
import HandS.ForExc
import HandS.ForMost
import HandS.IsInst
import HandS.Rev
import HandS.Codes
import PySem.Challenge.RW_sketchbounds_k16_whole_boxes_few_and_nea
set_option Elab.async false
set_option linter.all false
set_option maxRecDepth 100000
set_option maxHeartbeats 4000000
namespace Sk
open PySem L2
def top (i : Nat) : Stmt := PySem.Challenge.pw_sketchbounds_k16_whole_boxes_few_and_nea.main.body.getD i (.Pass ⟨0, 0, 0, 0⟩)
abbrev sSettled : Stmt := top 4
abbrev sInit : Stmt := inClass (top 5) 0
abbrev sAdd : Stmt := inClass (top 5) 1
abbrev sIdle : Stmt := inClass (top 5) 2
abbrev sLast : Stmt := inClass (top 5) 3
abbrev sMost : Stmt := top 6
abbrev sWhole : Stmt := top 8
abbrev sCell : Stmt := top 9
abbrev sMix : Stmt := top 10
abbrev sReach : Stmt := top 11
abbrev sRoom : Stmt := top 12
abbrev sWeight : Stmt := top 13
abbrev sEvent : Stmt := top 14
abbrev sDo : Stmt := top 15
abbrev sBox : Stmt := top 16
abbrev sCov : Stmt := top 17
abbrev sNear : Stmt := top 18
abbrev sRight : Stmt := top 19
abbrev sLaw : Stmt := top 20
theorem scSettled : FnScope ["boxes", "room", "edge", "told", "newer", "hand", "box"] ["boxes", "room", "edge"] (defScope sSettled) := ⟨rfl, rfl, rfl, by decide +kernel, rfl, by decide +kernel, by decide +kernel⟩
theorem scInit : FnScope ["self", "room", "reach"] ["self", "room", "reach"] (defScope sInit) := ⟨rfl, rfl, rfl, by decide +kernel, rfl, by decide +kernel, by decide +kernel⟩
theorem scAdd : FnScope ["self", "weight", "boxes"] ["self", "weight"] (defScope sAdd) := ⟨rfl, rfl, rfl, by decide +kernel, rfl, by decide +kernel, by decide +kernel⟩
theorem scIdle : FnScope ["self", "many"] ["self", "many"] (defScope sIdle) := ⟨rfl, rfl, rfl, by decide +kernel, rfl, by decide +kernel, by decide +kernel⟩
theorem scLast : FnScope ["self", "many", "edge", "low", "cut", "first", "end", "part"] ["self", "many"] (defScope sLast) := ⟨rfl, rfl, rfl, by decide +kernel, rfl, by decide +kernel, by decide +kernel⟩
theorem scMost : FnScope ["room", "total", "pairs", "grown", "bound"] ["room", "total"] (defScope sMost) := ⟨rfl, rfl, rfl, by decide +kernel, rfl, by decide +kernel, by decide +kernel⟩
theorem scWhole : FnScope ["_law_found"] ["_law_found"] (defScope sWhole) := ⟨rfl, rfl, rfl, by decide +kernel, rfl, by decide +kernel, by decide +kernel⟩
theorem scCell : FnScope ["_law_script", "_law_k"] ["_law_script", "_law_k"] (defScope sCell) := ⟨rfl, rfl, rfl, by decide +kernel, rfl, by decide +kernel, by decide +kernel⟩
theorem scMix : FnScope ["_law_cell", "_law_factor", "_law_prime"] ["_law_cell", "_law_factor", "_law_prime"] (defScope sMix) := ⟨rfl, rfl, rfl, by decide +kernel, rfl, by decide +kernel, by decide +kernel⟩
theorem scReach : FnScope ["_law_cell"] ["_law_cell"] (defScope sReach) := ⟨rfl, rfl, rfl, by decide +kernel, rfl, by decide +kernel, by decide +kernel⟩
theorem scRoom : FnScope ["_law_cell"] ["_law_cell"] (defScope sRoom) := ⟨rfl, rfl, rfl, by decide +kernel, rfl, by decide +kernel, by decide +kernel⟩
theorem scWeight : FnScope ["_law_cell"] ["_law_cell"] (defScope sWeight) := ⟨rfl, rfl, rfl, by decide +kernel, rfl, by decide +kernel, by decide +kernel⟩
theorem scEvent : FnScope ["_law_cell", "_law_reach", "_law_mixed"] ["_law_cell", "_law_reach"] (defScope sEvent) := ⟨rfl, rfl, rfl, by decide +kernel, rfl, by decide +kernel, by decide +kernel⟩
theorem scDo : FnScope ["_law_window", "_law_event"] ["_law_window", "_law_event"] (defScope sDo) := ⟨rfl, rfl, rfl, by decide +kernel, rfl, by decide +kernel, by decide +kernel⟩
theorem scBox : FnScope ["_law_box_here", "_law_rows", "_law_some", "_law_row"] ["_law_box_here", "_law_rows"] (defScope sBox) := ⟨rfl, rfl, rfl, by decide +kernel, rfl, by decide +kernel, by decide +kernel⟩
theorem scCov : FnScope ["_law_boxes", "_law_rows", "_law_edge", "_law_at", "_law_place", "_law_weight"] ["_law_boxes", "_law_rows", "_law_edge"] (defScope sCov) := ⟨rfl, rfl, rfl, by decide +kernel, rfl, by decide +kernel, by decide +kernel⟩
theorem scNear : FnScope ["_law_boxes", "_law_room", "_law_newer", "_law_k", "_law_box_here", "_law_older"] ["_law_boxes", "_law_room"] (defScope sNear) := ⟨rfl, rfl, rfl, by decide +kernel, rfl, by decide +kernel, by decide +kernel⟩
theorem scRight : FnScope ["_law_window", "_law_rows", "_law_clock", "_law_reach", "_law_room", "_law_many", "_law_boxes", "_law_box_here", "_law_few", "_law_found"] ["_law_window", "_law_rows", "_law_clock", "_law_reach", "_law_room", "_law_many"] (defScope sRight) := ⟨rfl, rfl, rfl, by decide +kernel, rfl, by decide +kernel, by decide +kernel⟩
theorem scLaw : FnScope ["_law_script", "_law_reach", "_law_room", "_law_window", "_law_rows", "_law_clock", "_law_cell", "_law_event", "_law_many"] ["_law_script"] (defScope sLaw) := ⟨rfl, rfl, rfl, by decide +kernel, rfl, by decide +kernel, by decide +kernel⟩
end Sk

namespace Sk
open PySem L2
/-- the built-in names that the module has not taken -/
structure Blt (mg : Str → Option Value) : Prop where
  reversed : mg "reversed" = none
  list : mg "list" = none
  isinstance : mg "isinstance" = none
  int : mg "int" = none
  bool : mg "bool" = none
  len : mg "len" = none
  max : mg "max" = none
  sum : mg "sum" = none
  range : mg "range" = none
  tuple : mg "tuple" = none
  min : mg "min" = none
/-- the class Window -/
structure Txt (K : PySem.W.Frag) (mg : Str → Option Value) (C : Addr) : Prop where
  cl : Cls K C
  nRoom : NoAttr K C "room"
  nReach : NoAttr K C "reach"
  nClock : NoAttr K C "clock"
  nBoxes : NoAttr K C "boxes"
  mgC : mg "Window" = some (.ref C)
/-- a def of the module: its text, how it binds, where it stands -/
structure Df (K : PySem.W.Frag) (mg : Str → Option Value) (x : Str) (st : Stmt) (ps : List Str) (f : Addr) (fd : FuncData) : Prop where
  fn : Fun K x x st f fd
  bd : Binds K fd ps []
  gl : mg x = some (.ref f)
def spLaw (K : PySem.W.Frag) : Sp := fun vs H Q _ => ∃ (a : Addr) (ns : List Int), vs = [.ref a] ∧ SqL K H a (ns.map V.int) ∧ ns.length ≤ 63 ∧ ∀ H', Q (.bl true) H'
end Sk

/-! list(reversed(xs)), xs a list: a new list. (The layer has tuple(reversed(xs)) alone; the steps are those of the model's list.__init__ and its extend.) -/
namespace Sk
open PySem L2 PyProof.Rows
section
variable {pr : Program} {wd : World} {Ar : Around} {Ex : Value → Shared → Prop} {st : Shared} {ri src : Addr} {xs : Array Value}
/-- the iterator at ri stands before the last item of the list at src -/
structure RevSrc (h : Heap) (ri src : Addr) (xs : Array Value) : Prop where
  itr : h.IsRevIter ri src ((xs.size : Int) - 1)
  lst : h.IsList src xs
  apart : src ≠ ri
  fits : xs.size ≤ sizeLine
theorem RevSrc.move {h k : Heap} (r : RevSrc h ri src xs) (e : ∀ b o, (b = ri ∨ b = src) → h.get? b = some o → k.get? b = some o) : RevSrc k ri src xs :=
  ⟨r.itr.at fun o q => e ri o (.inl rfl) q, let ⟨o, q, z⟩ := r.lst; ⟨o, e src o (.inr rfl) q, z⟩, r.apart, r.fits⟩
theorem RevSrc.off {h : Heap} (r : RevSrc h ri src xs) {L n : Nat} (e : h.get? L = some { cls := .type "list", data := .seq #[] n }) : L ≠ ri := fun z => by
  obtain ⟨o, ho, _, hd⟩ := r.itr
  rw [← z, e] at ho
  cases ho
  cases hd
/-- L, empty so far, is made longer by all that the iterator yields -/
theorem ext_rev {Re : Result → Shared → Prop} (hand : Ar.handled = none) (r : RevSrc st.heap ri src xs) (L : Addr) (out : Value) (n : Nat) (e : st.heap.get? L = some { cls := .type "list", data := .seq #[] n }) (off : L ≠ src)
    (next : ∀ h tk ys m, (∀ b o, b ≠ L → b ≠ ri → st.heap.get? b = some o → h.get? b = some o) → h.get? L = some { cls := .type "list", dict := none, data := .seq ys m, slots := #[] } →
      ItemsOf (fun i v => xs[xs.size - 1 - i]? = some v) ys xs.size → Re (.ok (.ret out)) { st with heap := h, toks := tk }) :
    wpAny (model pr wd) Ar.in1 (Builtin.List.listExtendWith (.ref L) (.ref ri) out)
      (fun fin s1 => match fin with | .done f => Re (.ok f) s1 | .again c => c.quiet = true ∧ codeAny (model pr wd) Ar c Re s1) (fun x s1 => Re (.error x) s1) st := by
  have ty : st.TypeIs (.ref ri) "list_reverseiterator" := r.itr.typeIs
  have other : Builtin.List.listSameRef (.ref L) (.ref ri) = false := by simp [Builtin.List.listSameRef, r.off e]
  have out2 : L ∉ [ri, src] := fun z => (List.mem_cons.mp z).elim (r.off e) fun z => off (List.mem_singleton.mp z)
  have walk := (Walks.listRev (prog := pr) (w := wd) (A := Ar.in1) hand ri src r.apart xs).toS
  have from0 : ((xs.size : Nat) : Int) - 1 - ((0 : Nat) : Int) = ((xs.size : Nat) : Int) - 1 := by omega
  unfold Builtin.List.listExtendWith
  refine wpAny_bind (wpAny_typeOf ty ?_); rw [if_neg (by rw [other]; decide)]
  refine wpAny_bind (wpAny_pyIter_revIter r.itr (wpAny_bind (wpAny_holding ?_)))
  -- the length's hint: the type has one, but the model asks no room for it
  unfold Builtin.List.listLengthHint
  refine wpAny_bind (wpAny_specialOf ty RT.nolen_lri (show wpAny _ Ar.in1 (specialOf (Value.ref ri) (Str.ofString "__length_hint__") >>= _) _ _ _ from wpAny_bind (wpAny_specialOf ty RT.hint_lri ?_)))
  generalize nm : ("list_reverseiterator.__length_hint__" : String) = hint
  wp_delta
  rw [show splitId hint = some ("list_reverseiterator", "__length_hint__") by subst nm; decide +kernel]; subst nm
  refine wpAny_bind (wpAny_isInstance (b := true) ty (by rw [isSubtype_type]; kernel_rfl) (wpAny_pure ?_)); rw [if_neg (by decide)]
  refine wpAny_pure ⟨plainId_quiet F.plain_extend_loop _, codeAny_extend_loopS walk r.fits _ out2 _ xs.size 0 _ _ _ rfl (Nat.zero_le _) ⟨Nat.zero_le _, by rw [from0]; exact r.itr, r.lst⟩ e (ItemsOf.nil _) fun s1 ys m mv eL its => ?_⟩
  rw [Moved.eq_with mv]
  exact next s1.heap s1.toks ys m (fun b o n1 n2 q => mv.heap b o (fun z => (List.mem_cons.mp z).elim n1 fun z => n2 (List.mem_singleton.mp z)) q) eL its
/-- list(it) -/
theorem list_of_rev {Qv : Value → Shared → Prop} (hand : Ar.handled = none) (r : RevSrc st.heap ri src xs)
    (next : ∀ h tk ys m, (∀ b o, b ≠ ri → st.heap.get? b = some o → h.get? b = some o) → h.get? st.heap.objs.size = some { cls := .type "list", dict := none, data := .seq ys m, slots := #[] } →
      ItemsOf (fun i v => xs[xs.size - 1 - i]? = some v) ys xs.size → Qv (.ref st.heap.objs.size) { st with heap := h, toks := tk }) :
    wpAny (model pr wd) Ar (call (.type "list") [.ref ri]) Qv Ex st := by
  refine callType_codes (Q₁ := fun v s1 => v = .ref st.heap.objs.size ∧ s1 = { st with heap := st.heap.push { cls := .type "list", data := .seq #[] } }) F.called_list (F.typeCall_list_1 _) F.entry_list_init (code_list_new _ ⟨rfl, rfl⟩) fun v s1 ⟨e1, e2⟩ => ?_
  subst e1 e2
  generalize hL : st.heap.objs.size = L at *
  have lt : ∀ {b o}, st.heap.get? b = some o → b ≠ L := fun q => by rw [← hL]; exact Nat.ne_of_lt (Heap.lt_size q)
  have eL : (st.heap.push { cls := .type "list", data := .seq #[] }).get? L = some { cls := .type "list", data := .seq #[] } := by rw [← hL]; exact Heap.get?_push_size _ rfl
  have r1 : RevSrc (st.heap.push { cls := .type "list", data := .seq #[] }) ri src xs := r.move fun b o _ q => Heap.get?_push_of_some _ q
  have nsrc : L ≠ src := let ⟨_, q, _⟩ := r.lst; (lt q).symm
  refine ⟨⟨_, eL, rfl⟩, F.args_list_init_2 _ _, ?_⟩
  -- list.__init__: the old items go (there are none), then the new ones come
  show wpAny _ Ar.in1.in1 (do let was ← Builtin.List.listItems (.ref L); Builtin.List.listUpdate (.ref L) (fun _ => #[]); letGo was.toList.reverse; Builtin.List.listExtendWith (.ref L) (.ref ri) .none) _ _ _
  unfold Builtin.List.listItems
  refine wpAny_bind (wpAny_bind (wpAny_seqItems eL rfl (wpAny_pure ?_)))
  show wpAny _ _ (updateSeq L (fun _ => #[]) >>= fun _ => letGo [] >>= fun _ => Builtin.List.listExtendWith (.ref L) (.ref ri) .none) _ _ _
  refine wpAny_bind (wpAny_updateSeq eL rfl (wpAny_bind (wpAny_letGo ?_)))
  have stay : ∀ b o, b ≠ L → (st.heap.push { cls := .type "list", data := .seq #[] }).get? b = some o → ((st.heap.push { cls := .type "list", data := .seq #[] }).update L (Obj.mapSeq fun _ => #[])).get? b = some o := fun b o n q =>
    Eq.trans (Heap.get?_update_other _ _ n.symm) q
  refine ext_rev (Ar := Ar.in1) hand (r1.move fun b o z q => stay b o (z.elim (fun z => by rw [z]; exact (r1.off eL).symm) fun z => by rw [z]; exact nsrc.symm) q) L .none _ (Heap.get?_update_self (Obj.mapSeq fun _ => #[]) eL rfl) nsrc fun h tk ys m k1 k2 k3 => ?_
  exact ⟨rfl, next h tk ys m (fun b o n q => k1 b o (lt q) n (stay b o (lt q) (Heap.get?_push_of_some _ q))) k2 k3⟩
end
/-- list(reversed(x)), x a list: a new list -/
def tLstRev (K : PySem.W.Frag) (tx : TE) : TE := fun σ H Q => tx σ H fun v H1 => ∃ (a : Addr) (vs : List V), v = .ref a ∧ SqL K H1 a vs ∧ ∀ q, H1 q = none → Q (.ref q) (upd H1 q (.lst vs.reverse))
theorem pe_lstRev {X : Cx} {x : Expr} {tx : TE} {c1 c2 c3 c4 : Pos} (hc : X.calm = true) (gl : Gl X "list") (ml : X.mg "list" = none) (gr : Gl X "reversed") (mr : X.mg "reversed" = none) (hx : PE X x tx)
    (one : starEach [x] X.env = (false, eval x X.env) :: starEach [] X.env := by rfl)
    (two : starEach [.Call (.Name "reversed" c3) [x] [] c4] X.env = (false, eval (.Call (.Name "reversed" c3) [x] [] c4) X.env) :: starEach [] X.env := by rfl) :
    PE X (.Call (.Name "list" c1) [.Call (.Name "reversed" c3) [x] [] c4] [] c2) (tLstRev X.K tx) := by
  refine ⟨fun pins s0 σ H Q I h => Call_ (ld_blt I gl ml boot_list (PyProof.Rows.callWith_type1 (args_cons (Call_ (ld_blt I gr mr PyProof.Rows.boot_reversed (PyProof.Rows.callWith_type1 (args_cons
    (thn (hx.run pins s0 σ H _ I h) fun u s1 ⟨v, H1, J, rv, a, vs, ev, hq, q⟩ => args_nil ?_) one) one rfl))) two) two rfl))⟩
  subst ev
  cases rv
  obtain ⟨its, ri, pl, hz⟩ := J.list hq
  refine call_reversed_list pl.isList (args_nil ?_)
  -- s1 with the iterator laid
  generalize hob : revObj a ((its.toArray.size : Int) - 1) = ob
  have J2 : Inv X pins σ H1 { s1 with heap := s1.heap.push ob } := J.kept (t' := s1.toks) fun b o e => Heap.get?_push_of_some _ e
  have own := J.fpOk (H' := H1) (b := s1.heap.objs.size) (Nat.le_refl _) (J.hok.fresh (Nat.le_refl _))
  have src : RevSrc (s1.heap.push ob) s1.heap.objs.size a its.toArray :=
    ⟨⟨ob, Heap.get?_push_size _ (by rw [← hob]; rfl), by rw [← hob]; rfl, by rw [← hob]; rfl⟩, pl.isList.push _, let ⟨_, q, _⟩ := pl.isList; Nat.ne_of_lt (Heap.lt_size q), by rw [List.size_toArray, ← ri.length]; exact hz⟩
  refine list_of_rev (st := { s1 with heap := s1.heap.push ob }) (J.ok.hd hc) src fun h' tk ys m kept eL got => ?_
  have none2 : H1 (s1.heap.push ob).objs.size = none := J2.hok.fresh (Nat.le_refl _)
  have new : ObjOk X.prog X.w (upd H1 (s1.heap.push ob).objs.size (.lst vs.reverse)) h' (s1.heap.push ob).objs.size (.lst vs.reverse) := ⟨by rw [List.length_reverse]; exact hz, ys.toList, m, RT.vals_rev ri got, by rw [Array.toArray_toList]; exact eL⟩
  refine ⟨.ref _, _, J2.turnedNew (t' := tk) (ch := [s1.heap.objs.size]) (fun b o n e => kept b o (fun z => n (by simp [z])) e) (fun b hb => ?_) (Nat.le_refl _) new, rfl, q _ none2⟩
  rw [List.mem_singleton.mp hb]
  exact own
end Sk

namespace Sk

/-- a box: first place, last place, sum -/
structure Bx where
  f : Int
  l : Int
  s : Int
/-- a row that weighs something: place, weight -/
abbrev Row := Int × Int

def sumS : List Bx → Int
  | [] => 0
  | b :: r => b.s + sumS r
def sumW : List Row → Int
  | [] => 0
  | b :: r => b.2 + sumW r
theorem sumW_app : ∀ (a b : List Row), sumW (a ++ b) = sumW a + sumW b
  | [], b => by simp [sumW]
  | x :: a, b => by simp [sumW, sumW_app a b]; omega
theorem sumS_app : ∀ (a b : List Bx), sumS (a ++ b) = sumS a + sumS b
  | [], b => by simp [sumS]
  | x :: a, b => by simp [sumS, sumS_app a b]; omega
theorem sumW_rev (a : List Row) : sumW a.reverse = sumW a := by
  induction a with
  | nil => rfl
  | cons x r ih => rw [List.reverse_cons, sumW_app, ih]; simp [sumW]; omega
theorem sumS_rev (a : List Bx) : sumS a.reverse = sumS a := by
  induction a with
  | nil => rfl
  | cons x r ih => rw [List.reverse_cons, sumS_app, ih]; simp [sumS]; omega

/-- what settling does, from the newest on: the sum of what is told, the box at hand, the older ones -/
def stl (room edge : Int) : Int → Option Bx → List Bx → List Bx
  | _, none, [] => []
  | _, some h, [] => [h]
  | n, none, b :: bs => if b.l ≤ edge then [] else stl room edge n (some b) bs
  | n, some h, b :: bs =>
    if b.l ≤ edge then [h]
    else if (h.s + b.s) * room ≤ n then stl room edge n (some ⟨b.f, h.l, b.s + h.s⟩) bs
    else h :: stl room edge (n + h.s) (some b) bs
def settle (room edge : Int) (boxes : List Bx) : List Bx := (stl room edge 0 none boxes.reverse).reverse

/-- a box of a group of rows, the newest first -/
structure BoxOf (b : Bx) (g : List Row) : Prop where
  hd : ∃ w r, g = (b.l, w) :: r
  la : ∃ w r, g = r ++ [(b.f, w)]
  su : b.s = sumW g
theorem BoxOf.join {b c : Bx} {g h : List Row} (x : BoxOf b g) (y : BoxOf c h) : BoxOf ⟨c.f, b.l, c.s + b.s⟩ (g ++ h) := by
  obtain ⟨⟨w, r, e⟩, _, s1⟩ := x
  obtain ⟨_, ⟨w', r', e'⟩, s2⟩ := y
  refine ⟨⟨w, r ++ h, by rw [e]; rfl⟩, ⟨w', g ++ r', by rw [e', List.append_assoc]⟩, ?_⟩
  rw [sumW_app, ← s1, ← s2]
  exact Int.add_comm _ _

/-- boxes (the newest first) of rows (the newest first), and the rows that are left -/
inductive Chop : List Bx → List Row → List Row → Prop where
  | nil (rest : List Row) : Chop [] rest rest
  | cons {b : Bx} {bs : List Bx} {g rr rest : List Row} (x : BoxOf b g) (t : Chop bs rr rest) : Chop (b :: bs) (g ++ rr) rest

/-- rows, the newest first -/
structure Rows (rr : List Row) : Prop where
  dec : rr.Pairwise fun a b => b.1 < a.1
  pos : ∀ r ∈ rr, 1 ≤ r.2
theorem Rows.right {a b : List Row} (h : Rows (a ++ b)) : Rows b :=
  ⟨(List.pairwise_append.mp h.dec).2.1, fun r hr => h.pos r (List.mem_append_right _ hr)⟩
theorem Rows.left {a b : List Row} (h : Rows (a ++ b)) : Rows a :=
  ⟨(List.pairwise_append.mp h.dec).1, fun r hr => h.pos r (List.mem_append_left _ hr)⟩
theorem Rows.sum_nn : ∀ {rr : List Row}, Rows rr → 0 ≤ sumW rr
  | [], _ => Int.le_refl _
  | r :: rr, h => by
    have := Rows.sum_nn (rr := rr) (Rows.right (a := [r]) h)
    have h1 := h.pos r List.mem_cons_self
    show 0 ≤ r.2 + sumW rr
    omega
theorem BoxOf.pos {b : Bx} {g : List Row} (x : BoxOf b g) (h : Rows g) : 1 ≤ b.s := by
  obtain ⟨⟨w, r, e⟩, _, s⟩ := x
  subst e
  have h1 := h.pos _ List.mem_cons_self
  have h2 := Rows.sum_nn (rr := r) (Rows.right (a := [(b.l, w)]) h)
  rw [s]
  show 1 ≤ w + sumW r
  have h3 : 1 ≤ w := h1
  omega
theorem BoxOf.mem {b : Bx} {g : List Row} (x : BoxOf b g) (h : Rows g) : ∀ r ∈ g, b.f ≤ r.1 ∧ r.1 ≤ b.l := by
  intro r hr
  obtain ⟨⟨w, t, e⟩, ⟨w', t', e'⟩, _⟩ := x
  constructor
  · have hd := h.dec
    rw [e'] at hd hr
    rcases List.mem_append.mp hr with hr | hr
    · have := (List.pairwise_append.mp hd).2.2 r hr _ (List.mem_singleton.mpr rfl)
      have : b.f < r.1 := this
      omega
    · rw [List.mem_singleton.mp hr]; exact Int.le_refl _
  · have hd := h.dec
    rw [e] at hd hr
    rcases List.mem_cons.mp hr with hr | hr
    · rw [hr]; exact Int.le_refl _
    · have := (List.pairwise_cons.mp hd).1 r hr
      have : r.1 < b.l := this
      omega
theorem BoxOf.le {b : Bx} {g : List Row} (x : BoxOf b g) (h : Rows g) : b.f ≤ b.l := by
  obtain ⟨⟨w, t, e⟩, _, _⟩ := id x
  have := x.mem h (b.l, w) (by rw [e]; exact List.mem_cons_self)
  exact this.1

/-- boxes of more than one place weigh little beside all newer ones -/
def Sgl (room : Int) : Int → List Bx → Prop
  | _, [] => True
  | n, b :: bs => (b.f ≠ b.l → b.s * room ≤ n) ∧ Sgl room (n + b.s) bs
/-- two neighbours weigh much beside all newer ones -/
def Prs (room : Int) : Int → List Bx → Prop
  | _, [] => True
  | _, [_] => True
  | n, b :: c :: bs => n < (b.s + c.s) * room ∧ Prs room (n + b.s) (c :: bs)

theorem Sgl.mono {room : Int} : ∀ {n m : Int} {bs : List Bx}, n ≤ m → Sgl room n bs → Sgl room m bs
  | _, _, [], _, _ => trivial
  | n, m, b :: bs, h, ⟨h1, h2⟩ => ⟨fun z => Int.le_trans (h1 z) h, Sgl.mono (by omega) h2⟩

structure Good (room edge n : Int) (bs : List Bx) (rr rest : List Row) : Prop where
  chop : Chop bs rr rest
  old : ∀ r ∈ rest, r.1 ≤ edge
  fresh : ∀ b ∈ bs, edge < b.l
  sgl : Sgl room n bs
  prs : Prs room n bs

theorem chop_left {b : Bx} {bs : List Bx} {rr rest : List Row} (h : Chop (b :: bs) rr rest) (R : Rows rr) : ∀ r ∈ rr, r.1 ≤ b.l := by
  cases h with
  | cons x t =>
    rename_i g rr'
    intro r hr
    obtain ⟨⟨w, q, e⟩, _, _⟩ := id x
    have hd := R.dec
    rw [e] at hd hr
    rw [List.cons_append] at hd hr
    rcases List.mem_cons.mp hr with hr | hr
    · rw [hr]; exact Int.le_refl _
    · have := (List.pairwise_cons.mp hd).1 r hr
      have : r.1 < b.l := this
      omega

theorem stl_good {room edge : Int} (hr : 0 ≤ room) : ∀ (bs : List Bx) (n : Int) (h : Bx) (rr rest : List Row), Chop (h :: bs) rr rest → Rows rr → (∀ r ∈ rest, r.1 ≤ edge) → edge < h.l → Sgl room n (h :: bs) →
    ∃ rest' o t, stl room edge n (some h) bs = o :: t ∧ h.s ≤ o.s ∧ Good room edge n (o :: t) rr rest'
  | [], n, h, rr, rest, C, R, O, F, S => by
    refine ⟨rest, h, [], rfl, Int.le_refl _, C, O, fun b hb => ?_, S, trivial⟩
    rw [List.mem_singleton.mp hb]; exact F
  | b :: bs, n, h, rr, rest, C, R, O, F, S => by
    unfold stl
    by_cases h1 : b.l ≤ edge
    · rw [if_pos h1]
      cases C with
      | cons x t =>
        rename_i g rr'
        refine ⟨rr', h, [], rfl, Int.le_refl _, .cons x (.nil _), fun r hr' => ?_, fun b hb => ?_, ⟨S.1, trivial⟩, trivial⟩
        · have := chop_left t R.right r hr'
          omega
        · rw [List.mem_singleton.mp hb]; exact F
    · rw [if_neg h1]
      by_cases h2 : (h.s + b.s) * room ≤ n
      · rw [if_pos h2]
        cases C with
        | cons x t =>
          rename_i g rr'
          cases t with
          | cons y t' =>
            rename_i g' rr''
            have bp := y.pos R.right.left
            have C' : Chop (⟨b.f, h.l, b.s + h.s⟩ :: bs) (g ++ (g' ++ rr'')) rest := by
              rw [← List.append_assoc]
              exact .cons (x.join y) t'
            have S' : Sgl room n (⟨b.f, h.l, b.s + h.s⟩ :: bs) := by
              refine ⟨fun _ => ?_, ?_⟩
              · show (b.s + h.s) * room ≤ n
                rw [Int.add_comm]; exact h2
              · have := S.2.2
                have e : n + h.s + b.s = n + (b.s + h.s) := by omega
                rw [e] at this
                exact this
            obtain ⟨rest', o, t, e, le, G⟩ := stl_good hr bs n ⟨b.f, h.l, b.s + h.s⟩ _ rest C' R O F S'
            refine ⟨rest', o, t, e, ?_, G⟩
            have le : b.s + h.s ≤ o.s := le
            omega
      · rw [if_neg h2]
        cases C with
        | cons x t =>
          rename_i g rr'
          obtain ⟨rest', o, u, e, le, G⟩ := stl_good hr bs (n + h.s) b rr' rest t R.right O (by omega) S.2
          rw [e]
          refine ⟨rest', h, o :: u, rfl, Int.le_refl _, .cons x G.chop, G.old, fun c hc => ?_, ⟨S.1, G.sgl⟩, ⟨?_, G.prs⟩⟩
          · rcases List.mem_cons.mp hc with hc | hc
            · rw [hc]; exact F
            · exact G.fresh c hc
          · have := Int.mul_le_mul_of_nonneg_right (show h.s + b.s ≤ h.s + o.s by omega) hr
            omega
theorem stl_none {room edge : Int} (hr : 0 ≤ room) {bs : List Bx} {rr rest : List Row} (C : Chop bs rr rest) (R : Rows rr) (O : ∀ r ∈ rest, r.1 ≤ edge) (S : Sgl room 0 bs) :
    ∃ rest', Good room edge 0 (stl room edge 0 none bs) rr rest' := by
  cases bs with
  | nil => exact ⟨rest, C, O, fun _ h => (nomatch h), trivial, trivial⟩
  | cons b bs =>
    unfold stl
    by_cases h1 : b.l ≤ edge
    · rw [if_pos h1]
      refine ⟨rr, .nil _, fun r hr' => ?_, fun _ h => (nomatch h), trivial, trivial⟩
      have := chop_left C R r hr'
      omega
    · rw [if_neg h1]
      obtain ⟨rest', o, t, e, _, G⟩ := stl_good hr bs 0 b rr rest C R O (by omega) S
      exact ⟨rest', by rw [e]; exact G⟩

/-- a window behind its rows (the oldest first): the invariant -/
structure Win (room reach clock : Int) (boxes : List Bx) (rows : List Row) : Prop where
  ord : Rows rows.reverse
  upto : ∀ r ∈ rows, 1 ≤ r.1 ∧ r.1 ≤ clock
  good : ∃ rest, Good room (clock - reach) 0 boxes.reverse rows.reverse rest

theorem Win.start (room reach : Int) : Win room reach 0 [] [] :=
  ⟨⟨List.Pairwise.nil, fun _ h => (nomatch h)⟩, fun _ h => (nomatch h), [], .nil _, fun _ h => (nomatch h), fun _ h => (nomatch h), trivial, trivial⟩
theorem Win.add {room reach clock w : Int} {boxes : List Bx} {rows : List Row} (W : Win room reach clock boxes rows) (hr : 0 ≤ room) (hc : 0 ≤ clock) (hw : 1 ≤ w) :
    Win room reach (clock + 1) (settle room (clock + 1 - reach) (boxes ++ [⟨clock + 1, clock + 1, w⟩])) (rows ++ [(clock + 1, w)]) := by
  obtain ⟨⟨dec, pos⟩, upto, rest, G⟩ := W
  have er : (rows ++ [(clock + 1, w)]).reverse = [(clock + 1, w)] ++ rows.reverse := by rw [List.reverse_append]; rfl
  have R : Rows (rows ++ [(clock + 1, w)]).reverse := by
    rw [er]
    refine ⟨List.pairwise_cons.mpr ⟨fun r h => ?_, dec⟩, fun r h => ?_⟩
    · have := upto r (List.mem_reverse.mp h)
      show r.1 < clock + 1
      omega
    · rcases List.mem_cons.mp h with h | h
      · rw [h]; exact hw
      · exact pos r h
  refine ⟨R, fun r h => ?_, ?_⟩
  · rcases List.mem_append.mp h with h | h
    · have := upto r h
      omega
    · rw [List.mem_singleton.mp h]
      exact ⟨by show 1 ≤ clock + 1; omega, Int.le_refl _⟩
  · unfold settle
    rw [List.reverse_reverse]
    refine stl_none hr (rest := rest) ?_ R (fun r h => ?_) ?_
    · rw [er, List.reverse_append]
      refine .cons (b := ⟨clock + 1, clock + 1, w⟩) (g := [(clock + 1, w)]) ⟨⟨w, [], rfl⟩, ⟨w, [], rfl⟩, ?_⟩ G.chop
      show w = w + 0
      omega
    · have := G.old r h
      omega
    · rw [List.reverse_append]
      refine ⟨fun z => absurd rfl z, Sgl.mono ?_ G.sgl⟩
      show 0 ≤ 0 + w
      omega
theorem Win.idle {room reach clock m : Int} {boxes : List Bx} {rows : List Row} (W : Win room reach clock boxes rows) (hr : 0 ≤ room) (hm : 0 ≤ m) :
    Win room reach (clock + m) (settle room (clock + m - reach) boxes) rows := by
  obtain ⟨R, upto, rest, G⟩ := W
  refine ⟨R, fun r h => ?_, ?_⟩
  · have := upto r h
    omega
  · unfold settle
    rw [List.reverse_reverse]
    refine stl_none hr (rest := rest) G.chop R (fun r h => ?_) G.sgl
    have := G.old r h
    omega

end Sk

namespace Sk
/-! what a window's invariant gives -/
theorem BoxOf.ne {b : Bx} {g : List Row} (x : BoxOf b g) : g ≠ [] := by
  obtain ⟨⟨w, r, e⟩, _, _⟩ := x
  rw [e]
  exact fun z => nomatch z
theorem chop_len : ∀ {bs : List Bx} {rr rest : List Row}, Chop bs rr rest → bs.length ≤ rr.length
  | _, _, _, .nil _ => Nat.zero_le _
  | _, _, _, .cons (g := g) x t => by
    have ih := chop_len t
    have h : 0 < g.length := List.length_pos_iff.mpr x.ne
    rw [List.length_cons, List.length_append]
    omega
/-- a box's group among the rows (the newest first) -/
theorem chop_mem : ∀ {bs : List Bx} {rr rest : List Row} {b : Bx}, Chop bs rr rest → b ∈ bs → ∃ pre g post, rr = pre ++ (g ++ post) ∧ BoxOf b g
  | _, _, _, _, .nil _, h => nomatch h
  | _, _, _, b, .cons (g := g) (rr := rr) x t, h => by
    rcases List.mem_cons.mp h with e | h
    · subst e
      exact ⟨[], g, rr, rfl, x⟩
    · obtain ⟨pre, g', post, e, y⟩ := chop_mem t h
      exact ⟨g ++ pre, g', post, by rw [e, List.append_assoc], y⟩
/-- a row lies in a box, or is left -/
theorem chop_cov : ∀ {bs : List Bx} {rr rest : List Row}, Chop bs rr rest → Rows rr → ∀ r ∈ rr, r ∈ rest ∨ ∃ b ∈ bs, b.f ≤ r.1 ∧ r.1 ≤ b.l
  | _, _, _, .nil _, _, r, h => .inl h
  | _, _, _, .cons (b := b) x t, R, r, h => by
    rcases List.mem_append.mp h with h | h
    · exact .inr ⟨b, List.mem_cons_self, x.mem R.left r h⟩
    · rcases chop_cov t R.right r h with q | ⟨c, hc, q⟩
      · exact .inl q
      · exact .inr ⟨c, List.mem_cons_of_mem _ hc, q⟩
theorem chop_dec : ∀ {bs : List Bx} {rr rest : List Row}, Chop bs rr rest → Rows rr → bs.Pairwise (fun a b => b.l < a.f) ∧ ∀ b ∈ bs, b.f ≤ b.l ∧ 1 ≤ b.s
  | _, _, _, .nil _, _ => ⟨.nil, fun _ h => nomatch h⟩
  | _, _, _, .cons (b := b) (bs := bs) (g := g) (rr := rr) x t, R => by
    obtain ⟨ih, ih2⟩ := chop_dec t R.right
    refine ⟨List.pairwise_cons.mpr ⟨fun c hc => ?_, ih⟩, fun c hc => ?_⟩
    · obtain ⟨pre, g', post, e, y⟩ := chop_mem t hc
      obtain ⟨⟨w, q, eh⟩, _, _⟩ := id y
      obtain ⟨_, ⟨w', q', el⟩, _⟩ := id x
      have h1 : (c.l, w) ∈ rr := by
        rw [e, eh]
        exact List.mem_append_right _ (List.mem_append_left _ List.mem_cons_self)
      have h2 : (b.f, w') ∈ g := by
        rw [el]
        exact List.mem_append_right _ (List.mem_singleton.mpr rfl)
      exact (List.pairwise_append.mp R.dec).2.2 _ h2 _ h1
    · rcases List.mem_cons.mp hc with z | hc
      · rw [z]; exact ⟨x.le R.left, x.pos R.left⟩
      · exact ih2 c hc

/-- what a box is asked to be -/
structure BoxIn (b : Bx) (rows : List Row) : Prop where
  ex : ∃ pre g post, rows = pre ++ (g ++ post) ∧ (∀ r ∈ pre, r.1 < b.f) ∧ (∀ r ∈ post, b.l < r.1) ∧ (∀ r ∈ g, b.f ≤ r.1 ∧ r.1 ≤ b.l) ∧ (∃ w t, g = (b.f, w) :: t) ∧ (∃ w t, g = t ++ [(b.l, w)]) ∧ b.s = sumW g
theorem Win.box {room reach clock : Int} {bs : List Bx} {rows : List Row} (W : Win room reach clock bs rows) {b : Bx} (hb : b ∈ bs) : clock - reach < b.l ∧ BoxIn b rows := by
  obtain ⟨R, _, rest, G⟩ := W
  have hb' : b ∈ bs.reverse := List.mem_reverse.mpr hb
  refine ⟨G.fresh b hb', ?_⟩
  obtain ⟨pre, g, post, e, x⟩ := chop_mem G.chop hb'
  have er : rows = post.reverse ++ (g.reverse ++ pre.reverse) := by
    have := congrArg List.reverse e
    rw [List.reverse_reverse] at this
    rw [this, List.reverse_append, List.reverse_append, List.append_assoc]
  have R' := R
  rw [e] at R'
  have hd := R'.dec
  obtain ⟨⟨w, q, eh⟩, ⟨w', q', el⟩, su⟩ := id x
  have hf : (b.f, w') ∈ g := by
    rw [el]
    exact List.mem_append_right _ (List.mem_singleton.mpr rfl)
  have hl : (b.l, w) ∈ g := by
    rw [eh]
    exact List.mem_cons_self
  refine ⟨post.reverse, g.reverse, pre.reverse, er, fun r hr => ?_, fun r hr => ?_, fun r hr => ?_, ⟨w', q'.reverse, by rw [el, List.reverse_append]; rfl⟩, ⟨w, q.reverse, by rw [eh, List.reverse_cons]⟩, by rw [sumW_rev]; exact su⟩
  · have h1 := (List.pairwise_append.mp (List.pairwise_append.mp hd).2.1).2.2 _ hf _ (List.mem_reverse.mp hr)
    exact h1
  · have h1 := (List.pairwise_append.mp hd).2.2 _ (List.mem_reverse.mp hr) _ (List.mem_append_left _ hl)
    exact h1
  · exact x.mem R'.right.left r (List.mem_reverse.mp hr)
/-- the rows of a box, picked by their places -/
def inb (b : Bx) (r : Row) : Bool := decide (b.f ≤ r.1) && decide (r.1 ≤ b.l)
theorem pick {b : Bx} {pre g post : List Row} (h1 : ∀ r ∈ pre, r.1 < b.f) (h2 : ∀ r ∈ post, b.l < r.1) (h3 : ∀ r ∈ g, b.f ≤ r.1 ∧ r.1 ≤ b.l) : (pre ++ (g ++ post)).filter (inb b) = g := by
  have e1 : pre.filter (inb b) = [] := List.filter_eq_nil_iff.mpr fun r hr => by
    have := h1 r hr
    have z : decide (b.f ≤ r.1) = false := decide_eq_false (by omega)
    show ¬ (decide (b.f ≤ r.1) && _) = true
    rw [z]
    exact Bool.false_ne_true
  have e2 : post.filter (inb b) = [] := List.filter_eq_nil_iff.mpr fun r hr => by
    have := h2 r hr
    have z : decide (r.1 ≤ b.l) = false := decide_eq_false (by omega)
    show ¬ (_ && decide (r.1 ≤ b.l)) = true
    rw [z, Bool.and_false]
    exact Bool.false_ne_true
  have e3 : g.filter (inb b) = g := List.filter_eq_self.mpr fun r hr => by
    have := h3 r hr
    show (decide (b.f ≤ r.1) && decide (r.1 ≤ b.l)) = true
    rw [decide_eq_true this.1, decide_eq_true this.2]
    rfl
  rw [List.filter_append, List.filter_append, e1, e2, e3, List.append_nil, List.nil_append]
theorem Win.rising {room reach clock : Int} {bs : List Bx} {rows : List Row} (W : Win room reach clock bs rows) : rows.Pairwise fun a b => a.1 < b.1 := by
  have := W.ord.dec
  rw [List.pairwise_reverse] at this
  exact this
theorem Win.cov {room reach clock : Int} {bs : List Bx} {rows : List Row} (W : Win room reach clock bs rows) : ∀ r ∈ rows, clock - reach < r.1 → ∃ (j : Nat) (b : Bx), bs[j]? = some b ∧ b.f ≤ r.1 ∧ r.1 ≤ b.l := by
  intro r hr he
  obtain ⟨R, _, rest, G⟩ := W
  rcases chop_cov G.chop R r (List.mem_reverse.mpr hr) with h | ⟨b, hb, h⟩
  · have := G.old r h
    omega
  · obtain ⟨j, hj⟩ := List.getElem?_of_mem (List.mem_reverse.mp hb)
    exact ⟨j, b, hj, h⟩
theorem Win.up {room reach clock : Int} {bs : List Bx} {rows : List Row} (W : Win room reach clock bs rows) : bs.Pairwise (fun a b => a.l < b.f) ∧ ∀ b ∈ bs, b.f ≤ b.l ∧ 1 ≤ b.s := by
  obtain ⟨R, _, rest, G⟩ := W
  obtain ⟨h1, h2⟩ := chop_dec G.chop R
  rw [List.pairwise_reverse] at h1
  exact ⟨h1, fun b hb => h2 b (List.mem_reverse.mpr hb)⟩
theorem Win.len {room reach clock : Int} {bs : List Bx} {rows : List Row} (W : Win room reach clock bs rows) : bs.length ≤ rows.length := by
  obtain ⟨R, _, rest, G⟩ := W
  have := chop_len G.chop
  rw [List.length_reverse, List.length_reverse] at this
  exact this
theorem Win.near {room reach clock : Int} {bs : List Bx} {rows : List Row} (W : Win room reach clock bs rows) : Sgl room 0 bs.reverse ∧ Prs room 0 bs.reverse := by
  obtain ⟨_, _, rest, G⟩ := W
  exact ⟨G.sgl, G.prs⟩
/-- by places -/
theorem Sgl.at {room : Int} : ∀ {n : Int} {bs : List Bx} {k : Nat} {b : Bx}, Sgl room n bs → bs[k]? = some b → b.f ≠ b.l → b.s * room ≤ n + sumS (bs.take k)
  | _, [], _, _, _, h, _ => by simp at h
  | n, a :: r, 0, b, ⟨h1, _⟩, h, hn => by
    have e := Option.some.inj h
    subst e
    show a.s * room ≤ n + 0
    have := h1 hn
    omega
  | n, a :: r, k + 1, b, ⟨_, h2⟩, h, hn => by
    have := Sgl.at (k := k) h2 h hn
    show b.s * room ≤ n + (a.s + sumS (r.take k))
    omega
theorem Prs.at {room : Int} : ∀ {n : Int} {bs : List Bx} {k : Nat} {b c : Bx}, Prs room n bs → bs[k]? = some b → bs[k + 1]? = some c → n + sumS (bs.take k) < (b.s + c.s) * room
  | _, [], _, _, _, _, h, _ => by simp at h
  | _, [a], k, _, _, _, _, h => by simp at h
  | n, a :: d :: r, 0, b, c, ⟨h1, _⟩, h, h' => by
    have e := Option.some.inj h
    have e' := Option.some.inj h'
    subst e e'
    show n + 0 < _
    omega
  | n, a :: d :: r, k + 1, b, c, ⟨_, h2⟩, h, h' => by
    have := Prs.at (k := k) h2 h h'
    show n + (a.s + sumS ((d :: r).take k)) < _
    omega
theorem sumS_take {bs : List Bx} {k : Nat} {b : Bx} (h : bs[k]? = some b) : sumS (bs.take (k + 1)) = sumS (bs.take k) + b.s := by
  rw [List.take_add_one, h, sumS_app]
  show _ + (b.s + 0) = _
  omega
/-- few boxes -/
theorem grow {room : Int} (hr : 1 ≤ room) : ∀ (q : Nat) (n : Int) (bs : List Bx), 0 ≤ n → Prs room n bs → (∀ b ∈ bs, 1 ≤ b.s) → 2 * q ≤ bs.length → n * (room + 1) ^ q ≤ (n + sumS bs) * room ^ q ∧ (0 < q → n * (room + 1) ^ q < (n + sumS bs) * room ^ q)
  | 0, n, bs, _, _, hp, _ => by
    have nn : ∀ l : List Bx, (∀ b ∈ l, 1 ≤ b.s) → 0 ≤ sumS l := by
      intro l
      induction l with
      | nil => intro _; exact Int.le_refl _
      | cons a r ih =>
        intro h
        have h1 := h a List.mem_cons_self
        have h2 := ih fun b hb => h b (List.mem_cons_of_mem _ hb)
        show 0 ≤ a.s + sumS r
        omega
    rw [Int.pow_zero, Int.pow_zero, Int.mul_one, Int.mul_one]
    have := nn bs hp
    exact ⟨by omega, fun z => absurd z (Nat.lt_irrefl _)⟩
  | q + 1, n, [], _, _, _, hl => absurd hl (by simp)
  | q + 1, n, [_], _, _, _, hl => absurd hl (by simp; omega)
  | q + 1, n, b :: c :: bs, hn, P, hp, hl => by
    have hb := hp b List.mem_cons_self
    have hc := hp c (List.mem_cons_of_mem _ List.mem_cons_self)
    have P' : Prs room (n + b.s + c.s) bs := by
      cases bs with
      | nil => trivial
      | cons d r => exact P.2.2
    have ih := (grow hr q (n + b.s + c.s) bs (by omega) P' (fun d hd => hp d (List.mem_cons_of_mem _ (List.mem_cons_of_mem _ hd))) (by
      rw [List.length_cons, List.length_cons] at hl
      omega)).1
    have es : n + sumS (b :: c :: bs) = n + b.s + c.s + sumS bs := by
      show n + (b.s + (c.s + sumS bs)) = _
      omega
    have pos : ∀ k : Nat, 1 ≤ (room + 1) ^ k := by
      intro k
      induction k with
      | zero => rw [Int.pow_zero]; exact Int.le_refl _
      | succ k ih =>
        rw [Int.pow_succ]
        have := Int.mul_le_mul ih (show (1 : Int) ≤ room + 1 by omega) (by omega) (by omega)
        omega
    have h1 : n < (b.s + c.s) * room := P.1
    have h2 : n * (room + 1) < (n + b.s + c.s) * room := by
      rw [Int.mul_add, Int.mul_one, show n + b.s + c.s = n + (b.s + c.s) by omega, Int.add_mul]
      omega
    have h3 : n * (room + 1) ^ (q + 1) < (n + sumS (b :: c :: bs)) * room ^ (q + 1) := by
      have m1 : (n * (room + 1)) * (room + 1) ^ q < ((n + b.s + c.s) * room) * (room + 1) ^ q := Int.mul_lt_mul_of_pos_right h2 (by have := pos q; omega)
      have m2 := Int.mul_le_mul_of_nonneg_right ih (show (0 : Int) ≤ room by omega)
      have e1 : n * (room + 1) ^ (q + 1) = (n * (room + 1)) * (room + 1) ^ q := by rw [Int.pow_succ, Int.mul_comm ((room + 1) ^ q), Int.mul_assoc]
      have e2 : ((n + b.s + c.s) * room) * (room + 1) ^ q = (n + b.s + c.s) * (room + 1) ^ q * room := by rw [Int.mul_assoc, Int.mul_comm room, Int.mul_assoc]
      have e3 : (n + sumS (b :: c :: bs)) * room ^ (q + 1) = (n + b.s + c.s + sumS bs) * room ^ q * room := by rw [es, Int.pow_succ, Int.mul_assoc]
      omega
    exact ⟨Int.le_of_lt h3, fun _ => h3⟩
theorem few {room : Int} (hr : 1 ≤ room) {bs : List Bx} (P : Prs room 0 bs) (hp : ∀ b ∈ bs, 1 ≤ b.s) {p : Nat} (h : ¬ (room + 1) ^ (p + 1) < sumS bs * room ^ (p + 1)) : bs.length ≤ 2 + 2 * p := by
  refine Nat.le_of_not_lt fun hl => h ?_
  cases bs with
  | nil => simp at hl
  | cons b r =>
    have hb := hp b List.mem_cons_self
    have P' : Prs room b.s r := by
      cases r with
      | nil => trivial
      | cons d t =>
        have := P.2
        rw [show (0 : Int) + b.s = b.s by omega] at this
        exact this
    have g := (grow hr (p + 1) b.s r (by omega) P' (fun d hd => hp d (List.mem_cons_of_mem _ hd)) (by
      rw [List.length_cons] at hl
      omega)).2 (Nat.succ_pos _)
    have pos : ∀ k : Nat, 0 ≤ (room + 1) ^ k := fun k => Int.pow_nonneg (by omega)
    have m := Int.mul_le_mul_of_nonneg_right hb (pos (p + 1))
    rw [Int.one_mul] at m
    exact Int.lt_of_le_of_lt m g
theorem sumS_nn : ∀ {bs : List Bx}, (∀ b ∈ bs, 1 ≤ b.s) → 0 ≤ sumS bs ∧ (sumS bs = 0 → bs = [])
  | [], _ => ⟨Int.le_refl _, fun _ => rfl⟩
  | b :: r, h => by
    have h1 := h b List.mem_cons_self
    have h2 := (sumS_nn (bs := r) fun c hc => h c (List.mem_cons_of_mem _ hc)).1
    refine ⟨?_, fun z => ?_⟩
    · show 0 ≤ b.s + sumS r
      omega
    · have z' : b.s + sumS r = 0 := z
      omega
/-- what last tells: the newer boxes' sum, the box that is cut -/
def lstep (edge : Int) (x : Int × Int) (b : Bx) : Int × Int := if edge < b.f then (x.1 + b.s, x.2) else if edge < b.l then (x.1, b.s) else x
def lastOf (edge : Int) (bs : List Bx) : Int × Int := bs.foldl (lstep edge) (0, 0)
theorem last_none {edge : Int} : ∀ {bs : List Bx}, (∀ b ∈ bs, b.f ≤ edge ∧ b.l ≤ edge) → bs.foldr (fun b x => lstep edge x b) (0, 0) = ((0, 0) : Int × Int)
  | [], _ => rfl
  | b :: r, h => by
    have h1 := h b List.mem_cons_self
    rw [List.foldr_cons, last_none fun c hc => h c (List.mem_cons_of_mem _ hc)]
    unfold lstep
    rw [if_neg (by omega), if_neg (by omega)]
theorem last_near {room edge : Int} : ∀ {bs : List Bx} {n : Int}, Sgl room n bs → bs.Pairwise (fun a b => b.l < a.f) → (∀ b ∈ bs, b.f ≤ b.l ∧ 1 ≤ b.s) → 0 ≤ n →
    0 ≤ (bs.foldr (fun b x => lstep edge x b) (0, 0)).1 ∧ (bs.foldr (fun b x => lstep edge x b) (0, 0)).2 * room ≤ (bs.foldr (fun b x => lstep edge x b) (0, 0)).1 + n
  | [], n, _, _, _, hn => ⟨Int.le_refl _, by show (0 : Int) * room ≤ 0 + n; rw [Int.zero_mul]; omega⟩
  | b :: r, n, ⟨s1, s2⟩, hd, hp, hn => by
    have hb := hp b List.mem_cons_self
    have hd' := List.pairwise_cons.mp hd
    obtain ⟨i1, i2⟩ := last_near (edge := edge) s2 hd'.2 (fun c hc => hp c (List.mem_cons_of_mem _ hc)) (by omega)
    rw [List.foldr_cons]
    by_cases h1 : edge < b.f
    · rw [show lstep edge (r.foldr (fun b x => lstep edge x b) (0, 0)) b = _ from if_pos h1]
      refine ⟨?_, ?_⟩
      · show 0 ≤ _ + b.s
        omega
      · show (r.foldr (fun b x => lstep edge x b) (0, 0)).2 * room ≤ (r.foldr (fun b x => lstep edge x b) (0, 0)).1 + b.s + n
        omega
    · by_cases h2 : edge < b.l
      · rw [show lstep edge (r.foldr (fun b x => lstep edge x b) (0, 0)) b = _ from (if_neg h1).trans (if_pos h2)]
        refine ⟨i1, ?_⟩
        show b.s * room ≤ _ + n
        have := s1 (by omega)
        omega
      · have z := last_none (edge := edge) (bs := r) fun c hc => by
          have h3 := hd'.1 c hc
          have h4 := hp c (List.mem_cons_of_mem _ hc)
          omega
        rw [z, show lstep edge (0, 0) b = _ from (if_neg h1).trans (if_neg h2)]
        exact ⟨Int.le_refl _, by show (0 : Int) * room ≤ 0 + n; rw [Int.zero_mul]; omega⟩
theorem Win.last {room reach clock : Int} {bs : List Bx} {rows : List Row} (W : Win room reach clock bs rows) (edge : Int) : (lastOf edge bs).2 * room ≤ (lastOf edge bs).1 := by
  obtain ⟨R, _, rest, G⟩ := W
  obtain ⟨h1, h2⟩ := chop_dec G.chop R
  have := (last_near (edge := edge) G.sgl h1 h2 (Int.le_refl _)).2
  rw [List.foldr_reverse] at this
  show (bs.foldl (fun x y => lstep edge x y) (0, 0)).2 * room ≤ (bs.foldl (fun x y => lstep edge x y) (0, 0)).1
  omega
end Sk

/-! boxes and rows in the heap -/
namespace Sk
open PySem L2
theorem paired_rev {α β : Type} {F : α → β → Prop} : ∀ {xs : List α} {ys : List β}, Paired F xs ys → Paired F xs.reverse ys.reverse
  | _, _, .nil => .nil
  | _, _, .cons h t => by
    rw [List.reverse_cons, List.reverse_cons]
    exact Paired.snoc (paired_rev t) h
theorem paired_get {α β : Type} {F : α → β → Prop} : ∀ {xs : List α} {ys : List β} {i : Nat} {x : α}, Paired F xs ys → xs[i]? = some x → ∃ y, ys[i]? = some y ∧ F x y
  | _, _, _, _, .nil, e => by simp at e
  | _, _, 0, _, .cons h t, e => by
    have e' := Option.some.inj e
    subst e'
    exact ⟨_, rfl, h⟩
  | _, _, i + 1, x, .cons h t, e => by
    obtain ⟨y, h1, h2⟩ := paired_get (i := i) (x := x) t e
    exact ⟨y, h1, h2⟩
theorem paired_get2 {α β : Type} {F : α → β → Prop} : ∀ {xs : List α} {ys : List β} {i : Nat} {y : β}, Paired F xs ys → ys[i]? = some y → ∃ x, xs[i]? = some x ∧ F x y
  | _, _, _, _, .nil, e => by simp at e
  | _, _, 0, _, .cons h t, e => by
    have e' := Option.some.inj e
    subst e'
    exact ⟨_, rfl, h⟩
  | _, _, i + 1, y, .cons h t, e => by
    obtain ⟨x, h1, h2⟩ := paired_get2 (i := i) (y := y) t e
    exact ⟨x, h1, h2⟩
theorem drop_at {α : Type} : ∀ {l : List α} {i : Nat} {x : α}, l[i]? = some x → l.drop i = x :: l.drop (i + 1)
  | [], i, x, h => by simp at h
  | a :: r, 0, x, h => by
    have e := Option.some.inj h
    subst e
    rfl
  | a :: r, i + 1, x, h => drop_at (l := r) (i := i) (x := x) h
/-- a box stands there -/
def BxAt (H : Hp) (v : V) (b : Bx) : Prop := ∃ p, v = .ref p ∧ H p = some (.tup [.int b.f, .int b.l, .int b.s])
def RwAt (H : Hp) (v : V) (r : Row) : Prop := ∃ p, v = .ref p ∧ H p = some (.tup [.int r.1, .int r.2])
theorem BxAt.same {H H' : Hp} {v : V} {b : Bx} (s : Same H H') (h : BxAt H v b) : BxAt H' v b := let ⟨p, e, q⟩ := h; ⟨p, e, s _ _ q⟩
theorem RwAt.same {H H' : Hp} {v : V} {b : Row} (s : Same H H') (h : RwAt H v b) : RwAt H' v b := let ⟨p, e, q⟩ := h; ⟨p, e, s _ _ q⟩
abbrev Bxs (H : Hp) (vs : List V) (bs : List Bx) : Prop := Paired (BxAt H) vs bs
abbrev Rws (H : Hp) (vs : List V) (rs : List Row) : Prop := Paired (RwAt H) vs rs
/-- tuples stay where other things are written -/
def TupKept (H H' : Hp) : Prop := ∀ p xs, H p = some (.tup xs) → H' p = some (.tup xs)
theorem Same.tk {H H' : Hp} (s : Same H H') : TupKept H H' := fun p xs e => s _ _ e
theorem TupKept.trans {H H1 H2 : Hp} (a : TupKept H H1) (b : TupKept H1 H2) : TupKept H H2 := fun p xs e => b _ _ (a _ _ e)
theorem BxAt.tk {H H' : Hp} {v : V} {b : Bx} (s : TupKept H H') (h : BxAt H v b) : BxAt H' v b := let ⟨p, e, q⟩ := h; ⟨p, e, s _ _ q⟩
theorem RwAt.tk {H H' : Hp} {v : V} {b : Row} (s : TupKept H H') (h : RwAt H v b) : RwAt H' v b := let ⟨p, e, q⟩ := h; ⟨p, e, s _ _ q⟩
theorem bxs_tk {H H' : Hp} {vs : List V} {bs : List Bx} (s : TupKept H H') (h : Bxs H vs bs) : Bxs H' vs bs := L2.Paired.mapP h fun _ _ x => BxAt.tk s x
theorem rws_tk {H H' : Hp} {vs : List V} {bs : List Row} (s : TupKept H H') (h : Rws H vs bs) : Rws H' vs bs := L2.Paired.mapP h fun _ _ x => RwAt.tk s x
theorem same_upd {H : Hp} {p : Addr} {o : HO} (h : H p = none) : Same H (upd H p o) := fun b x e => by
  rw [upd_ne (ne_of_none e h)]
  exact e
/-- a list is written: the tuples stay -/
theorem tk_lst {H : Hp} {l : Addr} {xs : List V} {o : HO} (h : H l = some (.lst xs)) : TupKept H (upd H l o) := fun p ys e => by
  have n : p ≠ l := fun z => by
    rw [z, h] at e
    cases e
  rw [upd_ne n]
  exact e
theorem small {n : Nat} (h : n ≤ 1000) : n ≤ sizeLine := Nat.le_of_lt (small1000 h)
end Sk

namespace Sk
open PySem L2
section
variable {P : Program} {w : World} {K : PySem.W.Frag} {mg : Str → Option Value} {base : Heap}
/-- the box at hand, if there is one -/
def HandAt (H : Hp) (v : V) : Option Bx → Prop
  | none => v = .non
  | some h => BxAt H v h
theorem HandAt.tk {H H' : Hp} {v : V} {h : Option Bx} (s : TupKept H H') (x : HandAt H v h) : HandAt H' v h := by
  cases h with
  | none => exact x
  | some b => exact BxAt.tk s x
def spSettled (K : PySem.W.Frag) : Sp := fun vs H Q _ => ∃ (l : Addr) (xs : List V) (bs : List Bx) (room edge : Int), vs = [.ref l, .int room, .int edge] ∧ H l = some (.lst xs) ∧ Bxs H xs bs ∧ xs.length ≤ 1000 ∧ (-(2 ^ 64) < room ∧ room < 2 ^ 64) ∧
  ∀ (H' : Hp) (p : Addr) (ys : List V), Same H H' → H p = none → H' p = some (.lst ys) → Bxs H' ys (settle room edge bs) → Q (.ref p) H'
/-- what the loop keeps: told at t, the box at hand -/
def SetI (l t : Addr) (room edge : Int) (H : Hp) (bs : List Bx) (i : Nat) (σ : L2.St) (H' : Hp) : Prop :=
  ∃ (ts : List V) (told : List Bx) (newer : Int) (hv : V) (hand : Option Bx) (bv : Option V), σ = [some (.ref l), some (.int room), some (.int edge), some (.ref t), some (.int newer), some hv, bv] ∧ Same H H' ∧ H' t = some (.lst ts) ∧ Bxs H' ts told ∧
    HandAt H' hv hand ∧ ts.length ≤ i ∧ told ++ stl room edge newer hand (bs.reverse.drop i) = stl room edge 0 none bs.reverse
/-- .. and what stands behind it -/
def SetE (l t : Addr) (room edge : Int) (H : Hp) (bs : List Bx) (σ : L2.St) (H' : Hp) : Prop :=
  ∃ (ts : List V) (told : List Bx) (newer : Int) (hv : V) (hand : Option Bx) (bv : Option V), σ = [some (.ref l), some (.int room), some (.int edge), some (.ref t), some (.int newer), some hv, bv] ∧ Same H H' ∧ H' t = some (.lst ts) ∧ Bxs H' ts told ∧
    HandAt H' hv hand ∧ ts.length ≤ 1000 ∧ told ++ hand.toList = stl room edge 0 none bs.reverse
theorem stl_nil (room edge newer : Int) (hand : Option Bx) : stl room edge newer hand [] = hand.toList := by
  cases hand <;> rfl
theorem stl_brk {room edge : Int} {b : Bx} (h : b.l ≤ edge) (newer : Int) (hand : Option Bx) (r : List Bx) : stl room edge newer hand (b :: r) = hand.toList := by
  cases hand with
  | none => show (if b.l ≤ edge then [] else _) = _; rw [if_pos h]; rfl
  | some c => show (if b.l ≤ edge then [c] else _) = _; rw [if_pos h]; rfl
theorem ok_settled {f : Addr} {fd : FuncData} (F : Fun K "settled_boxes" "settled_boxes" sSettled f fd) (B : Blt mg) : FnOk P w K mg base CX0 1 f fd ["boxes", "room", "edge"] (spSettled K) := by
  refine F.ok scSettled (fun vs H Q E h => ?_) (fun cdv A outer s H vs Q E hr h => ?_)
  · obtain ⟨l, xs, bs, room, edge, rfl, _⟩ := h
    rfl
  · obtain ⟨l, xs, bs, room, edge, rfl, hl, hbs, hlen, hroom, k⟩ := h
    have nd := scSettled.nd
    refine ⟨_, pss_cons (ps_set (i := 3) nd rfl (.inl rfl) (pe_lst pa_nil)) (pss_cons (ps_set (i := 4) nd rfl (.inl rfl) pe_int) (pss_cons (ps_set (i := 5) nd rfl (.inl rfl) pe_non)
      (C8.pss_cut (ps_for PassesOwn.never rfl (pi_reversed (by rfl) B.reversed (pa_cons (pv 0) pa_nil)) (pg_name (i := 6) nd rfl (.inl rfl))
        (pss_cons (ps_if (pt_cmpR op_le (pe_ix ix_tup (pv 6) pe_int (fun _ _ => rfl)) (pv 2) (nomark _)) (pss_one ps_break) pss_nil)
        (pss_one (ps_if (pt_cmp (pc_isN (pv 5))) (pss_one (ps_set (i := 5) nd rfl (.inl rfl) (pv 6)))
          (pss_one (ps_if (pt_cmpR op_le (pe_op op_mul (pe_op op_add (pe_ix ix_tup (pv 5) pe_int (fun _ _ => rfl)) (pe_ix ix_tup (pv 6) pe_int (fun _ _ => rfl))) (pv 1)) (pv 4) (nomark _))
            (pss_one (ps_set (i := 5) nd rfl (.inl rfl) (pe_tup (pa_cons (pe_ix ix_tup (pv 6) pe_int (fun _ _ => rfl)) (pa_cons (pe_ix ix_tup (pv 5) pe_int (fun _ _ => rfl))
              (pa_cons (pe_op op_add (pe_ix ix_tup (pv 6) pe_int (fun _ _ => rfl)) (pe_ix ix_tup (pv 5) pe_int (fun _ _ => rfl))) pa_nil))))))
            (pss_cons (ps_expr (pe_bm PySem.F.plainAttrs_list PySem.F.slot_list_append PySem.F.type_list_append mt_append (pv 3) (pa_cons (pv 5) pa_nil)))
            (pss_cons (ps_aug (i := 4) nd rfl (.inl rfl) (pe_ix ix_tup (pv 5) pe_int (fun _ _ => rfl)) ip_add)
            (pss_one (ps_set (i := 5) nd rfl (.inl rfl) (pv 6)))))))))))
      (pss_cons (ps_if (pt_cmp (pc_notN (pv 5))) (pss_one (ps_expr (pe_bm PySem.F.plainAttrs_list PySem.F.slot_list_append PySem.F.type_list_append mt_append (pv 3) (pa_cons (pv 5) pa_nil)))) pss_nil)
      (pss_one (ps_ret (pe_lstRev rfl (by rfl) B.list (by rfl) B.reversed (pv 3)))))))), ?_⟩
    -- told = []; newer = 0; hand = None
    refine ⟨Nat.zero_le _, fun t nt => ?_⟩
    have s1 : Same H (upd H t (.lst [])) := same_upd nt
    have hlt : ∀ {H' : Hp}, Same H H' → Bxs H' xs bs := fun s => bxs_tk (Same.tk s) hbs
    refine ⟨SetE l t room edge H bs, ?_, ?_⟩
    · -- the loop
      refine ⟨_, rfl, l, xs, rfl, SqL.of (s1 _ _ hl), RT.for_Itv (K := K) (a := l) (xs := xs) (SetI l t room edge H bs) ?_ (fun i σ H' ⟨_, _, _, _, _, _, _, s2, _⟩ => SqL.of (s2 _ _ hl)) ?_ ?_⟩
      · exact ⟨[], [], 0, .non, none, none, rfl, s1, upd_same, .nil, rfl, Nat.le_refl _, rfl⟩
      · rintro i x σ H' hi hx ⟨ts, told, newer, hv, hand, bv, rfl, s2, ht, hb, hh, hz, he⟩
        have hx' : xs.reverse[i]? = some x := by rw [List.getElem?_reverse hi]; exact hx
        obtain ⟨b, hb1, p, rfl, hp⟩ := paired_get (paired_rev (hlt s2)) hx'
        rw [drop_at hb1] at he
        have hz' : ts.length < sizeLine := small1000 (by omega)
        -- if box[1] <= edge: break
        refine ⟨_, rfl, p, _, _, _, rfl, rfl, SqT.of hp, atI_nat (j := 1) rfl, _, rfl, _, _, rfl, rfl, _, rfl, ite2 (fun c => ?_) (fun c => ?_)⟩
        · have c' : b.l ≤ edge := of_decide_eq_true c
          rw [stl_brk c'] at he
          exact ⟨ts, told, newer, hv, hand, _, rfl, s2, ht, hb, hh, by omega, he⟩
        have c' : ¬ b.l ≤ edge := fun z => c (decide_eq_true z)
        -- if hand is None
        refine ⟨_, rfl, _, rfl, ?_⟩
        cases hand with
        | none =>
          obtain rfl : hv = .non := hh
          refine ite2 (fun _ => ?_) (fun z => absurd (decide_eq_true rfl) z)
          refine ⟨_, rfl, ts, told, newer, .ref p, some b, _, rfl, s2, ht, hb, ⟨p, rfl, hp⟩, by omega, ?_⟩
          rw [← he, show stl room edge newer none (b :: bs.reverse.drop (i + 1)) = stl room edge newer (some b) (bs.reverse.drop (i + 1)) from if_neg c']
        | some h =>
          obtain ⟨q, rfl, hq⟩ := id hh
          refine ite2 (fun z => absurd (of_decide_eq_true z) (by intro e; cases e)) (fun _ => ?_)
          -- if (hand[2] + box[2]) * room <= newer
          refine ⟨_, rfl, q, _, _, _, rfl, rfl, SqT.of hq, atI_nat (j := 2) rfl, _, rfl, p, _, _, _, rfl, rfl, SqT.of hp, atI_nat (j := 2) rfl, _, _, rfl, rfl, _, rfl, _, _, rfl, rfl, .inr hroom, _, rfl, _, _, rfl, rfl, _, rfl, ite2 (fun d => ?_) (fun d => ?_)⟩
          · have d' : (h.s + b.s) * room ≤ newer := of_decide_eq_true d
            have e1 : stl room edge newer (some h) (b :: bs.reverse.drop (i + 1)) = stl room edge newer (some ⟨b.f, h.l, b.s + h.s⟩) (bs.reverse.drop (i + 1)) :=
              (if_neg c').trans (if_pos d')
            rw [e1] at he
            refine ⟨_, rfl, p, _, _, _, rfl, rfl, SqT.of hp, atI_nat (j := 0) rfl, _, rfl, q, _, _, _, rfl, rfl, SqT.of hq, atI_nat (j := 1) rfl, _, rfl, p, _, _, _, rfl, rfl, SqT.of hp, atI_nat (j := 2) rfl, _, rfl, q, _, _, _, rfl, rfl, SqT.of hq, atI_nat (j := 2) rfl, _, _, rfl, rfl, small (by show 3 ≤ 1000; decide), fun m nm => ?_⟩
            have s3 := same_upd (o := .tup [.int b.f, .int h.l, .int (b.s + h.s)]) nm
            exact ⟨ts, told, newer, .ref m, some ⟨b.f, h.l, b.s + h.s⟩, _, rfl, s2.trans s3, s3 _ _ ht, bxs_tk (Same.tk s3) hb, ⟨m, rfl, upd_same⟩, by omega, he⟩
          · have d' : ¬ (h.s + b.s) * room ≤ newer := fun z => d (decide_eq_true z)
            have e1 : stl room edge newer (some h) (b :: bs.reverse.drop (i + 1)) = h :: stl room edge (newer + h.s) (some b) (bs.reverse.drop (i + 1)) :=
              (if_neg c').trans (if_neg d')
            rw [e1] at he
            have k3 := tk_lst (o := .lst (ts ++ [.ref q])) ht
            refine ⟨_, rfl, .inl ⟨rfl, _, SqL.of ht⟩, _, rfl, t, _, _, rfl, rfl, ht, hz', ?_⟩
            refine ⟨_, rfl, _, rfl, q, _, _, _, rfl, rfl, SqT.of (k3 _ _ hq), atI_nat (j := 2) rfl, _, _, rfl, rfl, _, rfl, ?_⟩
            refine ⟨ts ++ [.ref q], told ++ [h], newer + h.s, .ref p, some b, _, rfl, fun a o e => ?_, upd_same, Paired.snoc (bxs_tk k3 hb) ⟨q, rfl, k3 _ _ hq⟩, ⟨p, rfl, k3 _ _ hp⟩, ?_, ?_⟩
            · rw [upd_ne (ne_of_none e nt)]
              exact s2 _ _ e
            · rw [List.length_append, List.length_singleton]
              omega
            · rw [← he, List.append_assoc]
              rfl
      · rintro σ H' ⟨ts, told, newer, hv, hand, bv, rfl, s2, ht, hb, hh, hz, he⟩
        refine ⟨ts, told, newer, hv, hand, bv, rfl, s2, ht, hb, hh, Nat.le_trans hz hlen, ?_⟩
        rw [← he]
        have hll : bs.reverse.length = xs.length := by rw [List.length_reverse, (hlt (Same.refl H)).length]
        rw [List.drop_of_length_le (Nat.le_of_eq hll), stl_nil]
    · -- behind it
      rintro σ H' ⟨ts, told, newer, hv, hand, bv, rfl, s2, ht, hb, hh, hz, he⟩
      have fin : ∀ (H2 : Hp) (us : List V) (os : List Bx), Same H H2 → H2 t = some (.lst us) → Bxs H2 us os → os = stl room edge 0 none bs.reverse → ∀ q, H2 q = none → Q (.ref q) (upd H2 q (.lst us.reverse)) := by
        intro H2 us os s3 hu hx ho q nq
        refine k _ q us.reverse (s3.trans (same_upd nq)) (s3.free nq) upd_same ?_
        unfold settle
        rw [← ho]
        exact bxs_tk (Same.tk (same_upd nq)) (paired_rev hx)
      refine ⟨_, rfl, _, rfl, ?_⟩
      cases hand with
      | none =>
        obtain rfl : hv = .non := hh
        refine ite2 (fun z => absurd z (by decide)) (fun _ => ?_)
        refine ⟨_, rfl, t, ts, rfl, SqL.of ht, fin H' ts told s2 ht hb ?_⟩
        rw [← he]
        exact (List.append_nil _).symm
      | some h =>
        obtain ⟨q, rfl, hq⟩ := id hh
        refine ite2 (fun _ => ?_) (fun z => absurd (by rw [decide_eq_false (by intro e; cases e)]; rfl) z)
        have k3 := tk_lst (o := .lst (ts ++ [.ref q])) ht
        refine ⟨_, rfl, .inl ⟨rfl, _, SqL.of ht⟩, _, rfl, t, _, _, rfl, rfl, ht, small1000 hz, ?_⟩
        refine ⟨_, rfl, t, ts ++ [.ref q], rfl, SqL.of upd_same, fin _ (ts ++ [.ref q]) (told ++ [h]) (fun a o e => ?_) upd_same (Paired.snoc (bxs_tk k3 hb) ⟨q, rfl, k3 _ _ hq⟩) he⟩
        rw [upd_ne (ne_of_none e nt)]
        exact s2 _ _ e
end
end Sk

namespace Sk
open PySem L2
theorem n_rr : ¬ (("room" : Str) = "reach") := by decide +kernel
theorem n_rc : ¬ (("room" : Str) = "clock") := by decide +kernel
theorem n_rb : ¬ (("room" : Str) = "boxes") := by decide +kernel
theorem n_ec : ¬ (("reach" : Str) = "clock") := by decide +kernel
theorem n_eb : ¬ (("reach" : Str) = "boxes") := by decide +kernel
theorem n_cb : ¬ (("clock" : Str) = "boxes") := by decide +kernel
/-- a Window's fields -/
def wf (room reach clock : Int) (l : Addr) : List (Str × V) := putF "boxes" (.ref l) (putF "clock" (.int clock) (putF "reach" (.int reach) (putF "room" (.int room) [])))
theorem wf_eq (room reach clock : Int) (l : Addr) : wf room reach clock l = ([("room", V.int room), ("reach", V.int reach), ("clock", V.int clock), ("boxes", V.ref l)] : List (Str × V)) := by
  unfold wf
  have e1 : putF "reach" (V.int reach) (putF "room" (V.int room) []) = ([("room", V.int room), ("reach", V.int reach)] : List (Str × V)) := by
    show (if ("room" : Str) = "reach" then _ else (("room" : Str), V.int room) :: [(("reach" : Str), V.int reach)]) = _
    rw [if_neg n_rr]
  have e2 : putF "clock" (V.int clock) ([("room", V.int room), ("reach", V.int reach)] : List (Str × V)) = ([("room", V.int room), ("reach", V.int reach), ("clock", V.int clock)] : List (Str × V)) := by
    show (if ("room" : Str) = "clock" then _ else (("room" : Str), V.int room) :: (if ("reach" : Str) = "clock" then _ else (("reach" : Str), V.int reach) :: [(("clock" : Str), V.int clock)])) = _
    rw [if_neg n_rc, if_neg n_ec]
  rw [e1, e2]
  show (if ("room" : Str) = "boxes" then _ else (("room" : Str), V.int room) :: (if ("reach" : Str) = "boxes" then _ else (("reach" : Str), V.int reach) :: (if ("clock" : Str) = "boxes" then _ else (("clock" : Str), V.int clock) :: [(("boxes" : Str), V.ref l)]))) = _
  rw [if_neg n_rb, if_neg n_eb, if_neg n_cb]
theorem wf_len (room reach clock : Int) (l : Addr) : (wf room reach clock l).length < 1000 := by
  rw [wf_eq]
  show 4 < 1000
  decide
theorem wf_room (room reach clock : Int) (l : Addr) : (wf room reach clock l).lookup ("room" : Str) = some (.int room) := by
  unfold wf
  rw [lookup_putF, if_neg n_rb, lookup_putF, if_neg n_rc, lookup_putF, if_neg n_rr, lookup_putF, if_pos rfl]
theorem wf_reach (room reach clock : Int) (l : Addr) : (wf room reach clock l).lookup ("reach" : Str) = some (.int reach) := by
  unfold wf
  rw [lookup_putF, if_neg n_eb, lookup_putF, if_neg n_ec, lookup_putF, if_pos rfl]
theorem wf_clock (room reach clock : Int) (l : Addr) : (wf room reach clock l).lookup ("clock" : Str) = some (.int clock) := by
  unfold wf
  rw [lookup_putF, if_neg n_cb, lookup_putF, if_pos rfl]
theorem wf_boxes (room reach clock : Int) (l : Addr) : (wf room reach clock l).lookup ("boxes" : Str) = some (.ref l) := by
  unfold wf
  rw [lookup_putF, if_pos rfl]
theorem wf_no (room reach clock : Int) (l : Addr) {m : Str} (h1 : ¬ m = "boxes") (h2 : ¬ m = "clock") (h3 : ¬ m = "reach") (h4 : ¬ m = "room") : (wf room reach clock l).lookup m = none := by
  unfold wf
  rw [lookup_putF, if_neg h1, lookup_putF, if_neg h2, lookup_putF, if_neg h3, lookup_putF, if_neg h4]
  all_goals rfl
theorem wf_put_clock (room reach clock c : Int) (l : Addr) : putF "clock" (.int c) (wf room reach clock l) = wf room reach c l := by
  rw [wf_eq, wf_eq]
  show (if ("room" : Str) = "clock" then _ else (("room" : Str), V.int room) :: (if ("reach" : Str) = "clock" then _ else (("reach" : Str), V.int reach) :: (if ("clock" : Str) = "clock" then (("clock" : Str), V.int c) :: [(("boxes" : Str), V.ref l)] else _))) = _
  rw [if_neg n_rc, if_neg n_ec, if_pos rfl]
theorem wf_put_boxes (room reach clock : Int) (l m : Addr) : putF "boxes" (.ref m) (wf room reach clock l) = wf room reach clock m := by
  rw [wf_eq, wf_eq]
  show (if ("room" : Str) = "boxes" then _ else (("room" : Str), V.int room) :: (if ("reach" : Str) = "boxes" then _ else (("reach" : Str), V.int reach) :: (if ("clock" : Str) = "boxes" then _ else (("clock" : Str), V.int clock) :: (if ("boxes" : Str) = "boxes" then [(("boxes" : Str), V.ref m)] else _)))) = _
  rw [if_neg n_rb, if_neg n_eb, if_neg n_cb, if_pos rfl]
/-- a Window stands at p -/
def WinAt (C : Addr) (H : Hp) (p : Addr) (room reach clock : Int) (bs : List Bx) : Prop :=
  ∃ (dx l : Addr) (xs : List V), H p = some (.ins C dx (wf room reach clock l)) ∧ H l = some (.lst xs) ∧ Bxs H xs bs
/-- .. whose list of boxes was not there in H0 -/
def WinN (C : Addr) (H0 H : Hp) (p : Addr) (room reach clock : Int) (bs : List Bx) : Prop :=
  ∃ (dx l : Addr) (xs : List V), H0 l = none ∧ H p = some (.ins C dx (wf room reach clock l)) ∧ H l = some (.lst xs) ∧ Bxs H xs bs
/-- all that stood, but p, stands -/
def But (p : Addr) (H H' : Hp) : Prop := ∀ b o, H b = some o → b ≠ p → H' b = some o
theorem But.tk {C dx p : Addr} {fs : List (Str × V)} {H H' : Hp} (h : H p = some (.ins C dx fs)) (k : But p H H') : TupKept H H' := fun a xs e => k a _ e fun z => by
  rw [z, h] at e
  cases e
theorem But.of_same {p : Addr} {H H' : Hp} (s : Same H H') : But p H H' := fun b o e _ => s b o e
theorem But.trans {p : Addr} {H H1 H2 : Hp} (a : But p H H1) (b : But p H1 H2) : But p H H2 := fun c o e n => b c o (a c o e n) n
theorem But.upd {p : Addr} {H : Hp} {o : HO} : But p H (upd H p o) := fun b u e n => by rw [upd_ne n]; exact e
theorem WinAt.same {C : Addr} {H H' : Hp} {p : Addr} {room reach clock : Int} {bs : List Bx} (s : Same H H') (h : WinAt C H p room reach clock bs) : WinAt C H' p room reach clock bs :=
  let ⟨dx, l, xs, h1, h2, h3⟩ := h
  ⟨dx, l, xs, s _ _ h1, s _ _ h2, bxs_tk (Same.tk s) h3⟩

def spInit (C : Addr) : Sp := fun vs H Q _ => ∃ (p dx : Addr) (room reach : Int), vs = [.ref p, .int room, .int reach] ∧ H p = some (.ins C dx []) ∧ ∀ H' : Hp, WinAt C H' p room reach 0 [] → But p H H' → Q .non H'
def spAdd (C : Addr) : Sp := fun vs H Q _ => ∃ (p : Addr) (wt room reach clock : Int) (bs : List Bx), vs = [.ref p, .int wt] ∧ WinAt C H p room reach clock bs ∧ bs.length ≤ 900 ∧ (-(2 ^ 64) < room ∧ room < 2 ^ 64) ∧
  ∀ H' : Hp, WinN C H H' p room reach (clock + 1) (settle room (clock + 1 - reach) (bs ++ [⟨clock + 1, clock + 1, wt⟩])) → But p H H' → Q .non H'
def spIdle (C : Addr) : Sp := fun vs H Q _ => ∃ (p : Addr) (m room reach clock : Int) (bs : List Bx), vs = [.ref p, .int m] ∧ WinAt C H p room reach clock bs ∧ bs.length ≤ 900 ∧ (-(2 ^ 64) < room ∧ room < 2 ^ 64) ∧
  ∀ H' : Hp, WinN C H H' p room reach (clock + m) (settle room (clock + m - reach) bs) → But p H H' → Q .non H'
def spLast (C : Addr) : Sp := fun vs H Q _ => ∃ (p : Addr) (m room reach clock : Int) (bs : List Bx), vs = [.ref p, .int m] ∧ WinAt C H p room reach clock bs ∧ 1 ≤ m ∧ m ≤ reach ∧
  ∀ (H' : Hp) (q : Addr), Same H H' → H' q = some (.tup [.int (lastOf (clock - m) bs).1, .int ((lastOf (clock - m) bs).1 + (lastOf (clock - m) bs).2)]) → Q (.ref q) H'
section
variable {P : Program} {w : World} {K : PySem.W.Frag} {mg : Str → Option Value} {base : Heap}
theorem ok_init {f C : Addr} {fd : FuncData} (F : Fun K "__init__" "Window.__init__" sInit f fd) (T : Txt K mg C) : FnOk P w K mg base CX0 1 f fd ["self", "room", "reach"] (spInit C) := by
  refine F.ok scInit (fun vs H Q E h => ?_) (fun cdv A outer s H vs Q E hr h => ?_)
  · obtain ⟨p, dx, room, reach, rfl, _⟩ := h
    rfl
  · obtain ⟨p, dx, room, reach, rfl, hp, k⟩ := h
    refine ⟨_, pss_cons (ps_fld (pv 0) (pv 1) rfl) (pss_cons (ps_fld (pv 0) (pv 2) rfl) (pss_cons (ps_fld (pv 0) pe_int rfl) (pss_one (ps_fld (pv 0) (pe_lst pa_nil) rfl)))), ?_⟩
    refine ⟨_, rfl, _, rfl, p, C, dx, _, rfl, hp, T.cl, T.nRoom, (by show 0 < 1000; decide), ?_⟩
    refine ⟨_, rfl, _, rfl, p, C, dx, _, rfl, upd_same, T.cl, T.nReach, (by show 1 < 1000; decide), ?_⟩
    rw [upd_upd]
    refine ⟨_, rfl, p, C, dx, _, rfl, upd_same, T.cl, T.nClock, Nat.lt_of_le_of_lt (length_putF _ _ _) (by show 1 + 1 < 1000; decide), ?_⟩
    rw [upd_upd]
    refine ⟨Nat.zero_le _, fun l nl => ?_⟩
    have npl : p ≠ l := fun z => by
      rw [z, upd_same] at nl
      cases nl
    have nl' : H l = none := by
      rw [upd_ne npl.symm] at nl
      exact nl
    refine ⟨_, rfl, p, C, dx, _, rfl, (upd_ne npl).trans upd_same, T.cl, T.nBoxes, Nat.lt_of_le_of_lt (length_putF _ _ _) (Nat.lt_of_le_of_lt (Nat.succ_le_succ (length_putF _ _ _)) (by show 1 + 1 + 1 < 1000; decide)), ?_⟩
    refine k _ ⟨dx, l, [], upd_same, by rw [upd_ne npl.symm, upd_same], .nil⟩ fun b o e n => ?_
    rw [upd_ne n, upd_ne (ne_of_none e nl'), upd_ne n]
    exact e
theorem ok_add {f C fS : Addr} {fd fdS : FuncData} (F : Fun K "add" "Window.add" sAdd f fd) (T : Txt K mg C) (G : FnOk P w K mg base CX0 1 fS fdS ["boxes", "room", "edge"] (spSettled K)) (D : Df K mg "settled_boxes" sSettled ["boxes", "room", "edge"] fS fdS) : FnOk P w K mg base CX0 2 f fd ["self", "weight"] (spAdd C) := by
  refine F.ok scAdd (fun vs H Q E h => ?_) (fun cdv A outer s H vs Q E hr h => ?_)
  · obtain ⟨p, wt, room, reach, clock, bs, rfl, _⟩ := h
    rfl
  · obtain ⟨p, wt, room, reach, clock, bs, rfl, ⟨dx, l, xs, hp, hl, hb⟩, hlen, hroom, k⟩ := h
    have nd := scAdd.nd
    have hxl : xs.length ≤ 900 := by rw [Paired.length hb]; exact hlen
    refine ⟨_, pss_cons (ps_fldaug (pv 0) pe_int in_add) (pss_cons (ps_set (i := 2) nd rfl (.inl rfl) (pe_op op_cat (pe_fld (pv 0) rfl) (pe_lst (pa_cons (pe_tup (pa_cons (pe_fld (pv 0) rfl) (pa_cons (pe_fld (pv 0) rfl) (pa_cons (pv 1) pa_nil)))) pa_nil))))
      (pss_one (ps_fld (pv 0) (pe_call G hr (by rfl) D.gl D.fn.kp D.bd .nil pass0 (pa_cons (pv 2) (pa_cons (pe_fld (pv 0) rfl) (pa_cons (pe_op op_sub (pe_fld (pv 0) rfl) (pe_fld (pv 0) rfl)) pa_nil)))) rfl))), ?_⟩
    have npl : l ≠ p := ne_of hl hp (by intro z; cases z)
    -- self.clock += 1
    refine ⟨_, rfl, p, C, dx, _, _, rfl, hp, T.cl, T.nClock, wf_clock _ _ _ _, _, _, rfl, rfl, dx, _, hp, wf_len _ _ _ _, ?_⟩
    rw [wf_put_clock]
    generalize hH1 : upd H p (.ins C dx (wf room reach (clock + 1) l)) = H1
    have hp1 : H1 p = some (.ins C dx (wf room reach (clock + 1) l)) := by rw [← hH1]; exact upd_same
    have b1 : But p H H1 := by rw [← hH1]; exact But.upd
    have hl1 : H1 l = some (.lst xs) := b1 _ _ hl npl
    have hb1 : Bxs H1 xs bs := bxs_tk (But.tk hp b1) hb
    -- boxes = self.boxes + [(self.clock, self.clock, weight)]
    refine ⟨_, rfl, p, C, dx, _, _, rfl, hp1, T.cl, T.nBoxes, wf_boxes _ _ _ _, ?_⟩
    refine ⟨_, rfl, p, C, dx, _, _, rfl, hp1, T.cl, T.nClock, wf_clock _ _ _ _, _, rfl, p, C, dx, _, _, rfl, hp1, T.cl, T.nClock, wf_clock _ _ _ _, _, rfl, small (by show 3 ≤ 1000; decide), fun m nm => ?_⟩
    refine ⟨small (by show 1 ≤ 1000; decide), fun n nn => ?_⟩
    have s2 := (same_upd (o := .tup [.int (clock + 1), .int (clock + 1), .int wt]) nm).trans (same_upd (o := .lst [.ref m]) nn)
    have hm : (upd (upd H1 m (.tup [.int (clock + 1), .int (clock + 1), .int wt])) n (.lst [.ref m])) m = some (.tup [.int (clock + 1), .int (clock + 1), .int wt]) := same_upd nn _ _ upd_same
    refine ⟨l, n, xs, [.ref m], rfl, rfl, s2 _ _ hl1, upd_same, small (by show xs.length + 1 ≤ 1000; omega), fun q nq => ?_⟩
    have s3 := s2.trans (same_upd (o := .lst (xs ++ [.ref m])) nq)
    generalize hH3 : upd (upd (upd H1 m (.tup [.int (clock + 1), .int (clock + 1), .int wt])) n (.lst [.ref m])) q (.lst (xs ++ [.ref m])) = H3 at s3
    have hq3 : H3 q = some (.lst (xs ++ [.ref m])) := by rw [← hH3]; exact upd_same
    have hm3 : H3 m = some (.tup [.int (clock + 1), .int (clock + 1), .int wt]) := by rw [← hH3]; exact same_upd nq _ _ hm
    have hp3 := s3 _ _ hp1
    -- self.boxes = settled_boxes(boxes, self.room, self.clock - self.reach)
    refine ⟨_, rfl, _, rfl, p, C, dx, _, _, rfl, hp3, T.cl, T.nRoom, wf_room _ _ _ _, _, rfl, p, C, dx, _, _, rfl, hp3, T.cl, T.nClock, wf_clock _ _ _ _, _, rfl, p, C, dx, _, _, rfl, hp3, T.cl, T.nReach, wf_reach _ _ _ _, _, _, rfl, rfl, ?_⟩
    refine ⟨q, xs ++ [.ref m], bs ++ [⟨clock + 1, clock + 1, wt⟩], room, clock + 1 - reach, rfl, hq3, Paired.snoc (bxs_tk (Same.tk s3) hb1) ⟨m, rfl, hm3⟩, by rw [List.length_append, List.length_singleton]; omega, hroom, fun H4 u ys s4 nu hu hy => ?_⟩
    have hp4 := s4 _ _ hp3
    refine ⟨_, rfl, p, C, dx, _, rfl, hp4, T.cl, T.nBoxes, wf_len _ _ _ _, ?_⟩
    rw [wf_put_boxes]
    have nup : u ≠ p := (ne_of_none hp3 nu).symm
    have nu0 : H u = none := by
      cases e : H u with
      | none => rfl
      | some o => rw [s3 _ _ (b1 _ _ e nup)] at nu; cases nu
    refine k _ ⟨dx, u, ys, nu0, upd_same, by rw [upd_ne nup]; exact hu, bxs_tk (But.tk hp4 But.upd) hy⟩ ?_
    exact But.trans b1 (But.trans (But.of_same s3) (But.trans (But.of_same s4) But.upd))
theorem ok_idle {f C fS : Addr} {fd fdS : FuncData} (F : Fun K "idle" "Window.idle" sIdle f fd) (T : Txt K mg C) (G : FnOk P w K mg base CX0 1 fS fdS ["boxes", "room", "edge"] (spSettled K)) (D : Df K mg "settled_boxes" sSettled ["boxes", "room", "edge"] fS fdS) : FnOk P w K mg base CX0 2 f fd ["self", "many"] (spIdle C) := by
  refine F.ok scIdle (fun vs H Q E h => ?_) (fun cdv A outer s H vs Q E hr h => ?_)
  · obtain ⟨p, m, room, reach, clock, bs, rfl, _⟩ := h
    rfl
  · obtain ⟨p, m, room, reach, clock, bs, rfl, ⟨dx, l, xs, hp, hl, hb⟩, hlen, hroom, k⟩ := h
    have hxl : xs.length ≤ 900 := by rw [Paired.length hb]; exact hlen
    refine ⟨_, pss_cons (ps_fldaug (pv 0) (pv 1) in_add)
      (pss_one (ps_fld (pv 0) (pe_call G hr (by rfl) D.gl D.fn.kp D.bd .nil pass0 (pa_cons (pe_fld (pv 0) rfl) (pa_cons (pe_fld (pv 0) rfl) (pa_cons (pe_op op_sub (pe_fld (pv 0) rfl) (pe_fld (pv 0) rfl)) pa_nil)))) rfl)), ?_⟩
    have npl : l ≠ p := ne_of hl hp (by intro z; cases z)
    refine ⟨_, rfl, p, C, dx, _, _, rfl, hp, T.cl, T.nClock, wf_clock _ _ _ _, _, rfl, _, _, rfl, rfl, dx, _, hp, wf_len _ _ _ _, ?_⟩
    rw [wf_put_clock]
    generalize hH1 : upd H p (.ins C dx (wf room reach (clock + m) l)) = H1
    have hp1 : H1 p = some (.ins C dx (wf room reach (clock + m) l)) := by rw [← hH1]; exact upd_same
    have b1 : But p H H1 := by rw [← hH1]; exact But.upd
    have hl1 : H1 l = some (.lst xs) := b1 _ _ hl npl
    have hb1 : Bxs H1 xs bs := bxs_tk (But.tk hp b1) hb
    refine ⟨_, rfl, p, C, dx, _, _, rfl, hp1, T.cl, T.nBoxes, wf_boxes _ _ _ _, _, rfl, p, C, dx, _, _, rfl, hp1, T.cl, T.nRoom, wf_room _ _ _ _, _, rfl, p, C, dx, _, _, rfl, hp1, T.cl, T.nClock, wf_clock _ _ _ _, _, rfl, p, C, dx, _, _, rfl, hp1, T.cl, T.nReach, wf_reach _ _ _ _, _, _, rfl, rfl, ?_⟩
    refine ⟨l, xs, bs, room, clock + m - reach, rfl, hl1, hb1, by omega, hroom, fun H4 u ys s4 nu hu hy => ?_⟩
    have hp4 := s4 _ _ hp1
    refine ⟨_, rfl, p, C, dx, _, rfl, hp4, T.cl, T.nBoxes, wf_len _ _ _ _, ?_⟩
    rw [wf_put_boxes]
    have nup : u ≠ p := (ne_of_none hp1 nu).symm
    have nu0 : H u = none := by
      cases e : H u with
      | none => rfl
      | some o => rw [b1 _ _ e nup] at nu; cases nu
    refine k _ ⟨dx, u, ys, nu0, upd_same, by rw [upd_ne nup]; exact hu, bxs_tk (But.tk hp4 But.upd) hy⟩ ?_
    exact But.trans b1 (But.trans (But.of_same s4) But.upd)
theorem lastOf_take {edge : Int} {bs : List Bx} {i : Nat} {b : Bx} (h : bs[i]? = some b) : lastOf edge (bs.take (i + 1)) = lstep edge (lastOf edge (bs.take i)) b := by
  unfold lastOf
  rw [List.take_add_one, h, List.foldl_append]
  rfl
theorem ok_last {f C : Addr} {fd : FuncData} (F : Fun K "last" "Window.last" sLast f fd) (T : Txt K mg C) : FnOk P w K mg base CX0 1 f fd ["self", "many"] (spLast C) := by
  refine F.ok scLast (fun vs H Q E h => ?_) (fun cdv A outer s H vs Q E hr h => ?_)
  · obtain ⟨p, m, room, reach, clock, bs, rfl, _⟩ := h
    rfl
  · obtain ⟨p, m, room, reach, clock, bs, rfl, ⟨dx, l, xs, hp, hl, hb⟩, hm1, hm2, k⟩ := h
    have nd := scLast.nd
    refine ⟨_, pss_cons (ps_if (PW.pt (pw_or (pt_cmpR op_lt (pv 1) pe_int (nomark _)) (pw_or1 (pt_cmpR op_gt (pv 1) (pe_fld (pv 0) rfl) (nomark _))))) (pss_one ps_never) pss_nil)
      (pss_cons (ps_set (i := 2) nd rfl (.inl rfl) (pe_op op_sub (pe_fld (pv 0) rfl) (pv 1))) (pss_cons (ps_set (i := 3) nd rfl (.inl rfl) pe_int) (pss_cons (ps_set (i := 4) nd rfl (.inl rfl) pe_int)
      (pss_cons (ps_for PassesOwn.never rfl (pi_list (pe_fld (pv 0) rfl)) (pg_tup rfl (pgs_cons (pg_name (i := 5) nd rfl (.inl rfl)) (pgs_cons (pg_name (i := 6) nd rfl (.inl rfl)) (pgs_cons (pg_name (i := 7) nd rfl (.inl rfl)) pgs_nil))))
        (pss_one (ps_if (pt_cmpR op_gt (pv 5) (pv 2) (nomark _)) (pss_one (ps_aug (i := 3) nd rfl (.inl rfl) (pv 7) ip_add))
          (pss_one (ps_if (pt_cmpR op_gt (pv 6) (pv 2) (nomark _)) (pss_one (ps_set (i := 4) nd rfl (.inl rfl) (pv 7))) pss_nil)))))
      (pss_one (ps_ret (pe_tup (pa_cons (pv 3) (pa_cons (pe_op op_add (pv 3) (pv 4)) pa_nil))))))))), ?_⟩
    -- the two bounds
    refine ⟨_, rfl, _, _, rfl, rfl, _, rfl, ?_⟩
    refine ite2 (fun z => absurd (of_decide_eq_true z) (by omega)) (fun _ => ?_)
    refine ⟨_, rfl, _, rfl, p, C, dx, _, _, rfl, hp, T.cl, T.nReach, wf_reach _ _ _ _, _, _, rfl, rfl, _, rfl, ?_⟩
    refine ite2 (fun z => absurd (of_decide_eq_true z) (by omega)) (fun _ => ?_)
    -- edge, low, cut
    refine ⟨_, rfl, p, C, dx, _, _, rfl, hp, T.cl, T.nClock, wf_clock _ _ _ _, _, rfl, _, _, rfl, rfl, ?_⟩
    refine ⟨_, rfl, p, C, dx, _, _, rfl, hp, T.cl, T.nBoxes, wf_boxes _ _ _ _, l, rfl, ⟨_, SqL.of hl⟩, for_list (K := K) (a := l) (xs := xs) (fun i σ H' => ∃ v5 v6 v7 : Option V,
      σ = [some (.ref p), some (.int m), some (.int (clock - m)), some (.int (lastOf (clock - m) (bs.take i)).1), some (.int (lastOf (clock - m) (bs.take i)).2), v5, v6, v7] ∧ H' = H) ⟨none, none, none, rfl, rfl⟩ (fun i σ H' _ ⟨_, _, _, _, e⟩ => by rw [e]; exact SqL.of hl) ?_ ?_⟩
    · rintro i x σ H' hx ⟨v5, v6, v7, rfl, rfl⟩
      obtain ⟨b, hb1, q, rfl, hq⟩ := paired_get hb hx
      refine ⟨q, _, rfl, SqT.of hq, rfl, _, _, rfl, _, _, rfl, _, _, rfl, rfl, ?_⟩
      have et := lastOf_take (edge := clock - m) hb1
      refine ⟨_, rfl, _, rfl, _, _, rfl, rfl, _, rfl, ite2 (fun c => ?_) (fun c => ?_)⟩
      · have c' : clock - m < b.f := of_decide_eq_true c
        refine ⟨_, rfl, _, rfl, _, _, rfl, rfl, some (.int b.f), some (.int b.l), some (.int b.s), ?_, rfl⟩
        rw [et, show lstep (clock - m) (lastOf (clock - m) (bs.take i)) b = _ from if_pos c']
        rfl
      · have c' : ¬ clock - m < b.f := fun z => c (decide_eq_true z)
        refine ⟨_, rfl, _, rfl, _, _, rfl, rfl, _, rfl, ite2 (fun d => ?_) (fun d => ?_)⟩
        · have d' : clock - m < b.l := of_decide_eq_true d
          refine ⟨_, rfl, some (.int b.f), some (.int b.l), some (.int b.s), ?_, rfl⟩
          rw [et, show lstep (clock - m) (lastOf (clock - m) (bs.take i)) b = _ from (if_neg c').trans (if_pos d')]
          rfl
        · have d' : ¬ clock - m < b.l := fun z => d (decide_eq_true z)
          refine ⟨some (.int b.f), some (.int b.l), some (.int b.s), ?_, rfl⟩
          rw [et, show lstep (clock - m) (lastOf (clock - m) (bs.take i)) b = _ from (if_neg c').trans (if_neg d')]
          rfl
    · rintro σ H' ⟨v5, v6, v7, rfl, rfl⟩
      have ef : bs.take xs.length = bs := List.take_of_length_le (by rw [Paired.length hb]; exact Nat.le_refl _)
      rw [ef]
      refine ⟨_, rfl, _, rfl, _, rfl, _, _, rfl, rfl, small (by show 2 ≤ 1000; decide), fun q nq => ?_⟩
      exact k _ q (same_upd nq) upd_same
end
end Sk

namespace Sk
open PySem L2
theorem pow_pos1 {r : Int} (h : 1 ≤ r) : ∀ n : Nat, 1 ≤ r ^ n
  | 0 => by rw [Int.pow_zero]; exact Int.le_refl _
  | n + 1 => by
    have ih := pow_pos1 h n
    rw [Int.pow_succ]
    have := Int.mul_le_mul ih h (by omega) (by omega)
    omega
theorem pow_up {r : Int} (h : 1 ≤ r) : ∀ n : Nat, r ^ n ≤ (r + 1) ^ n
  | 0 => by rw [Int.pow_zero, Int.pow_zero]; exact Int.le_refl _
  | n + 1 => by
    have ih := pow_up h n
    have p := pow_pos1 h n
    rw [Int.pow_succ, Int.pow_succ]
    exact Int.mul_le_mul ih (by omega) (by omega) (by omega)
theorem bern {r : Int} (h : 1 ≤ r) : ∀ n : Nat, ((n : Int) + 1) * r ^ n ≤ (r + 1) ^ (n + 1)
  | 0 => by
    rw [Int.pow_zero, Int.pow_succ, Int.pow_zero]
    show (((0 : Nat) : Int) + 1) * 1 ≤ 1 * (r + 1)
    omega
  | n + 1 => by
    have ih := Int.mul_le_mul_of_nonneg_right (bern h n) (show (0 : Int) ≤ r by omega)
    have up := pow_up h (n + 1)
    rw [Int.pow_succ (r + 1) (n + 1), Int.mul_add, Int.mul_one]
    have e : (((n + 1 : Nat) : Int) + 1) * r ^ (n + 1) = ((n : Int) + 1) * r ^ n * r + r ^ (n + 1) := by
      have e1 : ((n + 1 : Nat) : Int) = (n : Int) + 1 := rfl
      rw [e1, Int.add_mul ((n : Int) + 1) 1, Int.one_mul, Int.mul_assoc, ← Int.pow_succ]
    rw [e]
    exact Int.add_le_add ih up
theorem few_turns {r t : Int} (h : 1 ≤ r) {p : Nat} (hp : (r + 1) ^ (p + 1) < t * r ^ (p + 1)) : (p : Int) < t * r := by
  have b := bern h p
  have pos := pow_pos1 h p
  have e : t * r ^ (p + 1) = t * r * r ^ p := by rw [Int.pow_succ, Int.mul_comm (r ^ p) r, Int.mul_assoc]
  rw [e] at hp
  have := Int.lt_of_mul_lt_mul_right (Int.lt_of_le_of_lt b hp) (by omega)
  omega
def spMost : Sp := fun vs H Q _ => ∃ room total : Int, vs = [.int room, .int total] ∧ 1 ≤ room ∧ room ≤ 1000 ∧ 0 ≤ total ∧ (total = 0 → Q (.int 0) H) ∧
  ∀ p : Nat, 0 < total → ¬ (room + 1) ^ (p + 1) < total * room ^ (p + 1) → Q (.int (2 + 2 * (p : Int))) H
section
variable {P : Program} {w : World} {K : PySem.W.Frag} {mg : Str → Option Value} {base : Heap}
theorem ok_most {f : Addr} {fd : FuncData} (F : Fun K "most_boxes" "most_boxes" sMost f fd) : FnOk P w K mg base CX0 1 f fd ["room", "total"] spMost := by
  refine F.ok scMost (fun vs H Q E h => ?_) (fun cdv A outer s H vs Q E hr h => ?_)
  · obtain ⟨room, total, rfl, _⟩ := h
    rfl
  · obtain ⟨room, total, rfl, h1, h2, h3, k0, k⟩ := h
    have nd := scMost.nd
    refine ⟨_, pss_cons (ps_if (pt_cmpR op_eq (pv 1) pe_int (nomark _)) (pss_one (ps_ret pe_int)) pss_nil) (pss_cons (ps_set (i := 2) nd rfl (.inl rfl) pe_int) (pss_cons (ps_set (i := 3) nd rfl (.inl rfl) (pe_op op_add (pv 0) pe_int))
      (pss_cons (ps_set (i := 4) nd rfl (.inl rfl) (pe_op op_mul (pv 1) (pv 0)))
      (pss_cons (ps_while PassesOwn.never (pt_cmpR op_lt (pv 3) (pv 4) (nomark _)) (pss_cons (ps_aug (i := 2) nd rfl (.inl rfl) pe_int ip_add) (pss_cons (ps_aug (i := 3) nd rfl (.inl rfl) (pe_op op_add (pv 0) pe_int) iop_mul) (pss_one (ps_aug (i := 4) nd rfl (.inl rfl) (pv 0) iop_mul)))))
      (pss_one (ps_ret (pe_op op_add pe_int (pe_op op_mul pe_int (pv 2))))))))), ?_⟩
    refine ⟨_, rfl, rfl, _, rfl, ite2 (fun c => k0 (V.int.inj (of_decide_eq_true c))) (fun c => ?_)⟩
    have c' : 0 < total := by
      have : ¬ total = 0 := fun z => c (decide_eq_true (by rw [z]))
      omega
    refine ⟨_, rfl, _, _, rfl, rfl, ?_⟩
    refine ⟨_, rfl, _, rfl, _, _, rfl, rfl, .inr ⟨by omega, by omega⟩, ?_⟩
    refine ⟨fun m σ H' => ∃ p : Nat, m = (total * room).toNat - p ∧ σ = [some (.int room), some (.int total), some (.int (p : Int)), some (.int ((room + 1) ^ (p + 1))), some (.int (total * room ^ (p + 1)))] ∧ H' = H, ⟨_, 0, rfl, ?_, rfl⟩, ?_⟩
    · rw [show (room + 1) ^ (0 + 1) = room + 1 by rw [Int.pow_succ, Int.pow_zero, Int.one_mul], show room ^ (0 + 1) = room by rw [Int.pow_succ, Int.pow_zero, Int.one_mul]]
      rfl
    · rintro m σ H' ⟨p, rfl, rfl, rfl⟩
      refine ⟨_, rfl, _, rfl, _, _, rfl, rfl, _, rfl, ite2 (fun d => ?_) (fun d => ?_)⟩
      · have d' : (room + 1) ^ (p + 1) < total * room ^ (p + 1) := of_decide_eq_true d
        have hp := few_turns h1 d'
        refine ⟨fun σ' H2 => σ' = [some (.int room), some (.int total), some (.int ((p + 1 : Nat) : Int)), some (.int ((room + 1) ^ (p + 1 + 1))), some (.int (total * room ^ (p + 1 + 1)))] ∧ H2 = H', fun σ' H2 ⟨e1, e2⟩ => ⟨_, ?_, p + 1, rfl, e1, e2⟩, ?_⟩
        · omega
        · refine ⟨_, rfl, _, _, rfl, rfl, ?_⟩
          refine ⟨_, rfl, _, rfl, _, _, rfl, rfl, _, _, rfl, rfl, .inr ⟨by omega, by omega⟩, ?_⟩
          refine ⟨_, rfl, _, rfl, _, _, rfl, rfl, .inr ⟨by omega, by omega⟩, ?_, rfl⟩
          rw [Int.pow_succ (room + 1) (p + 1), Int.pow_succ room (p + 1), ← Int.mul_assoc total]
          rfl
      · have d' : ¬ (room + 1) ^ (p + 1) < total * room ^ (p + 1) := fun z => d (decide_eq_true z)
        refine ⟨_, rfl, _, _, rfl, rfl, .inl ⟨by decide, by decide⟩, _, _, rfl, rfl, ?_⟩
        exact k p c' d'
end
end Sk

namespace Sk
open PySem L2
def spWhole : Sp := fun vs H Q _ => ∃ i : Int, vs = [.int i] ∧ Q (.bl true) H
def spCell (K : PySem.W.Frag) : Sp := fun vs H Q _ => ∃ (a : Addr) (ns : List Int) (k : Nat), vs = [.ref a, .int (k : Int)] ∧ SqL K H a (ns.map V.int) ∧ ∀ z : Int, Q (.int z) H
def spMix : Sp := fun vs H Q _ => ∃ c f p : Int, vs = [.int c, .int f, .int p] ∧ 0 < p ∧ (-(2 ^ 64) < f ∧ f < 2 ^ 64) ∧ ∀ z : Int, 0 ≤ z → Q (.int z) H
def spReach : Sp := fun vs H Q _ => ∃ c : Int, vs = [.int c] ∧ ∀ (H' : Hp) (z : Int), Same H H' → 1 ≤ z → Q (.int z) H'
def spRoom : Sp := fun vs H Q _ => ∃ c : Int, vs = [.int c] ∧ ∀ (H' : Hp) (z : Int), Same H H' → 2 ≤ z → z ≤ 64 → Q (.int z) H'
def spWeight : Sp := fun vs H Q _ => ∃ c : Int, vs = [.int c] ∧ ∀ z : Int, 1 ≤ z → Q (.int z) H
def spEvent : Sp := fun vs H Q _ => ∃ c r : Int, vs = [.int c, .int r] ∧ 1 ≤ r ∧
  (∀ (H' : Hp) (q : Addr) (m : Int), Same H H' → H q = none → H' q = some (.tup [.str "idle", .int m]) → 1 ≤ m → Q (.ref q) H') ∧
  ∀ (H' : Hp) (q : Addr) (m : Int), Same H H' → H q = none → H' q = some (.tup [.str "add", .int m]) → 1 ≤ m → Q (.ref q) H'
/-- one of four, by a number under four -/
theorem four {α : Type} {a b c d : α} {i : Int} (h0 : 0 ≤ i) (h1 : i < 4) : ∃ x, atI [a, b, c, d] i = some x ∧ (x = a ∨ x = b ∨ x = c ∨ x = d) := by
  rcases (show i = 0 ∨ i = 1 ∨ i = 2 ∨ i = 3 by omega) with e | e | e | e
  · exact ⟨a, by rw [e]; exact atI_nat (j := 0) rfl, .inl rfl⟩
  · exact ⟨b, by rw [e]; exact atI_nat (j := 1) rfl, .inr (.inl rfl)⟩
  · exact ⟨c, by rw [e]; exact atI_nat (j := 2) rfl, .inr (.inr (.inl rfl))⟩
  · exact ⟨d, by rw [e]; exact atI_nat (j := 3) rfl, .inr (.inr (.inr rfl))⟩
section
variable {P : Program} {w : World} {K : PySem.W.Frag} {mg : Str → Option Value} {base : Heap}
theorem ok_whole {f : Addr} {fd : FuncData} (F : Fun K "_law_whole" "_law_whole" sWhole f fd) (B : Blt mg) : FnOk P w K mg base CX0 1 f fd ["_law_found"] spWhole := by
  refine F.ok scWhole (fun vs H Q E h => ?_) (fun cdv A outer s H vs Q E hr h => ?_)
  · obtain ⟨i, rfl, _⟩ := h
    rfl
  · obtain ⟨i, rfl, k⟩ := h
    refine ⟨_, pss_one (ps_ret (pe_and (pe_callB call_isi (by rfl) B.isinstance (by decide +kernel) (pa_cons (pv 0) (pa_cons (pe_bltn (v := .ty "int") (by rfl) B.int (by decide +kernel) rfl) pa_nil)))
      (pe_one (pe_not (pe_callB call_isi (by rfl) B.isinstance (by decide +kernel) (pa_cons (pv 0) (pa_cons (pe_bltn (v := .ty "bool") (by rfl) B.bool (by decide +kernel) rfl) pa_nil))))))), ?_⟩
    refine ⟨_, rfl, _, _, _, _, true, rfl, .ty _, .base (.int _), kit_ty (by decide +kernel), true, rfl, iteT ?_⟩
    exact ⟨_, rfl, _, _, _, _, false, rfl, .ty _, .base (.int _), kit_ty (by decide +kernel), false, rfl, k⟩
theorem ok_cell {f : Addr} {fd : FuncData} (F : Fun K "_law_cell_at" "_law_cell_at" sCell f fd) (B : Blt mg) : FnOk P w K mg base CX0 1 f fd ["_law_script", "_law_k"] (spCell K) := by
  refine F.ok scCell (fun vs H Q E h => ?_) (fun cdv A outer s H vs Q E hr h => ?_)
  · obtain ⟨a, ns, k, rfl, _⟩ := h
    rfl
  · obtain ⟨a, ns, k, rfl, hS, q⟩ := h
    refine ⟨_, pss_cons (ps_if (pt_cmpR op_lt (pv 1) (pe_callB call_len_seq (by rfl) B.len PySem.boot_len (pa_cons (pv 0) pa_nil)) (nomark _)) (pss_one (ps_ret (pe_ix ix_list (pv 0) (pv 1) (fun _ _ => rfl)))) pss_nil) (pss_one (ps_ret pe_int)), ?_⟩
    refine ⟨_, rfl, _, rfl, a, _, rfl, .inl hS, _, _, rfl, rfl, _, rfl, ite2 (fun c => ?_) (fun c => q 0)⟩
    have c' : (k : Int) < ((ns.map V.int).length : Int) := of_decide_eq_true c
    have hk : k < ns.length := by
      rw [List.length_map] at c'
      omega
    have e : (ns.map V.int)[k]? = some (.int ns[k]) := by
      rw [List.getElem?_map, List.getElem?_eq_getElem hk]
      rfl
    exact ⟨_, rfl, _, rfl, a, _, _, _, rfl, rfl, hS, atI_nat e, q _⟩
theorem ok_mix {f : Addr} {fd : FuncData} (F : Fun K "_law_mix" "_law_mix" sMix f fd) : FnOk P w K mg base CX0 1 f fd ["_law_cell", "_law_factor", "_law_prime"] spMix := by
  refine F.ok scMix (fun vs H Q E h => ?_) (fun cdv A outer s H vs Q E hr h => ?_)
  · obtain ⟨c, x, p, rfl, _⟩ := h
    rfl
  · obtain ⟨c, x, p, rfl, hp, hx, q⟩ := h
    refine ⟨_, pss_one (ps_ret (pe_op op_mod (pe_op op_mul (pv 0) (pv 1)) (pv 2))), ?_⟩
    exact ⟨_, rfl, _, rfl, _, _, rfl, rfl, .inr hx, _, rfl, _, _, rfl, rfl, hp, q _ (Int.emod_nonneg _ (by omega))⟩
theorem ok_reach {f : Addr} {fd : FuncData} (F : Fun K "_law_reach_by" "_law_reach_by" sReach f fd) : FnOk P w K mg base CX0 1 f fd ["_law_cell"] spReach := by
  refine F.ok scReach (fun vs H Q E h => ?_) (fun cdv A outer s H vs Q E hr h => ?_)
  · obtain ⟨c, rfl, _⟩ := h
    rfl
  · obtain ⟨c, rfl, q⟩ := h
    refine ⟨_, pss_one (ps_ret (pe_ix ix_list (pe_lst (pa_cons (pe_op op_add pe_int (pe_op op_mod (pe_op op_fdiv (pv 0) pe_int) pe_int)) (pa_cons (pe_op op_add pe_int (pe_op op_mod (pe_op op_fdiv (pv 0) pe_int) pe_int))
      (pa_cons (pe_op op_sub pe_int (pe_op op_mod (pe_op op_fdiv (pv 0) pe_int) pe_int)) (pa_cons (pe_op op_add pe_int (pe_op op_mod (pe_op op_fdiv (pv 0) pe_int) pe_int)) pa_nil))))) (pe_op op_mod (pv 0) pe_int) (fun _ _ => rfl))), ?_⟩
    refine ⟨_, rfl, _, _, rfl, rfl, ⟨by decide, by decide⟩, _, _, rfl, rfl, (by show (0 : Int) < 12; decide), _, _, rfl, rfl, ?_⟩
    refine ⟨_, rfl, _, _, rfl, rfl, ⟨by decide, by decide⟩, _, _, rfl, rfl, (by show (0 : Int) < 70; decide), _, _, rfl, rfl, ?_⟩
    refine ⟨_, rfl, _, _, rfl, rfl, ⟨by decide, by decide⟩, _, _, rfl, rfl, (by show (0 : Int) < 5; decide), _, _, rfl, rfl, ?_⟩
    refine ⟨_, rfl, _, _, rfl, rfl, ⟨by decide, by decide⟩, _, _, rfl, rfl, (by show (0 : Int) < 1000000000; decide), _, _, rfl, rfl, ?_⟩
    refine ⟨small (by show 4 ≤ 1000; decide), fun l nl => ?_⟩
    refine ⟨_, rfl, _, _, rfl, rfl, (by show (0 : Int) < 4; decide), ?_⟩
    obtain ⟨x, e, hx⟩ := four (a := V.int (1 + c / 4 % 12)) (b := V.int (1 + c / 4 % 70)) (c := V.int (1000000000 - c / 4 % 5)) (d := V.int (1 + c / 4 % 1000000000)) (Int.emod_nonneg c (show (4 : Int) ≠ 0 by decide)) (Int.emod_lt_of_pos c (show (0 : Int) < 4 by decide))
    refine ⟨l, _, _, x, rfl, rfl, SqL.of upd_same, e, ?_⟩
    rcases hx with rfl | rfl | rfl | rfl
    · exact q _ _ (same_upd nl) (by omega)
    · exact q _ _ (same_upd nl) (by omega)
    · exact q _ _ (same_upd nl) (by omega)
    · exact q _ _ (same_upd nl) (by omega)
theorem ok_room {f : Addr} {fd : FuncData} (F : Fun K "_law_room_by" "_law_room_by" sRoom f fd) : FnOk P w K mg base CX0 1 f fd ["_law_cell"] spRoom := by
  refine F.ok scRoom (fun vs H Q E h => ?_) (fun cdv A outer s H vs Q E hr h => ?_)
  · obtain ⟨c, rfl, _⟩ := h
    rfl
  · obtain ⟨c, rfl, q⟩ := h
    refine ⟨_, pss_cons (ps_if (pt_cmpR op_eq (pe_op op_mod (pv 0) pe_int) pe_int (nomark _)) (pss_one (ps_ret (pe_op op_add pe_int (pe_op op_mul pe_int (pe_op op_mod (pe_op op_fdiv (pv 0) pe_int) pe_int))))) pss_nil)
      (pss_one (ps_ret (pe_ix ix_list (pe_lst (pa_cons pe_int (pa_cons pe_int (pa_cons pe_int (pa_cons pe_int pa_nil))))) (pe_op op_mod (pv 0) pe_int) (fun _ _ => rfl)))), ?_⟩
    refine ⟨_, rfl, _, _, rfl, rfl, (by show (0 : Int) < 8; decide), rfl, _, rfl, ite2 (fun _ => ?_) (fun _ => ?_)⟩
    · refine ⟨_, rfl, _, _, rfl, rfl, ⟨by decide, by decide⟩, _, _, rfl, rfl, (by show (0 : Int) < 32; decide), _, _, rfl, rfl, .inl ⟨by decide, by decide⟩, _, _, rfl, rfl, ?_⟩
      exact q _ _ (Same.refl _) (by omega) (by omega)
    · refine ⟨small (by show 4 ≤ 1000; decide), fun l nl => ?_⟩
      refine ⟨_, rfl, _, _, rfl, rfl, (by show (0 : Int) < 4; decide), ?_⟩
      obtain ⟨x, e, hx⟩ := four (a := V.int 2) (b := V.int 4) (c := V.int 6) (d := V.int 2) (Int.emod_nonneg c (show (4 : Int) ≠ 0 by decide)) (Int.emod_lt_of_pos c (show (0 : Int) < 4 by decide))
      refine ⟨l, _, _, x, rfl, rfl, SqL.of upd_same, e, ?_⟩
      rcases hx with rfl | rfl | rfl | rfl
      · exact q _ _ (same_upd nl) (by decide) (by decide)
      · exact q _ _ (same_upd nl) (by decide) (by decide)
      · exact q _ _ (same_upd nl) (by decide) (by decide)
      · exact q _ _ (same_upd nl) (by decide) (by decide)
end
end Sk

namespace Sk
open PySem L2
def spDo (C : Addr) : Sp := fun vs H Q _ => ∃ (p q : Addr) (m room reach clock : Int) (bs : List Bx), vs = [.ref p, .ref q] ∧ WinAt C H p room reach clock bs ∧ bs.length ≤ 900 ∧ (-(2 ^ 64) < room ∧ room < 2 ^ 64) ∧
  ((H q = some (.tup [.str "idle", .int m]) ∧ ∀ H' : Hp, WinN C H H' p room reach (clock + m) (settle room (clock + m - reach) bs) → But p H H' → Q .non H') ∨
    (H q = some (.tup [.str "add", .int m]) ∧ ∀ H' : Hp, WinN C H H' p room reach (clock + 1) (settle room (clock + 1 - reach) (bs ++ [⟨clock + 1, clock + 1, m⟩])) → But p H H' → Q .non H'))
section
variable {P : Program} {w : World} {K : PySem.W.Frag} {mg : Str → Option Value} {base : Heap}
theorem ok_weight {f fM : Addr} {fd fdM : FuncData} (F : Fun K "_law_weight_by" "_law_weight_by" sWeight f fd) (G : FnOk P w K mg base CX0 1 fM fdM ["_law_cell", "_law_factor", "_law_prime"] spMix) (D : Df K mg "_law_mix" sMix ["_law_cell", "_law_factor", "_law_prime"] fM fdM) : FnOk P w K mg base CX0 2 f fd ["_law_cell"] spWeight := by
  refine F.ok scWeight (fun vs H Q E h => ?_) (fun cdv A outer s H vs Q E hr h => ?_)
  · obtain ⟨c, rfl, _⟩ := h
    rfl
  · obtain ⟨c, rfl, q⟩ := h
    refine ⟨_, pss_cons (ps_if (pt_cmpR op_eq (pe_op op_mod (pv 0) pe_int) pe_int (nomark _)) (pss_one (ps_ret (pe_op op_add pe_int (pe_op op_mod (pe_op op_fdiv (pv 0) pe_int) pe_int)))) pss_nil)
      (pss_cons (ps_if (pt_cmpR op_eq (pe_op op_mod (pv 0) pe_int) pe_int (nomark _)) (pss_one (ps_ret (pe_op op_add pe_int (pe_op op_mod (pe_op op_fdiv (pv 0) pe_int) pe_int)))) pss_nil)
      (pss_cons (ps_if (pt_cmpR op_eq (pe_op op_mod (pv 0) pe_int) pe_int (nomark _)) (pss_one (ps_ret (pe_op op_sub pe_int (pe_op op_mod (pe_op op_fdiv (pv 0) pe_int) pe_int)))) pss_nil)
      (pss_one (ps_ret (pe_op op_add pe_int (pe_op op_mod (pe_call G hr (by rfl) D.gl D.fn.kp D.bd .nil pass0 (pa_cons (pv 0) (pa_cons pe_int (pa_cons pe_int pa_nil)))) pe_int)))))), ?_⟩
    refine ⟨_, rfl, _, _, rfl, rfl, (by show (0 : Int) < 4; decide), rfl, _, rfl, ite2 (fun _ => ?_) (fun _ => ?_)⟩
    · exact ⟨_, rfl, _, _, rfl, rfl, ⟨by decide, by decide⟩, _, _, rfl, rfl, (by show (0 : Int) < 5; decide), _, _, rfl, rfl, q _ (by omega)⟩
    refine ⟨_, rfl, _, _, rfl, rfl, (by show (0 : Int) < 4; decide), rfl, _, rfl, ite2 (fun _ => ?_) (fun _ => ?_)⟩
    · exact ⟨_, rfl, _, _, rfl, rfl, ⟨by decide, by decide⟩, _, _, rfl, rfl, (by show (0 : Int) < 1000000000000; decide), _, _, rfl, rfl, q _ (by omega)⟩
    refine ⟨_, rfl, _, _, rfl, rfl, (by show (0 : Int) < 4; decide), rfl, _, rfl, ite2 (fun _ => ?_) (fun _ => ?_)⟩
    · exact ⟨_, rfl, _, _, rfl, rfl, ⟨by decide, by decide⟩, _, _, rfl, rfl, (by show (0 : Int) < 3; decide), _, _, rfl, rfl, q _ (by omega)⟩
    refine ⟨_, rfl, c, 48271, 2147483647, rfl, by decide, ⟨by decide, by decide⟩, fun z hz => ?_⟩
    exact ⟨_, _, rfl, rfl, (by show (0 : Int) < 1000; decide), _, _, rfl, rfl, q _ (by omega)⟩
theorem ok_event {f fM fW : Addr} {fd fdM fdW : FuncData} (F : Fun K "_law_event_by" "_law_event_by" sEvent f fd) (B : Blt mg) (G : FnOk P w K mg base CX0 1 fM fdM ["_law_cell", "_law_factor", "_law_prime"] spMix) (D : Df K mg "_law_mix" sMix ["_law_cell", "_law_factor", "_law_prime"] fM fdM)
    (GW : FnOk P w K mg base CX0 2 fW fdW ["_law_cell"] spWeight) (DW : Df K mg "_law_weight_by" sWeight ["_law_cell"] fW fdW) : FnOk P w K mg base CX0 3 f fd ["_law_cell", "_law_reach"] spEvent := by
  refine F.ok scEvent (fun vs H Q E h => ?_) (fun cdv A outer s H vs Q E hr h => ?_)
  · obtain ⟨c, r, rfl, _⟩ := h
    rfl
  · obtain ⟨c, r, rfl, hr1, q1, q2⟩ := h
    have nd := scEvent.nd
    have hrM : Room 1 _ := hr.mono (by decide)
    refine ⟨_, pss_cons (ps_set (i := 2) nd rfl (.inl rfl) (pe_call G hrM (by rfl) D.gl D.fn.kp D.bd .nil pass0 (pa_cons (pv 0) (pa_cons pe_int (pa_cons pe_int pa_nil)))))
      (pss_cons (ps_if (pt_cmpR op_eq (pe_op op_mod (pv 2) pe_int) pe_int (nomark _)) (pss_one (ps_ret (pe_tup (pa_cons pe_str (pa_cons (pe_ix ix_list (pe_lst (pa_cons (pe_op op_add pe_int (pe_op op_mod (pe_op op_fdiv (pv 0) pe_int) pe_int)) (pa_cons (pv 1)
          (pa_cons (pe_callB (call_max2 rfl) (by rfl) B.max (by decide +kernel) (pa_cons pe_int (pa_cons (pe_op op_sub (pv 1) pe_int) pa_nil))) (pa_cons (pe_op op_add pe_int (pe_op op_mod (pe_op op_fdiv (pv 0) pe_int) pe_int)) pa_nil)))))
          (pe_op op_mod (pe_op op_fdiv (pv 2) pe_int) pe_int) (fun _ _ => rfl)) pa_nil))))) pss_nil)
      (pss_one (ps_ret (pe_tup (pa_cons pe_str (pa_cons (pe_call GW hr (by rfl) DW.gl DW.fn.kp DW.bd .nil pass0 (pa_cons (pe_op op_fdiv (pv 0) pe_int) pa_nil)) pa_nil)))))), ?_⟩
    refine ⟨_, rfl, c, 69621, 2147483629, rfl, by decide, ⟨by decide, by decide⟩, fun z hz => ?_⟩
    refine ⟨_, rfl, _, _, rfl, rfl, (by show (0 : Int) < 7; decide), rfl, _, rfl, ite2 (fun _ => ?_) (fun _ => ?_)⟩
    · refine ⟨_, rfl, _, _, rfl, rfl, ⟨by decide, by decide⟩, _, _, rfl, rfl, (by show (0 : Int) < 9; decide), _, _, rfl, rfl, ?_⟩
      refine ⟨_, rfl, _, rfl, _, _, rfl, rfl, _, _, rfl, ?_⟩
      refine ⟨_, rfl, _, _, rfl, rfl, ⟨by decide, by decide⟩, _, _, rfl, rfl, (by show (0 : Int) < 1000000000000; decide), _, _, rfl, rfl, ?_⟩
      refine ⟨small (by show 4 ≤ 1000; decide), fun l nl => ?_⟩
      refine ⟨_, rfl, _, _, rfl, rfl, ⟨by decide, by decide⟩, _, _, rfl, rfl, (by show (0 : Int) < 4; decide), ?_⟩
      have hx : ∃ m : Int, 1 ≤ m ∧ atI [V.int (1 + c / 7 % 9), V.int r, V.int (if r - 1 > 1 then r - 1 else 1), V.int (1 + c / 7 % 1000000000000)] (z / 7 % 4) = some (.int m) := by
        obtain ⟨x, e, hx⟩ := four (a := V.int (1 + c / 7 % 9)) (b := V.int r) (c := V.int (if r - 1 > 1 then r - 1 else 1)) (d := V.int (1 + c / 7 % 1000000000000)) (Int.emod_nonneg (z / 7) (show (4 : Int) ≠ 0 by decide)) (Int.emod_lt_of_pos (z / 7) (show (0 : Int) < 4 by decide))
        rcases hx with rfl | rfl | rfl | rfl
        · exact ⟨_, by omega, e⟩
        · exact ⟨_, hr1, e⟩
        · exact ⟨_, by split <;> omega, e⟩
        · exact ⟨_, by omega, e⟩
      obtain ⟨m, hm, e⟩ := hx
      refine ⟨l, _, _, .int m, rfl, rfl, SqL.of upd_same, e, small (by show 2 ≤ 1000; decide), fun t nt => ?_⟩
      have s1 := same_upd (o := .lst [V.int (1 + c / 7 % 9), V.int r, V.int (if r - 1 > 1 then r - 1 else 1), V.int (1 + c / 7 % 1000000000000)]) nl
      exact q1 _ t m (s1.trans (same_upd nt)) (s1.free nt) upd_same hm
    · refine ⟨_, rfl, _, _, rfl, rfl, ⟨by decide, by decide⟩, _, rfl, fun m hm => ?_⟩
      refine ⟨small (by show 2 ≤ 1000; decide), fun t nt => ?_⟩
      exact q2 _ t m (same_upd nt) nt upd_same hm
theorem ok_do {f C fA fI : Addr} {fd fdA fdI : FuncData} (F : Fun K "_law_do" "_law_do" sDo f fd) (T : Txt K mg C) (GA : FnOk P w K mg base CX0 2 fA fdA ["self", "weight"] (spAdd C)) (bA : Binds K fdA ["self", "weight"] []) (mA : Meth K C "add" fA)
    (GI : FnOk P w K mg base CX0 2 fI fdI ["self", "many"] (spIdle C)) (bI : Binds K fdI ["self", "many"] []) (mI : Meth K C "idle" fI) : FnOk P w K mg base CX0 3 f fd ["_law_window", "_law_event"] (spDo C) := by
  refine F.ok scDo (fun vs H Q E h => ?_) (fun cdv A outer s H vs Q E hr h => ?_)
  · obtain ⟨p, q, m, room, reach, clock, bs, rfl, _⟩ := h
    rfl
  · obtain ⟨p, q, m, room, reach, clock, bs, rfl, W, hlen, hroom, h⟩ := h
    obtain ⟨dx, l, xs, hp, hl, hb⟩ := id W
    refine ⟨_, pss_one (ps_if (pt_cmpR op_eq (pe_ix ix_tup (pv 1) pe_int (fun _ _ => rfl)) pe_str (nomark _)) (pss_one (ps_expr (pe_meth (pv 0) T.cl mI GI hr bI .nil pass0 (pa_cons (pe_ix ix_tup (pv 1) pe_int (fun _ _ => rfl)) pa_nil))))
      (pss_one (ps_expr (pe_meth (pv 0) T.cl mA GA hr bA .nil pass0 (pa_cons (pe_ix ix_tup (pv 1) pe_int (fun _ _ => rfl)) pa_nil))))), ?_⟩
    rcases h with ⟨hq, k⟩ | ⟨hq, k⟩
    · refine ⟨_, rfl, q, _, _, _, rfl, rfl, SqT.of hq, atI_nat (j := 0) rfl, rfl, _, rfl, ite2 (fun _ => ?_) (fun z => absurd (decide_eq_true rfl) z)⟩
      refine ⟨_, rfl, p, dx, _, rfl, hp, wf_no _ _ _ _ (by decide +kernel) (by decide +kernel) (by decide +kernel) (by decide +kernel), _, rfl, q, _, _, _, rfl, rfl, SqT.of hq, atI_nat (j := 1) rfl, ?_⟩
      exact ⟨p, m, room, reach, clock, bs, rfl, W, hlen, hroom, k⟩
    · refine ⟨_, rfl, q, _, _, _, rfl, rfl, SqT.of hq, atI_nat (j := 0) rfl, rfl, _, rfl, ite2 (fun z => absurd z (by decide +kernel)) (fun _ => ?_)⟩
      refine ⟨_, rfl, p, dx, _, rfl, hp, wf_no _ _ _ _ (by decide +kernel) (by decide +kernel) (by decide +kernel) (by decide +kernel), _, rfl, q, _, _, _, rfl, rfl, SqT.of hq, atI_nat (j := 1) rfl, ?_⟩
      exact ⟨p, m, room, reach, clock, bs, rfl, W, hlen, hroom, k⟩
end
end Sk

namespace Sk
open PySem L2
theorem sum_snd : ∀ g : List Row, (g.map (·.2)).sum = sumW g
  | [] => rfl
  | r :: g => by
    rw [List.map_cons, List.sum_cons, sum_snd g]
    rfl
theorem filt_take {b : Bx} {rows : List Row} {i : Nat} {r : Row} (h : rows[i]? = some r) : (rows.take (i + 1)).filter (inb b) = (rows.take i).filter (inb b) ++ (if inb b r = true then [r] else []) := by
  rw [List.take_add_one, h, List.filter_append]
  cases e : inb b r with
  | true => rw [if_pos rfl]; show _ ++ List.filter (inb b) [r] = _; rw [List.filter_cons, if_pos e]; rfl
  | false => rw [if_neg Bool.false_ne_true]; show _ ++ List.filter (inb b) [r] = _; rw [List.filter_cons, if_neg (by rw [e]; exact Bool.false_ne_true)]; rfl
def spBox (K : PySem.W.Frag) : Sp := fun vs H Q _ => ∃ (pb lr : Addr) (b : Bx) (rvs : List V) (rows : List Row), vs = [.ref pb, .ref lr] ∧ H pb = some (.tup [.int b.f, .int b.l, .int b.s]) ∧ H lr = some (.lst rvs) ∧ Rws H rvs rows ∧ rvs.length ≤ 900 ∧ BoxIn b rows ∧
  ∀ H' : Hp, Same H H' → Q (.bl true) H'
section
variable {P : Program} {w : World} {K : PySem.W.Frag} {mg : Str → Option Value} {base : Heap}
theorem ok_box {f : Addr} {fd : FuncData} (F : Fun K "_law_box" "_law_box" sBox f fd) (B : Blt mg) : FnOk P w K mg base CX0 1 f fd ["_law_box_here", "_law_rows"] (spBox K) := by
  refine F.ok scBox (fun vs H Q E h => ?_) (fun cdv A outer s H vs Q E hr h => ?_)
  · obtain ⟨pb, lr, b, rvs, rows, rfl, _⟩ := h
    rfl
  · obtain ⟨pb, lr, b, rvs, rows, rfl, hb, hl, hrs, hlen, ⟨pre, g, post, eg, h1, h2, h3, ⟨w1, t1, e1⟩, ⟨w2, t2, e2⟩, hs⟩, k⟩ := h
    have nd := scBox.nd
    have pk : rows.filter (inb b) = g := by rw [eg]; exact pick h1 h2 h3
    have hrl := Paired.length hrs
    refine ⟨_, pss_cons (ps_setLc (i := 2) (own := [("_law_row", 3)]) (g := gName 3)
        (tt := tTest (tChain (rI0 fun i j => .bl (decide (i ≤ j))) (rI0 fun i j => .bl (decide (i ≤ j))) (tOp (rIxT K) (tVar 0) (tC (.int 0))) (tOp (rIxT K) (tVar 3) (tC (.int 0))) (tOp (rIxT K) (tVar 0) (tC (.int 1))))) rfl nd rfl rfl (sw_true rfl rfl rfl (by decide +kernel)) (pi_list (pv 1)) (blkOk_by (N := ["_law_box_here", "_law_rows", "_law_some", "_law_row"]) (sc := defScope sBox) (by decide +kernel))
        (fun _ _ _ _ _ => pg_name (i := 3) nd rfl (Or.inl rfl)) (fun _ _ _ _ _ => pts_one (pt_chain op_le op_le (pe_ix ix_tup (pv 0) pe_int (fun _ _ => rfl)) (pe_ix ix_tup (pv 3) pe_int (fun _ _ => rfl)) (pe_ix ix_tup (pv 0) pe_int (fun _ _ => rfl)))) (fun _ _ _ _ _ => pv 3))
      (pss_cons (ps_if (PW.pt (pw_or (pt_cmpR op_eq (pe_callB call_len_seq (by rfl) B.len PySem.boot_len (pa_cons (pv 2) pa_nil)) pe_int (nomark _))
          (pw_or (pt_cmpR op_ne (pe_ix ix_tup (pe_ix ix_list (pv 2) pe_int (fun _ _ => rfl)) pe_int (fun _ _ => rfl)) (pe_ix ix_tup (pv 0) pe_int (fun _ _ => rfl)) (nomark _))
          (pw_or1 (pt_cmpR op_ne (pe_ix ix_tup (pe_ix ix_list (pv 2) (pe_op op_sub (pe_callB call_len_seq (by rfl) B.len PySem.boot_len (pa_cons (pv 2) pa_nil)) pe_int) (fun _ _ => rfl)) pe_int (fun _ _ => rfl)) (pe_ix ix_tup (pv 0) pe_int (fun _ _ => rfl)) (nomark _))))))
        (pss_one (ps_ret pe_bl)) pss_nil)
      (pss_one (ps_ret (pe_cmpR op_eq (pe_callB (cr_sum rfl) (by rfl) B.sum (by decide +kernel) (pa_cons (pe_lc (own := [("_law_row", 3)]) (g := gName 3) (tt := tYes) (te := tOp (rIxT K) (tVar 3) (tC (.int 1))) rfl nd (pi_list (pv 2)) (blkOk_by (N := ["_law_box_here", "_law_rows", "_law_some", "_law_row"]) (sc := defScope sBox) (by decide +kernel))
          (fun _ _ _ _ _ => pg_name (i := 3) nd rfl (Or.inl rfl)) (fun _ _ _ _ _ => pts_nil) (fun _ _ _ _ _ => pe_ix ix_tup (pv 3) pe_int (fun _ _ => rfl))) pa_nil)) (pe_ix ix_tup (pv 0) pe_int (fun _ _ => rfl)) (nomark _))))), ?_⟩
    refine ⟨_, rfl, lr, rfl, ⟨_, SqL.of hl⟩, fun D hD => lc_list (K := K) (a := lr) (xs := rvs) (fun i H' => ∃ acc, H' D = some (.lst acc) ∧ Same H H' ∧ Rws H' acc ((rows.take i).filter (inb b)) ∧ acc.length ≤ i) ?_ (fun i H' _ ⟨_, _, s2, _⟩ => SqL.of (s2 _ _ hl)) ?_ ?_⟩
    · exact ⟨[], upd_same, same_upd hD, .nil, Nat.le_refl _⟩
    · rintro i x H' hx ⟨acc, ha, s2, hra, hz⟩
      obtain ⟨r, hr1, q, rfl, hq⟩ := paired_get (rws_tk (Same.tk s2) hrs) hx
      have hil : i < rvs.length := (List.getElem?_eq_some_iff.mp hx).1
      have hb' := s2 _ _ hb
      have ft := filt_take (b := b) hr1
      refine ⟨rfl, ?_⟩
      refine ⟨_, rfl, pb, _, _, _, rfl, rfl, SqT.of hb', atI_nat (j := 0) rfl, _, rfl, q, _, _, _, rfl, rfl, SqT.of hq, atI_nat (j := 0) rfl, _, _, rfl, rfl, _, rfl, ite2 (fun c => ?_) (fun c => ?_)⟩
      · have c' : b.f ≤ r.1 := of_decide_eq_true c
        refine ⟨_, rfl, pb, _, _, _, rfl, rfl, SqT.of hb', atI_nat (j := 1) rfl, _, _, rfl, rfl, _, rfl, ite2 (fun d => ?_) (fun d => ?_)⟩
        · have d' : r.1 ≤ b.l := of_decide_eq_true d
          have ei : inb b r = true := by
            show (decide (b.f ≤ r.1) && decide (r.1 ≤ b.l)) = true
            rw [c, d]
            rfl
          rw [if_pos ei] at ft
          refine ⟨_, rfl, acc, ha, small1000 (by omega), acc ++ [.ref q], upd_same, fun a o e => ?_, ?_, by rw [List.length_append, List.length_singleton]; omega⟩
          · rw [upd_ne (ne_of_none e hD)]
            exact s2 _ _ e
          · rw [ft]
            exact Paired.snoc (rws_tk (tk_lst ha) hra) ⟨q, rfl, tk_lst ha _ _ hq⟩
        · have ei : inb b r = false := by
            show (decide (b.f ≤ r.1) && decide (r.1 ≤ b.l)) = false
            rw [decide_eq_false (fun z => d (decide_eq_true z)), Bool.and_false]
          rw [ei, if_neg Bool.false_ne_true, List.append_nil] at ft
          exact ⟨acc, ha, s2, by rw [ft]; exact hra, by omega⟩
      · have ei : inb b r = false := by
          show (decide (b.f ≤ r.1) && decide (r.1 ≤ b.l)) = false
          rw [decide_eq_false (fun z => c (decide_eq_true z)), Bool.false_and]
        rw [ei, if_neg Bool.false_ne_true, List.append_nil] at ft
        exact ⟨_, rfl, iteF ⟨acc, ha, s2, by rw [ft]; exact hra, by omega⟩⟩
    · rintro H2 ⟨acc, ha, s2, hra, hz⟩
      rw [List.take_of_length_le (Nat.le_of_eq hrl.symm), pk] at hra
      have hb2 := s2 _ _ hb
      have hal := Paired.length hra
      have hg1 : g[0]? = some (b.f, w1) := by rw [e1]; rfl
      have hg2 : g[g.length - 1]? = some (b.l, w2) := by
        rw [e2, List.length_append, List.length_singleton, Nat.add_sub_cancel, List.getElem?_append_right (Nat.le_refl _), Nat.sub_self]
        rfl
      have hgl : 0 < g.length := by rw [e1]; exact Nat.succ_pos _
      obtain ⟨x1, hx1, q1, rfl, hq1⟩ := paired_get2 hra hg1
      obtain ⟨x2, hx2, q2, rfl, hq2⟩ := paired_get2 hra hg2
      refine ⟨_, rfl, D, acc, rfl, .inl (SqL.of ha), rfl, _, rfl, ite2 (fun z => ?_) (fun _ => ?_)⟩
      · have z' : ((acc.length : Nat) : Int) = 0 := V.int.inj (of_decide_eq_true z)
        omega
      refine ⟨_, rfl, D, _, _, _, rfl, rfl, SqL.of ha, atI_nat (j := 0) hx1, q1, _, _, _, rfl, rfl, SqT.of hq1, atI_nat (j := 0) rfl, _, rfl, pb, _, _, _, rfl, rfl, SqT.of hb2, atI_nat (j := 0) rfl, rfl, _, rfl, iteNS rfl ?_⟩
      refine ⟨_, rfl, _, rfl, D, acc, rfl, .inl (SqL.of ha), _, _, rfl, rfl, D, _, _, _, rfl, rfl, SqL.of ha, at_of (j := g.length - 1) (by omega) hx2, q2, _, _, _, rfl, rfl, SqT.of hq2, atI_nat (j := 0) rfl, _, rfl, pb, _, _, _, rfl, rfl, SqT.of hb2, atI_nat (j := 1) rfl, rfl, _, rfl, iteNS rfl ?_⟩
      refine ⟨_, rfl, D, rfl, ⟨_, SqL.of ha⟩, fun M hM => lc_list (K := K) (a := D) (xs := acc) (fun i H' => Same H2 H' ∧ H' M = some (.lst (((g.take i).map (·.2)).map V.int))) ?_ (fun i H' _ ⟨s3, _⟩ => SqL.of (s3 _ _ ha)) ?_ ?_⟩
      · exact ⟨same_upd hM, upd_same⟩
      · rintro i x H' hx ⟨s3, hm⟩
        obtain ⟨r, hr1, q, rfl, hq⟩ := paired_get (rws_tk (Same.tk s3) hra) hx
        have hil : i < acc.length := (List.getElem?_eq_some_iff.mp hx).1
        refine ⟨rfl, ?_⟩
        refine ⟨_, rfl, q, _, _, _, rfl, rfl, SqT.of hq, atI_nat (j := 1) rfl, _, hm, ?_, fun a o e => ?_, ?_⟩
        · rw [List.length_map, List.length_map, List.length_take]
          exact small1000 (by omega)
        · rw [upd_ne (ne_of_none e hM)]
          exact s3 _ _ e
        · rw [upd_same, List.take_add_one, hr1, List.map_append, List.map_append]
          rfl
      · rintro H3 ⟨s3, hm⟩
        rw [List.take_of_length_le (Nat.le_of_eq hal.symm)] at hm
        refine ⟨M, _, rfl, SqL.of hm, _, rfl, pb, _, _, _, rfl, rfl, SqT.of (s3 _ _ hb2), atI_nat (j := 2) rfl, rfl, ?_⟩
        have ed : decide (V.int (g.map (·.2)).sum = V.int b.s) = true := decide_eq_true (by rw [sum_snd, hs])
        show Q (V.bl (decide (V.int (g.map (·.2)).sum = V.int b.s))) _
        rw [ed]
        exact k _ (s2.trans s3)
end
end Sk

namespace Sk
open PySem L2
theorem pw_at {α : Type} {R : α → α → Prop} : ∀ {l : List α} {i j : Nat} {a b : α}, l.Pairwise R → i < j → l[i]? = some a → l[j]? = some b → R a b
  | [], _, _, _, _, _, _, h, _ => by simp at h
  | x :: r, 0, 0, _, _, _, h, _, _ => absurd h (Nat.lt_irrefl _)
  | x :: r, 0, j + 1, a, b, p, _, h1, h2 => by
    have e := Option.some.inj h1
    subst e
    exact (List.pairwise_cons.mp p).1 b (List.mem_of_getElem? (show r[j]? = some b from h2))
  | x :: r, i + 1, 0, _, _, _, h, _, _ => absurd h (Nat.not_lt_zero _)
  | x :: r, i + 1, j + 1, a, b, p, h, h1, h2 => pw_at (l := r) (i := i) (j := j) (List.pairwise_cons.mp p).2 (Nat.lt_of_succ_lt_succ h) h1 h2
def spCov (K : PySem.W.Frag) : Sp := fun vs H Q _ => ∃ (lb lr : Addr) (edge : Int) (xs rvs : List V) (bs : List Bx) (rows : List Row), vs = [.ref lb, .ref lr, .int edge] ∧ H lb = some (.lst xs) ∧ Bxs H xs bs ∧ H lr = some (.lst rvs) ∧ Rws H rvs rows ∧
  bs.Pairwise (fun a b => a.l < b.f) ∧ rows.Pairwise (fun a b => a.1 < b.1) ∧ (∀ r ∈ rows, edge < r.1 → ∃ (j : Nat) (b : Bx), bs[j]? = some b ∧ b.f ≤ r.1 ∧ r.1 ≤ b.l) ∧ Q (.bl true) H
section
variable {P : Program} {w : World} {K : PySem.W.Frag} {mg : Str → Option Value} {base : Heap}
theorem ok_cov {f : Addr} {fd : FuncData} (F : Fun K "_law_covered" "_law_covered" sCov f fd) (B : Blt mg) : FnOk P w K mg base CX0 1 f fd ["_law_boxes", "_law_rows", "_law_edge"] (spCov K) := by
  refine F.ok scCov (fun vs H Q E h => ?_) (fun cdv A outer s H vs Q E hr h => ?_)
  · obtain ⟨lb, lr, edge, xs, rvs, bs, rows, rfl, _⟩ := h
    rfl
  · obtain ⟨lb, lr, edge, xs, rvs, bs, rows, rfl, hlb, hb, hlr, hrs, pb, pr, hc, k⟩ := h
    have nd := scCov.nd
    have hxl := Paired.length hb
    refine ⟨_, pss_cons (ps_set (i := 3) nd rfl (.inl rfl) pe_int)
      (pss_cons (ps_for PassesOwn.never rfl (pi_list (pv 1)) (pg_tup rfl (pgs_cons (pg_name (i := 4) nd rfl (.inl rfl)) (pgs_cons (pg_name (i := 5) nd rfl (.inl rfl)) pgs_nil)))
        (pss_one (ps_if (pt_cmpR op_gt (pv 4) (pv 2) (nomark _))
          (pss_cons (ps_while PassesOwn.never (PW.pt (pw_and (pt_cmpR op_lt (pv 3) (pe_callB call_len_seq (by rfl) B.len PySem.boot_len (pa_cons (pv 0) pa_nil)) (nomark _))
              (pw_and1 (pt_cmpR op_lt (pe_ix ix_tup (pe_ix ix_list (pv 0) (pv 3) (fun _ _ => rfl)) pe_int (fun _ _ => rfl)) (pv 4) (nomark _))))) (pss_one (ps_aug (i := 3) nd rfl (.inl rfl) pe_int ip_add)))
          (pss_one (ps_if (PW.pt (pw_or (pt_cmpR op_eq (pv 3) (pe_callB call_len_seq (by rfl) B.len PySem.boot_len (pa_cons (pv 0) pa_nil)) (nomark _))
              (pw_or1 (pt_cmpR op_lt (pv 4) (pe_ix ix_tup (pe_ix ix_list (pv 0) (pv 3) (fun _ _ => rfl)) pe_int (fun _ _ => rfl)) (nomark _))))) (pss_one (ps_ret pe_bl)) pss_nil)))
          pss_nil)))
      (pss_one (ps_ret pe_bl))), ?_⟩
    refine ⟨_, rfl, lr, rfl, ⟨_, SqL.of hlr⟩, for_list (K := K) (a := lr) (xs := rvs) (fun i σ H' => ∃ (a : Nat) (v4 v5 : Option V), σ = [some (.ref lb), some (.ref lr), some (.int edge), some (.int (a : Int)), v4, v5] ∧ H' = H ∧
      ∀ j b r, j < a → bs[j]? = some b → r ∈ rows.drop i → b.l < r.1) ⟨0, none, none, rfl, rfl, fun j b r h => absurd h (Nat.not_lt_zero _)⟩ (fun i σ H' _ ⟨_, _, _, _, e, _⟩ => by rw [e]; exact SqL.of hlr) ?_ ?_⟩
    · rintro i x σ H' hx ⟨a0, v4, v5, rfl, rfl, ha⟩
      obtain ⟨r, hr1, q, rfl, hq⟩ := paired_get hrs hx
      have dr := drop_at hr1
      have rin : r ∈ rows.drop i := by rw [dr]; exact List.mem_cons_self
      refine ⟨q, _, rfl, SqT.of hq, rfl, _, _, rfl, _, _, rfl, rfl, ?_⟩
      refine ⟨_, rfl, _, rfl, _, _, rfl, rfl, _, rfl, ite2 (fun c => ?_) (fun c => ?_)⟩
      · have c' : edge < r.1 := of_decide_eq_true c
        obtain ⟨j, bj, hj, hj1, hj2⟩ := hc r (List.mem_of_getElem? hr1) c'
        have haj : a0 ≤ j := Nat.le_of_not_lt fun z => by
          have := ha j bj r z hj rin
          omega
        have hjl : j < xs.length := by
          rw [hxl]
          exact (List.getElem?_eq_some_iff.mp hj).1
        -- the while
        refine ⟨fun m σ' H2 => ∃ a : Nat, m = j - a ∧ a ≤ j ∧ σ' = [some (.ref lb), some (.ref lr), some (.int edge), some (.int (a : Int)), some (.int r.1), some (.int r.2)] ∧ H2 = H', ⟨_, a0, rfl, haj, rfl, rfl⟩, ?_⟩
        rintro m σ' H2 ⟨a, rfl, hal, rfl, rfl⟩
        have hax : a < bs.length := by omega
        have hga : bs[a]? = some bs[a] := List.getElem?_eq_getElem hax
        obtain ⟨xa, hxa, qa, rfl, hqa⟩ := paired_get2 hb hga
        refine ⟨_, rfl, _, rfl, lb, xs, rfl, .inl (SqL.of hlb), _, _, rfl, rfl, _, rfl, ?_⟩
        refine ite2 (fun _ => ?_) (fun z => absurd (decide_eq_true (show (a : Int) < ((xs.length : Nat) : Int) by omega)) z)
        refine ⟨_, rfl, _, rfl, lb, _, _, _, rfl, rfl, SqL.of hlb, atI_nat hxa, qa, _, _, _, rfl, rfl, SqT.of hqa, atI_nat (j := 1) rfl, _, rfl, _, _, rfl, rfl, _, rfl, ite2 (fun d => ?_) (fun d => ?_)⟩
        · have d' : (bs[a]).l < r.1 := of_decide_eq_true d
          have naj : a ≠ j := fun z => by
            subst z
            rw [hga] at hj
            have e := Option.some.inj hj
            rw [e] at d'
            omega
          refine ⟨fun σ3 H3 => σ3 = [some (.ref lb), some (.ref lr), some (.int edge), some (.int ((a + 1 : Nat) : Int)), some (.int r.1), some (.int r.2)] ∧ H3 = H2, fun σ3 H3 ⟨e1, e2⟩ => ⟨j - (a + 1), by omega, a + 1, rfl, by omega, e1, e2⟩, ?_⟩
          exact ⟨_, rfl, _, _, rfl, rfl, rfl, rfl⟩
        · have d' : ¬ (bs[a]).l < r.1 := fun z => d (decide_eq_true z)
          have eaj : a = j := by
            rcases Nat.lt_or_eq_of_le hal with z | z
            · have h1 : (bs[a]).l < bj.f := pw_at (R := fun a b : Bx => a.l < b.f) pb z hga hj
              omega
            · exact z
          subst eaj
          rw [hga] at hj
          have ebj := Option.some.inj hj
          refine ⟨_, rfl, _, rfl, lb, xs, rfl, .inl (SqL.of hlb), rfl, _, rfl, ?_⟩
          refine ite2 (fun z => ?_) (fun _ => ?_)
          · have z' : (a : Int) = ((xs.length : Nat) : Int) := V.int.inj (of_decide_eq_true z)
            omega
          refine ⟨_, rfl, _, rfl, _, rfl, lb, _, _, _, rfl, rfl, SqL.of hlb, atI_nat hxa, qa, _, _, _, rfl, rfl, SqT.of hqa, atI_nat (j := 0) rfl, _, _, rfl, rfl, _, rfl, ?_⟩
          refine ite2 (fun z => ?_) (fun _ => ?_)
          · have z' : r.1 < (bs[a]).f := of_decide_eq_true z
            rw [ebj] at z'
            omega
          refine ⟨a, some (.int r.1), some (.int r.2), rfl, rfl, fun j' b' r' h1 h2 h3 => ?_⟩
          have h4 : b'.l < bj.f := by
            rw [← ebj]
            exact pw_at (R := fun a b : Bx => a.l < b.f) pb h1 h2 hga
          have h5 : r.1 < r'.1 := by
            have pd : (rows.drop i).Pairwise (fun a b => a.1 < b.1) := List.Pairwise.sublist (List.drop_sublist _ _) pr
            rw [dr] at pd
            exact (List.pairwise_cons.mp pd).1 r' h3
          omega
      · refine ⟨a0, some (.int r.1), some (.int r.2), rfl, rfl, fun j b r' h1 h2 h3 => ha j b r' h1 h2 ?_⟩
        rw [dr]
        exact List.mem_cons_of_mem _ h3
    · rintro σ H' ⟨a, v4, v5, rfl, rfl, _⟩
      exact k
end
end Sk

namespace Sk
open PySem L2
def spNear (K : PySem.W.Frag) : Sp := fun vs H Q _ => ∃ (lb : Addr) (room : Int) (xs : List V) (bs : List Bx), vs = [.ref lb, .int room] ∧ H lb = some (.lst xs) ∧ Bxs H xs bs ∧ xs.length ≤ 900 ∧ (-(2 ^ 64) < room ∧ room < 2 ^ 64) ∧
  bs.Pairwise (fun a b => a.l < b.f) ∧ Sgl room 0 bs.reverse ∧ Prs room 0 bs.reverse ∧ Q (.bl true) H
section
variable {P : Program} {w : World} {K : PySem.W.Frag} {mg : Str → Option Value} {base : Heap}
theorem ok_near {f : Addr} {fd : FuncData} (F : Fun K "_law_near" "_law_near" sNear f fd) (B : Blt mg) : FnOk P w K mg base CX0 1 f fd ["_law_boxes", "_law_room"] (spNear K) := by
  refine F.ok scNear (fun vs H Q E h => ?_) (fun cdv A outer s H vs Q E hr h => ?_)
  · obtain ⟨lb, room, xs, bs, rfl, _⟩ := h
    rfl
  · obtain ⟨lb, room, xs, bs, rfl, hlb, hb, hlen, hroom, pb, S, R, k⟩ := h
    have nd := scNear.nd
    have hxl := Paired.length hb
    refine ⟨_, pss_cons (ps_set (i := 2) nd rfl (.inl rfl) pe_int)
      (pss_cons (ps_for PassesOwn.never rfl (pi_range1 (by rfl) B.range (pa_cons (pe_callB call_len_seq (by rfl) B.len PySem.boot_len (pa_cons (pv 0) pa_nil)) pa_nil)) (pg_name (i := 3) nd rfl (.inl rfl))
        (pss_cons (ps_set (i := 4) nd rfl (.inl rfl) (pe_ix ix_list (pv 0) (pe_op op_sub (pe_op op_sub (pe_callB call_len_seq (by rfl) B.len PySem.boot_len (pa_cons (pv 0) pa_nil)) pe_int) (pv 3)) (fun _ _ => rfl)))
        (C8.pss_cut (ps_if (PW.pt (pw_and (pt_cmpR op_ne (pe_ix ix_tup (pv 4) pe_int (fun _ _ => rfl)) (pe_ix ix_tup (pv 4) pe_int (fun _ _ => rfl)) (nomark _))
            (pw_and1 (pt_cmpR op_gt (pe_op op_mul (pe_ix ix_tup (pv 4) pe_int (fun _ _ => rfl)) (pv 1)) (pv 2) (nomark _))))) (pss_one (ps_ret pe_bl)) pss_nil)
        (C8.pss_cut (ps_if (pt_cmpR op_lt (pe_op op_add (pv 3) pe_int) (pe_callB call_len_seq (by rfl) B.len PySem.boot_len (pa_cons (pv 0) pa_nil)) (nomark _))
            (pss_cons (ps_set (i := 5) nd rfl (.inl rfl) (pe_ix ix_list (pv 0) (pe_op op_sub (pe_op op_sub (pe_callB call_len_seq (by rfl) B.len PySem.boot_len (pa_cons (pv 0) pa_nil)) pe_int) (pv 3)) (fun _ _ => rfl)))
            (pss_one (ps_if (PW.pt (pw_or (pt_cmpR op_le (pe_op op_mul (pe_op op_add (pe_ix ix_tup (pv 5) pe_int (fun _ _ => rfl)) (pe_ix ix_tup (pv 4) pe_int (fun _ _ => rfl))) (pv 1)) (pv 2) (nomark _))
              (pw_or1 (pt_cmpR op_ge (pe_ix ix_tup (pv 5) pe_int (fun _ _ => rfl)) (pe_ix ix_tup (pv 4) pe_int (fun _ _ => rfl)) (nomark _))))) (pss_one (ps_ret pe_bl)) pss_nil)))
            pss_nil)
        (pss_one (ps_aug (i := 2) nd rfl (.inl rfl) (pe_ix ix_tup (pv 4) pe_int (fun _ _ => rfl)) ip_add))))))
      (pss_one (ps_ret pe_bl))), ?_⟩
    refine ⟨_, rfl, lb, xs, rfl, .inl (SqL.of hlb), _, rfl, by omega, by omega, for_range (lo := 0) (n := ((xs.length : Nat) : Int).toNat) (fun i σ H' => ∃ v3 v4 v5 : Option V, σ = [some (.ref lb), some (.int room), some (.int (sumS (bs.reverse.take i))), v3, v4, v5] ∧ H' = H) ⟨none, none, none, rfl, rfl⟩ ?_ ?_⟩
    · rintro i σ H' hi ⟨v3, v4, v5, rfl, rfl⟩
      have hi' : i < xs.length := by omega
      have hib : i < bs.reverse.length := by rw [List.length_reverse]; omega
      have hg : bs.reverse[i]? = some bs.reverse[i] := List.getElem?_eq_getElem hib
      generalize bs.reverse[i] = b at hg
      obtain ⟨x, hx, q, rfl, hq⟩ := paired_get2 (paired_rev hb) hg
      rw [List.getElem?_reverse hi'] at hx
      have et := sumS_take hg
      have sg := Sgl.at S hg
      -- the box
      refine ⟨_, rfl, _, rfl, lb, xs, rfl, .inl (SqL.of hlb), _, _, rfl, rfl, _, rfl, _, _, rfl, rfl, lb, _, _, _, rfl, rfl, SqL.of hlb, at_of (j := xs.length - 1 - i) (by omega) hx, ?_⟩
      -- of more than one place
      refine ⟨fun σ2 H2 => ∃ v5 : Option V, σ2 = [some (.ref lb), some (.int room), some (.int (sumS (bs.reverse.take i))), some (.int (0 + (i : Int))), some (.ref q), v5] ∧ H2 = H', ?_, ?_⟩
      · refine ⟨_, rfl, q, _, _, _, rfl, rfl, SqT.of hq, atI_nat (j := 0) rfl, _, rfl, q, _, _, _, rfl, rfl, SqT.of hq, atI_nat (j := 1) rfl, rfl, _, rfl, ?_⟩
        refine ite2 (fun c => ?_) (fun c => iteF ⟨v5, rfl, rfl⟩)
        refine ⟨_, rfl, q, _, _, _, rfl, rfl, SqT.of hq, atI_nat (j := 2) rfl, _, rfl, _, _, rfl, rfl, .inr hroom, _, rfl, _, _, rfl, rfl, _, rfl, ite2 (fun d => ?_) (fun d => ⟨v5, rfl, rfl⟩)⟩
        have d' : sumS (bs.reverse.take i) < b.s * room := of_decide_eq_true d
        have c' : b.f ≠ b.l := fun z => by
          rw [z, decide_eq_true rfl] at c
          exact Bool.noConfusion c
        have := sg c'
        omega
      rintro σ2 H2 ⟨v5', rfl, rfl⟩
      -- the next older one
      refine ⟨fun σ3 H3 => ∃ v5 : Option V, σ3 = [some (.ref lb), some (.int room), some (.int (sumS (bs.reverse.take i))), some (.int (0 + (i : Int))), some (.ref q), v5] ∧ H3 = H2, ?_, ?_⟩
      · refine ⟨_, rfl, _, _, rfl, rfl, _, rfl, lb, xs, rfl, .inl (SqL.of hlb), _, _, rfl, rfl, _, rfl, ite2 (fun c => ?_) (fun c => ⟨v5', rfl, rfl⟩)⟩
        have c' : 0 + (i : Int) + 1 < ((xs.length : Nat) : Int) := of_decide_eq_true c
        have hi2 : i + 1 < xs.length := by omega
        obtain ⟨o, hg2⟩ : ∃ o, bs.reverse[i + 1]? = some o := ⟨_, List.getElem?_eq_getElem (show i + 1 < bs.reverse.length by rw [List.length_reverse]; omega)⟩
        obtain ⟨y, hy, p, rfl, hp⟩ := paired_get2 (paired_rev hb) hg2
        rw [List.getElem?_reverse hi2] at hy
        have pg := Prs.at R hg hg2
        have ro : o.l < b.f := by
          have pr : bs.reverse.Pairwise (fun a b => b.l < a.f) := List.pairwise_reverse.mpr pb
          exact pw_at (R := fun a b : Bx => b.l < a.f) pr (Nat.lt_succ_self i) hg hg2
        refine ⟨_, rfl, _, rfl, lb, xs, rfl, .inl (SqL.of hlb), _, _, rfl, rfl, _, rfl, _, _, rfl, rfl, lb, _, _, _, rfl, rfl, SqL.of hlb, at_of (j := xs.length - 1 - (i + 1)) (by omega) hy, ?_⟩
        refine ⟨_, rfl, p, _, _, _, rfl, rfl, SqT.of hp, atI_nat (j := 2) rfl, _, rfl, q, _, _, _, rfl, rfl, SqT.of hq, atI_nat (j := 2) rfl, _, _, rfl, rfl, _, rfl, _, _, rfl, rfl, .inr hroom, _, rfl, _, _, rfl, rfl, _, rfl, ite2 (fun d => ?_) (fun d => ?_)⟩
        · have d' : (o.s + b.s) * room ≤ sumS (bs.reverse.take i) := of_decide_eq_true d
          rw [Int.add_comm o.s b.s] at d'
          omega
        refine ⟨_, rfl, p, _, _, _, rfl, rfl, SqT.of hp, atI_nat (j := 1) rfl, _, rfl, q, _, _, _, rfl, rfl, SqT.of hq, atI_nat (j := 0) rfl, _, _, rfl, rfl, _, rfl, ite2 (fun e => ?_) (fun e => ⟨_, rfl, rfl⟩)⟩
        have e' : b.f ≤ o.l := of_decide_eq_true e
        omega
      rintro σ3 H3 ⟨v5'', rfl, rfl⟩
      refine ⟨_, rfl, _, rfl, q, _, _, _, rfl, rfl, SqT.of hq, atI_nat (j := 2) rfl, _, _, rfl, rfl, some (.int (0 + (i : Int))), some (.ref q), v5'', ?_, rfl⟩
      rw [et]
      rfl
    · rintro σ H' ⟨v3, v4, v5, rfl, rfl⟩
      exact k
end
end Sk

namespace Sk
open PySem L2
theorem sum_s : ∀ g : List Bx, (g.map (·.s)).sum = sumS g
  | [] => rfl
  | r :: g => by
    rw [List.map_cons, List.sum_cons, sum_s g]
    rfl
def spRight (C : Addr) : Sp := fun vs H Q _ => ∃ (p lr : Addr) (clock reach room many : Int) (bs : List Bx) (rvs : List V) (rows : List Row), vs = [.ref p, .ref lr, .int clock, .int reach, .int room, .int many] ∧ WinAt C H p room reach clock bs ∧ H lr = some (.lst rvs) ∧ Rws H rvs rows ∧
  Win room reach clock bs rows ∧ rows.length ≤ 900 ∧ 2 ≤ room ∧ room ≤ 64 ∧ 1 ≤ many ∧ many ≤ reach ∧ ∀ H' : Hp, Same H H' → Q (.bl true) H'
section
variable {P : Program} {w : World} {K : PySem.W.Frag} {mg : Str → Option Value} {base : Heap}
theorem ok_right {f C fW fB fC fN fM fL : Addr} {fd fdW fdB fdC fdN fdM fdL : FuncData} (F : Fun K "_law_right" "_law_right" sRight f fd) (T : Txt K mg C) (B : Blt mg)
    (GW : FnOk P w K mg base CX0 1 fW fdW ["_law_found"] spWhole) (DW : Df K mg "_law_whole" sWhole ["_law_found"] fW fdW)
    (GB : FnOk P w K mg base CX0 1 fB fdB ["_law_box_here", "_law_rows"] (spBox K)) (DB : Df K mg "_law_box" sBox ["_law_box_here", "_law_rows"] fB fdB)
    (GC : FnOk P w K mg base CX0 1 fC fdC ["_law_boxes", "_law_rows", "_law_edge"] (spCov K)) (DC : Df K mg "_law_covered" sCov ["_law_boxes", "_law_rows", "_law_edge"] fC fdC)
    (GN : FnOk P w K mg base CX0 1 fN fdN ["_law_boxes", "_law_room"] (spNear K)) (DN : Df K mg "_law_near" sNear ["_law_boxes", "_law_room"] fN fdN)
    (GM : FnOk P w K mg base CX0 1 fM fdM ["room", "total"] spMost) (DM : Df K mg "most_boxes" sMost ["room", "total"] fM fdM)
    (GL : FnOk P w K mg base CX0 1 fL fdL ["self", "many"] (spLast C)) (bL : Binds K fdL ["self", "many"] []) (mL : Meth K C "last" fL) :
    FnOk P w K mg base CX0 2 f fd ["_law_window", "_law_rows", "_law_clock", "_law_reach", "_law_room", "_law_many"] (spRight C) := by
  refine F.ok scRight (fun vs H Q E h => ?_) (fun cdv A outer s H vs Q E hr h => ?_)
  · obtain ⟨p, lr, clock, reach, room, many, bs, rvs, rows, rfl, _⟩ := h
    rfl
  · obtain ⟨p, lr, clock, reach, room, many, bs, rvs, rows, rfl, hw, hlr, hrs, W, hn, hr2, hr64, hm1, hm2, k⟩ := h
    have nd := scRight.nd
    have hroom : -(2 ^ 64) < room ∧ room < 2 ^ 64 := ⟨by omega, by omega⟩
    obtain ⟨dx, l, xs, hp, hl, hb⟩ := id hw
    have hxl := Paired.length hb
    have hbl := W.len
    have hrl := Paired.length hrs
    refine ⟨_, pss_cons (ps_set (i := 6) nd rfl (.inl rfl) (pe_callTy call_list_of (by rfl) B.list (by decide +kernel) (pa_cons (pe_fld (pv 0) rfl) pa_nil)))
      (pss_cons (ps_for PassesOwn.never rfl (pi_list (pv 6)) (pg_name (i := 7) nd rfl (.inl rfl))
        (pss_cons (ps_if (PW.pt (pw_or (pt_not (pt_val (pe_callB call_isi (by rfl) B.isinstance (by decide +kernel) (pa_cons (pv 7) (pa_cons (pe_bltn (v := .ty "tuple") (by rfl) B.tuple (by decide +kernel) rfl) pa_nil)))))
            (pw_or (pt_cmpR op_ne (pe_callB call_len_seq (by rfl) B.len PySem.boot_len (pa_cons (pv 7) pa_nil)) pe_int (nomark _))
            (pw_or1 (pt_not (pt_val (pe_call GW hr (by rfl) DW.gl DW.fn.kp DW.bd .nil pass0 (pa_cons (pe_op op_add (pe_op op_add (pe_ix ix_tup (pv 7) pe_int (fun _ _ => rfl)) (pe_ix ix_tup (pv 7) pe_int (fun _ _ => rfl))) (pe_ix ix_tup (pv 7) pe_int (fun _ _ => rfl))) pa_nil)))))))) (pss_one (ps_ret pe_bl)) pss_nil)
        (pss_one (ps_if (PW.pt (pw_or (pt_cmpR op_le (pe_ix ix_tup (pv 7) pe_int (fun _ _ => rfl)) (pe_op op_sub (pv 2) (pv 3)) (nomark _))
            (pw_or1 (pt_not (pt_val (pe_call GB hr (by rfl) DB.gl DB.fn.kp DB.bd .nil pass0 (pa_cons (pv 7) (pa_cons (pv 1) pa_nil)))))))) (pss_one (ps_ret pe_bl)) pss_nil))))
      (pss_cons (ps_if (PW.pt (pw_or (pt_not (pt_val (pe_call GC hr (by rfl) DC.gl DC.fn.kp DC.bd .nil pass0 (pa_cons (pv 6) (pa_cons (pv 1) (pa_cons (pe_op op_sub (pv 2) (pv 3)) pa_nil))))))
          (pw_or1 (pt_not (pt_val (pe_call GN hr (by rfl) DN.gl DN.fn.kp DN.bd .nil pass0 (pa_cons (pv 6) (pa_cons (pv 4) pa_nil)))))))) (pss_one (ps_ret pe_bl)) pss_nil)
      (C8.pss_cut (ps_set (i := 8) nd rfl (.inl rfl) (pe_call GM hr (by rfl) DM.gl DM.fn.kp DM.bd .nil pass0 (pa_cons (pv 4) (pa_cons (pe_callB (cr_sum rfl) (by rfl) B.sum (by decide +kernel)
          (pa_cons (pe_lc (own := [("_law_box_here", 7)]) (g := gName 7) (tt := tYes) (te := tOp (rIxT K) (tVar 7) (tC (.int 2))) rfl nd (pi_list (pv 6)) (blkOk_by (N := ["_law_window", "_law_rows", "_law_clock", "_law_reach", "_law_room", "_law_many", "_law_boxes", "_law_box_here", "_law_few", "_law_found"]) (sc := defScope sRight) (by decide +kernel))
            (fun _ _ _ _ _ => pg_name (i := 7) nd rfl (Or.inl rfl)) (fun _ _ _ _ _ => pts_nil) (fun _ _ _ _ _ => pe_ix ix_tup (pv 7) pe_int (fun _ _ => rfl))) pa_nil)) pa_nil))))
      (pss_cons (ps_if (PW.pt (pw_or (pt_not (pt_val (pe_call GW hr (by rfl) DW.gl DW.fn.kp DW.bd .nil pass0 (pa_cons (pv 8) pa_nil)))) (pw_or1 (pt_cmpR op_gt (pe_callB call_len_seq (by rfl) B.len PySem.boot_len (pa_cons (pv 6) pa_nil)) (pv 8) (nomark _))))) (pss_one (ps_ret pe_bl)) pss_nil)
      (pss_cons (ps_set (i := 9) nd rfl (.inl rfl) (pe_meth (pv 0) T.cl mL GL hr bL .nil pass0 (pa_cons (pv 5) pa_nil)))
      (pss_one (ps_ret (pe_cmpR op_le (pe_op op_mul (pe_op op_sub (pe_ix ix_tup (pv 9) pe_int (fun _ _ => rfl)) (pe_ix ix_tup (pv 9) pe_int (fun _ _ => rfl))) (pv 4)) (pe_ix ix_tup (pv 9) pe_int (fun _ _ => rfl)) (nomark _))))))))), ?_⟩
    -- boxes = list(window.boxes)
    refine ⟨_, rfl, p, C, dx, _, _, rfl, hp, T.cl, T.nBoxes, wf_boxes _ _ _ _, l, xs, rfl, .inl (SqL.of hl), fun L nL => ?_⟩
    have s1 := same_upd (o := .lst xs) nL
    generalize hH1 : upd H L (.lst xs) = H1 at s1
    have hL1 : H1 L = some (.lst xs) := by rw [← hH1]; exact upd_same
    -- each box
    refine ⟨_, rfl, L, rfl, ⟨_, SqL.of hL1⟩, for_list (K := K) (a := L) (xs := xs) (fun i σ H' => ∃ v7 : Option V, σ = [some (.ref p), some (.ref lr), some (.int clock), some (.int reach), some (.int room), some (.int many), some (.ref L), v7, none, none] ∧ Same H1 H') ⟨none, rfl, Same.refl _⟩ (fun i σ H' _ ⟨_, _, s2⟩ => SqL.of (s2 _ _ hL1)) ?_ ?_⟩
    · rintro i x σ H' hx ⟨v7, rfl, s2⟩
      have s12 := s1.trans s2
      obtain ⟨b, hb1, q, rfl, hq⟩ := paired_get (bxs_tk (Same.tk s12) hb) hx
      obtain ⟨wf1, wf2⟩ := W.box (List.mem_of_getElem? hb1)
      refine ⟨_, rfl, _, _, _, _, true, rfl, .ty _, .base (.tup hq), kit_ty (by decide +kernel), _, rfl, iteF ?_⟩
      refine ⟨_, rfl, q, _, rfl, .inr (SqT.of hq), rfl, _, rfl, iteNS rfl ?_⟩
      refine ⟨_, rfl, q, _, _, _, rfl, rfl, SqT.of hq, atI_nat (j := 0) rfl, _, rfl, q, _, _, _, rfl, rfl, SqT.of hq, atI_nat (j := 1) rfl, _, _, rfl, rfl, _, rfl, q, _, _, _, rfl, rfl, SqT.of hq, atI_nat (j := 2) rfl, _, _, rfl, rfl, _, rfl, _, rfl, iteF ?_⟩
      refine ⟨_, rfl, q, _, _, _, rfl, rfl, SqT.of hq, atI_nat (j := 1) rfl, _, rfl, _, rfl, _, _, rfl, rfl, _, _, rfl, rfl, _, rfl, ite2 (fun z => ?_) (fun _ => ?_)⟩
      · have z' : b.l ≤ clock - reach := of_decide_eq_true z
        omega
      refine ⟨_, rfl, _, rfl, q, lr, b, rvs, rows, rfl, hq, s12 _ _ hlr, rws_tk (Same.tk s12) hrs, by omega, wf2, fun H2 s3 => ⟨_, rfl, iteF ?_⟩⟩
      exact ⟨_, rfl, s2.trans s3⟩
    rintro σ H' ⟨v7, rfl, s2⟩
    have s12 := s1.trans s2
    have hb' := bxs_tk (Same.tk s12) hb
    obtain ⟨up1, up2⟩ := W.up
    obtain ⟨sgl, prs⟩ := W.near
    -- covered, near
    refine ⟨_, rfl, _, rfl, _, rfl, _, rfl, _, _, rfl, rfl, L, lr, clock - reach, xs, rvs, bs, rows, rfl, s2 _ _ hL1, hb', s12 _ _ hlr, rws_tk (Same.tk s12) hrs, up1, W.rising, W.cov, _, rfl, iteF ?_⟩
    refine ⟨_, rfl, _, rfl, L, room, xs, bs, rfl, s2 _ _ hL1, hb', by omega, hroom, up1, sgl, prs, _, rfl, iteF ?_⟩
    -- few
    refine ⟨fun σ3 H3 => ∃ few : Int, σ3 = [some (.ref p), some (.ref lr), some (.int clock), some (.int reach), some (.int room), some (.int many), some (.ref L), v7, some (.int few), none] ∧ Same H' H3 ∧ (bs.length : Int) ≤ few, ?_, ?_⟩
    · refine ⟨_, rfl, _, rfl, L, rfl, ⟨_, SqL.of (s2 _ _ hL1)⟩, fun D nD => lc_list (K := K) (a := L) (xs := xs) (fun i H2 => Same H' H2 ∧ H2 D = some (.lst (((bs.take i).map (·.s)).map V.int))) ⟨same_upd nD, upd_same⟩ (fun i H2 _ ⟨s3, _⟩ => SqL.of (s3 _ _ (s2 _ _ hL1))) ?_ ?_⟩
      · rintro i x H2 hx ⟨s3, hd⟩
        obtain ⟨b, hb1, q, rfl, hq⟩ := paired_get (bxs_tk (Same.tk s3) hb') hx
        have hil : i < xs.length := (List.getElem?_eq_some_iff.mp hx).1
        refine ⟨rfl, ?_⟩
        refine ⟨_, rfl, q, _, _, _, rfl, rfl, SqT.of hq, atI_nat (j := 2) rfl, _, hd, ?_, fun a o e => ?_, ?_⟩
        · rw [List.length_map, List.length_map, List.length_take]
          exact small1000 (by omega)
        · rw [upd_ne (ne_of_none e nD)]
          exact s3 _ _ e
        · rw [upd_same, List.take_add_one, hb1, List.map_append, List.map_append]
          rfl
      · rintro H2 ⟨s3, hd⟩
        rw [List.take_of_length_le (Nat.le_of_eq hxl.symm)] at hd
        obtain ⟨nn, nz⟩ := sumS_nn fun b hb => (up2 b hb).2
        refine ⟨D, (bs.map (·.s)), rfl, SqL.of hd, room, (bs.map (·.s)).sum, rfl, by omega, by omega, by rw [sum_s]; exact nn, fun z => ?_, fun q z1 z2 => ?_⟩
        · rw [sum_s] at z
          refine ⟨0, rfl, s3, ?_⟩
          rw [nz z]
          exact Int.le_refl _
        · rw [sum_s] at z2
          refine ⟨_, rfl, s3, ?_⟩
          have prs' : Prs room 0 bs.reverse := prs
          have := few (room := room) (by omega) prs' (fun b hb => (up2 b (List.mem_reverse.mp hb)).2) (p := q) (by rw [sumS_rev]; exact z2)
          rw [List.length_reverse] at this
          omega
    rintro σ3 H3 ⟨few, rfl, s3, hf⟩
    have s13 := s12.trans s3
    -- few is whole, no more boxes
    refine ⟨_, rfl, _, rfl, _, rfl, iteF ?_⟩
    refine ⟨_, rfl, L, xs, rfl, .inl (SqL.of (s3 _ _ (s2 _ _ hL1))), _, rfl, _, _, rfl, rfl, _, rfl, ite2 (fun z => ?_) (fun _ => ?_)⟩
    · have z' : few < ((xs.length : Nat) : Int) := of_decide_eq_true z
      omega
    -- last
    have hw3 := hw.same s13
    obtain ⟨dx3, l3, xs3, hp3, hl3, hb3⟩ := id hw3
    refine ⟨_, rfl, p, dx3, _, rfl, hp3, wf_no _ _ _ _ (by decide +kernel) (by decide +kernel) (by decide +kernel) (by decide +kernel), _, rfl, p, many, room, reach, clock, bs, rfl, hw3, hm1, hm2, fun H4 q s4 hq => ?_⟩
    have la := W.last (clock - many)
    refine ⟨_, rfl, q, _, _, _, rfl, rfl, SqT.of hq, atI_nat (j := 1) rfl, _, rfl, q, _, _, _, rfl, rfl, SqT.of hq, atI_nat (j := 0) rfl, _, _, rfl, rfl, _, rfl, _, _, rfl, rfl, .inr hroom, _, rfl, q, _, _, _, rfl, rfl, SqT.of hq, atI_nat (j := 0) rfl, _, _, rfl, rfl, ?_⟩
    have ed : decide (((lastOf (clock - many) bs).1 + (lastOf (clock - many) bs).2 - (lastOf (clock - many) bs).1) * room ≤ (lastOf (clock - many) bs).1) = true := by
      refine decide_eq_true ?_
      rw [show (lastOf (clock - many) bs).1 + (lastOf (clock - many) bs).2 - (lastOf (clock - many) bs).1 = (lastOf (clock - many) bs).2 by omega]
      exact la
    show Q (V.bl (decide (((lastOf (clock - many) bs).1 + (lastOf (clock - many) bs).2 - (lastOf (clock - many) bs).1) * room ≤ (lastOf (clock - many) bs).1))) _
    rw [ed]
    exact k _ (s13.trans s4)
end
end Sk

namespace Sk
open PySem L2
theorem cut_ints (ns : List Int) (lo hi : Option Int) : ∃ ms : List Int, cutV (ns.map V.int) lo hi = ms.map V.int ∧ ms.length ≤ ns.length := by
  unfold cutV
  generalize HT.sIx (ns.map V.int).length 0 lo = i
  generalize HT.sIx (ns.map V.int).length (ns.map V.int).length hi - i = j
  refine ⟨(ns.drop i).take j, by rw [List.map_take, List.map_drop], ?_⟩
  rw [List.length_take, List.length_drop]
  omega
section
variable {P : Program} {w : World} {K : PySem.W.Frag} {mg : Str → Option Value} {base : Heap}
theorem ok_law {f C f1 f2 f3 f4 f5 f6 f7 f8 f9 f10 f11 f12 f13 f14 g1 g2 g3 g4 : Addr} {fd d1 d2 d3 d4 d5 d6 d7 d8 d9 d10 d11 d12 d13 d14 e1 e2 e3 e4 : FuncData} (F : Fun K "law" "law" sLaw f fd) (T : Txt K mg C) (B : Blt mg) (MK : Mk K C g1)
    (D1 : Df K mg "settled_boxes" sSettled ["boxes", "room", "edge"] f1 d1) (D2 : Df K mg "most_boxes" sMost ["room", "total"] f2 d2) (D3 : Df K mg "_law_whole" sWhole ["_law_found"] f3 d3)
    (D4 : Df K mg "_law_cell_at" sCell ["_law_script", "_law_k"] f4 d4) (D5 : Df K mg "_law_mix" sMix ["_law_cell", "_law_factor", "_law_prime"] f5 d5) (D6 : Df K mg "_law_reach_by" sReach ["_law_cell"] f6 d6)
    (D7 : Df K mg "_law_room_by" sRoom ["_law_cell"] f7 d7) (D8 : Df K mg "_law_weight_by" sWeight ["_law_cell"] f8 d8) (D9 : Df K mg "_law_event_by" sEvent ["_law_cell", "_law_reach"] f9 d9)
    (D10 : Df K mg "_law_do" sDo ["_law_window", "_law_event"] f10 d10) (D11 : Df K mg "_law_box" sBox ["_law_box_here", "_law_rows"] f11 d11) (D12 : Df K mg "_law_covered" sCov ["_law_boxes", "_law_rows", "_law_edge"] f12 d12)
    (D13 : Df K mg "_law_near" sNear ["_law_boxes", "_law_room"] f13 d13) (D14 : Df K mg "_law_right" sRight ["_law_window", "_law_rows", "_law_clock", "_law_reach", "_law_room", "_law_many"] f14 d14)
    (FI : Fun K "__init__" "Window.__init__" sInit g1 e1) (bI : Binds K e1 ["self", "room", "reach"] []) (FA : Fun K "add" "Window.add" sAdd g2 e2) (bA : Binds K e2 ["self", "weight"] [])
    (FD : Fun K "idle" "Window.idle" sIdle g3 e3) (bD : Binds K e3 ["self", "many"] []) (FL : Fun K "last" "Window.last" sLast g4 e4) (bL : Binds K e4 ["self", "many"] [])
    (mA : Meth K C "add" g2) (mD : Meth K C "idle" g3) (mL : Meth K C "last" g4) : FnOk P w K mg base CX0 8 f fd ["_law_script"] (spLaw K) := by
  have G1 : FnOk P w K mg base CX0 1 f1 d1 _ (spSettled K) := ok_settled D1.fn B
  have G2 : FnOk P w K mg base CX0 1 f2 d2 _ spMost := ok_most D2.fn
  have G3 : FnOk P w K mg base CX0 1 f3 d3 _ spWhole := ok_whole D3.fn B
  have G4 : FnOk P w K mg base CX0 1 f4 d4 _ (spCell K) := ok_cell D4.fn B
  have G5 : FnOk P w K mg base CX0 1 f5 d5 _ spMix := ok_mix D5.fn
  have G6 : FnOk P w K mg base CX0 1 f6 d6 _ spReach := ok_reach D6.fn
  have G7 : FnOk P w K mg base CX0 1 f7 d7 _ spRoom := ok_room D7.fn
  have G8 : FnOk P w K mg base CX0 2 f8 d8 _ spWeight := ok_weight D8.fn G5 D5
  have G9 : FnOk P w K mg base CX0 3 f9 d9 _ spEvent := ok_event D9.fn B G5 D5 G8 D8
  have GI : FnOk P w K mg base CX0 1 g1 e1 _ (spInit C) := ok_init FI T
  have GA : FnOk P w K mg base CX0 2 g2 e2 _ (spAdd C) := ok_add FA T G1 D1
  have GD : FnOk P w K mg base CX0 2 g3 e3 _ (spIdle C) := ok_idle FD T G1 D1
  have GL : FnOk P w K mg base CX0 1 g4 e4 _ (spLast C) := ok_last FL T
  have G10 : FnOk P w K mg base CX0 3 f10 d10 _ (spDo C) := ok_do D10.fn T GA bA mA GD bD mD
  have G11 : FnOk P w K mg base CX0 1 f11 d11 _ (spBox K) := ok_box D11.fn B
  have G12 : FnOk P w K mg base CX0 1 f12 d12 _ (spCov K) := ok_cov D12.fn B
  have G13 : FnOk P w K mg base CX0 1 f13 d13 _ (spNear K) := ok_near D13.fn B
  have G14 : FnOk P w K mg base CX0 2 f14 d14 _ (spRight C) := ok_right D14.fn T B G3 D3 G11 D11 G12 D12 G13 D13 G2 D2 GL bL mL
  refine F.ok scLaw (fun vs H Q E h => ?_) (fun cdv A outer s H vs Q E hr h => ?_)
  · obtain ⟨a, ns, rfl, _⟩ := h
    rfl
  · obtain ⟨a, ns, rfl, hS, hlen, k⟩ := h
    have nd := scLaw.nd
    have r1 : Room 1 _ := hr.mono (by decide)
    have r2 : Room 2 _ := hr.mono (by decide)
    have r3 : Room 3 _ := hr.mono (by decide)
    refine ⟨_, pss_cons (ps_set (i := 1) nd rfl (.inl rfl) (pe_call G6 r1 (by rfl) D6.gl D6.fn.kp D6.bd .nil pass0 (pa_cons (pe_call G4 r1 (by rfl) D4.gl D4.fn.kp D4.bd .nil pass0 (pa_cons (pv 0) (pa_cons pe_int pa_nil))) pa_nil)))
      (pss_cons (ps_set (i := 2) nd rfl (.inl rfl) (pe_call G7 r1 (by rfl) D7.gl D7.fn.kp D7.bd .nil pass0 (pa_cons (pe_call G4 r1 (by rfl) D4.gl D4.fn.kp D4.bd .nil pass0 (pa_cons (pv 0) (pa_cons pe_int pa_nil))) pa_nil)))
      (pss_cons (ps_set (i := 3) nd rfl (.inl rfl) (pe_make MK GI r2 (by rfl) T.mgC bI .nil pass0 (pa_cons (pv 2) (pa_cons (pv 1) pa_nil))))
      (pss_cons (ps_set (i := 4) nd rfl (.inl rfl) (pe_lst pa_nil)) (pss_cons (ps_set (i := 5) nd rfl (.inl rfl) pe_int)
      (pss_cons (ps_for PassesOwn.never rfl (pi_list (pe_slice sl_list (pv 0) (po_some pe_int) (po_some pe_int))) (pg_name (i := 6) nd rfl (.inl rfl))
        (pss_cons (ps_set (i := 7) nd rfl (.inl rfl) (pe_call G9 r3 (by rfl) D9.gl D9.fn.kp D9.bd .nil pass0 (pa_cons (pv 6) (pa_cons (pv 1) pa_nil))))
        (pss_cons (ps_expr (pe_call G10 r3 (by rfl) D10.gl D10.fn.kp D10.bd .nil pass0 (pa_cons (pv 3) (pa_cons (pv 7) pa_nil))))
        (C8.pss_cut (ps_if (pt_cmpR op_eq (pe_ix ix_tup (pv 7) pe_int (fun _ _ => rfl)) pe_str (nomark _)) (pss_one (ps_aug (i := 5) nd rfl (.inl rfl) (pe_ix ix_tup (pv 7) pe_int (fun _ _ => rfl)) ip_add))
            (pss_cons (ps_aug (i := 5) nd rfl (.inl rfl) pe_int ip_add)
            (pss_one (ps_expr (pe_bm PySem.F.plainAttrs_list PySem.F.slot_list_append PySem.F.type_list_append mt_append (pv 4) (pa_cons (pe_tup (pa_cons (pv 5) (pa_cons (pe_ix ix_tup (pv 7) pe_int (fun _ _ => rfl)) pa_nil))) pa_nil))))))
        (pss_cons (ps_set (i := 8) nd rfl (.inl rfl) (pe_op op_add pe_int (pe_op op_mod (pe_call G5 r1 (by rfl) D5.gl D5.fn.kp D5.bd .nil pass0 (pa_cons (pv 6) (pa_cons pe_int (pa_cons pe_int pa_nil)))) (pe_callB (call_min2 rfl) (by rfl) B.min (by decide +kernel) (pa_cons (pv 1) (pa_cons pe_int pa_nil))))))
        (pss_one (ps_if (pt_not (pt_val (pe_call G14 r2 (by rfl) D14.gl D14.fn.kp D14.bd .nil pass0 (pa_cons (pv 3) (pa_cons (pv 4) (pa_cons (pv 5) (pa_cons (pv 1) (pa_cons (pv 2) (pa_cons (pv 8) pa_nil))))))))) (pss_one (ps_ret pe_bl)) pss_nil)))))))
      (pss_one (ps_ret pe_bl))))))), ?_⟩
    -- reach, room
    refine ⟨_, rfl, a, ns, 0, rfl, hS, fun z0 => ?_⟩
    refine ⟨z0, rfl, fun H1 reach s1 hre => ?_⟩
    refine ⟨_, rfl, a, ns, 1, rfl, s1.seq hS, fun z1 => ?_⟩
    refine ⟨z1, rfl, fun H2 room s2 hro1 hro2 => ?_⟩
    have hroom : -(2 ^ 64) < room ∧ room < 2 ^ 64 := ⟨by omega, by omega⟩
    -- window
    refine ⟨_, rfl, _, rfl, fun x dx nx ndx nex => ?_⟩
    refine ⟨x, dx, room, reach, rfl, upd_same, fun H3 w3 b3 => ⟨rfl, ?_⟩⟩
    have s3 : Same H2 H3 := Same.made nx ndx b3
    -- rows, clock
    refine ⟨Nat.zero_le _, fun R nR => ?_⟩
    have s4 := same_upd (o := .lst []) nR
    obtain ⟨dx3, l3, xs3, hx3, hl3, hb3⟩ := id w3
    have nRx : x ≠ R := ne_of_none hx3 nR
    -- the slice
    obtain ⟨ms, ems, hml⟩ := cut_ints ns (some 2) (some 202)
    have s14 := ((s1.trans s2).trans s3).trans s4
    refine ⟨_, rfl, 2, rfl, 202, rfl, a, _, rfl, s14.seq hS, fun S nS => ?_⟩
    have s5 := same_upd (o := .lst (cutV (ns.map V.int) (some 2) (some 202))) nS
    rw [ems] at s5
    rw [ems]
    have nRS : R ≠ S := ne_of_none (upd_same (H := H3) (a := R) (o := .lst [])) nS
    refine ⟨S, rfl, ⟨ms.map V.int, SqL.of upd_same⟩, for_list (K := K) (a := S) (xs := ms.map V.int) (fun i σ H' => ∃ (clock : Int) (bs : List Bx) (rvs : List V) (rows : List Row) (v6 v7 v8 : Option V),
      σ = [some (.ref a), some (.int reach), some (.int room), some (.ref x), some (.ref R), some (.int clock), v6, v7, v8] ∧ WinAt C H' x room reach clock bs ∧ H' R = some (.lst rvs) ∧ Rws H' rvs rows ∧ H' S = some (.lst (ms.map V.int)) ∧
      Win room reach clock bs rows ∧ 0 ≤ clock ∧ rows.length ≤ i) ?_ (fun i σ H' _ ⟨_, _, _, _, _, _, _, _, _, _, _, e, _⟩ => SqL.of e) ?_ ?_⟩
    · exact ⟨0, [], [], [], none, none, none, rfl, (w3.same s4).same s5, s5 _ _ upd_same, .nil, upd_same, Win.start room reach, Int.le_refl _, Nat.le_refl _⟩
    · rintro i y σ H' hy ⟨clock, bs, rvs, rows, v6, v7, v8, rfl, hw, hR, hrs, hSS, W, hcl, hrl⟩
      have hims : i < ms.length := by
        have q := (List.getElem?_eq_some_iff.mp hy).1
        rw [List.length_map] at q
        exact q
      obtain ⟨cell, rfl⟩ : ∃ cell, y = V.int cell := by
        rw [List.getElem?_map, List.getElem?_eq_getElem hims] at hy
        exact ⟨_, (Option.some.inj hy).symm⟩
      have hbl := W.len
      have hrvl := Paired.length hrs
      -- the rest of a turn, from the window behind the event and the rows
      have hmany : ∀ z : Int, 0 ≤ z → 1 ≤ 1 + z % (if 90 < reach then 90 else reach) ∧ 1 + z % (if 90 < reach then 90 else reach) ≤ reach := fun z hz => by
        have hp : 0 < (if 90 < reach then 90 else reach) := by split <;> omega
        have h1 := Int.emod_nonneg z (show (if 90 < reach then 90 else reach) ≠ 0 by omega)
        have h2 := Int.emod_lt_of_pos z hp
        have h3 : (if 90 < reach then 90 else reach) ≤ reach := by split <;> omega
        omega
      have hmin : 0 < (if 90 < reach then 90 else reach) := by split <;> omega
      refine ⟨_, rfl, _, rfl, cell, reach, rfl, hre, fun H6 q m s6 nq hq hm => ?_, fun H6 q m s6 nq hq hm => ?_⟩
      · -- an idling
        refine ⟨_, rfl, _, rfl, x, q, m, room, reach, clock, bs, rfl, hw.same s6, by omega, hroom, .inl ⟨hq, fun H7 w7 b7 => ?_⟩⟩
        obtain ⟨dx6, l6, xs6, hx6, _⟩ := hw.same s6
        obtain ⟨dx7, l7, xs7, nl7, hx7, hl7, hb7⟩ := w7
        have t7 := But.tk hx6 b7
        have hq7 := t7 _ _ hq
        have hR7 := b7 _ _ (s6 _ _ hR) nRx.symm
        have hS7 := b7 _ _ (s6 _ _ hSS) (ne_of (s6 _ _ hSS) hx6 (by intro z; cases z))
        have hrs7 := rws_tk t7 (rws_tk (Same.tk s6) hrs)
        have W7 := W.idle (m := m) (by omega) (by omega)
        have w7' : WinAt C H7 x room reach (clock + m) (settle room (clock + m - reach) bs) := ⟨dx7, l7, xs7, hx7, hl7, hb7⟩
        refine ⟨fun σ8 H8 => σ8 = [some (.ref a), some (.int reach), some (.int room), some (.ref x), some (.ref R), some (.int (clock + m)), some (.int cell), some (.ref q), v8] ∧ H8 = H7, ?_, ?_⟩
        · refine ⟨_, rfl, q, _, _, _, rfl, rfl, SqT.of hq7, atI_nat (j := 0) rfl, rfl, _, rfl, ite2 (fun _ => ?_) (fun z => absurd (decide_eq_true rfl) z)⟩
          exact ⟨_, rfl, _, rfl, q, _, _, _, rfl, rfl, SqT.of hq7, atI_nat (j := 1) rfl, _, _, rfl, rfl, rfl, rfl⟩
        rintro σ8 H8 ⟨rfl, rfl⟩
        refine ⟨_, rfl, cell, 16807, 2147483399, rfl, by decide, ⟨by decide, by decide⟩, fun z hz => ?_⟩
        refine ⟨_, rfl, _, _, rfl, _, _, rfl, rfl, hmin, _, _, rfl, rfl, ?_⟩
        refine ⟨_, rfl, _, rfl, _, rfl, _, rfl, _, rfl, _, rfl, x, R, clock + m, reach, room, _, _, rvs, rows, rfl, w7', hR7, hrs7, W7, by omega, hro1, hro2, (hmany z hz).1, (hmany z hz).2, fun H9 s9 => ⟨_, rfl, iteF ?_⟩⟩
        exact ⟨clock + m, _, rvs, rows, _, _, _, rfl, w7'.same s9, s9 _ _ hR7, rws_tk (Same.tk s9) hrs7, s9 _ _ hS7, W7, by omega, by omega⟩
      · -- a weight
        refine ⟨_, rfl, _, rfl, x, q, m, room, reach, clock, bs, rfl, hw.same s6, by omega, hroom, .inr ⟨hq, fun H7 w7 b7 => ?_⟩⟩
        obtain ⟨dx6, l6, xs6, hx6, _⟩ := hw.same s6
        obtain ⟨dx7, l7, xs7, nl7, hx7, hl7, hb7⟩ := w7
        have t7 := But.tk hx6 b7
        have hq7 := t7 _ _ hq
        have hR7 := b7 _ _ (s6 _ _ hR) nRx.symm
        have hS7 := b7 _ _ (s6 _ _ hSS) (ne_of (s6 _ _ hSS) hx6 (by intro z; cases z))
        have hrs7 := rws_tk t7 (rws_tk (Same.tk s6) hrs)
        have W7 := W.add (w := m) (by omega) hcl hm
        have nlR : l7 ≠ R := fun z => by
          rw [z, s6 _ _ hR] at nl7
          cases nl7
        refine ⟨fun σ8 H8 => σ8 = [some (.ref a), some (.int reach), some (.int room), some (.ref x), some (.ref R), some (.int (clock + 1)), some (.int cell), some (.ref q), v8] ∧
          WinAt C H8 x room reach (clock + 1) (settle room (clock + 1 - reach) (bs ++ [⟨clock + 1, clock + 1, m⟩])) ∧ (∃ rvs', H8 R = some (.lst rvs') ∧ Rws H8 rvs' (rows ++ [(clock + 1, m)])) ∧ H8 S = some (.lst (ms.map V.int)), ?_, ?_⟩
        · refine ⟨_, rfl, q, _, _, _, rfl, rfl, SqT.of hq7, atI_nat (j := 0) rfl, rfl, _, rfl, ite2 (fun z => absurd z (by decide +kernel)) (fun _ => ?_)⟩
          refine ⟨_, rfl, _, _, rfl, rfl, ?_⟩
          refine ⟨_, rfl, .inl ⟨rfl, _, SqL.of hR7⟩, _, rfl, _, rfl, q, _, _, _, rfl, rfl, SqT.of hq7, atI_nat (j := 1) rfl, small (by show 2 ≤ 1000; decide), fun t nt => ?_⟩
          have st := same_upd (o := .tup [.int (clock + 1), .int m]) nt
          refine ⟨R, _, _, rfl, rfl, st _ _ hR7, small1000 (by omega), rfl, ⟨dx7, l7, xs7, ?_, ?_, ?_⟩, ⟨rvs ++ [.ref t], upd_same, ?_⟩, ?_⟩
          · rw [upd_ne nRx]
            exact st _ _ hx7
          · rw [upd_ne nlR]
            exact st _ _ hl7
          · exact bxs_tk (tk_lst (st _ _ hR7)) (bxs_tk (Same.tk st) hb7)
          · exact Paired.snoc (rws_tk (tk_lst (st _ _ hR7)) (rws_tk (Same.tk st) hrs7)) ⟨t, rfl, tk_lst (st _ _ hR7) _ _ upd_same⟩
          · rw [upd_ne nRS.symm]
            exact st _ _ hS7
        rintro σ8 H8 ⟨rfl, w8, ⟨rvs', hR8, hrs8⟩, hS8⟩
        have hrl8 : (rows ++ [(clock + 1, m)]).length ≤ i + 1 := by
          rw [List.length_append, List.length_singleton]
          omega
        refine ⟨_, rfl, cell, 16807, 2147483399, rfl, by decide, ⟨by decide, by decide⟩, fun z hz => ?_⟩
        refine ⟨_, rfl, _, _, rfl, _, _, rfl, rfl, hmin, _, _, rfl, rfl, ?_⟩
        refine ⟨_, rfl, _, rfl, _, rfl, _, rfl, _, rfl, _, rfl, x, R, clock + 1, reach, room, _, _, rvs', _, rfl, w8, hR8, hrs8, W7, by omega, hro1, hro2, (hmany z hz).1, (hmany z hz).2, fun H9 s9 => ⟨_, rfl, iteF ?_⟩⟩
        exact ⟨clock + 1, _, rvs', _, _, _, _, rfl, w8.same s9, s9 _ _ hR8, rws_tk (Same.tk s9) hrs8, s9 _ _ hS8, W7, by omega, hrl8⟩
    · rintro σ H' ⟨clock, bs, rvs, rows, v6, v7, v8, rfl, _⟩
      exact k _
end
end Sk

namespace Sk
open PySem L2
theorem all_mk {l : PySem.W.OpenLaw} {w : World} {K : PySem.W.Frag} {h : Heap} {mg : Str → Option Value} {fa C f1 f2 f3 f4 f5 f6 f7 f8 f9 f10 f11 f12 f13 f14 f15 f16 f17 f18 f19 : Addr} (X : K.In h) (G : h.Ns mainGlobals mg) (hfa : mg "law" = some (.ref fa))
    {od1 an1 od2 an2 od3 an3 od4 an4 od5 an5 od6 an6 od7 an7 od8 an8 od9 an9 od10 an10 od11 an11 od12 an12 od13 an13 od14 an14 od15 an15 od16 an16 od17 an17 od18 an18 od19 an19 : Option Addr} {sl1 sl2 sl3 sl4 sl5 sl6 sl7 sl8 sl9 sl10 sl11 sl12 sl13 sl14 sl15 sl16 sl17 sl18 sl19 : Array (Option Value)} {oc1 kV1 dc1 pm1 cd1 ct1 oc2 kV2 dc2 pm2 cd2 ct2 oc3 kV3 dc3 pm3 cd3 ct3 oc4 kV4 dc4 pm4 cd4 ct4 oc5 kV5 dc5 pm5 cd5 ct5 oc6 kV6 dc6 pm6 cd6 ct6 oc7 kV7 dc7 pm7 cd7 ct7 oc8 kV8 dc8 pm8 cd8 ct8 oc9 kV9 dc9 pm9 cd9 ct9 oc10 kV10 dc10 pm10 cd10 ct10 oc11 kV11 dc11 pm11 cd11 ct11 oc12 kV12 dc12 pm12 cd12 ct12 oc13 kV13 dc13 pm13 cd13 ct13 oc14 kV14 dc14 pm14 cd14 ct14 oc15 kV15 dc15 pm15 cd15 ct15 oc16 kV16 dc16 pm16 cd16 ct16 oc17 kV17 dc17 pm17 cd17 ct17 oc18 kV18 dc18 pm18 cd18 ct18 oc19 kV19 dc19 pm19 cd19 ct19 : Value}
    (aC : PySem.W.nsIn K mainGlobals "Window" = some (some (.ref C)))
    (a1 : PySem.W.nsIn K mainGlobals "settled_boxes" = some (some (.ref f1))) (l1 : K.lookup f1 = some ⟨oc1, od1, .func (PySem.W.fnOf "settled_boxes" "settled_boxes" (defArgs sSettled) (defBody sSettled) (defScope sSettled) .none kV1 dc1 pm1 an1 cd1 ct1), sl1⟩) (c1 : PySem.W.codeIn K cd1 "settled_boxes" = true) (k1 : PySem.W.keepIn K (.ref f1) = true)
    (a2 : PySem.W.nsIn K mainGlobals "most_boxes" = some (some (.ref f2))) (l2 : K.lookup f2 = some ⟨oc2, od2, .func (PySem.W.fnOf "most_boxes" "most_boxes" (defArgs sMost) (defBody sMost) (defScope sMost) .none kV2 dc2 pm2 an2 cd2 ct2), sl2⟩) (c2 : PySem.W.codeIn K cd2 "most_boxes" = true) (k2 : PySem.W.keepIn K (.ref f2) = true)
    (a3 : PySem.W.nsIn K mainGlobals "_law_whole" = some (some (.ref f3))) (l3 : K.lookup f3 = some ⟨oc3, od3, .func (PySem.W.fnOf "_law_whole" "_law_whole" (defArgs sWhole) (defBody sWhole) (defScope sWhole) .none kV3 dc3 pm3 an3 cd3 ct3), sl3⟩) (c3 : PySem.W.codeIn K cd3 "_law_whole" = true) (k3 : PySem.W.keepIn K (.ref f3) = true)
    (a4 : PySem.W.nsIn K mainGlobals "_law_cell_at" = some (some (.ref f4))) (l4 : K.lookup f4 = some ⟨oc4, od4, .func (PySem.W.fnOf "_law_cell_at" "_law_cell_at" (defArgs sCell) (defBody sCell) (defScope sCell) .none kV4 dc4 pm4 an4 cd4 ct4), sl4⟩) (c4 : PySem.W.codeIn K cd4 "_law_cell_at" = true) (k4 : PySem.W.keepIn K (.ref f4) = true)
    (a5 : PySem.W.nsIn K mainGlobals "_law_mix" = some (some (.ref f5))) (l5 : K.lookup f5 = some ⟨oc5, od5, .func (PySem.W.fnOf "_law_mix" "_law_mix" (defArgs sMix) (defBody sMix) (defScope sMix) .none kV5 dc5 pm5 an5 cd5 ct5), sl5⟩) (c5 : PySem.W.codeIn K cd5 "_law_mix" = true) (k5 : PySem.W.keepIn K (.ref f5) = true)
    (a6 : PySem.W.nsIn K mainGlobals "_law_reach_by" = some (some (.ref f6))) (l6 : K.lookup f6 = some ⟨oc6, od6, .func (PySem.W.fnOf "_law_reach_by" "_law_reach_by" (defArgs sReach) (defBody sReach) (defScope sReach) .none kV6 dc6 pm6 an6 cd6 ct6), sl6⟩) (c6 : PySem.W.codeIn K cd6 "_law_reach_by" = true) (k6 : PySem.W.keepIn K (.ref f6) = true)
    (a7 : PySem.W.nsIn K mainGlobals "_law_room_by" = some (some (.ref f7))) (l7 : K.lookup f7 = some ⟨oc7, od7, .func (PySem.W.fnOf "_law_room_by" "_law_room_by" (defArgs sRoom) (defBody sRoom) (defScope sRoom) .none kV7 dc7 pm7 an7 cd7 ct7), sl7⟩) (c7 : PySem.W.codeIn K cd7 "_law_room_by" = true) (k7 : PySem.W.keepIn K (.ref f7) = true)
    (a8 : PySem.W.nsIn K mainGlobals "_law_weight_by" = some (some (.ref f8))) (l8 : K.lookup f8 = some ⟨oc8, od8, .func (PySem.W.fnOf "_law_weight_by" "_law_weight_by" (defArgs sWeight) (defBody sWeight) (defScope sWeight) .none kV8 dc8 pm8 an8 cd8 ct8), sl8⟩) (c8 : PySem.W.codeIn K cd8 "_law_weight_by" = true) (k8 : PySem.W.keepIn K (.ref f8) = true)
    (a9 : PySem.W.nsIn K mainGlobals "_law_event_by" = some (some (.ref f9))) (l9 : K.lookup f9 = some ⟨oc9, od9, .func (PySem.W.fnOf "_law_event_by" "_law_event_by" (defArgs sEvent) (defBody sEvent) (defScope sEvent) .none kV9 dc9 pm9 an9 cd9 ct9), sl9⟩) (c9 : PySem.W.codeIn K cd9 "_law_event_by" = true) (k9 : PySem.W.keepIn K (.ref f9) = true)
    (a10 : PySem.W.nsIn K mainGlobals "_law_do" = some (some (.ref f10))) (l10 : K.lookup f10 = some ⟨oc10, od10, .func (PySem.W.fnOf "_law_do" "_law_do" (defArgs sDo) (defBody sDo) (defScope sDo) .none kV10 dc10 pm10 an10 cd10 ct10), sl10⟩) (c10 : PySem.W.codeIn K cd10 "_law_do" = true) (k10 : PySem.W.keepIn K (.ref f10) = true)
    (a11 : PySem.W.nsIn K mainGlobals "_law_box" = some (some (.ref f11))) (l11 : K.lookup f11 = some ⟨oc11, od11, .func (PySem.W.fnOf "_law_box" "_law_box" (defArgs sBox) (defBody sBox) (defScope sBox) .none kV11 dc11 pm11 an11 cd11 ct11), sl11⟩) (c11 : PySem.W.codeIn K cd11 "_law_box" = true) (k11 : PySem.W.keepIn K (.ref f11) = true)
    (a12 : PySem.W.nsIn K mainGlobals "_law_covered" = some (some (.ref f12))) (l12 : K.lookup f12 = some ⟨oc12, od12, .func (PySem.W.fnOf "_law_covered" "_law_covered" (defArgs sCov) (defBody sCov) (defScope sCov) .none kV12 dc12 pm12 an12 cd12 ct12), sl12⟩) (c12 : PySem.W.codeIn K cd12 "_law_covered" = true) (k12 : PySem.W.keepIn K (.ref f12) = true)
    (a13 : PySem.W.nsIn K mainGlobals "_law_near" = some (some (.ref f13))) (l13 : K.lookup f13 = some ⟨oc13, od13, .func (PySem.W.fnOf "_law_near" "_law_near" (defArgs sNear) (defBody sNear) (defScope sNear) .none kV13 dc13 pm13 an13 cd13 ct13), sl13⟩) (c13 : PySem.W.codeIn K cd13 "_law_near" = true) (k13 : PySem.W.keepIn K (.ref f13) = true)
    (a14 : PySem.W.nsIn K mainGlobals "_law_right" = some (some (.ref f14))) (l14 : K.lookup f14 = some ⟨oc14, od14, .func (PySem.W.fnOf "_law_right" "_law_right" (defArgs sRight) (defBody sRight) (defScope sRight) .none kV14 dc14 pm14 an14 cd14 ct14), sl14⟩) (c14 : PySem.W.codeIn K cd14 "_law_right" = true) (k14 : PySem.W.keepIn K (.ref f14) = true)
    (a15 : PySem.W.nsIn K mainGlobals "law" = some (some (.ref f15))) (l15 : K.lookup f15 = some ⟨oc15, od15, .func (PySem.W.fnOf "law" "law" (defArgs sLaw) (defBody sLaw) (defScope sLaw) .none kV15 dc15 pm15 an15 cd15 ct15), sl15⟩) (c15 : PySem.W.codeIn K cd15 "law" = true) (k15 : PySem.W.keepIn K (.ref f15) = true)
    (a16 : PySem.W.findIn K (.ref C) "__init__" = some (some (.ref f16))) (i16 : PySem.W.isFn K (.ref f16) = true) (l16 : K.lookup f16 = some ⟨oc16, od16, .func (PySem.W.fnOf "__init__" "Window.__init__" (defArgs sInit) (defBody sInit) (defScope sInit) .none kV16 dc16 pm16 an16 cd16 ct16), sl16⟩) (c16 : PySem.W.codeIn K cd16 "Window.__init__" = true) (k16 : PySem.W.keepIn K (.ref f16) = true)
    (a17 : PySem.W.findIn K (.ref C) "add" = some (some (.ref f17))) (i17 : PySem.W.isFn K (.ref f17) = true) (l17 : K.lookup f17 = some ⟨oc17, od17, .func (PySem.W.fnOf "add" "Window.add" (defArgs sAdd) (defBody sAdd) (defScope sAdd) .none kV17 dc17 pm17 an17 cd17 ct17), sl17⟩) (c17 : PySem.W.codeIn K cd17 "Window.add" = true) (k17 : PySem.W.keepIn K (.ref f17) = true)
    (a18 : PySem.W.findIn K (.ref C) "idle" = some (some (.ref f18))) (i18 : PySem.W.isFn K (.ref f18) = true) (l18 : K.lookup f18 = some ⟨oc18, od18, .func (PySem.W.fnOf "idle" "Window.idle" (defArgs sIdle) (defBody sIdle) (defScope sIdle) .none kV18 dc18 pm18 an18 cd18 ct18), sl18⟩) (c18 : PySem.W.codeIn K cd18 "Window.idle" = true) (k18 : PySem.W.keepIn K (.ref f18) = true)
    (a19 : PySem.W.findIn K (.ref C) "last" = some (some (.ref f19))) (i19 : PySem.W.isFn K (.ref f19) = true) (l19 : K.lookup f19 = some ⟨oc19, od19, .func (PySem.W.fnOf "last" "Window.last" (defArgs sLast) (defBody sLast) (defScope sLast) .none kV19 dc19 pm19 an19 cd19 ct19), sl19⟩) (c19 : PySem.W.codeIn K cd19 "Window.last" = true) (k19 : PySem.W.keepIn K (.ref f19) = true)
    (pg : PySem.W.plainGet K C Str.empty = true) (hd : PySem.W.hasDictIn K C = true) (po : PySem.W.plainOver K C = true) (sa : PySem.W.findIn K (.ref C) "__setattr__" = some (some (.builtin "object.__setattr__"))) (mk : PySem.W.makesIn K C = true) (kc : PySem.W.keepIn K (.ref C) = true)
    (n_room : PySem.W.findIn K (.ref C) "room" = some none)
    (n_reach : PySem.W.findIn K (.ref C) "reach" = some none)
    (n_clock : PySem.W.findIn K (.ref C) "clock" = some none)
    (n_boxes : PySem.W.findIn K (.ref C) "boxes" = some none)
    (z_reversed : PySem.W.nsIn K mainGlobals "reversed" = some none)
    (z_list : PySem.W.nsIn K mainGlobals "list" = some none)
    (z_isinstance : PySem.W.nsIn K mainGlobals "isinstance" = some none)
    (z_int : PySem.W.nsIn K mainGlobals "int" = some none)
    (z_bool : PySem.W.nsIn K mainGlobals "bool" = some none)
    (z_len : PySem.W.nsIn K mainGlobals "len" = some none)
    (z_max : PySem.W.nsIn K mainGlobals "max" = some none)
    (z_sum : PySem.W.nsIn K mainGlobals "sum" = some none)
    (z_range : PySem.W.nsIn K mainGlobals "range" = some none)
    (z_tuple : PySem.W.nsIn K mainGlobals "tuple" = some none)
    (z_min : PySem.W.nsIn K mainGlobals "min" = some none) :
    ∃ fd : FuncData, (∀ (s : Shared) (v : Value), BindsTo s fd ⟨[v], []⟩ [("_law_script", v)]) ∧ ∀ base : Heap, K.In base → base.Ns mainGlobals mg → FnOk l.prog w K mg base CX0 8 fa fd ["_law_script"] (spLaw K) := by
  have e := hfa.symm.trans (PySem.W.mg_of X G a15)
  cases e
  have F1 := fun_mk (st := sSettled) l1 c1 k1
  have b1 := F1.binds (ps := ["boxes", "room", "edge"]) fun _ _ _ _ _ _ us hl => match us, hl with | [_, _, _], _ => rfl
  have F2 := fun_mk (st := sMost) l2 c2 k2
  have b2 := F2.binds (ps := ["room", "total"]) fun _ _ _ _ _ _ us hl => match us, hl with | [_, _], _ => rfl
  have F3 := fun_mk (st := sWhole) l3 c3 k3
  have b3 := F3.binds (ps := ["_law_found"]) fun _ _ _ _ _ _ us hl => match us, hl with | [_], _ => rfl
  have F4 := fun_mk (st := sCell) l4 c4 k4
  have b4 := F4.binds (ps := ["_law_script", "_law_k"]) fun _ _ _ _ _ _ us hl => match us, hl with | [_, _], _ => rfl
  have F5 := fun_mk (st := sMix) l5 c5 k5
  have b5 := F5.binds (ps := ["_law_cell", "_law_factor", "_law_prime"]) fun _ _ _ _ _ _ us hl => match us, hl with | [_, _, _], _ => rfl
  have F6 := fun_mk (st := sReach) l6 c6 k6
  have b6 := F6.binds (ps := ["_law_cell"]) fun _ _ _ _ _ _ us hl => match us, hl with | [_], _ => rfl
  have F7 := fun_mk (st := sRoom) l7 c7 k7
  have b7 := F7.binds (ps := ["_law_cell"]) fun _ _ _ _ _ _ us hl => match us, hl with | [_], _ => rfl
  have F8 := fun_mk (st := sWeight) l8 c8 k8
  have b8 := F8.binds (ps := ["_law_cell"]) fun _ _ _ _ _ _ us hl => match us, hl with | [_], _ => rfl
  have F9 := fun_mk (st := sEvent) l9 c9 k9
  have b9 := F9.binds (ps := ["_law_cell", "_law_reach"]) fun _ _ _ _ _ _ us hl => match us, hl with | [_, _], _ => rfl
  have F10 := fun_mk (st := sDo) l10 c10 k10
  have b10 := F10.binds (ps := ["_law_window", "_law_event"]) fun _ _ _ _ _ _ us hl => match us, hl with | [_, _], _ => rfl
  have F11 := fun_mk (st := sBox) l11 c11 k11
  have b11 := F11.binds (ps := ["_law_box_here", "_law_rows"]) fun _ _ _ _ _ _ us hl => match us, hl with | [_, _], _ => rfl
  have F12 := fun_mk (st := sCov) l12 c12 k12
  have b12 := F12.binds (ps := ["_law_boxes", "_law_rows", "_law_edge"]) fun _ _ _ _ _ _ us hl => match us, hl with | [_, _, _], _ => rfl
  have F13 := fun_mk (st := sNear) l13 c13 k13
  have b13 := F13.binds (ps := ["_law_boxes", "_law_room"]) fun _ _ _ _ _ _ us hl => match us, hl with | [_, _], _ => rfl
  have F14 := fun_mk (st := sRight) l14 c14 k14
  have b14 := F14.binds (ps := ["_law_window", "_law_rows", "_law_clock", "_law_reach", "_law_room", "_law_many"]) fun _ _ _ _ _ _ us hl => match us, hl with | [_, _, _, _, _, _], _ => rfl
  have F15 := fun_mk (st := sLaw) l15 c15 k15
  have F16 := fun_mk (st := sInit) l16 c16 k16
  have b16 := F16.binds (ps := ["self", "room", "reach"]) fun _ _ _ _ _ _ us hl => match us, hl with | [_, _, _], _ => rfl
  have F17 := fun_mk (st := sAdd) l17 c17 k17
  have b17 := F17.binds (ps := ["self", "weight"]) fun _ _ _ _ _ _ us hl => match us, hl with | [_, _], _ => rfl
  have F18 := fun_mk (st := sIdle) l18 c18 k18
  have b18 := F18.binds (ps := ["self", "many"]) fun _ _ _ _ _ _ us hl => match us, hl with | [_, _], _ => rfl
  have F19 := fun_mk (st := sLast) l19 c19 k19
  have b19 := F19.binds (ps := ["self", "many"]) fun _ _ _ _ _ _ us hl => match us, hl with | [_, _], _ => rfl
  have B : Blt mg := ⟨PySem.W.mg_none_of X G z_reversed, PySem.W.mg_none_of X G z_list, PySem.W.mg_none_of X G z_isinstance, PySem.W.mg_none_of X G z_int, PySem.W.mg_none_of X G z_bool, PySem.W.mg_none_of X G z_len, PySem.W.mg_none_of X G z_max, PySem.W.mg_none_of X G z_sum, PySem.W.mg_none_of X G z_range, PySem.W.mg_none_of X G z_tuple, PySem.W.mg_none_of X G z_min⟩
  have T : Txt K mg C := ⟨⟨pg, hd, po, sa⟩, n_room, n_reach, n_clock, n_boxes, PySem.W.mg_of X G aC⟩
  have D1 := Df.mk F1 b1 (PySem.W.mg_of X G a1)
  have D2 := Df.mk F2 b2 (PySem.W.mg_of X G a2)
  have D3 := Df.mk F3 b3 (PySem.W.mg_of X G a3)
  have D4 := Df.mk F4 b4 (PySem.W.mg_of X G a4)
  have D5 := Df.mk F5 b5 (PySem.W.mg_of X G a5)
  have D6 := Df.mk F6 b6 (PySem.W.mg_of X G a6)
  have D7 := Df.mk F7 b7 (PySem.W.mg_of X G a7)
  have D8 := Df.mk F8 b8 (PySem.W.mg_of X G a8)
  have D9 := Df.mk F9 b9 (PySem.W.mg_of X G a9)
  have D10 := Df.mk F10 b10 (PySem.W.mg_of X G a10)
  have D11 := Df.mk F11 b11 (PySem.W.mg_of X G a11)
  have D12 := Df.mk F12 b12 (PySem.W.mg_of X G a12)
  have D13 := Df.mk F13 b13 (PySem.W.mg_of X G a13)
  have D14 := Df.mk F14 b14 (PySem.W.mg_of X G a14)
  exact ⟨PySem.W.fnOf "law" "law" (defArgs sLaw) (defBody sLaw) (defScope sLaw) .none kV15 dc15 pm15 an15 cd15 ct15, fun s v => .of_eq rfl, fun base _ _ =>
    ok_law F15 T B ⟨mk, a16, i16, kc⟩ D1 D2 D3 D4 D5 D6 D7 D8 D9 D10 D11 D12 D13 D14 F16 b16 F17 b17 F18 b18 F19 b19 ⟨a17, i17, k17⟩ ⟨a18, i18, k18⟩ ⟨a19, i19, k19⟩⟩
theorem walk {l : PySem.W.OpenLaw} {q : Program} {loose : List Str} {XP : (Str → Option Value) → Heap → Prop} {YP : World → Heap → Prop} {d : DefRec} {K : Params → PySem.W.Frag} (hn : l.most = some 63) (hdf : d.params.defaults = [])
    (hY : ∀ (w : World) (h : Heap), YP w h → (K w.params).In h)
    (F : ∀ (w : World) (mg : Str → Option Value) (fa : Addr) (h : Heap), (K w.params).In h → h.Ns mainGlobals mg → mg d.name = some (.ref fa) →
      ∃ fd : FuncData, (∀ (s : Shared) (u : Value), BindsTo s fd ⟨[u], []⟩ [("_law_script", u)]) ∧ ∀ base : Heap, (K w.params).In base → base.Ns mainGlobals mg → FnOk l.prog w (K w.params) mg base CX0 8 fa fd ["_law_script"] (spLaw (K w.params))) :
    PySem.W.WalkO q loose XP YP l.row.toRowW d [] (fun f vs => PySem.call f vs) :=
  L2.walk_of (n := 63) (k := 8) (x := "_law_script") (CX := fun _ => CX0) (sp := fun w => spLaw (K w.params)) hn (by decide) hdf ⟨rfl, by decide, by decide⟩ hY F (fun _ _ a ns hl _ hS => ⟨a, ns, rfl, hS, hl, fun _ => rfl⟩) fun _ _ _ _ _ z => z
end Sk

open PySem PySem.W PyProof.Rows
set_option maxRecDepth 100000 in
set_option maxHeartbeats 0 in
theorem PySem.Challenge.cw_sketchbounds_k16_whole_boxes_few_and_nea_holds : PySem.Challenge.rw_sketchbounds_k16_whole_boxes_few_and_nea.Holds := by
  w_on; o_law; k_head; (case hw => w_witness2)
  k_fill
  refine Sk.walk (l := PySem.Challenge.rw_sketchbounds_k16_whole_boxes_few_and_nea) rfl rfl (fun w h Y => PySem.W.kIn_of Y) ?F
  case F =>
    intro w mg fa h KX G hmg
    refine' Sk.all_mk KX G hmg ?aC ?a1 ?l1 ?c1 ?k1 ?a2 ?l2 ?c2 ?k2 ?a3 ?l3 ?c3 ?k3 ?a4 ?l4 ?c4 ?k4 ?a5 ?l5 ?c5 ?k5 ?a6 ?l6 ?c6 ?k6 ?a7 ?l7 ?c7 ?k7 ?a8 ?l8 ?c8 ?k8 ?a9 ?l9 ?c9 ?k9 ?a10 ?l10 ?c10 ?k10 ?a11 ?l11 ?c11 ?k11 ?a12 ?l12 ?c12 ?k12 ?a13 ?l13 ?c13 ?k13 ?a14 ?l14 ?c14 ?k14 ?a15 ?l15 ?c15 ?k15 ?a16 ?i16 ?l16 ?c16 ?k16 ?a17 ?i17 ?l17 ?c17 ?k17 ?a18 ?i18 ?l18 ?c18 ?k18 ?a19 ?i19 ?l19 ?c19 ?k19 ?pg ?hd ?po ?sa ?mk ?kc ?n_room ?n_reach ?n_clock ?n_boxes ?z_reversed ?z_list ?z_isinstance ?z_int ?z_bool ?z_len ?z_max ?z_sum ?z_range ?z_tuple ?z_min
    (case aC => k_is)
    (case a1 => k_is)
    (case l1 => k_is)
    (case c1 => k_is)
    (case k1 => k_is)
    (case a2 => k_is)
    (case l2 => k_is)
    (case c2 => k_is)
    (case k2 => k_is)
    (case a3 => k_is)
    (case l3 => k_is)
    (case c3 => k_is)
    (case k3 => k_is)
    (case a4 => k_is)
    (case l4 => k_is)
    (case c4 => k_is)
    (case k4 => k_is)
    (case a5 => k_is)
    (case l5 => k_is)
    (case c5 => k_is)
    (case k5 => k_is)
    (case a6 => k_is)
    (case l6 => k_is)
    (case c6 => k_is)
    (case k6 => k_is)
    (case a7 => k_is)
    (case l7 => k_is)
    (case c7 => k_is)
    (case k7 => k_is)
    (case a8 => k_is)
    (case l8 => k_is)
    (case c8 => k_is)
    (case k8 => k_is)
    (case a9 => k_is)
    (case l9 => k_is)
    (case c9 => k_is)
    (case k9 => k_is)
    (case a10 => k_is)
    (case l10 => k_is)
    (case c10 => k_is)
    (case k10 => k_is)
    (case a11 => k_is)
    (case l11 => k_is)
    (case c11 => k_is)
    (case k11 => k_is)
    (case a12 => k_is)
    (case l12 => k_is)
    (case c12 => k_is)
    (case k12 => k_is)
    (case a13 => k_is)
    (case l13 => k_is)
    (case c13 => k_is)
    (case k13 => k_is)
    (case a14 => k_is)
    (case l14 => k_is)
    (case c14 => k_is)
    (case k14 => k_is)
    (case a15 => k_is)
    (case l15 => k_is)
    (case c15 => k_is)
    (case k15 => k_is)
    (case a16 => k_is)
    (case i16 => k_is)
    (case l16 => k_is)
    (case c16 => k_is)
    (case k16 => k_is)
    (case a17 => k_is)
    (case i17 => k_is)
    (case l17 => k_is)
    (case c17 => k_is)
    (case k17 => k_is)
    (case a18 => k_is)
    (case i18 => k_is)
    (case l18 => k_is)
    (case c18 => k_is)
    (case k18 => k_is)
    (case a19 => k_is)
    (case i19 => k_is)
    (case l19 => k_is)
    (case c19 => k_is)
    (case k19 => k_is)
    (case pg => k_is)
    (case hd => k_is)
    (case po => k_is)
    (case sa => k_is)
    (case mk => k_is)
    (case kc => k_is)
    (case n_room => k_is)
    (case n_reach => k_is)
    (case n_clock => k_is)
    (case n_boxes => k_is)
    (case z_reversed => k_is)
    (case z_list => k_is)
    (case z_isinstance => k_is)
    (case z_int => k_is)
    (case z_bool => k_is)
    (case z_len => k_is)
    (case z_max => k_is)
    (case z_sum => k_is)
    (case z_range => k_is)
    (case z_tuple => k_is)
    (case z_min => k_is)

