import PyProof.Rows.All
import Wide.All
import OpenK.AllK
import Wide.FinOn
import KE.KStateDown
import HandS.ForMost
import HandS.ForExc
import HandS.Evl
import HandS.Steps
import HandS.Flow
import HandS.Wide
import HandS.IsInst
import HandS.Defaults
import HandS.Head0
import HandS.Head1
import HandS.Head2
import HandS.HeadEnd
import HandS.HeadHook1
import HandS.HeadHook2
import KE.KUnpackStar
import HandS.Style
import HandS.HeadHook3
import HandS.HeadHook4
import PySem.Challenge.RW_notefall_k09_whole_rows_of_actions
set_option Elab.async false
set_option linter.all false
set_option maxRecDepth 100000
set_option maxHeartbeats 4000000
/-! The layer over the hand layer: hidden lists, calls in short, one lemma for each construct's reading. -/
namespace Ny
open PySem PySem.Spec PyProof.Rows L2 Evl

/-! ### a list whose items are told by a property alone -/
def LstP (a : Addr) (Pw : List V → Prop) (h : Heap) : Prop := ∃ xs, Pw xs ∧ xs.length ≤ sizeLine ∧ ∃ (its : List Value) (n : Nat), Vals xs its ∧ h.get? a = some { cls := .type "list", data := .seq its.toArray n }
def Hid (a : Addr) (Pw : List V → Prop) : HO := .ext (LstP a Pw)
section
variable {P : Program} {w : World} {H H' : Hp} {h h' : Heap} {a : Addr} {xs : List V} {Pw : List V → Prop}
theorem hid_ok (x : ObjOk P w H h a (.lst xs)) (p : Pw xs) : ObjOk P w H' h a (Hid a Pw) := by
  obtain ⟨z, its, n, r, e⟩ := x
  refine ⟨⟨xs, p, z, its, n, r, e⟩, ⟨_, e⟩, ?_⟩
  rintro h1 h2 ⟨ys, py, zy, jts, m, ry, ey⟩ k
  exact ⟨ys, py, zy, jts, m, ry, k _ ey⟩
theorem hok_hide (x : HOk P w H h) (e : H a = some (.lst xs)) (p : Pw xs) : HOk P w (upd H a (Hid a Pw)) h := fun b u q => by
  by_cases hb : b = a
  · subst hb
    rw [upd_same] at q
    cases q
    exact hid_ok (x b _ e) p
  · rw [upd_ne hb] at q
    refine (x b u q).stay (fun _ _ _ r => r) (fun c r => ?_) (fun c ys r => ?_)
    · rw [upd_ne]
      · exact r
      · intro z; subst z; rw [e] at r; cases r
    · rw [upd_ne]
      · exact r
      · intro z; subst z; rw [e] at r; cases r
theorem hok_open (x : HOk P w H h) (e : H a = some (Hid a Pw)) : ∃ xs, Pw xs ∧ HOk P w (upd H a (.lst xs)) h := by
  obtain ⟨⟨xs, p, z, its, n, r, eo⟩, _, _⟩ := (show ObjOk P w H h a (Hid a Pw) from x a _ e)
  refine ⟨xs, p, fun b u q => ?_⟩
  by_cases hb : b = a
  · subst hb
    rw [upd_same] at q
    cases q
    exact ⟨z, its, n, r, eo⟩
  · rw [upd_ne hb] at q
    refine (x b u q).stay (fun _ _ _ r => r) (fun c r => ?_) (fun c ys r => ?_)
    · rw [upd_ne]
      · exact r
      · intro z; subst z; rw [e] at r; cases r
    · rw [upd_ne]
      · exact r
      · intro z; subst z; rw [e] at r; cases r
theorem un_hide {fs ex : List Addr} {o : HO} (u : Un fs ex H H' h h') (e : H' a = some (.lst xs)) : Un fs ex H (upd H' a o) h h' := by
  have ne : ∀ b, ∀ v : Option HO, v ≠ some (.lst xs) → H' b = v → b ≠ a := fun b v hv hb z => by
    subst z; rw [e] at hb; exact hv hb.symm
  refine ⟨u.keep, u.slot, fun b o q n hx => ?_, u.there, fun b ys q => ?_, fun b o v q => ?_, fun b ps q => ?_⟩
  · have r := u.free b o q n hx
    rw [upd_ne (ne b none (fun z => nomatch z) r)]; exact r
  · have r := u.tups b ys q
    rw [upd_ne (ne b (some (.tup ys)) (by intro z; cases z) r)]; exact r
  · have r := u.frzs b o v q
    rw [upd_ne (ne b (some (.frz o v)) (by intro z; cases z) r)]; exact r
  · obtain ⟨m, r⟩ := u.tbls b ps q
    exact ⟨m, by rw [upd_ne (ne b (some (.tbl (ps ++ m))) (by intro z; cases z) r)]; exact r⟩
theorem un_open {fs ex : List Addr} {H1 : Hp} {φ : Heap → Prop} (u : Un fs ex (upd H a (.lst xs)) H1 h h') (e : H a = some (.ext φ)) : Un fs ex H H1 h h' := by
  have ne : ∀ b, ∀ v : Option HO, v ≠ some (.ext φ) → H b = v → b ≠ a := fun b v hv hb z => by
    subst z; rw [e] at hb; exact hv hb.symm
  refine ⟨fun b o q n hb hx => u.keep b o q ?_ hb hx, fun b o q n hb hx => u.slot b o q ?_ hb hx, fun b o q n hx => u.free b o q ?_ hx, u.there, fun b ys q => u.tups b ys ?_, fun b o v q => u.frzs b o v ?_, fun b ps q => u.tbls b ps ?_⟩
  · rw [upd_ne (ne b none (fun z => nomatch z) n)]; exact n
  · rw [upd_ne (ne b none (fun z => nomatch z) n)]; exact n
  · rw [upd_ne (ne b none (fun z => nomatch z) n)]; exact n
  · rw [upd_ne (ne b (some (.tup ys)) (by intro z; cases z) q)]; exact q
  · rw [upd_ne (ne b (some (.frz o v)) (by intro z; cases z) q)]; exact q
  · rw [upd_ne (ne b (some (.tbl ps)) (by intro z; cases z) q)]; exact q
end
section
variable {P : Program} {w : World} {K : PySem.W.Frag} {mg : Str → Option Value} {base : Heap} {k : Nat} {f : Addr} {fd : FuncData} {ps : List Str} {sp sp' : Sp}
/-- a def that works on a list is promised over the hidden list -/
theorem fn_hide (F : FnOk P w K mg base CX0 k f fd ps sp) (len : ∀ vs H Q E, sp' vs H Q E → vs.length = ps.length)
    (h : ∀ vs H Q E, sp' vs H Q E → ∃ a Pw, H a = some (Hid a Pw) ∧ ∀ xs, Pw xs → sp vs (upd H a (.lst xs)) (fun v H1 => ∃ xs', H1 a = some (.lst xs') ∧ Pw xs' ∧ Q v (upd H1 a (Hid a Pw))) E) :
    FnOk P w K mg base CX0 k f fd ps sp' := by
  refine ⟨len, fun A outer s H args us vs Q E hr e0 hb hv hs => ?_⟩
  obtain ⟨a, Pw, ea, hk⟩ := h _ _ _ _ hs
  obtain ⟨xs, px, ok2⟩ := hok_open e0.hok ea
  have ne : ∀ b, H b = none → b ≠ a := fun b n z => by subst z; rw [ea] at n; cases n
  have e1 : Env0 P w K mg base A outer s (upd H a (.lst xs)) := ⟨e0.frames, e0.mod, fun b o q => ⟨(e0.bs b o q).1, by rw [upd_ne (ne b (e0.bs b o q).2)]; exact (e0.bs b o q).2⟩, e0.bsz, e0.funs,
    fun b hb => by rw [upd_ne (ne b (e0.frf b hb))]; exact e0.frf b hb, ok2, e0.bare⟩
  refine codeAny_mono (F.run A outer s _ args us vs _ E hr e1 hb hv (hk xs px)) fun r s' q => ?_
  cases r with
  | error e => exact (show False from q).elim
  | ok fl =>
    cases fl with
    | next => exact q
    | brk => exact q
    | cont => exact q
    | ret u =>
      obtain ⟨v, H1, os, bare, un, hok, rv, xs', e2, p2, qq⟩ := (show CE outer P w (upd H a (.lst xs)) s _ u s' from q)
      exact ⟨v, upd H1 a (Hid a Pw), os, bare, un_hide (un_open un ea) e2, hok_hide hok e2 p2, rv, qq⟩
end
section
variable {X : Cx} {pins : List (Addr × Obj)} {σ : L2.St} {H : Hp} {s : Shared} {a : Addr} {xs : List V} {Pw : List V → Prop}
theorem inv_hide (I : Inv X pins σ H s) (e : H a = some (.lst xs)) (p : Pw xs) : Inv X pins σ (upd H a (Hid a Pw)) s := by
  have ne : ∀ b, H b = none → b ≠ a := fun b n z => by subst z; rw [e] at n; cases n
  refine ⟨I.ok, I.os, I.bare, un_hide I.base e, I.loc, I.cell, ?_, fun x c hc => ?_, fun q hq => ?_, hok_hide I.hok e p, I.len⟩
  · rw [upd_ne (ne _ I.free)]; exact I.free
  · rw [upd_ne (ne _ (I.freeC x c hc))]; exact I.freeC x c hc
  · obtain ⟨h1, h2, h3⟩ := I.pin q hq
    exact ⟨h1, by rw [upd_ne (ne _ h2)]; exact h2, h3⟩
/-- the list that an expression makes is hidden at once -/
def tHid (Pw : List V → Prop) (te : TE) : TE := fun σ H Q => te σ H fun v H1 => ∃ a xs, v = .ref a ∧ H1 a = some (.lst xs) ∧ Pw xs ∧ Q v (upd H1 a (Hid a Pw))
theorem pe_hid {e : Expr} {te : TE} (Pw : List V → Prop) (he : PE X e te) : PE X e (tHid Pw te) := ⟨fun pins s σ H Q I h => thn (he.run pins s σ H _ I h) fun u s1 ⟨v, H1, I1, r, a, xs, ev, ea, pa, q⟩ => ⟨v, _, inv_hide I1 ea pa, r, q⟩⟩
end
end Ny

set_option Elab.async false
set_option linter.all false
set_option maxRecDepth 100000
set_option maxHeartbeats 4000000
namespace Ny
open PySem PySem.Spec PyProof.Rows L2 Evl

/-! ### calls in short -/
structure CallOk (P : Program) (w : World) (K : PySem.W.Frag) (mg : Str → Option Value) (base : Heap) (CX : CXT) (k : Nat) (x : Str) (ps : List Str) (dvs : List V) (sp : Sp) : Prop where
  ex : ∃ f fd ds, mg x = some (.ref f) ∧ PySem.W.keepIn K (.ref f) = true ∧ Binds K fd ps ds ∧ Vals dvs ds ∧ FnOk P w K mg base CX k f fd ps sp
section
variable {X : Cx} {CX : CXT} {k : Nat} {x : Str} {ps : List Str} {dvs : List V} {sp : Sp} {E : XK} {e : Expr} {es : List Expr} {t : TA} {p pos : Pos}
theorem pe_callF (C : CallOk X.prog X.w X.K X.mg X.base CX k x ps dvs sp) (hr : Room k X.A) (hx : Passes CX X E) (ha : PA X (e :: es) t) (hg : Gl X x := by rfl) (hdb : (x == ("__debug__" : Str)) = false := by decide)
    (he : starEach (e :: es) X.env = (false, eval e X.env) :: starEach es X.env := by rfl) (hpl : (backTo pos (starEach es X.env)).any (·.1) = false := by rfl) :
    PE X (.Call (.Name x p) (e :: es) [] pos) (tCall sp dvs E t) := by
  obtain ⟨f, fd, ds, hm, hk, hb, hd, F⟩ := C.ex
  exact pe_call F hr hg hm hk hb hd hx ha hdb he hpl
theorem pe_callF0 (C : CallOk X.prog X.w X.K X.mg X.base CX k x ps dvs sp) (hr : Room k X.A) (hx : Passes CX X E) (hg : Gl X x := by rfl) (hdb : (x == ("__debug__" : Str)) = false := by decide) :
    PE X (.Call (.Name x p) [] [] pos) (tCall sp dvs E tNil) := by
  obtain ⟨f, fd, ds, hm, hk, hb, hd, F⟩ := C.ex
  exact pe_call0 F hr hg hm hk hb hd hx hdb
theorem CallOk.mono {P : Program} {w : World} {K : PySem.W.Frag} {mg : Str → Option Value} {base : Heap} {j : Nat} (C : CallOk P w K mg base CX j x ps dvs sp) (h : j ≤ k) : CallOk P w K mg base CX k x ps dvs sp := by
  obtain ⟨f, fd, ds, hm, hk, hb, hd, F⟩ := C.ex
  exact ⟨f, fd, ds, hm, hk, hb, hd, F.mono h⟩
theorem CallOk.hide {P : Program} {w : World} {K : PySem.W.Frag} {mg : Str → Option Value} {base : Heap} {sp' : Sp} (C : CallOk P w K mg base CX0 k x ps [] sp) (len : ∀ vs H Q E, sp' vs H Q E → vs.length = ps.length)
    (h : ∀ vs H Q E, sp' vs H Q E → ∃ a Pw, H a = some (Hid a Pw) ∧ ∀ xs, Pw xs → sp vs (upd H a (.lst xs)) (fun v H1 => ∃ xs', H1 a = some (.lst xs') ∧ Pw xs' ∧ Q v (upd H1 a (Hid a Pw))) E) :
    CallOk P w K mg base CX0 k x ps [] sp' := by
  obtain ⟨f, fd, ds, hm, hk, hb, hd, F⟩ := C.ex
  cases hd
  exact ⟨f, fd, [], hm, hk, hb, .nil, fn_hide F len h⟩
end

/-! ### data in a heap that grows -/
theorem ex_at {H H' : Hp} {a : Addr} {o : HO} (e : Ex H H') (h : H a = some o) : H' a = some o := e a o h
mutual
theorem dp_mono {K : PySem.W.Frag} {H H' : Hp} (e : Ex H H') : ∀ (d : PyData) {v : V}, Dp K H v d → Dp K H' v d
  | .none, _, h => by cases h; exact .non
  | .bool b, _, h => by cases h; exact .bl b
  | .int i, _, h => by cases h; exact .int i
  | .str x, _, h => by cases h; exact .str x
  | .list ds, _, h => by
    cases h with
    | lst hs ha => exact .lst (ex_l e hs) (dpAll_mono e ds ha)
  | .tuple ds, _, h => by
    cases h with
    | tup hs ha => exact .tup (ex_t e hs) (dpAll_mono e ds ha)
  | .dict _, _, h => by cases h
theorem dpAll_mono {K : PySem.W.Frag} {H H' : Hp} (e : Ex H H') : ∀ (ds : List PyData) {vs : List V}, DpAll K H vs ds → DpAll K H' vs ds
  | [], _, h => by cases h; exact .nil
  | d :: ds, _, h => by
    cases h with
    | cons h1 h2 => exact .cons (dp_mono e d h1) (dpAll_mono e ds h2)
end
theorem ex_new {H : Hp} {p : Addr} {o : HO} (h : H p = none) : Ex H (upd H p o) := Ex.new h

/-! ### list + list, of lists that may be frozen -/
def rCatS (K : PySem.W.Frag) : R2 := fun x y H Q => ∃ l b xs zs, x = .ref l ∧ y = .ref b ∧ SqL K H l xs ∧ SqL K H b zs ∧ xs.length + zs.length ≤ sizeLine ∧ ∀ p, H p = none → Q (.ref p) (upd H p (.lst (xs ++ zs)))
theorem op_catS {X : Cx} : OpR X (binaryOp .Add) (rCatS X.K) := by
  intro pins s σ H x y v u Q I rx ry h
  obtain ⟨l, b, xs, zs, rfl, rfl, hH, hB, hz, q⟩ := h
  cases rx
  cases ry
  obtain ⟨its, r, pl, z⟩ := I.list hH
  obtain ⟨its2, r2, pl2, z2⟩ := I.list hB
  have hl := r.length
  have hl2 := r2.length
  obtain ⟨⟨cls, dd, data, sl⟩, ho, hc, n, hd⟩ := id pl.isList
  obtain ⟨⟨cls2, dd2, data2, sl2⟩, ho2, hc2, n2, hd2⟩ := id pl2.isList
  simp only at hc hd hc2 hd2
  subst hc hd hc2 hd2
  have e : its.toArray ++ its2.toArray = (its ++ its2).toArray := by simp
  refine concat_meets ⟨_, ho, rfl⟩ ⟨_, ho2, rfl⟩ noFill_list_add seq_list_add PySem.F.slot_list_add PySem.F.entry_list_add (PySem.F.args_list_add_2 _ _) (list_addW l b its.toArray its2.toArray n n2 dd dd2 sl sl2 (by simp only [List.size_toArray]; omega)) ⟨ho, ho2, ?_⟩
  rw [e]
  exact ⟨.ref _, _, I.lnew (t' := s.toks) (r.append r2) (by rw [List.length_append]; omega), rfl, q _ I.fresh⟩
/-! ### operators that take several kinds -/
section
variable (K : PySem.W.Frag)
def uAdd : R2 := fun x y H Q => rI0 (fun i j => .int (i + j)) x y H Q ∨ rCatS K x y H Q ∨ (∃ i j, x = .str i ∧ y = .str j ∧ i.length + j.length ≤ sizeLine ∧ Q (.str (i ++ j)) H) ∨ rCatT K x y H Q
def uMul : R2 := fun x y H Q => rI CMul (fun i j => .int (i * j)) x y H Q ∨ rI CMulW (fun i j => .int (i * j)) x y H Q
def uEq : R2 := fun x y H Q => rEq x y H Q ∨ rEqD K x y H Q
def uNe : R2 := fun x y H Q => rNe x y H Q ∨ rNeD K x y H Q
def uSub : R2 := rI0 fun i j => .int (i - j)
def uLt : R2 := rI0 fun i j => .bl (decide (i < j))
def uLe : R2 := rI0 fun i j => .bl (decide (i ≤ j))
def uGt : R2 := rI0 fun i j => .bl (decide (j < i))
def uGe : R2 := rI0 fun i j => .bl (decide (j ≤ i))
def uMod : R2 := rI (fun _ j => 0 < j) fun i j => .int (i % j)
def uDiv : R2 := rI CDivW fun i j => .int (i / j)
def uPow : R2 := rI CPow fun i j => .int (i ^ j.toNat)
def uIs : R2 := fun x y H Q => y = .non ∧ Q (.bl (decide (x = .non))) H
def uIsN : R2 := fun x y H Q => y = .non ∧ Q (.bl (!decide (x = .non))) H
def uNeg : V → Hp → VK → Prop := rU fun i => .int (-i)
end
section
variable {X : Cx}
theorem ou_add : OpR X (binaryOp .Add) (uAdd X.K) := op_add.or (op_catS.or (op_add_str.or op_catT))
theorem ou_mul : OpR X (binaryOp .Mult) uMul := op_mul.or op_mulW
theorem ou_sub : OpR X (binaryOp .Sub) uSub := op_sub
theorem ou_mod : OpR X (binaryOp .Mod) uMod := op_mod
theorem ou_div : OpR X (binaryOp .FloorDiv) uDiv := op_fdivW
theorem ou_pow : OpR X (binaryOp .Pow) uPow := op_pow
theorem ou_eq (hu : X.A.units + 64 < cLine) : OpR X (compareOp .Eq) (uEq X.K) := op_eq.or (op_eqD hu)
theorem ou_ne (hu : X.A.units + 64 < cLine) : OpR X (compareOp .NotEq) (uNe X.K) := op_ne.or (op_neD hu)
theorem ou_lt : OpR X (compareOp .Lt) uLt := op_lt
theorem ou_le : OpR X (compareOp .LtE) uLe := op_le
theorem ou_gt : OpR X (compareOp .Gt) uGt := op_gt
theorem ou_ge : OpR X (compareOp .GtE) uGe := op_ge
theorem ou_is : OpR X (compareOp .Is) uIs := op_isN
theorem ou_isn : OpR X (compareOp .IsNot) uIsN := op_notN
theorem ou_neg : UnR X (unaryOp .USub) uNeg := un_neg
/-- len of a list, a tuple, a text -/
def uLen (K : PySem.W.Frag) : List V → Hp → VK → Prop := fun xs H Q => ∃ x n, xs = [x] ∧ LenV K x H n ∧ Q (.int n) H
theorem cu_len : CallR X (.builtin "len") (uLen X.K) := call_len
def uIsi (K : PySem.W.Frag) : List V → Hp → VK → Prop := rIsi K
theorem cu_isi : CallR X (.builtin "isinstance") (uIsi X.K) := call_isi
def uInt : List V → Hp → VK → Prop := fun xs H Q => ((∃ i, xs = [.int i] ∧ Q (.int i) H) ∨ ∃ k, xs = [.bl k] ∧ Q (.int (if k then 1 else 0)) H) ∨ (∃ a n, xs = [.str a] ∧ PySem.intText? a = some n ∧ a.length ≤ 640 ∧ Q (.int n) H)
theorem cu_int : CallR X (.type "int") uInt := call_int1.or call_int_str
def uMax (K : PySem.W.Frag) : List V → Hp → VK → Prop := fun xs H Q => (∃ i j, xs = [.int i, .int j] ∧ Q (.int (if j > i then j else i)) H) ∨ rMax K xs H Q
theorem cu_max (hc : X.calm = true) : CallR X (.builtin "max") (uMax X.K) := (call_max2 hc).or (cr_max hc)
def uMin (K : PySem.W.Frag) : List V → Hp → VK → Prop := fun xs H Q => (∃ i j, xs = [.int i, .int j] ∧ Q (.int (if j < i then j else i)) H) ∨ rMin K xs H Q
theorem cu_min (hc : X.calm = true) : CallR X (.builtin "min") (uMin X.K) := (call_min2 hc).or (cr_min hc)
def uStr : List V → Hp → VK → Prop := fun xs H Q => ∃ i, xs = [.int i] ∧ i.natAbs.log2 < 1920 ∧ Q (.str (toString i)) H
theorem cu_str : CallR X (.type "str") uStr := call_str_int
def uList (K : PySem.W.Frag) : List V → Hp → VK → Prop := fun xs H Q => ∃ p ys, xs = [.ref p] ∧ (SqL K H p ys ∨ SqT K H p ys) ∧ ∀ l, H l = none → Q (.ref l) (upd H l (.lst ys))
theorem cu_list : CallR X (.type "list") (uList X.K) := call_list_of
def uAny (K : PySem.W.Frag) : List V → Hp → VK → Prop := rAny K
theorem cu_any (hc : X.calm = true) : CallR X (.builtin "any") (uAny X.K) := cr_any hc
def uAll (K : PySem.W.Frag) : List V → Hp → VK → Prop := rAll K
theorem cu_all (hc : X.calm = true) : CallR X (.builtin "all") (uAll X.K) := cr_all hc
/-- a[i:j] of a list, of a text -/
def uSl (K : PySem.W.Frag) : V → Option Int → Option Int → Hp → VK → Prop := rSlL K
theorem su_list : SlR X (uSl X.K) := sl_list
/-- truth of any value -/
def tTr (K : PySem.W.Frag) (ta : TE) : TT := fun σ H Q => ta σ H fun x H' => ∃ k, TruV K x H' k ∧ Q k H'
theorem pt_tr {a : Expr} {ta : TE} (ha : PE X a ta) (he : ∀ whole, isTrue a X.env whole = (do let v ← whole; standAt a.pos; holding [v] (truthy v)) := by intro _; rfl) : PT X a (tTr X.K ta) := pt_truth ha he
end
end Ny

set_option Elab.async false
set_option linter.all false
set_option maxRecDepth 100000
set_option maxHeartbeats 4000000
namespace Ny
open PySem PySem.Spec PyProof.Rows L2 Evl

/-! ### kinds of values, isinstance -/
inductive Kd where
  | non | bl | int | str | lst | tup | dct
def Kd.ty : Kd → String
  | .non => "NoneType" | .bl => "bool" | .int => "int" | .str => "str" | .lst => "list" | .tup => "tuple" | .dct => "dict"
def Kd.isi : Kd → Kd → Bool
  | .non, .non => true | .bl, .bl => true | .bl, .int => true | .int, .int => true | .str, .str => true | .lst, .lst => true | .tup, .tup => true | .dct, .dct => true
  | _, _ => false
theorem kit_kd {K : PySem.W.Frag} (k c : Kd) (h : c ≠ .non) : PySem.W.kitOne K (.type k.ty) (.type c.ty) = some (k.isi c) := by
  cases c <;> first | exact absurd rfl h | (cases k <;> exact kit_ty (by decide +kernel))
inductive KdOf (K : PySem.W.Frag) (H : Hp) : V → Kd → Prop where
  | non : KdOf K H .non .non
  | bl (b : Bool) : KdOf K H (.bl b) .bl
  | int (i : Int) : KdOf K H (.int i) .int
  | str (x : Str) : KdOf K H (.str x) .str
  | lst {a : Addr} {xs : List V} (h : SqL K H a xs) : KdOf K H (.ref a) .lst
  | tup {a : Addr} {xs : List V} (h : SqT K H a xs) : KdOf K H (.ref a) .tup
  | dct {a : Addr} {kvs : List (Key × V)} (h : H a = some (.dK kvs)) : KdOf K H (.ref a) .dct
theorem KdOf.tyX {K : PySem.W.Frag} {H : Hp} {x : V} {k : Kd} (h : KdOf K H x k) : TyX K H x (.type k.ty) := by
  cases h with
  | non => exact .base .non
  | bl b => exact .base (.bl b)
  | int i => exact .base (.int i)
  | str x => exact .base (.str x)
  | lst h =>
    rcases h with (h | ⟨o, h⟩) | ⟨o, its, n, hk, hc, _⟩
    · exact .base (.lst h)
    · exact .base (.frz h)
    · exact .kList hk hc
  | tup h =>
    rcases h with (h | ⟨o, h⟩) | ⟨o, its, n, hk, hc, _⟩
    · exact .base (.tup h)
    · exact .fTuple h
    · exact .kTuple hk hc
  | dct h => exact .base (.dK h)
theorem KdOf.mono {K : PySem.W.Frag} {H H' : Hp} {x : V} {k : Kd} (e : Ex H H') (h : KdOf K H x k) : KdOf K H' x k := by
  cases h with
  | non => exact .non
  | bl b => exact .bl b
  | int i => exact .int i
  | str x => exact .str x
  | lst h => exact .lst (ex_l e h)
  | tup h => exact .tup (ex_t e h)
  | dct h => exact .dct (e _ _ h)
def PyData.kd : PyData → Kd
  | .none => .non | .bool _ => .bl | .int _ => .int | .str _ => .str | .list _ => .lst | .tuple _ => .tup | .dict _ => .dct
theorem kd_dp {K : PySem.W.Frag} {H : Hp} {v : V} {d : PyData} (h : Dp K H v d) : KdOf K H v (PyData.kd d) := by
  cases h with
  | non => exact .non
  | bl b => exact .bl b
  | int i => exact .int i
  | str x => exact .str x
  | lst h _ => exact .lst h
  | tup h _ => exact .tup h

section
variable {K : PySem.W.Frag} {σ σ' : L2.St} {H : Hp} {D : Ends} {Q : VK} {R : L2.St → Hp → Prop} {x y v : V} {b : Bool} {A B : Prop} {i j : Int} {n : Nat}
/-! ### statements -/
theorem w_seq {t u : TS} (h : t { D with nx := u D } σ H) : tSeq t u D σ H := h
theorem w_next (h : D.nx σ H) : tNext D σ H := h
theorem w_brk (h : D.bk σ H) : tBreak D σ H := h
theorem w_cont (h : D.ct σ H) : tCont D σ H := h
theorem w_asg {te : TE} {g : TG} (h : te σ H (fun x H1 => g x σ H1 D.nx)) : tAsg te g D σ H := h
theorem w_gname {k : Nat} (e : σ.set k (some v) = σ') (h : R σ' H) : gName k v σ H R := by subst e; exact h
theorem w_drop {te : TE} (h : te σ H (fun _ H1 => D.nx σ H1)) : tDrop te D σ H := h
theorem w_ret {te : TE} (h : te σ H D.rt) : tRet te D σ H := h
theorem w_retN (h : D.rt .non H) : tRetN D σ H := h
theorem w_if {c : TT} {t u : TS} (h : c σ H fun b H1 => if b = true then t D σ H1 else u D σ H1) : tIfS c t u D σ H := h
theorem w_gtup {t : TGs} {a : Addr} {xs : List V} (h : SqT K H a xs) (hl : xs.length = n) (q : t xs σ H R) : gTup K n t (.ref a) σ H R := ⟨a, xs, rfl, h, hl, q⟩
theorem w_gcons {t : TG} {u : TGs} {r : List V} (q : t v σ H fun σ' H' => u r σ' H' R) : gCons t u (v :: r) σ H R := ⟨v, r, rfl, q⟩
theorem w_gnil (q : R σ H) : gNil [] σ H R := ⟨rfl, q⟩
/-- ways that meet again: what holds there, then the rest -/
theorem w_cut {t u : TS} (I : L2.St → Hp → Prop) (h2 : ∀ σ' H', I σ' H' → u D σ' H') (h1 : ∀ nx : L2.St → Hp → Prop, (∀ σ' H', I σ' H' → nx σ' H') → t { D with nx := nx } σ H) : tSeq t u D σ H := h1 (u D) h2
/-! ### expressions -/
theorem w_var {k : Nat} (h : σ[k]? = some (some v)) (q : Q v H) : tVar k σ H Q := ⟨v, h, q⟩
theorem w_c (q : Q v H) : tC v σ H Q := q
theorem w_op {r : R2} {ta tb : TE} (q : ta σ H fun x H1 => tb σ H1 fun y H2 => r x y H2 Q) : tOp r ta tb σ H Q := q
theorem w_un {r : V → Hp → VK → Prop} {ta : TE} (q : ta σ H fun x H1 => r x H1 Q) : tUn r ta σ H Q := q
theorem w_nil {QA : List V → Hp → Prop} (q : QA [] H) : tNil σ H QA := q
theorem w_cons {ta : TE} {tr : TA} {QA : List V → Hp → Prop} (q : ta σ H fun x H1 => tr σ H1 fun xs H2 => QA (x :: xs) H2) : tCons ta tr σ H QA := q
theorem w_cb {r : List V → Hp → VK → Prop} {t : TA} (q : t σ H fun vs H1 => r vs H1 Q) : tCB r t σ H Q := q
theorem w_call {sp : Sp} {E : XK} {t : TA} (q : t σ H fun vs H1 => sp vs H1 Q E) : tCall sp [] E t σ H Q := by
  have e : (fun (vs : List V) (H1 : Hp) => sp (vs ++ []) H1 Q E) = fun vs H1 => sp vs H1 Q E := by
    funext vs H1
    rw [List.append_nil]
  show t σ H fun vs H1 => sp (vs ++ []) H1 Q E
  rw [e]
  exact q
/-- a new tuple, a new list -/
def mkT (xs : List V) (H : Hp) (Q : VK) : Prop := xs.length ≤ sizeLine ∧ ∀ p, H p = none → Q (.ref p) (upd H p (.tup xs))
def mkL (xs : List V) (H : Hp) (Q : VK) : Prop := xs.length ≤ sizeLine ∧ ∀ p, H p = none → Q (.ref p) (upd H p (.lst xs))
theorem w_tup {t : TA} (q : t σ H fun xs H1 => mkT xs H1 Q) : tTup t σ H Q := q
theorem w_lst {t : TA} (q : t σ H fun xs H1 => mkL xs H1 Q) : tLst t σ H Q := q
theorem w_mkT {xs : List V} (hl : xs.length ≤ 1000000) (q : ∀ p H2, H p = none → Ex H H2 → H2 p = some (.tup xs) → Q (.ref p) H2) : mkT xs H Q :=
  ⟨Nat.le_trans hl (by decide), fun p hp => q p _ hp (Ex.new hp) upd_same⟩
theorem w_mkL {xs : List V} (hl : xs.length ≤ 1000000) (q : ∀ p H2, H p = none → Ex H H2 → H2 p = some (.lst xs) → Q (.ref p) H2) : mkL xs H Q :=
  ⟨Nat.le_trans hl (by decide), fun p hp => q p _ hp (Ex.new hp) upd_same⟩
theorem w_hid {te : TE} {Pw : List V → Prop} (q : te σ H fun v H1 => ∃ a xs, v = .ref a ∧ H1 a = some (.lst xs) ∧ Pw xs ∧ Q v (upd H1 a (Hid a Pw))) : tHid Pw te σ H Q := q
theorem w_ife {t : TT} {ta tb : TE} (q : t σ H fun c H1 => if c = true then ta σ H1 Q else tb σ H1 Q) : tIf t ta tb σ H Q := q
theorem w_andV {ta tb : TE} (q : ta σ H fun x H1 => ∃ c, x = .bl c ∧ if c = true then tb σ H1 Q else Q (.bl false) H1) : tAndV ta tb σ H Q := q
theorem w_orV {ta tb : TE} (q : ta σ H fun x H1 => ∃ c, x = .bl c ∧ if c = true then Q (.bl true) H1 else tb σ H1 Q) : tOrV ta tb σ H Q := q
theorem w_notV {ta : TE} (q : ta σ H fun x H1 => ∃ c, x = .bl c ∧ Q (.bl (!c)) H1) : tNotV ta σ H Q := q
theorem w_chain {r r' : R2} {ta tb tc : TE} (q : ta σ H fun x H1 => tb σ H1 fun y H2 => r x y H2 fun z H3 => ∃ k, z = .bl k ∧ (if k = true then tc σ H3 fun w' H4 => r' y w' H4 Q else Q (.bl false) H3)) : tChain r r' ta tb tc σ H Q := q
theorem w_bl {R : Bool → Prop} (q : R b) : ∃ c, V.bl b = V.bl c ∧ R c := ⟨b, rfl, q⟩
theorem w_sl {r : V → Option Int → Option Int → Hp → VK → Prop} {te : TE} {tl th : TO} (q : te σ H fun x H1 => tl σ H1 fun l H2 => th σ H2 fun u H3 => r x l u H3 Q) : tSl r te tl th σ H Q := q
theorem w_part {t : TE} {QO : Option Int → Hp → Prop} (q : t σ H fun x H1 => ∃ i, x = .int i ∧ QO (some i) H1) : tPart t σ H QO := q
theorem w_nopart {QO : Option Int → Hp → Prop} (q : QO none H) : tNoPart σ H QO := q
theorem w_int {R : Int → Prop} (q : R i) : ∃ c, V.int i = V.int c ∧ R c := ⟨i, rfl, q⟩
/-! ### tests -/
section
variable {QB : Bool → Hp → Prop}
theorem w_test {t : TE} (q : t σ H fun x H' => ∃ k, x = .bl k ∧ QB k H') : tTest t σ H QB := q
theorem w_tB {t : TE} (q : t σ H fun x H' => ∃ k, x = .bl k ∧ QB k H') : tB t σ H QB := q
theorem w_tr {t : TE} (q : t σ H fun x H' => ∃ k, TruV K x H' k ∧ QB k H') : tTr K t σ H QB := q
theorem w_and {t u : TT} (q : t σ H fun c H1 => if c = true then u σ H1 QB else QB false H1) : tAnd t u σ H QB := q
theorem w_or {t u : TT} (q : t σ H fun c H1 => if c = true then QB true H1 else u σ H1 QB) : tOr t u σ H QB := q
theorem w_not {t : TT} (q : t σ H fun c H1 => QB (!c) H1) : tNot t σ H QB := q
theorem w_tr_bl (q : QB b H) : ∃ k, TruV K (.bl b) H k ∧ QB k H := ⟨b, rfl, q⟩
theorem w_tr_non (q : QB false H) : ∃ k, TruV K .non H k ∧ QB k H := ⟨false, rfl, q⟩
theorem w_tr_lst {a : Addr} {xs : List V} (h : SqL K H a xs) (q : QB (!xs.isEmpty) H) : ∃ k, TruV K (.ref a) H k ∧ QB k H := ⟨_, .inl ⟨xs, h, rfl⟩, q⟩
theorem w_tr_tup {a : Addr} {xs : List V} (h : SqT K H a xs) (q : QB (!xs.isEmpty) H) : ∃ k, TruV K (.ref a) H k ∧ QB k H := ⟨_, .inr (.inl ⟨xs, h, rfl⟩), q⟩
end
/-! ### ends -/
theorem q_bl {c : Bool} (q : Q (.bl b) H) (e : c = b) : Q (.bl c) H := by subst e; exact q
theorem q_int (q : Q (.int i) H) (e : j = i) : Q (.int j) H := by subst e; exact q
/-! ### ways -/
theorem w_itn (h : if b = true then B else A) : if (!b) = true then A else B := by cases b <;> exact h
theorem w_itd {c : Prop} [Decidable c] (h1 : c → A) (h2 : ¬ c → B) : if decide c = true then A else B := by
  by_cases h : c
  · rw [decide_eq_true h]; exact iteT (h1 h)
  · rw [decide_eq_false h]; exact iteF (h2 h)
theorem w_itd1 {c : Prop} [Decidable c] (h : c) (h1 : A) : if decide c = true then A else B := by
  rw [decide_eq_true h]; exact iteT h1
theorem w_itd0 {c : Prop} [Decidable c] (h : ¬ c) (h1 : B) : if decide c = true then A else B := by
  rw [decide_eq_false h]; exact iteF h1
theorem w_itb (h1 : b = true → A) (h2 : b = false → B) : if b = true then A else B := by
  cases b
  · exact iteF (h2 rfl)
  · exact iteT (h1 rfl)
/-! ### operators by their values -/
theorem w_I0 {g : Int → Int → V} (q : Q (g i j) H) : rI0 g (.int i) (.int j) H Q := ⟨i, j, rfl, rfl, q⟩
theorem w_sub (q : Q (.int (i - j)) H) : uSub (.int i) (.int j) H Q := ⟨i, j, rfl, rfl, q⟩
theorem w_lt (q : Q (.bl (decide (i < j))) H) : uLt (.int i) (.int j) H Q := ⟨i, j, rfl, rfl, q⟩
theorem w_le (q : Q (.bl (decide (i ≤ j))) H) : uLe (.int i) (.int j) H Q := ⟨i, j, rfl, rfl, q⟩
theorem w_gt (q : Q (.bl (decide (j < i))) H) : uGt (.int i) (.int j) H Q := ⟨i, j, rfl, rfl, q⟩
theorem w_ge (q : Q (.bl (decide (j ≤ i))) H) : uGe (.int i) (.int j) H Q := ⟨i, j, rfl, rfl, q⟩
theorem w_mod (h : 0 < j) (q : Q (.int (i % j)) H) : uMod (.int i) (.int j) H Q := ⟨i, j, rfl, rfl, h, q⟩
theorem w_div (h : 0 < j) (h2 : j.natAbs.log2 < 9000) (q : Q (.int (i / j)) H) : uDiv (.int i) (.int j) H Q := ⟨i, j, rfl, rfl, ⟨h, h2⟩, q⟩
theorem w_pow {m : Int} (h : 0 ≤ j) (h1 : j ≤ 1000000) (h2 : i.natAbs < 2 ^ 64) (hm : i ^ j.toNat = m) (q : Q (.int m) H) : uPow (.int i) (.int j) H Q := by
  subst hm
  exact ⟨i, j, rfl, rfl, ⟨h, h1, h2⟩, q⟩
theorem w_mulL (h : -(2 ^ 64) < i ∧ i < 2 ^ 64) (q : Q (.int (i * j)) H) : uMul (.int i) (.int j) H Q := .inl ⟨i, j, rfl, rfl, .inl h, q⟩
theorem w_mulR (h : -(2 ^ 64) < j ∧ j < 2 ^ 64) (q : Q (.int (i * j)) H) : uMul (.int i) (.int j) H Q := .inl ⟨i, j, rfl, rfl, .inr h, q⟩
theorem w_mulW (h : CMulW i j) (q : Q (.int (i * j)) H) : uMul (.int i) (.int j) H Q := .inr ⟨i, j, rfl, rfl, h, q⟩
theorem w_neg (q : Q (.int (-i)) H) : uNeg (.int i) H Q := ⟨i, rfl, q⟩
theorem w_add (q : Q (.int (i + j)) H) : uAdd K (.int i) (.int j) H Q := .inl ⟨i, j, rfl, rfl, q⟩
theorem w_addL {a b : Addr} {xs ys : List V} (h1 : SqL K H a xs) (h2 : SqL K H b ys) (hl : xs.length + ys.length ≤ sizeLine) (q : ∀ p H2, H p = none → Ex H H2 → H2 p = some (.lst (xs ++ ys)) → Q (.ref p) H2) : uAdd K (.ref a) (.ref b) H Q :=
  .inr (.inl ⟨a, b, xs, ys, rfl, rfl, h1, h2, hl, fun p hp => q p _ hp (Ex.new hp) upd_same⟩)
theorem w_addS {x y : Str} (hl : x.length + y.length ≤ sizeLine) (q : Q (.str (x ++ y)) H) : uAdd K (.str x) (.str y) H Q := .inr (.inr (.inl ⟨x, y, rfl, rfl, hl, q⟩))
theorem w_is (q : Q (.bl (decide (x = .non))) H) : uIs x .non H Q := ⟨rfl, q⟩
theorem w_isn (q : Q (.bl (!decide (x = .non))) H) : uIsN x .non H Q := ⟨rfl, q⟩
theorem w_is_non (q : Q (.bl true) H) : uIs .non .non H Q := ⟨rfl, q⟩
theorem w_is_bl (q : Q (.bl false) H) : uIs (.bl b) .non H Q := ⟨rfl, q⟩
theorem w_is_int (q : Q (.bl false) H) : uIs (.int i) .non H Q := ⟨rfl, q⟩
theorem w_is_str {x : Str} (q : Q (.bl false) H) : uIs (.str x) .non H Q := ⟨rfl, q⟩
theorem w_is_ref {a : Addr} (q : Q (.bl false) H) : uIs (.ref a) .non H Q := ⟨rfl, q⟩
theorem w_isn_non (q : Q (.bl false) H) : uIsN .non .non H Q := ⟨rfl, q⟩
theorem w_isn_bl (q : Q (.bl true) H) : uIsN (.bl b) .non H Q := ⟨rfl, q⟩
theorem w_isn_int (q : Q (.bl true) H) : uIsN (.int i) .non H Q := ⟨rfl, q⟩
theorem w_isn_str {x : Str} (q : Q (.bl true) H) : uIsN (.str x) .non H Q := ⟨rfl, q⟩
theorem w_isn_ref {a : Addr} (q : Q (.bl true) H) : uIsN (.ref a) .non H Q := ⟨rfl, q⟩
theorem dec_int : decide (V.int i = V.int j) = decide (i = j) := by
  by_cases h : i = j
  · subst h; simp
  · rw [decide_eq_false h, decide_eq_false (fun z => h (by cases z; rfl))]
theorem dec_str {x y : Str} : decide (V.str x = V.str y) = decide (x = y) := by
  by_cases h : x = y
  · subst h; simp
  · rw [decide_eq_false h, decide_eq_false (fun z => h (by cases z; rfl))]
theorem dec_bl {x y : Bool} : decide (V.bl x = V.bl y) = decide (x = y) := by
  by_cases h : x = y
  · subst h; simp
  · rw [decide_eq_false h, decide_eq_false (fun z => h (by cases z; rfl))]
theorem w_eq_int (q : Q (.bl (decide (i = j))) H) : uEq K (.int i) (.int j) H Q := .inl ⟨rfl, by rw [dec_int]; exact q⟩
theorem w_eq_str {x y : Str} (q : Q (.bl (decide (x = y))) H) : uEq K (.str x) (.str y) H Q := .inl ⟨rfl, by rw [dec_str]; exact q⟩
theorem w_eq_bl {x y : Bool} (q : Q (.bl (decide (x = y))) H) : uEq K (.bl x) (.bl y) H Q := .inl ⟨rfl, by rw [dec_bl]; exact q⟩
theorem w_eq_dat {d e : PyData} (h1 : Dp K H x d) (h2 : Dp K H y e) (s1 : SeqAt.shaped d = true) (s2 : SeqAt.shaped e = true) (q : Q (.bl (PyData.eqv d e)) H) : uEq K x y H Q := .inr ⟨d, e, h1, h2, s1, s2, q⟩
theorem w_ne_int (q : Q (.bl (!decide (i = j))) H) : uNe K (.int i) (.int j) H Q := .inl ⟨rfl, by rw [dec_int]; exact q⟩
theorem w_ne_str {x y : Str} (q : Q (.bl (!decide (x = y))) H) : uNe K (.str x) (.str y) H Q := .inl ⟨rfl, by rw [dec_str]; exact q⟩
theorem w_ne_bl {x y : Bool} (q : Q (.bl (!decide (x = y))) H) : uNe K (.bl x) (.bl y) H Q := .inl ⟨rfl, by rw [dec_bl]; exact q⟩
theorem w_ne_dat {d e : PyData} (h1 : Dp K H x d) (h2 : Dp K H y e) (s1 : SeqAt.shaped d = true) (s2 : SeqAt.shaped e = true) (q : Q (.bl (!PyData.eqv d e)) H) : uNe K x y H Q := .inr ⟨d, e, h1, h2, s1, s2, q⟩
/-! ### items -/
theorem w_ixL {p : Addr} {xs : List V} (h : SqL K H p xs) (ha : atI xs i = some v) (q : Q v H) : rIx K (.ref p) (.int i) H Q := .inl ⟨p, xs, i, v, rfl, rfl, h, ha, q⟩
theorem w_ixT {p : Addr} {xs : List V} (h : SqT K H p xs) (ha : atI xs i = some v) (q : Q v H) : rIx K (.ref p) (.int i) H Q := .inr (.inl ⟨p, xs, i, v, rfl, rfl, h, ha, q⟩)
theorem at_mem {xs : List V} (h0 : 0 ≤ i) (h1 : i < xs.length) : ∃ v, atI xs i = some v ∧ v ∈ xs := by
  obtain ⟨m, rfl⟩ := Int.eq_ofNat_of_zero_le h0
  have hm : m < xs.length := by omega
  exact ⟨xs[m], atI_nat (List.getElem?_eq_getElem hm), List.getElem_mem hm⟩
theorem w_ixLm {p : Addr} {xs : List V} (h : SqL K H p xs) (h0 : 0 ≤ i) (h1 : i < xs.length) (q : ∀ v, v ∈ xs → Q v H) : rIx K (.ref p) (.int i) H Q := by
  obtain ⟨v, ha, hm⟩ := at_mem h0 h1
  exact w_ixL h ha (q v hm)
theorem w_ixTm {p : Addr} {xs : List V} (h : SqT K H p xs) (h0 : 0 ≤ i) (h1 : i < xs.length) (q : ∀ v, v ∈ xs → Q v H) : rIx K (.ref p) (.int i) H Q := by
  obtain ⟨v, ha, hm⟩ := at_mem h0 h1
  exact w_ixT h ha (q v hm)
theorem w_setL {p : Addr} {xs : List V} {m : Nat} (h : H p = some (.lst xs)) (hm : m < xs.length) (q : R σ (upd H p (.lst (xs.set m v)))) : rSetL (.ref p) (.int (m : Nat)) v H (fun H3 => R σ H3) := ⟨p, xs, m, m, rfl, rfl, h, by unfold ixN; rw [if_pos (by omega), if_pos (by omega)]; simp, q⟩
theorem each_nil {P : V → Prop} : ∀ v, v ∈ ([] : List V) → P v := fun _ h => nomatch h
theorem each_cons {P : V → Prop} {a : V} {l : List V} (h : P a) (t : ∀ v, v ∈ l → P v) : ∀ v, v ∈ a :: l → P v := fun v hv => by
  rcases List.mem_cons.mp hv with rfl | hv
  · exact h
  · exact t v hv
/-! ### built-ins -/
theorem w_isi {c : Kd} {k : Kd} {t : String} (hc : c ≠ .non) (ht : c.ty = t) (hk : KdOf K H x k) (hb : k.isi c = b) (q : Q (.bl b) H) : uIsi K [x, .ty t] H Q := by
  subst ht; subst hb
  exact ⟨x, .ty c.ty, _, _, _, rfl, .ty _, hk.tyX, kit_kd k c hc, q⟩
theorem w_isi_int {k : Kd} (hk : KdOf K H x k) (hb : k.isi .int = b) (q : Q (.bl b) H) : uIsi K [x, .ty "int"] H Q := w_isi (c := .int) (by intro z; cases z) rfl hk hb q
theorem w_isi_bool {k : Kd} (hk : KdOf K H x k) (hb : k.isi .bl = b) (q : Q (.bl b) H) : uIsi K [x, .ty "bool"] H Q := w_isi (c := .bl) (by intro z; cases z) rfl hk hb q
theorem w_isi_str {k : Kd} (hk : KdOf K H x k) (hb : k.isi .str = b) (q : Q (.bl b) H) : uIsi K [x, .ty "str"] H Q := w_isi (c := .str) (by intro z; cases z) rfl hk hb q
theorem w_isi_list {k : Kd} (hk : KdOf K H x k) (hb : k.isi .lst = b) (q : Q (.bl b) H) : uIsi K [x, .ty "list"] H Q := w_isi (c := .lst) (by intro z; cases z) rfl hk hb q
theorem w_isi_tuple {k : Kd} (hk : KdOf K H x k) (hb : k.isi .tup = b) (q : Q (.bl b) H) : uIsi K [x, .ty "tuple"] H Q := w_isi (c := .tup) (by intro z; cases z) rfl hk hb q
theorem w_isi_dict {k : Kd} (hk : KdOf K H x k) (hb : k.isi .dct = b) (q : Q (.bl b) H) : uIsi K [x, .ty "dict"] H Q := w_isi (c := .dct) (by intro z; cases z) rfl hk hb q
theorem w_toint_bl (q : Q (.int (if b then 1 else 0)) H) : uInt [.bl b] H Q := .inl (.inr ⟨b, rfl, q⟩)
theorem w_toint_int (q : Q (.int i) H) : uInt [.int i] H Q := .inl (.inl ⟨i, rfl, q⟩)
theorem w_lenL {p : Addr} {xs : List V} (h : SqL K H p xs) (q : Q (.int (xs.length : Int)) H) : uLen K [.ref p] H Q := ⟨.ref p, xs.length, rfl, .inl ⟨xs, h, rfl⟩, q⟩
theorem w_lenT {p : Addr} {xs : List V} (h : SqT K H p xs) (q : Q (.int (xs.length : Int)) H) : uLen K [.ref p] H Q := ⟨.ref p, xs.length, rfl, .inr ⟨xs, h, rfl⟩, q⟩
theorem w_lenS {x : Str} (h : x.length ≤ sizeLine) (q : Q (.int (x.length : Int)) H) : uLen K [.str x] H Q := ⟨.str x, x.length, rfl, ⟨h, rfl⟩, q⟩
theorem w_max2 (q : Q (.int (if j > i then j else i)) H) : uMax K [.int i, .int j] H Q := .inl ⟨i, j, rfl, q⟩
theorem w_min2 (q : Q (.int (if j < i then j else i)) H) : uMin K [.int i, .int j] H Q := .inl ⟨i, j, rfl, q⟩
theorem w_listL {p : Addr} {xs : List V} (h : SqL K H p xs) (q : ∀ l H2, H l = none → Ex H H2 → H2 l = some (.lst xs) → Q (.ref l) H2) : uList K [.ref p] H Q := ⟨p, xs, rfl, .inl h, fun l hl => q l _ hl (Ex.new hl) upd_same⟩
theorem w_listT {p : Addr} {xs : List V} (h : SqT K H p xs) (q : ∀ l H2, H l = none → Ex H H2 → H2 l = some (.lst xs) → Q (.ref l) H2) : uList K [.ref p] H Q := ⟨p, xs, rfl, .inr h, fun l hl => q l _ hl (Ex.new hl) upd_same⟩
theorem w_slL {p : Addr} {xs : List V} {lo hi : Option Int} (h : SqL K H p xs) (q : ∀ l H2, H l = none → Ex H H2 → H2 l = some (.lst (cutV xs lo hi)) → Q (.ref l) H2) : uSl K (.ref p) lo hi H Q := ⟨p, xs, rfl, h, fun l hl => q l _ hl (Ex.new hl) upd_same⟩
/-! ### a list changed at its place -/
theorem w_gsub {to ti : TE} {t : TSet} (q : to σ H fun o H1 => ti σ H1 fun i H2 => t o i v H2 fun H3 => R σ H3) : gSub to ti t v σ H R := q
/-- the list at p is another one now, all else is as it was -/
structure PutL (p : Addr) (xs ys : List V) (H H2 : Hp) : Prop where
  was : H p = some (.lst xs)
  now : H2 p = some (.lst ys)
  oth : ∀ a, a ≠ p → H2 a = H a
theorem putL {p : Addr} {xs ys : List V} (h : H p = some (.lst xs)) : PutL p xs ys H (upd H p (.lst ys)) := ⟨h, upd_same, fun _ hn => upd_ne hn⟩
theorem w_set {QH : Hp → Prop} {p : Addr} {xs ys : List V} {m : Nat} (h : H p = some (.lst xs)) (hm : ixN xs.length i = some m) (hs : xs.set m v = ys) (q : ∀ H2, PutL p xs ys H H2 → QH H2) : rSetL (.ref p) (.int i) v H QH := by
  subst hs
  exact ⟨p, xs, i, m, rfl, rfl, h, hm, q _ (putL h)⟩
theorem w_bm {T : String} {r : V → List V → Hp → VK → Prop} {to : TE} {t : TA} (q : to σ H fun x H1 => tyV K T x H1 ∧ t σ H1 fun xs H2 => r x xs H2 Q) : tBM K T r to t σ H Q := q
theorem w_bm0 {T : String} {r : V → List V → Hp → VK → Prop} {to : TE} (q : to σ H fun x H1 => tyV K T x H1 ∧ r x [] H1 Q) : tBM0 K T r to σ H Q := q
theorem ty_lst {p : Addr} {xs : List V} (h : H p = some (.lst xs)) : tyV K "list" (.ref p) H := .inl ⟨rfl, _, SqL.of h⟩
theorem w_tyl {p : Addr} {xs : List V} {B : Prop} (h : H p = some (.lst xs)) (q : B) : tyV K "list" (.ref p) H ∧ B := ⟨ty_lst h, q⟩
theorem w_append {p : Addr} {xs ys : List V} (h : H p = some (.lst xs)) (hl : xs.length < 1000000) (hs : xs ++ [v] = ys) (q : ∀ H2, PutL p xs ys H H2 → Q .non H2) : rAppend (.ref p) [v] H Q := by
  subst hs
  exact ⟨p, xs, v, rfl, rfl, h, Nat.lt_of_lt_of_le hl (by decide), q _ (putL h)⟩
theorem w_extend {p a : Addr} {xs ys zs : List V} (h : H p = some (.lst xs)) (h2 : H a = some (.lst ys)) (hl : xs.length + ys.length ≤ 1000000) (hs : xs ++ ys = zs) (q : ∀ H2, PutL p xs zs H H2 → Q .non H2) : rExtend (.ref p) [.ref a] H Q := by
  subst hs
  exact ⟨p, a, xs, ys, rfl, rfl, h, h2, Nat.le_trans hl (by decide), q _ (putL h)⟩
theorem w_clear {p : Addr} {xs : List V} (h : H p = some (.lst xs)) (q : ∀ H2, PutL p xs [] H H2 → Q .non H2) : rClear (.ref p) [] H Q := ⟨p, xs, rfl, rfl, h, q _ (putL h)⟩
/-! ### tuples stay whatever is done to lists -/
def ExT (H H' : Hp) : Prop := ∀ a xs, H a = some (.tup xs) → H' a = some (.tup xs)
theorem exT_of {H H' : Hp} (e : Ex H H') : ExT H H' := fun a xs h => e a _ h
theorem exT_put {p : Addr} {xs ys : List V} (h : H p = some (.lst xs)) : ExT H (upd H p (.lst ys)) := fun a zs ha => by
  rw [upd_ne (ne_of ha h (by intro z; cases z))]; exact ha
theorem ex_put {H0 : Hp} {p : Addr} {o : HO} (e : Ex H0 H) (h : H0 p = none) : Ex H0 (upd H p o) := Ex.mut e h
theorem PutL.exT {p : Addr} {xs ys : List V} {H2 : Hp} (u : PutL p xs ys H H2) : ExT H H2 := fun a zs ha => by
  rw [u.oth a (ne_of ha u.was (by intro z; cases z))]; exact ha
theorem PutL.ex {H0 : Hp} {p : Addr} {xs ys : List V} {H2 : Hp} (u : PutL p xs ys H H2) (e : Ex H0 H) (n : H0 p = none) : Ex H0 H2 := fun a o ha => by
  rw [u.oth a (ne_of_none ha n)]; exact e a o ha
theorem PutL.at {p : Addr} {xs ys : List V} {H2 : Hp} {a : Addr} {o : HO} (u : PutL p xs ys H H2) (hn : a ≠ p) (h : H a = some o) : H2 a = some o := by rw [u.oth a hn]; exact h
theorem exT_t {K : PySem.W.Frag} {H H' : Hp} {a : Addr} {xs : List V} (e : ExT H H') (h : H a = some (.tup xs)) : H' a = some (.tup xs) := e a xs h
/-- all but p stays -/
def ExB (p : Addr) (H H' : Hp) : Prop := ∀ a o, a ≠ p → H a = some o → H' a = some o
theorem exB_of {H H' : Hp} {p : Addr} (e : Ex H H') : ExB p H H' := fun a o _ h => e a o h
theorem exB_put {H : Hp} {p : Addr} {o : HO} : ExB p H (upd H p o) := fun a u hn h => by rw [upd_ne hn]; exact h
theorem PutL.exB {p : Addr} {xs ys : List V} {H2 : Hp} (u : PutL p xs ys H H2) : ExB p H H2 := fun a o hn h => u.at hn h
theorem ExB.trans {p : Addr} {H1 H2 : Hp} (e : ExB p H H1) (f : ExB p H1 H2) : ExB p H H2 := fun a o hn h => f a o hn (e a o hn h)
theorem ExB.refl (p : Addr) (H : Hp) : ExB p H H := fun _ _ _ h => h
theorem ExB.hid {p : Addr} {H1 : Hp} {o : HO} (e : ExB p H H1) (h : H p = some o) : Ex H (upd H1 p o) := fun a u ha => by
  by_cases hn : a = p
  · subst hn; rw [upd_same]; rw [h] at ha; exact ha
  · rw [upd_ne hn]; exact e a u hn ha
end
/-! ### things: whole numbers, and all else -/
inductive ThOf (K : PySem.W.Frag) (H : Hp) : V → Option Int → Prop where
  | int (i : Int) : ThOf K H (.int i) (some i)
  | oth {v : V} {k : Kd} (h : KdOf K H v k) (hn : k ≠ .int) : ThOf K H v none
theorem ThOf.mono {K : PySem.W.Frag} {H H' : Hp} {v : V} {t : Option Int} (e : Ex H H') (h : ThOf K H v t) : ThOf K H' v t := by
  cases h with
  | int i => exact .int i
  | oth h hn => exact .oth (h.mono e) hn
def keyB : Option Int → Bool
  | some i => decide (0 ≤ i ∧ i ≤ 999999999999)
  | none => false
def wholeB (t : Option Int) (lo hi : Int) : Bool := match t with
  | some i => decide (lo ≤ i ∧ i ≤ hi)
  | none => false
def stretchB : Option Int → Option Int → Bool
  | some i, some j => decide (0 ≤ i ∧ i < j ∧ j ≤ 1000000000000)
  | _, _ => false
/-! ### the laws' wells -/
def Well3 (xs : List V) : Prop := ∃ a b c : Int, xs = [.int a, .int b, .int c]
def Well1 (xs : List V) : Prop := (∃ a : Int, xs = [.int a]) ∨ Well3 xs
abbrev WellAt (H : Hp) (p : Addr) : Prop := H p = some (Hid p Well3)
abbrev Well1At (H : Hp) (p : Addr) : Prop := H p = some (Hid p Well1)
end Ny

set_option Elab.async false
set_option linter.all false
set_option maxRecDepth 100000
set_option maxHeartbeats 4000000
namespace Ny
open PySem PySem.Spec PyProof.Rows L2 Evl
section
variable {K : PySem.W.Frag} {σ σ' : L2.St} {H : Hp} {D : Ends} {Q : VK} {R : It → Hp → Prop} {x y v : V} {i j : Int} {n : Nat} {g : TG} {tb : TS}
/-! ### loops -/
def ForB (J : It) (g : TG) (tb : TS) (D : Ends) (σ : L2.St) (H : Hp) : Prop := ∃ W : Nat → Nat → L2.St → Hp → Prop, (∃ m, W 0 m σ H) ∧ ∀ i m σ H, W i m σ H →
  (J.stop i H ∧ D.nx σ H) ∨ (J.go i H ∧ ∃ N : L2.St → Hp → Prop, (∀ σ' H', N σ' H' → ∃ m', m' < m ∧ W (i + 1) m' σ' H') ∧ ∀ x H', J.yld i H x H' → g x σ H' fun σ2 H2 => tb { D with nx := N, ct := N, bk := D.nx } σ2 H2)
theorem w_for {wi : TI} (q : wi σ H fun J H1 => ForB J g tb D σ H1) : tFor wi g tb D σ H := q
def kIl (K : PySem.W.Frag) (R : It → Hp → Prop) : VK := fun x H1 => ∃ a, x = .ref a ∧ (∃ xs, SqL K H1 a xs) ∧ R (Itl K a) H1
theorem w_ilist {tl : TE} (q : tl σ H (kIl K R)) : iList K tl σ H R := q
theorem w_kIl {a : Addr} {xs : List V} (h : SqL K H a xs) (q : R (Itl K a) H) : kIl K R (.ref a) H := ⟨a, rfl, ⟨xs, h⟩, q⟩
def kR1 (R : It → Hp → Prop) : List V → Hp → Prop := fun vs H1 => ∃ j : Int, vs = [.int j] ∧ -(2 ^ 62) ≤ j ∧ j < 2 ^ 62 ∧ R (Itr 0 j.toNat) H1
theorem w_irng1 {ta : TA} (q : ta σ H (kR1 R)) : iRng1 ta σ H R := q
theorem w_kR1 (h1 : -(2 ^ 62) ≤ j) (h2 : j < 2 ^ 62) (q : R (Itr 0 j.toNat) H) : kR1 R [.int j] H := ⟨j, rfl, h1, h2, q⟩
def kR2 (R : It → Hp → Prop) : List V → Hp → Prop := fun vs H1 => ∃ i j : Int, vs = [.int i, .int j] ∧ (-(2 ^ 62) ≤ i ∧ i < 2 ^ 62 ∧ -(2 ^ 62) ≤ j ∧ j < 2 ^ 62) ∧ R (Itr i (j - i).toNat) H1
theorem w_irng2 {ta : TA} (q : ta σ H (kR2 R)) : iRng2 ta σ H R := q
theorem w_kR2 (h1 : -(2 ^ 62) ≤ i ∧ i < 2 ^ 62 ∧ -(2 ^ 62) ≤ j ∧ j < 2 ^ 62) (q : R (Itr i (j - i).toNat) H) : kR2 R [.int i, .int j] H := ⟨i, j, rfl, h1, q⟩
theorem w_forL {a : Addr} {xs : List V} (Pv : Nat → L2.St → Hp → Prop) (h0 : Pv 0 σ H) (hl : ∀ i σ H, i ≤ xs.length → Pv i σ H → SqL K H a xs)
    (hs : ∀ i x σ H, xs[i]? = some x → Pv i σ H → g x σ H fun σ2 H2 => tb { D with nx := Pv (i + 1), ct := Pv (i + 1), bk := D.nx } σ2 H2) (hd : ∀ σ H, Pv xs.length σ H → D.nx σ H) : ForB (Itl K a) g tb D σ H := for_list Pv h0 hl hs hd
theorem w_forR {lo : Int} (Pv : Nat → L2.St → Hp → Prop) (h0 : Pv 0 σ H)
    (hs : ∀ i σ H, i < n → Pv i σ H → g (.int (lo + i)) σ H fun σ2 H2 => tb { D with nx := Pv (i + 1), ct := Pv (i + 1), bk := D.nx } σ2 H2) (hd : ∀ σ H, Pv n σ H → D.nx σ H) : ForB (Itr lo n) g tb D σ H := for_range Pv h0 hs hd
/-! ### an empty dict -/
theorem w_dnew (q : ∀ p H2, H p = none → Ex H H2 → H2 p = some (.dK []) → Q (.ref p) H2) : tDNewK σ H Q := fun p hp => q p _ hp (Ex.new hp) upd_same
/-! ### a new list, hidden at once -/
def mkH (Pw : List V → Prop) (xs : List V) (H1 : Hp) (Q : VK) : Prop := xs.length ≤ sizeLine ∧ ∀ p, H1 p = none → ∃ a ys, V.ref p = .ref a ∧ upd H1 p (.lst xs) a = some (.lst ys) ∧ Pw ys ∧ Q (.ref p) (upd (upd H1 p (.lst xs)) a (Hid a Pw))
theorem w_hidL {Pw : List V → Prop} {t : TA} (q : t σ H fun xs H1 => mkH Pw xs H1 Q) : tHid Pw (tLst t) σ H Q := q
theorem w_mkH {Pw : List V → Prop} {xs : List V} (hl : xs.length ≤ 1000000) (hp : Pw xs) (q : ∀ p H2, H p = none → Ex H H2 → H2 p = some (Hid p Pw) → Q (.ref p) H2) : mkH Pw xs H Q :=
  ⟨Nat.le_trans hl (by decide), fun p hn => ⟨p, xs, rfl, upd_same, hp, by rw [upd_upd]; exact q p _ hn (Ex.new hn) upd_same⟩⟩
end
/-- what a law asks: the script is a list of at most 63 ints; the answer is True -/
def spLaw (K : PySem.W.Frag) : Sp := fun vs H Q _ => ∃ (a : Addr) (ns : List Int), vs = [.ref a] ∧ SqL K H a (ns.map V.int) ∧ ns.length ≤ 63 ∧ ∀ H', Q (.bl true) H'
theorem spLaw_len {K : PySem.W.Frag} {vs : List V} {H : Hp} {Q : VK} {E : XK} (h : spLaw K vs H Q E) : vs.length = 1 := by
  obtain ⟨_, _, rfl, _⟩ := h; rfl
theorem ints_at {ns : List Int} {i : Nat} {x : V} (h : (ns.map V.int)[i]? = some x) : ∃ z, x = .int z ∧ ns[i]? = some z := by
  rw [List.getElem?_map] at h
  cases e : ns[i]? with
  | none => rw [e] at h; cases h
  | some z => rw [e] at h; exact ⟨z, (Option.some.inj h).symm, rfl⟩
def cutI (ns : List Int) (lo hi : Option Int) : List Int := (ns.drop (HT.sIx ns.length 0 lo)).take (HT.sIx ns.length ns.length hi - HT.sIx ns.length 0 lo)
theorem cut_ints (ns : List Int) (lo hi : Option Int) : cutV (ns.map V.int) lo hi = (cutI ns lo hi).map V.int := by
  unfold cutV cutI
  rw [List.length_map, List.map_take, List.map_drop]
theorem cutI_len (ns : List Int) (lo hi : Option Int) : (cutI ns lo hi).length ≤ ns.length := by
  unfold cutI
  rw [List.length_take, List.length_drop]
  omega
end Ny

set_option Elab.async false
set_option linter.all false
set_option maxRecDepth 100000
set_option maxHeartbeats 4000000
namespace Ny
open PySem PySem.Spec PyProof.Rows L2 Evl
/-! ### steps that ask nothing of the heap, found by their shape -/
class Step (G : Prop) (G' : outParam Prop) : Prop where
  go : G' → G
class Look (σ : L2.St) (i : Nat) (v : outParam V) : Prop where
  eq : σ[i]? = some (some v)
class Put (σ : L2.St) (i : Nat) (v : V) (σ' : outParam L2.St) : Prop where
  eq : σ.set i (some v) = σ'
instance {v : V} {l : L2.St} : Look (some v :: l) 0 v := ⟨rfl⟩
instance {v : V} {x : Option V} {l : L2.St} {n : Nat} [h : Look l n v] : Look (x :: l) (n + 1) v := ⟨by simpa using h.eq⟩
instance {v : V} {x : Option V} {l : L2.St} : Put (x :: l) 0 v (some v :: l) := ⟨rfl⟩
instance {v : V} {x : Option V} {l l' : L2.St} {n : Nat} [h : Put l n v l'] : Put (x :: l) (n + 1) v (x :: l') := ⟨by rw [List.set_cons_succ, h.eq]⟩
section
variable {K : PySem.W.Frag} {σ σ' : L2.St} {H : Hp} {D : Ends} {Q : VK} {R : L2.St → Hp → Prop} {x y v : V} {b : Bool} {A B : Prop} {i j : Int} {n : Nat}
instance {t u : TS} : Step (tSeq t u D σ H) (t { D with nx := u D } σ H) := ⟨id⟩
instance : Step (tNext D σ H) (D.nx σ H) := ⟨id⟩
instance : Step (tBreak D σ H) (D.bk σ H) := ⟨id⟩
instance : Step (tCont D σ H) (D.ct σ H) := ⟨id⟩
instance {te : TE} {g : TG} : Step (tAsg te g D σ H) (te σ H (fun x H1 => g x σ H1 D.nx)) := ⟨id⟩
instance {k : Nat} [h : Put σ k v σ'] : Step (gName k v σ H R) (R σ' H) := ⟨fun q => by show R (σ.set k (some v)) H; rw [h.eq]; exact q⟩
instance {te : TE} : Step (tDrop te D σ H) (te σ H (fun _ H1 => D.nx σ H1)) := ⟨id⟩
instance {te : TE} : Step (tRet te D σ H) (te σ H D.rt) := ⟨id⟩
instance : Step (tRetN D σ H) (D.rt .non H) := ⟨id⟩
instance {c : TT} {t u : TS} : Step (tIfS c t u D σ H) (c σ H fun b H1 => if b = true then t D σ H1 else u D σ H1) := ⟨id⟩
instance {t : TG} {u : TGs} {r : List V} : Step (gCons t u (v :: r) σ H R) (t v σ H fun σ' H' => u r σ' H' R) := ⟨w_gcons⟩
instance : Step (gNil [] σ H R) (R σ H) := ⟨w_gnil⟩
instance {t : TG} {u : TGs} {l r : List V} : Step (gCons t u ((v :: l) ++ r) σ H R) (t v σ H fun σ' H' => u (l ++ r) σ' H' R) := ⟨w_gcons⟩
instance {t : TG} {u : TGs} {r : List V} : Step (gCons t u ([] ++ (v :: r)) σ H R) (t v σ H fun σ' H' => u r σ' H' R) := ⟨w_gcons⟩
instance {k : Nat} [h : Look σ k v] : Step (tVar k σ H Q) (Q v H) := ⟨w_var h.eq⟩
instance : Step (tC v σ H Q) (Q v H) := ⟨id⟩
instance {r : R2} {ta tb : TE} : Step (tOp r ta tb σ H Q) (ta σ H fun x H1 => tb σ H1 fun y H2 => r x y H2 Q) := ⟨id⟩
instance {r : V → Hp → VK → Prop} {ta : TE} : Step (tUn r ta σ H Q) (ta σ H fun x H1 => r x H1 Q) := ⟨id⟩
instance {QA : List V → Hp → Prop} : Step (tNil σ H QA) (QA [] H) := ⟨id⟩
instance {ta : TE} {tr : TA} {QA : List V → Hp → Prop} : Step (tCons ta tr σ H QA) (ta σ H fun x H1 => tr σ H1 fun xs H2 => QA (x :: xs) H2) := ⟨id⟩
instance {r : List V → Hp → VK → Prop} {t : TA} : Step (tCB r t σ H Q) (t σ H fun vs H1 => r vs H1 Q) := ⟨id⟩
instance {sp : Sp} {E : XK} {t : TA} : Step (tCall sp [] E t σ H Q) (t σ H fun vs H1 => sp vs H1 Q E) := ⟨w_call⟩
instance {t : TA} : Step (tTup t σ H Q) (t σ H fun xs H1 => mkT xs H1 Q) := ⟨id⟩
instance {t : TA} : Step (tLst t σ H Q) (t σ H fun xs H1 => mkL xs H1 Q) := ⟨id⟩
instance (priority := high) {Pw : List V → Prop} {t : TA} : Step (tHid Pw (tLst t) σ H Q) (t σ H fun xs H1 => mkH Pw xs H1 Q) := ⟨id⟩
instance {t : TT} {ta tb : TE} : Step (tIf t ta tb σ H Q) (t σ H fun c H1 => if c = true then ta σ H1 Q else tb σ H1 Q) := ⟨id⟩
instance {ta tb : TE} : Step (tAndV ta tb σ H Q) (ta σ H fun x H1 => ∃ c, x = .bl c ∧ if c = true then tb σ H1 Q else Q (.bl false) H1) := ⟨id⟩
instance {ta tb : TE} : Step (tOrV ta tb σ H Q) (ta σ H fun x H1 => ∃ c, x = .bl c ∧ if c = true then Q (.bl true) H1 else tb σ H1 Q) := ⟨id⟩
instance {ta : TE} : Step (tNotV ta σ H Q) (ta σ H fun x H1 => ∃ c, x = .bl c ∧ Q (.bl (!c)) H1) := ⟨id⟩
instance {r r' : R2} {ta tb tc : TE} : Step (tChain r r' ta tb tc σ H Q) (ta σ H fun x H1 => tb σ H1 fun y H2 => r x y H2 fun z H3 => ∃ k, z = .bl k ∧ (if k = true then tc σ H3 fun w' H4 => r' y w' H4 Q else Q (.bl false) H3)) := ⟨id⟩
instance {R : Bool → Prop} : Step (∃ c, V.bl b = V.bl c ∧ R c) (R b) := ⟨w_bl⟩
instance {R : Int → Prop} : Step (∃ c, V.int i = V.int c ∧ R c) (R i) := ⟨w_int⟩
instance {r : V → Option Int → Option Int → Hp → VK → Prop} {te : TE} {tl th : TO} : Step (tSl r te tl th σ H Q) (te σ H fun x H1 => tl σ H1 fun l H2 => th σ H2 fun u H3 => r x l u H3 Q) := ⟨id⟩
instance {t : TE} {QO : Option Int → Hp → Prop} : Step (tPart t σ H QO) (t σ H fun x H1 => ∃ i, x = .int i ∧ QO (some i) H1) := ⟨id⟩
instance {QO : Option Int → Hp → Prop} : Step (tNoPart σ H QO) (QO none H) := ⟨id⟩
section
variable {QB : Bool → Hp → Prop}
def kTr (K : PySem.W.Frag) (QB : Bool → Hp → Prop) : VK := fun x H' => ∃ k, TruV K x H' k ∧ QB k H'
def kB (QB : Bool → Hp → Prop) : VK := fun x H' => ∃ k, x = .bl k ∧ QB k H'
instance {t : TE} : Step (tTest t σ H QB) (t σ H (kB QB)) := ⟨id⟩
instance {t : TE} : Step (tB t σ H QB) (t σ H (kB QB)) := ⟨id⟩
instance {t : TE} : Step (tTr K t σ H QB) (t σ H (kTr K QB)) := ⟨id⟩
instance {t u : TT} : Step (tAnd t u σ H QB) (t σ H fun c H1 => if c = true then u σ H1 QB else QB false H1) := ⟨id⟩
instance {t u : TT} : Step (tOr t u σ H QB) (t σ H fun c H1 => if c = true then QB true H1 else u σ H1 QB) := ⟨id⟩
instance {t : TT} : Step (tNot t σ H QB) (t σ H fun c H1 => QB (!c) H1) := ⟨id⟩
instance : Step (kTr K QB (.bl b) H) (QB b H) := ⟨w_tr_bl⟩
instance : Step (kTr K QB .non H) (QB false H) := ⟨w_tr_non⟩
instance : Step (kTr K QB (.int i) H) (QB (i != 0) H) := ⟨fun q => ⟨_, rfl, q⟩⟩
instance : Step (kB QB (.bl b) H) (QB b H) := ⟨fun q => ⟨b, rfl, q⟩⟩
theorem w_ktrL {a : Addr} {xs : List V} (h : SqL K H a xs) (q : QB (!xs.isEmpty) H) : kTr K QB (.ref a) H := w_tr_lst h q
theorem w_ktrT {a : Addr} {xs : List V} (h : SqT K H a xs) (q : QB (!xs.isEmpty) H) : kTr K QB (.ref a) H := w_tr_tup h q
end
instance {α : Type} {a : α} : Step (if (some a).isSome = true then A else B) A := ⟨iteT⟩
instance {α : Type} : Step (if (none : Option α).isSome = true then A else B) B := ⟨iteF⟩
instance {α : Type} {a : α} : Step (if (some a).isNone = true then A else B) B := ⟨iteF⟩
instance {α : Type} : Step (if (none : Option α).isNone = true then A else B) A := ⟨iteT⟩
instance : Step (if true = true then A else B) A := ⟨iteT⟩
instance : Step (if false = true then A else B) B := ⟨iteF⟩
instance {a b : Bool} : Step (if (a && b) = true then A else B) (if a = true then (if b = true then A else B) else B) := ⟨fun q => by cases a <;> cases b <;> exact q⟩
instance {a b : Bool} : Step (if (a || b) = true then A else B) (if a = true then A else (if b = true then A else B)) := ⟨fun q => by cases a <;> cases b <;> exact q⟩
instance : Step (if (!b) = true then A else B) (if b = true then B else A) := ⟨w_itn⟩
instance : Step (uSub (.int i) (.int j) H Q) (Q (.int (i - j)) H) := ⟨w_sub⟩
instance : Step (uLt (.int i) (.int j) H Q) (Q (.bl (decide (i < j))) H) := ⟨w_lt⟩
instance : Step (uLe (.int i) (.int j) H Q) (Q (.bl (decide (i ≤ j))) H) := ⟨w_le⟩
instance : Step (uGt (.int i) (.int j) H Q) (Q (.bl (decide (j < i))) H) := ⟨w_gt⟩
instance : Step (uGe (.int i) (.int j) H Q) (Q (.bl (decide (j ≤ i))) H) := ⟨w_ge⟩
instance : Step (uNeg (.int i) H Q) (Q (.int (-i)) H) := ⟨w_neg⟩
instance : Step (uAdd K (.int i) (.int j) H Q) (Q (.int (i + j)) H) := ⟨w_add⟩
instance : Step (uIs .non .non H Q) (Q (.bl true) H) := ⟨w_is_non⟩
instance : Step (uIs (.bl b) .non H Q) (Q (.bl false) H) := ⟨w_is_bl⟩
instance : Step (uIs (.int i) .non H Q) (Q (.bl false) H) := ⟨w_is_int⟩
instance {x : Str} : Step (uIs (.str x) .non H Q) (Q (.bl false) H) := ⟨w_is_str⟩
instance {a : Addr} : Step (uIs (.ref a) .non H Q) (Q (.bl false) H) := ⟨w_is_ref⟩
instance : Step (uIsN .non .non H Q) (Q (.bl false) H) := ⟨w_isn_non⟩
instance : Step (uIsN (.bl b) .non H Q) (Q (.bl true) H) := ⟨w_isn_bl⟩
instance : Step (uIsN (.int i) .non H Q) (Q (.bl true) H) := ⟨w_isn_int⟩
instance {x : Str} : Step (uIsN (.str x) .non H Q) (Q (.bl true) H) := ⟨w_isn_str⟩
instance {a : Addr} : Step (uIsN (.ref a) .non H Q) (Q (.bl true) H) := ⟨w_isn_ref⟩
instance : Step (uEq K (.int i) (.int j) H Q) (Q (.bl (decide (i = j))) H) := ⟨w_eq_int⟩
instance {x y : Str} : Step (uEq K (.str x) (.str y) H Q) (Q (.bl (decide (x = y))) H) := ⟨w_eq_str⟩
instance {x y : Bool} : Step (uEq K (.bl x) (.bl y) H Q) (Q (.bl (decide (x = y))) H) := ⟨w_eq_bl⟩
instance : Step (uNe K (.int i) (.int j) H Q) (Q (.bl (!decide (i = j))) H) := ⟨w_ne_int⟩
instance {x y : Str} : Step (uNe K (.str x) (.str y) H Q) (Q (.bl (!decide (x = y))) H) := ⟨w_ne_str⟩
instance {x y : Bool} : Step (uNe K (.bl x) (.bl y) H Q) (Q (.bl (!decide (x = y))) H) := ⟨w_ne_bl⟩
instance : Step (uInt [.int i] H Q) (Q (.int i) H) := ⟨w_toint_int⟩
instance : Step (uInt [.bl b] H Q) (Q (.int (if b then 1 else 0)) H) := ⟨w_toint_bl⟩
instance : Step (uMax K [.int i, .int j] H Q) (Q (.int (if j > i then j else i)) H) := ⟨w_max2⟩
instance : Step (uMin K [.int i, .int j] H Q) (Q (.int (if j < i then j else i)) H) := ⟨w_min2⟩
instance {to ti : TE} {t : TSet} : Step (gSub to ti t v σ H R) (to σ H fun o H1 => ti σ H1 fun i H2 => t o i v H2 fun H3 => R σ H3) := ⟨id⟩
instance {T : String} {r : V → List V → Hp → VK → Prop} {to : TE} {t : TA} : Step (tBM K T r to t σ H Q) (to σ H fun x H1 => tyV K T x H1 ∧ t σ H1 fun xs H2 => r x xs H2 Q) := ⟨id⟩
instance {T : String} {r : V → List V → Hp → VK → Prop} {to : TE} : Step (tBM0 K T r to σ H Q) (to σ H fun x H1 => tyV K T x H1 ∧ r x [] H1 Q) := ⟨id⟩
instance {wi : TI} {g : TG} {tb : TS} : Step (tFor wi g tb D σ H) (wi σ H fun J H1 => ForB J g tb D σ H1) := ⟨id⟩
instance {tl : TE} {R : It → Hp → Prop} : Step (iList K tl σ H R) (tl σ H (kIl K R)) := ⟨id⟩
instance {ta : TA} {R : It → Hp → Prop} : Step (iRng1 ta σ H R) (ta σ H (kR1 R)) := ⟨id⟩
instance {ta : TA} {R : It → Hp → Prop} : Step (iRng2 ta σ H R) (ta σ H (kR2 R)) := ⟨id⟩
end
end Ny

set_option Elab.async false
set_option linter.all false
set_option maxRecDepth 100000
set_option maxHeartbeats 4000000
namespace Ny
open PySem PySem.Spec PySem.W PySem.Calls PyProof.Rows
/-! ### a, *rest = t -/
section
variable {prog : Program} {w : World} {A : Around} {E : Value → Shared → Prop} {s : Shared}
theorem star_items {t : Addr} {its : Array Value} {i : Nat} {Q : List Value → Shared → Prop} (ht : IsTup s.heap t its) (hh : A.handled = none) (hi : i ≤ its.size) (hz : its.size ≤ sizeLine)
    (k : ∀ (h' : Heap) (tk : Nat) (p : Addr), (∀ b o, s.heap.get? b = some o → h'.get? b = some o) → s.heap.get? p = none → h'.get? p = some { cls := .type "list", data := .seq (its.toList.drop i).toArray } →
      Q (its.toList.take i ++ [.ref p]) { s with heap := h', toks := tk }) : wpAny (model prog w) A (unpackItems (.ref t) (i + 1) (some i)) Q E s := by
  have hne : t ≠ s.heap.objs.size := Nat.ne_of_lt ht.lt
  unfold unpackItems notIterableAtAll
  refine wpAny_bind (wpAny_bind (wpAny_specialOf ht.typeIs slot_tuple_iter.lookup (wpAny_pure ?_)))
  rw [if_neg (by simp)]
  refine wpAny_bind (wpAny_holding (iter_tuple ht ?_))
  refine wpAny_bind (wpAny_holding (draw_tuple hne i 0 _ _ ⟨_, Heap.get?_push_size _ rfl, rfl, rfl⟩ (ht.push _) (by omega) fun ha hit hsame => ?_))
  have ht1 : IsTup ha t its := (ht.push _).extBut hsame.extBut hne
  rw [Nat.zero_add] at hit
  rw [List.drop_zero]
  have len1 : (its.toList.take i).length = i := by
    rw [List.length_take, Array.length_toList]
    omega
  rw [if_neg (by rw [len1]; omega)]
  obtain ⟨oi, hoi, _⟩ := id hit
  have hsz : its.size ≤ sizeLine := hz
  refine wpAny_bind (wpAny_holding (kun_collect (s := { s with heap := ha }) (T := "tuple_iterator") (.inr (.inr (.inr rfl))) (Walks.tuple (A := A.in1) hh s.heap.objs.size t hne its) (fun j u st => st.1.typeIs) (k := i) hi ⟨hit, ht1⟩ (Heap.lt_size hoi) ht1.lt (fun hb tk keep => ?_) hsz))
  have len2 : (its.toList.drop i).length = its.size - i := by rw [List.length_drop, Array.length_toList]
  have zero : i + 1 - 1 - i = 0 := by omega
  rw [zero]
  rw [if_neg (by omega)]
  have old : ∀ b o, s.heap.get? b = some o → hb.get? b = some o := fun b o e => keep b o (Nat.ne_of_lt (Heap.lt_size e)) (hsame.extBut b o (Nat.ne_of_lt (Heap.lt_size e)) (Heap.get?_push_of_some _ e))
  refine wpAny_bind (wpAny_newList ?_ (by rw [List.length_take, len2]; omega))
  refine wpAny_pure ?_
  have e1 : (its.toList.drop i).length - 0 = (its.toList.drop i).length := by omega
  rw [e1, List.take_length, List.drop_length, List.append_nil]
  refine k _ tk hb.objs.size (fun b o e => Heap.get?_push_of_some _ (old b o e)) ?_ (Heap.get?_push_size _ rfl)
  cases q : s.heap.get? hb.objs.size with
  | none => rfl
  | some o => exact absurd (Heap.lt_size (old _ o q)) (Nat.lt_irrefl _)
end
end Ny
namespace Ny
open PySem PySem.Spec PyProof.Rows L2 Evl
theorem objOk_get {P : Program} {w : World} {H : Hp} {h : Heap} {a : Addr} {o : HO} (x : ObjOk P w H h a o) : ∃ ob, h.get? a = some ob := by
  cases o with
  | lst xs => obtain ⟨_, _, _, _, e⟩ := x; exact ⟨_, e⟩
  | tup xs => obtain ⟨_, _, _, ob, e, _⟩ := x; exact ⟨_, e⟩
  | dK kvs => obtain ⟨_, _, _, _, ob, _, _, e, _⟩ := x; exact ⟨_, e⟩
  | dT kvs => obtain ⟨_, _, _, _, ob, _, _, e, _⟩ := x; exact ⟨_, e⟩
  | set S n => obtain ⟨ob, _, _, _, e, _⟩ := x; exact ⟨_, e⟩
  | ins C dx fs => obtain ⟨_, _, _, e, _⟩ := x; exact ⟨_, e⟩
  | own y => obtain ⟨_, e⟩ := x; exact ⟨_, e⟩
  | xd fs => obtain ⟨_, ⟨_, _, _, e, _⟩, _⟩ := x; exact ⟨_, e⟩
  | rng lo hi => obtain ⟨_, _, _, e⟩ := x; exact ⟨_, e⟩
  | frz ob u => obtain ⟨e, _⟩ := x; exact ⟨_, e⟩
  | tbl ps => exact ⟨_, (show h.get? a = some _ from x)⟩
  | met f y => exact ⟨_, (show h.get? a = some _ from x)⟩
  | ext φ => obtain ⟨_, ⟨_, e⟩, _⟩ := x; exact ⟨_, e⟩
section
variable {X : Cx} {pins : List (Addr × Obj)} {σ : L2.St} {H : Hp} {s : Shared}
theorem inv_laid {h' : Heap} {a : Addr} {o : HO} {t' : Nat} (I : Inv X pins σ H s) (k : ∀ b u, s.heap.get? b = some u → h'.get? b = some u) (hp : s.heap.get? a = none) (hn : H a = none) (new : ObjOk X.prog X.w (upd H a o) h' a o) :
    Inv X pins σ (upd H a o) { s with heap := h', toks := t' } := by
  refine I.un ⟨fun b u q _ _ _ => k b u q, fun b u q _ _ _ => ⟨u.slots, k b u q⟩, fun b u q n _ => ?_, fun b u q _ => ⟨u, k b u q⟩, fun b xs q => ?_, fun b u xs q => ?_, fun b ps q => ⟨#[], ?_⟩⟩ (fun b u e => ?_)
  · rw [upd_ne]
    · exact n
    · intro z
      subst z
      rw [hp] at q
      cases q
  · rw [upd_ne (ne_of_none q hn)]; exact q
  · rw [upd_ne (ne_of_none q hn)]; exact q
  · rw [upd_ne (ne_of_none q hn), q]; simp
  · by_cases hb : b = a
    · subst hb
      rw [upd_same] at e
      cases e
      exact new
    · rw [upd_ne hb] at e
      exact (I.hok b u e).stay (fun c v _ q => k c v q) (fun c q => by rw [upd_ne (ne_of_none q hn)]; exact q) fun c xs q => by rw [upd_ne (ne_of_none q hn)]; exact q
def gStar (K : PySem.W.Frag) (n : Nat) (t : TGs) : TG := fun v σ H Q => ∃ a xs, v = .ref a ∧ SqT K H a xs ∧ n ≤ xs.length ∧ ∀ p, H p = none → t (xs.take n ++ [.ref p]) σ (upd H p (.lst (xs.drop n))) Q
theorem pg_tupZ {es : List Expr} {k : Nat} {t : TGs} {n : Nat} {pos : Pos} (hc : X.calm = true) (h : PGs X es t)
    (hn : (assignEach es X.env).length = n + 1 := by rfl) (hst : (assignEach es X.env).findIdx? (·.1) = some n := by rfl) : PG X (.Tuple es k pos) (gStar X.K n t) := by
  refine ⟨fun pins s σ H v u Q I r hw => ?_⟩
  obtain ⟨a, xs, rfl, hq, hl, hw⟩ := hw
  cases r
  obtain ⟨its, rv, ht, hz⟩ := I.tuple hq
  rw [assign_Tuple]
  refine wpAny_bind (wpAny_standAt ?_)
  unfold unpack
  rw [hn, hst]
  have hl2 : n ≤ its.toArray.size := by rw [List.size_toArray, ← rv.length]; exact hl
  refine wpAny_bind (wpAny_holding (star_items ht (I.ok.hd hc) hl2 (by rw [List.size_toArray, ← rv.length]; exact hz) fun h' tk p old fr ho => ?_))
  have hnone : H p = none := by
    cases q : H p with
    | none => rfl
    | some o =>
      obtain ⟨ob, e⟩ := objOk_get (I.hok p o q)
      rw [fr] at e
      cases e
  have rd : Vals (xs.drop n) (its.drop n) := rv.drop n
  have len3 : (xs.drop n).length ≤ sizeLine := by rw [List.length_drop]; omega
  have I1 := inv_laid (t' := tk) (o := .lst (xs.drop n)) I old fr hnone ⟨len3, its.drop n, _, rd, ho⟩
  refine h.run pins _ σ _ (xs.take n ++ [.ref p]) _ Q I1 ((rv.take n).append (.cons (show RelV (.ref p) (.ref p) from rfl) .nil)) (hw p hnone)
theorem pgs_star {e : Expr} {es : List Expr} {p : Pos} {t : TG} {u : TGs} (h1 : PG X e t) (h2 : PGs X es u)
    (hs : (assignEach (.Starred e p :: es) X.env).map (·.2) = assign e X.env :: (assignEach es X.env).map (·.2) := by rfl) : PGs X (.Starred e p :: es) (gCons t u) := by
  refine ⟨fun pins s σ H vs us Q I r h => ?_⟩
  obtain ⟨v, vr, rfl, h⟩ := h
  cases r with
  | cons r rr =>
    rw [hs]
    exact assignInOrder_cons (thn (h1.run pins s σ H _ _ _ I r h) fun _ s1 ⟨σ1, H1, I1, q1⟩ => h2.run pins s1 σ1 H1 _ _ Q I1 rr q1)
theorem w_gstar {K : PySem.W.Frag} {n : Nat} {t : TGs} {a : Addr} {xs ys zs : List V} {R : L2.St → Hp → Prop} (h : SqT K H a xs) (hl : n ≤ xs.length) (h1 : xs.take n = ys) (h2 : xs.drop n = zs)
    (q : ∀ p H2, H p = none → Ex H H2 → H2 p = some (.lst zs) → t (ys ++ [.ref p]) σ H2 R) : gStar K n t (.ref a) σ H R := by
  subst h1 h2
  exact ⟨a, xs, rfl, h, hl, fun p hp => q p _ hp (Ex.new hp) upd_same⟩
end
end Ny

set_option Elab.async false
set_option linter.all false
set_option maxRecDepth 100000
set_option maxHeartbeats 4000000
namespace Ny
open PySem PySem.Spec PyProof.Rows L2 Evl
/-! ### data: what stands behind a value -/
section
variable {K : PySem.W.Frag} {H H' : Hp} {v : V}
theorem dp_int {i : Int} (h : Dp K H v (.int i)) : v = .int i := by cases h; rfl
theorem dp_str {x : Str} (h : Dp K H v (.str x)) : v = .str x := by cases h; rfl
theorem dp_non (h : Dp K H v .none) : v = .non := by cases h; rfl
theorem dp_bl {b : Bool} (h : Dp K H v (.bool b)) : v = .bl b := by cases h; rfl
theorem dp_tup {ds : List PyData} (h : Dp K H v (.tuple ds)) : ∃ p xs, v = .ref p ∧ SqT K H p xs ∧ DpAll K H xs ds := by
  cases h with
  | tup hs ha => exact ⟨_, _, rfl, hs, ha⟩
theorem dp_lst {ds : List PyData} (h : Dp K H v (.list ds)) : ∃ p xs, v = .ref p ∧ SqL K H p xs ∧ DpAll K H xs ds := by
  cases h with
  | lst hs ha => exact ⟨_, _, rfl, hs, ha⟩
theorem dpAll_len : ∀ {xs : List V} {ds : List PyData}, DpAll K H xs ds → xs.length = ds.length
  | _, _, .nil => rfl
  | _, _, .cons _ t => congrArg Nat.succ (dpAll_len t)
theorem dpAll_nil {xs : List V} (h : DpAll K H xs []) : xs = [] := by cases h; rfl
theorem dpAll_cons {xs : List V} {d : PyData} {ds : List PyData} (h : DpAll K H xs (d :: ds)) : ∃ x ys, xs = x :: ys ∧ Dp K H x d ∧ DpAll K H ys ds := by
  cases h with
  | cons h1 h2 => exact ⟨_, _, rfl, h1, h2⟩
theorem dp_tup0 (h : Dp K H v (.tuple [])) : ∃ p, v = .ref p ∧ SqT K H p [] := by
  obtain ⟨p, xs, rfl, hs, ha⟩ := dp_tup h
  obtain rfl := dpAll_nil ha
  exact ⟨p, rfl, hs⟩
theorem dp_tup1 {a : PyData} (h : Dp K H v (.tuple [a])) : ∃ p x, v = .ref p ∧ SqT K H p [x] ∧ Dp K H x a := by
  obtain ⟨p, xs, rfl, hs, ha⟩ := dp_tup h
  obtain ⟨x, ys, rfl, hx, ha⟩ := dpAll_cons ha
  obtain rfl := dpAll_nil ha
  exact ⟨p, x, rfl, hs, hx⟩
theorem dp_tup2 {a b : PyData} (h : Dp K H v (.tuple [a, b])) : ∃ p x y, v = .ref p ∧ SqT K H p [x, y] ∧ Dp K H x a ∧ Dp K H y b := by
  obtain ⟨p, xs, rfl, hs, ha⟩ := dp_tup h
  obtain ⟨x, ys, rfl, hx, ha⟩ := dpAll_cons ha
  obtain ⟨y, zs, rfl, hy, ha⟩ := dpAll_cons ha
  obtain rfl := dpAll_nil ha
  exact ⟨p, x, y, rfl, hs, hx, hy⟩
theorem dp_tup4 {a b c d : PyData} (h : Dp K H v (.tuple [a, b, c, d])) : ∃ p x y z w, v = .ref p ∧ SqT K H p [x, y, z, w] ∧ Dp K H x a ∧ Dp K H y b ∧ Dp K H z c ∧ Dp K H w d := by
  obtain ⟨p, xs, rfl, hs, ha⟩ := dp_tup h
  obtain ⟨x, ys, rfl, hx, ha⟩ := dpAll_cons ha
  obtain ⟨y, zs, rfl, hy, ha⟩ := dpAll_cons ha
  obtain ⟨z, us, rfl, hz, ha⟩ := dpAll_cons ha
  obtain ⟨w, ws, rfl, hw, ha⟩ := dpAll_cons ha
  obtain rfl := dpAll_nil ha
  exact ⟨p, x, y, z, w, rfl, hs, hx, hy, hz, hw⟩
end
def optV : Option Int → V
  | none => .non
  | some i => .int i
def optD : Option Int → PyData
  | none => .none
  | some i => .int i
theorem dp_opt {K : PySem.W.Frag} {H : Hp} (o : Option Int) : Dp K H (optV o) (optD o) := by
  cases o with
  | none => exact .non
  | some i => exact .int i
theorem log2_small {m : Int} (h : -(2 ^ 62) < m ∧ m < 2 ^ 62) : m.natAbs.log2 < 9000 := by
  have h1 : m.natAbs < 2 ^ 62 := by omega
  exact Nat.lt_of_lt_of_le (PySem.Flt.log2_lt_of (by decide) h1) (by decide)
/-! ### lists of ints -/
def IntL (xs : List V) : Prop := ∀ x ∈ xs, ∃ z, x = V.int z
theorem intL_map (ns : List Int) : IntL (ns.map V.int) := fun x hx => by
  obtain ⟨z, _, rfl⟩ := List.mem_map.mp hx
  exact ⟨z, rfl⟩
theorem intL_cut {xs : List V} (h : IntL xs) (lo hi : Option Int) : IntL (cutV xs lo hi) := fun x hx => h x (List.drop_subset _ _ (List.take_subset _ _ hx))
theorem intL_app {xs ys : List V} (h : IntL xs) (h' : IntL ys) : IntL (xs ++ ys) := fun x hx => (List.mem_append.mp hx).elim (h x) (h' x)
theorem intL_nil : IntL [] := fun _ h => nomatch h
theorem intL_cons {z : Int} {xs : List V} (h : IntL xs) : IntL (V.int z :: xs) := fun x hx => by
  rcases List.mem_cons.mp hx with rfl | hx
  · exact ⟨z, rfl⟩
  · exact h x hx
theorem IntL.at {xs : List V} {i : Nat} {x : V} (h : IntL xs) (e : xs[i]? = some x) : ∃ z, x = V.int z := h x (List.mem_of_getElem? e)
/-! ### membership in a tuple of texts -/
section
variable {K : PySem.W.Frag} {H : Hp} {Q : VK}
def uIn (K : PySem.W.Frag) : R2 := rIn K false
def uNin (K : PySem.W.Frag) : R2 := rIn K true
theorem ou_in {X : Cx} (_ : X.A.units + 64 < cLine) : OpR X (compareOp .In) (uIn X.K) := op_in_seq
theorem ou_nin {X : Cx} (_ : X.A.units + 64 < cLine) : OpR X (compareOp .NotIn) (uNin X.K) := op_notIn_seq
theorem w_inT {x : V} {a : Addr} {xs : List V} (h : SqT K H a xs) (hx : flatV x = true) (hf : xs.all flatV = true) (q : Q (.bl (inV x xs)) H) : uIn K x (.ref a) H Q := ⟨a, xs, rfl, .inr h, hx, hf, q⟩
theorem w_inL {x : V} {a : Addr} {xs : List V} (h : SqL K H a xs) (hx : flatV x = true) (hf : xs.all flatV = true) (q : Q (.bl (inV x xs)) H) : uIn K x (.ref a) H Q := ⟨a, xs, rfl, .inl h, hx, hf, q⟩
theorem w_ninL {x : V} {a : Addr} {xs : List V} (h : SqL K H a xs) (hx : flatV x = true) (hf : xs.all flatV = true) (q : Q (.bl (!inV x xs)) H) : uNin K x (.ref a) H Q := ⟨a, xs, rfl, .inl h, hx, hf, q⟩
end
/-! ### actions -/
inductive Hf where
  | plus (n : Int) | is_ (n : Int) | gone
  deriving DecidableEq
def Hf.d : Hf → PyData
  | .plus n => .tuple [.str "plus", .int n]
  | .is_ n => .tuple [.str "is", .int n]
  | .gone => .tuple [.str "gone"]
def Hf.ok : Hf → Prop
  | .plus _ => False
  | _ => True
theorem ok_is (n : Int) : Hf.ok (.is_ n) := trivial
theorem ok_gone : Hf.ok .gone := trivial
def Hf.do_ : Hf → Option Int → Option Int
  | .plus n, some v => some (v + n)
  | .plus _, none => none
  | .is_ n, _ => some n
  | .gone, _ => none
/-- what an action (t, n) makes of a value or of none -/
def actDo (t n : Hf) : Option Int → Option Int
  | none => n.do_ none
  | some v => t.do_ (some v)
def actD (t n : Hf) : PyData := .tuple [t.d, n.d]
def optH : Option Int → Hf
  | none => .gone
  | some i => .is_ i
def Hf.behind (h : Hf) (t n : Hf) : Hf := match h with
  | .plus k => (match t with
    | .plus m => .plus (k + m)
    | t => t)
  | .is_ k => optH (actDo t n (some k))
  | .gone => optH (actDo t n none)
theorem optH_ok (o : Option Int) : (optH o).ok := by cases o <;> trivial
theorem behind_ok {h : Hf} (hk : h.ok) (t n : Hf) : (h.behind t n).ok := by
  cases h with
  | plus k => exact hk.elim
  | is_ k => exact optH_ok _
  | gone => exact optH_ok _
theorem optH_do (o : Option Int) (v : Option Int) : (optH o).do_ v = o := by cases o <;> rfl
/-- behind does one, then the other -/
theorem behind_do {t n : Hf} (t' n' : Hf) (hn : n.ok) (o : Option Int) : actDo (t.behind t' n') (n.behind t' n') o = actDo t' n' (actDo t n o) := by
  cases o with
  | none =>
    cases n with
    | plus k => exact hn.elim
    | is_ k => show (optH _).do_ none = _; rw [optH_do]; rfl
    | gone => show (optH _).do_ none = _; rw [optH_do]; rfl
  | some v =>
    cases t with
    | plus k =>
      cases t' with
      | plus m => show some (v + (k + m)) = some (v + k + m); rw [Int.add_assoc]
      | is_ m => rfl
      | gone => rfl
    | is_ k => show (optH _).do_ (some v) = _; rw [optH_do]; rfl
    | gone => show (optH _).do_ (some v) = _; rw [optH_do]; rfl
theorem hf_eqv (a b : Hf) : PyData.eqv a.d b.d = decide (a = b) := by
  have e1 : ((Str.ofString "plus") == (Str.ofString "is")) = false := by decide
  have e2 : ((Str.ofString "is") == (Str.ofString "plus")) = false := by decide
  have key : ∀ i j : Int, (i == j) = decide (i = j) := fun i j => Bool.beq_eq_decide_eq i j
  cases a <;> cases b <;> simp [Hf.d, PyData.eqv, PyData.eqvAll, e1, e2, key]
theorem act_eqv (t n t' n' : Hf) : PyData.eqv (actD t n) (actD t' n') = (decide (t = t') && decide (n = n')) := by
  show (PyData.eqv t.d t'.d && (PyData.eqv n.d n'.d && true)) = _
  rw [hf_eqv, hf_eqv, Bool.and_true]
theorem hf_shaped (a : Hf) : SeqAt.shaped a.d = true := by cases a <;> simp [Hf.d, SeqAt.shaped, PyData.canLay0, PyData.canLayAll0, PyData.depth, PyData.depthAll] <;> decide +kernel
theorem act_shaped (t n : Hf) : SeqAt.shaped (actD t n) = true := by cases t <;> cases n <;> simp [actD, Hf.d, SeqAt.shaped, PyData.canLay0, PyData.canLayAll0, PyData.depth, PyData.depthAll] <;> decide +kernel
theorem opt_eqv (a b : Option Int) : PyData.eqv (optD a) (optD b) = decide (a = b) := by
  cases a <;> cases b <;> simp [optD, PyData.eqv]
  rename_i i j
  rw [Bool.beq_eq_decide_eq]
theorem opt_shaped (a : Option Int) : SeqAt.shaped (optD a) = true := by cases a <;> simp [optD, SeqAt.shaped, PyData.canLay0, PyData.depth]
/-! what is an action -/
def numB : PyData → Bool
  | .int _ => true
  | _ => false
def halfB (pl : Bool) : PyData → Bool
  | .tuple [.str w] => decide (w = "gone")
  | .tuple [.str w, x] => ((pl && decide (w = "plus")) || decide (w = "is")) && numB x
  | _ => false
def actB : PyData → Bool
  | .tuple [a, b] => halfB true a && halfB false b
  | _ => false
theorem inV_half (pl : Bool) (w : Str) : inV (.str w) (if pl = true then [V.str "plus", V.str "is"] else [V.str "is"]) = ((pl && decide (w = "plus")) || decide (w = "is")) := by
  have key : ∀ a b : Str, (a == b) = decide (b = a) := fun a b => by
    rw [Bool.beq_eq_decide_eq]
    exact decide_eq_decide.mpr ⟨Eq.symm, Eq.symm⟩
  cases pl <;> simp [inV, eqV, key]
theorem half_flat (pl : Bool) : (if pl = true then [V.str "plus", V.str "is"] else [V.str "is"]).all flatV = true := by cases pl <;> rfl
theorem halfB_of (t : Hf) : halfB true t.d = true := by cases t <;> simp [Hf.d, halfB, numB]
theorem halfB_ok {n : Hf} (h : n.ok) : halfB false n.d = true := by cases n <;> first | exact h.elim | simp [Hf.d, halfB, numB]
theorem actB_of (t : Hf) {n : Hf} (h : n.ok) : actB (actD t n) = true := by
  show (halfB true t.d && halfB false n.d) = true
  rw [halfB_of, halfB_ok h]; rfl
end Ny

set_option Elab.async false
set_option linter.all false
set_option maxRecDepth 100000
set_option maxHeartbeats 4000000
namespace Ny
open PySem PySem.Spec PyProof.Rows L2 Evl
/-! ### the built-ins by their names, once -/
theorem bo_isinstance : bootBuiltins "isinstance" = some (.builtin "isinstance") := by decide +kernel
theorem bo_max : bootBuiltins "max" = some (.builtin "max") := by decide +kernel
theorem bo_min : bootBuiltins "min" = some (.builtin "min") := by decide +kernel
theorem bo_any : bootBuiltins "any" = some (.builtin "any") := by decide +kernel
theorem bo_all : bootBuiltins "all" = some (.builtin "all") := by decide +kernel
theorem bo_sorted : bootBuiltins "sorted" = some (.builtin "sorted") := by decide +kernel
theorem bo_sum : bootBuiltins "sum" = some (.builtin "sum") := by decide +kernel
theorem bo_len : bootBuiltins "len" = some (.builtin "len") := by decide +kernel
theorem bo_int : bootBuiltins "int" = some (.type "int") := by decide +kernel
theorem bo_bool : bootBuiltins "bool" = some (.type "bool") := by decide +kernel
theorem bo_str : bootBuiltins "str" = some (.type "str") := by decide +kernel
theorem bo_list : bootBuiltins "list" = some (.type "list") := by decide +kernel
theorem bo_tuple : bootBuiltins "tuple" = some (.type "tuple") := by decide +kernel
theorem bo_dict : bootBuiltins "dict" = some (.type "dict") := by decide +kernel
theorem bo_range : bootBuiltins "range" = some (.type "range") := by decide +kernel
theorem bo_enumerate : bootBuiltins "enumerate" = some (.type "enumerate") := by decide +kernel
theorem bo_zip : bootBuiltins "zip" = some (.type "zip") := by decide +kernel
theorem bo_reversed : bootBuiltins "reversed" = some (.type "reversed") := by decide +kernel
theorem rgc_up {j c : Int} (hc : 0 < c) (hc2 : c < 1000) (h : 0 < j) (h2 : j < 1000000) : RgC 0 j c ((j - 1) / c + 1).toNat := by
  refine ⟨by omega, by omega, ?_, ?_⟩
  · have q : 0 ≤ (j - 1) / c := Int.ediv_nonneg (by omega) (by omega)
    have q2 : (j - 1) / c ≤ j - 1 := Int.ediv_le_self _ (by omega)
    unfold Builtin.Range.small Builtin.Range.rangeSize
    rw [if_pos hc, if_pos h, show j - 0 - 1 = j - 1 by omega]
    have hc' : c > 0 := hc
    simp only [Builtin.Range.rangeFitsLong, Bool.and_eq_true, Bool.or_eq_true, decide_eq_true_eq, beq_iff_eq, hc', if_true]
    omega
  · unfold Builtin.Range.rangeSize
    rw [if_pos hc, if_pos h]
    have : 0 ≤ (j - 1) / c := Int.ediv_nonneg (by omega) (by omega)
    rw [show j - 0 - 1 = j - 1 by omega]
    omega
section
variable {K : PySem.W.Frag} {σ : L2.St} {H : Hp} {D : Ends} {Q : VK} {R : It → Hp → Prop} {x y v : V} {n : Nat} {g : TG} {tb : TS} {i j c : Int}
def kR3 (R : It → Hp → Prop) : List V → Hp → Prop := fun vs H1 => ∃ (i j c : Int) (n : Nat), vs = [.int i, .int j, .int c] ∧ RgC i j c n ∧ R (Itc i c n) H1
instance {ta : TA} {R : It → Hp → Prop} : Step (iRng3 ta σ H R) (ta σ H (kR3 R)) := ⟨id⟩
theorem w_kR3 {m : Nat} (h : RgC i j c m) (q : R (Itc i c m) H) : kR3 R [.int i, .int j, .int c] H := ⟨i, j, c, m, rfl, h, q⟩
theorem w_forC {lo : Int} (Pv : Nat → L2.St → Hp → Prop) (h0 : Pv 0 σ H)
    (hs : ∀ i σ H, i < n → Pv i σ H → g (.int (lo + (i : Nat) * c)) σ H fun σ2 H2 => tb { D with nx := Pv (i + 1), ct := Pv (i + 1), bk := D.nx } σ2 H2) (hd : ∀ σ H, Pv n σ H → D.nx σ H) : ForB (Itc lo c n) g tb D σ H := for_rangeC Pv h0 hs hd
/-- a loop that writes its own slot alone and leaves what is tracked as it is -/
theorem w_forL1 {a : Addr} {xs : List V} {s : Nat} (hL : SqL K H a xs)
    (hs : ∀ (i : Nat) (x : V) (y : Option V) (H' : Hp), xs[i]? = some x → Ex H H' → gName s x (σ.set s y) H' fun σ2 H2 =>
      tb { D with nx := fun σ' H'' => (∃ y, σ' = σ.set s y) ∧ Ex H H'', ct := fun σ' H'' => (∃ y, σ' = σ.set s y) ∧ Ex H H'', bk := D.nx } σ2 H2)
    (hd : ∀ (y : Option V) (H' : Hp), Ex H H' → D.nx (σ.set s y) H') : ForB (Itl K a) (gName s) tb D σ H := by
  refine w_forL (fun i σ' H' => (∃ y, σ' = σ.set s y) ∧ Ex H H') ⟨?_, Ex.refl H⟩ (fun i σ' H' _ h => ex_l h.2 hL) ?_ ?_
  · by_cases h : s < σ.length
    · exact ⟨σ[s], by rw [List.set_getElem_self]⟩
    · exact ⟨none, by rw [List.set_eq_of_length_le (by omega)]⟩
  · rintro i x σ' H' hx ⟨⟨y, rfl⟩, e⟩
    exact hs i x y H' hx e
  · rintro σ' H' ⟨⟨y, rfl⟩, e⟩
    exact hd y H' e
/-- an item of a tuple that is known as data -/
theorem w_ixD0 {a : PyData} {r : List PyData} (h : Dp K H v (.tuple (a :: r))) (q : ∀ x, Dp K H x a → Q x H) : rIx K v (.int 0) H Q := by
  obtain ⟨p, xs, rfl, hs, ha⟩ := dp_tup h
  obtain ⟨x, ys, rfl, hx, _⟩ := dpAll_cons ha
  refine w_ixT hs ?_ (q x hx)
  exact atI_nat (j := 0) rfl
theorem w_ixD1 {a b : PyData} {r : List PyData} (h : Dp K H v (.tuple (a :: b :: r))) (q : ∀ x, Dp K H x b → Q x H) : rIx K v (.int 1) H Q := by
  obtain ⟨p, xs, rfl, hs, ha⟩ := dp_tup h
  obtain ⟨x, ys, rfl, hx, ha⟩ := dpAll_cons ha
  obtain ⟨y, zs, rfl, hy, _⟩ := dpAll_cons ha
  refine w_ixT hs ?_ (q y hy)
  exact atI_nat (j := 1) rfl
/-- values that are ints or none -/
theorem w_ne_opt {a b : Option Int} (q : Q (.bl (!decide (a = b))) H) : uNe K (optV a) (optV b) H Q := w_ne_dat (dp_opt a) (dp_opt b) (opt_shaped a) (opt_shaped b) (by rw [opt_eqv]; exact q)
theorem w_eq_opt {a b : Option Int} (q : Q (.bl (decide (a = b))) H) : uEq K (optV a) (optV b) H Q := w_eq_dat (dp_opt a) (dp_opt b) (opt_shaped a) (opt_shaped b) (by rw [opt_eqv]; exact q)
instance {a b : Option Int} : Step (uNe K (optV a) (optV b) H Q) (Q (.bl (!decide (a = b))) H) := ⟨w_ne_opt⟩
instance {a b : Option Int} : Step (uEq K (optV a) (optV b) H Q) (Q (.bl (decide (a = b))) H) := ⟨w_eq_opt⟩
theorem w_ne_act {t m t' m' : Hf} (h : Dp K H x (actD t m)) (h' : Dp K H y (actD t' m')) (q : Q (.bl (!(decide (t = t') && decide (m = m')))) H) : uNe K x y H Q := w_ne_dat h h' (act_shaped _ _) (act_shaped _ _) (by rw [act_eqv]; exact q)
theorem w_eq_act {t m t' m' : Hf} (h : Dp K H x (actD t m)) (h' : Dp K H y (actD t' m')) (q : Q (.bl (decide (t = t') && decide (m = m'))) H) : uEq K x y H Q := w_eq_dat h h' (act_shaped _ _) (act_shaped _ _) (by rw [act_eqv]; exact q)
/-- is, of None or of truths -/
def vIs : R2 := fun x y H Q => uIs x y H Q ∨ rIsB x y H Q
def vIsN : R2 := fun x y H Q => uIsN x y H Q ∨ rNotB x y H Q
theorem ov_is {X : Cx} : OpR X (compareOp .Is) vIs := ou_is.or op_isBl
theorem ov_isn {X : Cx} : OpR X (compareOp .IsNot) vIsN := ou_isn.or op_notBl
instance [h : Step (uIs x .non H Q) B] : Step (vIs x .non H Q) B := ⟨fun q => .inl (h.go q)⟩
instance [h : Step (uIsN x .non H Q) B] : Step (vIsN x .non H Q) B := ⟨fun q => .inl (h.go q)⟩
instance {a b : Bool} : Step (vIs (.bl a) (.bl b) H Q) (Q (.bl (decide (a = b))) H) := ⟨fun q => .inr ⟨a, b, rfl, rfl, q⟩⟩
instance {a b : Bool} : Step (vIsN (.bl a) (.bl b) H Q) (Q (.bl (!decide (a = b))) H) := ⟨fun q => .inr ⟨a, b, rfl, rfl, q⟩⟩
theorem opt_is (o : Option Int) : decide (optV o = .non) = o.isNone := by cases o <;> rfl
instance {o : Option Int} : Step (vIs (optV o) .non H Q) (Q (.bl o.isNone) H) := ⟨fun q => .inl ⟨rfl, by rw [opt_is]; exact q⟩⟩
instance {o : Option Int} : Step (vIsN (optV o) .non H Q) (Q (.bl (!o.isNone)) H) := ⟨fun q => .inl ⟨rfl, by rw [opt_is]; exact q⟩⟩
end
/-! ### values that are ints or none, in lists -/
def OptL (xs : List V) : Prop := ∀ x ∈ xs, ∃ o, x = optV o
theorem optL_nil : OptL [] := fun _ h => nomatch h
theorem optL_int {z : Int} {xs : List V} (h : OptL xs) : OptL (V.int z :: xs) := fun x hx => by
  rcases List.mem_cons.mp hx with rfl | hx
  · exact ⟨some z, rfl⟩
  · exact h x hx
theorem optL_non {xs : List V} (h : OptL xs) : OptL (V.non :: xs) := fun x hx => by
  rcases List.mem_cons.mp hx with rfl | hx
  · exact ⟨none, rfl⟩
  · exact h x hx
theorem optL_opt {o : Option Int} {xs : List V} (h : OptL xs) : OptL (optV o :: xs) := fun x hx => by
  rcases List.mem_cons.mp hx with rfl | hx
  · exact ⟨o, rfl⟩
  · exact h x hx
theorem OptL.at {xs : List V} {i : Nat} {x : V} (h : OptL xs) (e : xs[i]? = some x) : ∃ o, x = optV o := h x (List.mem_of_getElem? e)
theorem cut_to {xs : List V} {k : Int} (h : 0 ≤ k) : (cutV xs none (some k)).length = min k.toNat xs.length := by
  obtain ⟨m, rfl⟩ := Int.eq_ofNat_of_zero_le h
  unfold cutV
  rw [HT.sIx_nat, HT.sIx_none, List.length_take, List.length_drop, Int.toNat_natCast]
  omega
theorem cut_two {xs : List V} {k : Int} (h0 : 0 ≤ k) (h : k + 2 ≤ xs.length) : (cutV xs (some k) (some (k + 2))).length = 2 := by
  obtain ⟨m, rfl⟩ := Int.eq_ofNat_of_zero_le h0
  have e : ((m : Int) + 2) = ((m + 2 : Nat) : Int) := by omega
  unfold cutV
  rw [e, HT.sIx_nat, HT.sIx_nat, List.length_take, List.length_drop]
  omega
end Ny

set_option Elab.async false
set_option linter.all false
set_option maxRecDepth 100000
set_option maxHeartbeats 4000000
namespace Ny
open PySem PySem.Spec PyProof.Rows L2 Evl
/-! ### written data of the top -/
def datB (K : PySem.W.Frag) : Nat → Value → PyData → Bool
  | 0, _, _ => false
  | _ + 1, .none, .none => true
  | _ + 1, .bool b, .bool c => b == c
  | _ + 1, .int i _, .int j => decide (i = j)
  | _ + 1, .str x _, .str y => decide (x = y)
  | n + 1, .ref a, .tuple ds => (match K.lookup a with
    | some ⟨.type c, _, .seq its _, _⟩ => decide (c = "tuple") && (decide (its.size ≤ sizeLine) && (decide (its.toList.length = ds.length) && (its.toList.zip ds).all fun p => datB K n p.1 p.2))
    | _ => false)
  | n + 1, .ref a, .list ds => (match K.lookup a with
    | some ⟨.type c, none, .seq its _, _⟩ => decide (c = "list") && (decide (its.size ≤ sizeLine) && (decide (its.toList.length = ds.length) && (its.toList.zip ds).all fun p => datB K n p.1 p.2))
    | _ => false)
  | _, _, _ => false
theorem datL_ok {K : PySem.W.Frag} {n : Nat} (ih : ∀ (u : Value) (d : PyData), datB K n u d = true → ∃ v, RelV v u ∧ ∀ H, Dp K H v d) : ∀ (us : List Value) (ds : List PyData), us.length = ds.length → ((us.zip ds).all fun p => datB K n p.1 p.2) = true →
    ∃ vs, Vals vs us ∧ ∀ H, DpAll K H vs ds
  | [], [], _, _ => ⟨[], .nil, fun _ => .nil⟩
  | [], _ :: _, h, _ => by cases h
  | _ :: _, [], h, _ => by cases h
  | u :: us, d :: ds, h, e => by
    rw [List.zip_cons_cons, List.all_cons, Bool.and_eq_true] at e
    obtain ⟨v, r, hv⟩ := ih u d e.1
    obtain ⟨vs, rs, hs⟩ := datL_ok ih us ds (Nat.succ.inj h) e.2
    exact ⟨v :: vs, .cons r rs, fun H => .cons (hv H) (hs H)⟩
theorem datB_ok {K : PySem.W.Frag} : ∀ (n : Nat) (u : Value) (d : PyData), datB K n u d = true → ∃ v, RelV v u ∧ ∀ H, Dp K H v d := by
  intro n
  induction n with
  | zero => intro u d h; exact absurd h (by unfold datB; simp)
  | succ n ih =>
    intro u d h
    unfold datB at h
    split at h
    · rename_i q; cases q
    · exact ⟨.non, rfl, fun _ => .non⟩
    · rename_i b c _
      have e := eq_of_beq h
      subst e
      exact ⟨.bl b, rfl, fun _ => .bl b⟩
    · rename_i i t j _
      have e := of_decide_eq_true h
      subst e
      exact ⟨.int i, ⟨t, rfl⟩, fun _ => .int i⟩
    · rename_i x t y _
      have e := of_decide_eq_true h
      subst e
      exact ⟨.str x, ⟨t, rfl⟩, fun _ => .str x⟩
    · rename_i m a ds q
      cases q
      split at h
      · rename_i c od its k sl hk
        simp only [Bool.and_eq_true, decide_eq_true_eq] at h
        obtain ⟨h1, h2, h3, h4⟩ := h
        obtain ⟨vs, rv, hv⟩ := datL_ok ih its.toList ds h3 h4
        exact ⟨.ref a, rfl, fun H => .tup (.inr ⟨_, its, k, hk, congrArg Value.type h1, rfl, h2, rv⟩) (hv H)⟩
      · cases h
    · rename_i m a ds q
      cases q
      split at h
      · rename_i c its k sl hk
        simp only [Bool.and_eq_true, decide_eq_true_eq] at h
        obtain ⟨h1, h2, h3, h4⟩ := h
        obtain ⟨vs, rv, hv⟩ := datL_ok ih its.toList ds h3 h4
        exact ⟨.ref a, rfl, fun H => .lst (.inr ⟨_, its, k, hk, congrArg Value.type h1, rfl, rfl, h2, rv⟩) (hv H)⟩
      · cases h
    · cases h
/-- the module's name x stands for this data -/
def glD (K : PySem.W.Frag) (x : Str) (d : PyData) : Bool := datB K 8 (.ref (He.ga K x)) d
theorem glD_ok {K : PySem.W.Frag} {x : Str} {d : PyData} (h : glD K x d = true) (H : Hp) : Dp K H (.ref (He.ga K x)) d := by
  obtain ⟨v, r, hv⟩ := datB_ok 8 _ d h
  have e : V.ref (He.ga K x) = v := RelV.inj (show RelV (.ref (He.ga K x)) (.ref (He.ga K x)) from rfl) r
  rw [e]
  exact hv H
end Ny

set_option Elab.async false
set_option linter.all false
set_option maxRecDepth 100000
set_option maxHeartbeats 4000000
namespace Ny
open PySem PySem.Spec PyProof.Rows L2 Evl
/-! ### data of tuples alone: they stay whatever is done to lists -/
mutual
def noL : PyData → Bool
  | .list _ => false
  | .dict _ => false
  | .tuple ds => noLs ds
  | _ => true
def noLs : List PyData → Bool
  | [] => true
  | d :: ds => noL d && noLs ds
end
section
variable {K : PySem.W.Frag} {H H2 : Hp} {p : Addr} {xs ys : List V}
theorem PutL.t (u : PutL p xs ys H H2) {a : Addr} {zs : List V} (h : SqT K H a zs) : SqT K H2 a zs := by
  rcases h with (h | ⟨o, h⟩) | h
  · exact .inl (.inl (u.at (ne_of h u.was (by intro z; cases z)) h))
  · exact .inl (.inr ⟨o, u.at (ne_of h u.was (by intro z; cases z)) h⟩)
  · exact .inr h
mutual
theorem dp_put (u : PutL p xs ys H H2) : ∀ (d : PyData) {v : V}, noL d = true → Dp K H v d → Dp K H2 v d
  | .none, _, _, h => by cases h; exact .non
  | .bool b, _, _, h => by cases h; exact .bl b
  | .int i, _, _, h => by cases h; exact .int i
  | .str x, _, _, h => by cases h; exact .str x
  | .list ds, _, n, h => by unfold noL at n; cases n
  | .tuple ds, _, n, h => by
    unfold noL at n
    cases h with
    | tup hs ha => exact .tup (u.t hs) (dpAll_put u ds n ha)
  | .dict _, _, _, h => by cases h
theorem dpAll_put (u : PutL p xs ys H H2) : ∀ (ds : List PyData) {vs : List V}, noLs ds = true → DpAll K H vs ds → DpAll K H2 vs ds
  | [], _, _, h => by cases h; exact .nil
  | d :: ds, _, n, h => by
    unfold noLs at n
    rw [Bool.and_eq_true] at n
    cases h with
    | cons h1 h2 => exact .cons (dp_put u d n.1 h1) (dpAll_put u ds n.2 h2)
end
theorem noLs_of {ds : List PyData} (h : ∀ d ∈ ds, noL d = true) : noLs ds = true := by
  induction ds with
  | nil => rfl
  | cons d ds ih =>
    unfold noLs
    rw [h d List.mem_cons_self, ih fun e he => h e (List.mem_cons_of_mem _ he)]
    rfl
theorem dpAll_app {vs ws : List V} {ds es : List PyData} (h : DpAll K H vs ds) (h' : DpAll K H ws es) : DpAll K H (vs ++ ws) (ds ++ es) := by
  induction ds generalizing vs with
  | nil => cases h; exact h'
  | cons d ds ih =>
    cases h with
    | cons h1 h2 => exact .cons h1 (ih h2)
theorem dpAll_at {vs : List V} {ds : List PyData} (h : DpAll K H vs ds) {i : Nat} {v : V} (e : vs[i]? = some v) : ∃ d, ds[i]? = some d ∧ Dp K H v d := by
  induction ds generalizing vs i with
  | nil => cases h; cases i <;> cases e
  | cons d ds ih =>
    cases h with
    | cons h1 h2 =>
      cases i with
      | zero => cases e; exact ⟨d, rfl, h1⟩
      | succ i => exact ih h2 e
theorem dpAll_take {vs : List V} {ds : List PyData} (h : DpAll K H vs ds) (n : Nat) : DpAll K H (vs.take n) (ds.take n) := by
  induction ds generalizing vs n with
  | nil => cases h; simp; exact .nil
  | cons d ds ih =>
    cases h with
    | cons h1 h2 =>
      cases n with
      | zero => exact .nil
      | succ n => exact .cons h1 (ih h2 n)
theorem dpAll_drop {vs : List V} {ds : List PyData} (h : DpAll K H vs ds) (n : Nat) : DpAll K H (vs.drop n) (ds.drop n) := by
  induction ds generalizing vs n with
  | nil => cases h; simp; exact .nil
  | cons d ds ih =>
    cases h with
    | cons h1 h2 =>
      cases n with
      | zero => exact .cons h1 h2
      | succ n => exact ih h2 n
theorem dpAll_rev {vs : List V} {ds : List PyData} (h : DpAll K H vs ds) : DpAll K H vs.reverse ds.reverse := by
  induction ds generalizing vs with
  | nil => cases h; exact .nil
  | cons d ds ih =>
    cases h with
    | cons h1 h2 =>
      rw [List.reverse_cons, List.reverse_cons]
      exact dpAll_app (ih h2) (.cons h1 .nil)
theorem dpAll_mem {vs : List V} {ds : List PyData} (h : DpAll K H vs ds) {v : V} (e : v ∈ vs) : ∃ d, d ∈ ds ∧ Dp K H v d := by
  obtain ⟨i, hi, rfl⟩ := List.getElem_of_mem e
  obtain ⟨d, hd, hv⟩ := dpAll_at h (List.getElem?_eq_getElem hi)
  exact ⟨d, List.mem_of_getElem? hd, hv⟩
end
theorem hf_noL (h : Hf) : noL h.d = true := by cases h <;> rfl
theorem act_noL (t n : Hf) : noL (actD t n) = true := by
  show (noL t.d && (noL n.d && true)) = true
  rw [hf_noL, hf_noL]; rfl
theorem opt_noL (o : Option Int) : noL (optD o) = true := by cases o <;> rfl
theorem optV_inj {a b : Option Int} (h : optV a = optV b) : a = b := by
  cases a <;> cases b <;> first | rfl | (cases h; done) | (cases h; rfl)
/-! ### comprehensions -/
section
variable {K : PySem.W.Frag} {σ : L2.St} {H : Hp} {Q : VK} {g : TG} {tt : TT} {te : TE} {vs : List Nat} {a : Addr} {xs : List V}
def LcB (J : It) (g : TG) (tt : TT) (te : TE) (vs : List Nat) (σ : L2.St) (H1 : Hp) (Q : VK) : Prop := ∀ D, H1 D = none → ∃ W : Nat → Nat → Hp → Prop, (∃ m, W 0 m (upd H1 D (.lst []))) ∧ ∀ i m H, W i m H →
  (J.stop i H ∧ Q (.ref D) H) ∨ (J.go i H ∧ ∃ Nx : Hp → Prop, (∀ H', Nx H' → ∃ m', m' < m ∧ W (i + 1) m' H') ∧ ∀ x H', J.yld i H x H' → g x (wipe σ vs) H' fun σ2 H2 => wipe σ2 vs = wipe σ vs ∧ tt σ2 H2 fun b H3 =>
    if b = true then te σ2 H3 fun y H4 => ∃ acc, H4 D = some (.lst acc) ∧ acc.length < sizeLine ∧ Nx (upd H4 D (.lst (acc ++ [y]))) else Nx H3)
instance {wi : TI} : Step (tLc wi g tt te vs σ H Q) (wi σ H fun J H1 => LcB J g tt te vs σ H1 Q) := ⟨id⟩
instance {QB : Bool → Hp → Prop} : Step (tYes σ H QB) (QB true H) := ⟨id⟩
/-- each turn tells a datum without lists, or leaves its item out -/
theorem lc_inv {S : V → Option PyData → Prop} {Qd : Hp → Prop} {D : Addr} (hx : xs.length ≤ 1000000) (hn : H D = none)
    (hd : ∀ H' ys (os : List (Option PyData)), Ex H H' → H' D = some (.lst ys) → DpAll K H' ys (os.filterMap id) → os.length = xs.length →
      (∀ (j : Nat) (x : V) (o : Option PyData), xs[j]? = some x → os[j]? = some o → S x o) → Qd H') :
    ∃ Pv : Nat → Hp → Prop, Pv 0 (upd H D (.lst [])) ∧ (∀ i H', Pv i H' → Ex H H') ∧ (∀ H', Pv xs.length H' → Qd H') ∧ ∀ i x H', xs[i]? = some x → Pv i H' → Ex H H' ∧ H' D ≠ none ∧
      (∀ y H4 d, Ex H' H4 → noL d = true → S x (some d) → Dp K H4 y d → ∃ acc, H4 D = some (.lst acc) ∧ acc.length < sizeLine ∧ Pv (i + 1) (upd H4 D (.lst (acc ++ [y])))) ∧
      (∀ H4, Ex H' H4 → S x none → Pv (i + 1) H4) := by
  refine ⟨fun i H' => Ex H H' ∧ ∃ (ys : List V) (os : List (Option PyData)), H' D = some (.lst ys) ∧ DpAll K H' ys (os.filterMap id) ∧ os.length = i ∧
    (∀ (j : Nat) (x : V) (o : Option PyData), xs[j]? = some x → os[j]? = some o → S x o) ∧ ∀ d ∈ os.filterMap id, noL d = true, ?_, ?_, ?_, ?_⟩
  · exact ⟨Ex.new hn, [], [], upd_same, .nil, rfl, fun j x o _ h => by simp at h, fun d h => by simp at h⟩
  · rintro i H' ⟨e, _⟩; exact e
  · rintro H' ⟨e, ys, os, h1, h2, h3, h4, _⟩
    exact hd H' ys os e h1 h2 h3 h4
  · rintro i x H' hxi ⟨e, ys, os, h1, h2, h3, h4, h5⟩
    refine ⟨e, (by rw [h1]; intro z; cases z), ?_, ?_⟩
    · intro y H4 d e4 nd hS hy
      have h1' := e4 _ _ h1
      have lt : i < xs.length := (List.getElem?_eq_some_iff.mp hxi).1
      have len := dpAll_len h2
      have len2 : (os.filterMap id).length ≤ os.length := List.length_filterMap_le _ _
      have sz : (1000000 : Nat) ≤ sizeLine := by decide
      have u : PutL D ys (ys ++ [y]) H4 (upd H4 D (.lst (ys ++ [y]))) := putL h1'
      have nn : noLs (os.filterMap id) = true := noLs_of h5
      refine ⟨ys, h1', by omega, u.ex (Ex.trans e e4) hn, ys ++ [y], os ++ [some d], upd_same, ?_, by rw [List.length_append, h3]; rfl, ?_, ?_⟩
      · rw [List.filterMap_append]
        exact dpAll_app (dpAll_put u _ nn (dpAll_mono e4 _ h2)) (.cons (dp_put u d nd hy) .nil)
      · intro j x' o hx' ho
        rcases Nat.lt_or_ge j os.length with hj | hj
        · rw [List.getElem?_append_left hj] at ho
          exact h4 j x' o hx' ho
        · rw [List.getElem?_append_right hj] at ho
          have hj2 : j = i := by
            have := (List.getElem?_eq_some_iff.mp ho).1
            simp at this
            omega
          subst hj2
          rw [h3, Nat.sub_self] at ho
          cases ho
          rw [hxi] at hx'
          cases hx'
          exact hS
      · intro d' hd'
        rw [List.filterMap_append, List.mem_append] at hd'
        rcases hd' with hd' | hd'
        · exact h5 d' hd'
        · simp at hd'
          subst hd'
          exact nd
    · intro H4 e4 hS
      refine ⟨Ex.trans e e4, ys, os ++ [none], e4 _ _ h1, ?_, by rw [List.length_append, h3]; rfl, ?_, ?_⟩
      · rw [List.filterMap_append]
        exact dpAll_app (dpAll_mono e4 _ h2) .nil |> fun z => by simpa using z
      · intro j x' o hx' ho
        rcases Nat.lt_or_ge j os.length with hj | hj
        · rw [List.getElem?_append_left hj] at ho
          exact h4 j x' o hx' ho
        · rw [List.getElem?_append_right hj] at ho
          have hj2 : j = i := by
            have := (List.getElem?_eq_some_iff.mp ho).1
            simp at this
            omega
          subst hj2
          rw [h3, Nat.sub_self] at ho
          cases ho
          rw [hxi] at hx'
          cases hx'
          exact hS
      · intro d' hd'
        rw [List.filterMap_append, List.mem_append] at hd'
        rcases hd' with hd' | hd'
        · exact h5 d' hd'
        · simp at hd'
/-- over a list, tests too -/
theorem w_lcL (S : V → Option PyData → Prop) (hL : SqL K H a xs) (hx : xs.length ≤ 1000000)
    (hs : ∀ (i : Nat) (x : V) (H' : Hp) (kT : VK) (kN : Hp → Prop), xs[i]? = some x → Ex H H' → (∀ y H4 d, Ex H' H4 → noL d = true → S x (some d) → Dp K H4 y d → kT y H4) → (∀ H4, Ex H' H4 → S x none → kN H4) →
      g x (wipe σ vs) H' fun σ2 H2 => wipe σ2 vs = wipe σ vs ∧ tt σ2 H2 fun b H3 => if b = true then te σ2 H3 kT else kN H3)
    (hd : ∀ D H' ys (os : List (Option PyData)), H D = none → Ex H H' → H' D = some (.lst ys) → DpAll K H' ys (os.filterMap id) → os.length = xs.length →
      (∀ (j : Nat) (x : V) (o : Option PyData), xs[j]? = some x → os[j]? = some o → S x o) → Q (.ref D) H') : LcB (Itl K a) g tt te vs σ H Q := fun D hn => by
  obtain ⟨Pv, p0, pe, pd, ps⟩ := lc_inv (K := K) (S := S) (Qd := Q (.ref D)) hx hn (hd D · · · hn)
  refine lc_list Pv p0 (fun i H' _ p => ex_l (pe i H' p) hL) (fun i x H' hxi p => ?_) pd
  obtain ⟨e, _, q1, q2⟩ := ps i x H' hxi p
  exact hs i x H' _ _ hxi e q1 q2
theorem w_lcT (S : V → Option PyData → Prop) (hL : SqT K H a xs) (hx : xs.length ≤ 1000000)
    (hs : ∀ (i : Nat) (x : V) (H' : Hp) (kT : VK) (kN : Hp → Prop), xs[i]? = some x → Ex H H' → (∀ y H4 d, Ex H' H4 → noL d = true → S x (some d) → Dp K H4 y d → kT y H4) → (∀ H4, Ex H' H4 → S x none → kN H4) →
      g x (wipe σ vs) H' fun σ2 H2 => wipe σ2 vs = wipe σ vs ∧ tt σ2 H2 fun b H3 => if b = true then te σ2 H3 kT else kN H3)
    (hd : ∀ D H' ys (os : List (Option PyData)), H D = none → Ex H H' → H' D = some (.lst ys) → DpAll K H' ys (os.filterMap id) → os.length = xs.length →
      (∀ (j : Nat) (x : V) (o : Option PyData), xs[j]? = some x → os[j]? = some o → S x o) → Q (.ref D) H') : LcB (Itt K a) g tt te vs σ H Q := fun D hn => by
  obtain ⟨Pv, p0, pe, pd, ps⟩ := lc_inv (K := K) (S := S) (Qd := Q (.ref D)) hx hn (hd D · · · hn)
  refine lc_tup Pv p0 (fun i H' _ p => ex_t (pe i H' p) hL) (fun i x H' hxi p => ?_) pd
  obtain ⟨e, _, q1, q2⟩ := ps i x H' hxi p
  exact hs i x H' _ _ hxi e q1 q2
def rngV (lo : Int) (n : Nat) : List V := (List.range n).map fun (i : Nat) => .int (lo + i)
theorem rngV_at {lo : Int} {n i : Nat} (h : i < n) : (rngV lo n)[i]? = some (.int (lo + i)) := by unfold rngV; rw [List.getElem?_map, List.getElem?_range h]; rfl
theorem rngV_len {lo : Int} {n : Nat} : (rngV lo n).length = n := by unfold rngV; rw [List.length_map, List.length_range]
theorem w_lcR {lo : Int} {n : Nat} (S : V → Option PyData → Prop) (hx : n ≤ 1000000)
    (hs : ∀ (i : Nat) (H' : Hp) (kT : VK) (kN : Hp → Prop), i < n → Ex H H' → (∀ y H4 d, Ex H' H4 → noL d = true → S (.int (lo + i)) (some d) → Dp K H4 y d → kT y H4) → (∀ H4, Ex H' H4 → S (.int (lo + i)) none → kN H4) →
      g (.int (lo + i)) (wipe σ vs) H' fun σ2 H2 => wipe σ2 vs = wipe σ vs ∧ tt σ2 H2 fun b H3 => if b = true then te σ2 H3 kT else kN H3)
    (hd : ∀ D H' ys (os : List (Option PyData)), H D = none → Ex H H' → H' D = some (.lst ys) → DpAll K H' ys (os.filterMap id) → os.length = n →
      (∀ (j : Nat) (o : Option PyData), j < n → os[j]? = some o → S (.int (lo + j)) o) → Q (.ref D) H') : LcB (Itr lo n) g tt te vs σ H Q := fun D hn => by
  obtain ⟨Pv, p0, pe, pd, ps⟩ := lc_inv (K := K) (xs := rngV lo n) (S := S) (Qd := Q (.ref D)) (by rw [rngV_len]; exact hx) hn (fun H' ys os e h1 h2 h3 h4 => hd D H' ys os hn e h1 h2 (by rw [h3, rngV_len]) fun j o hj ho => h4 j _ o (rngV_at hj) ho)
  rw [rngV_len] at pd
  refine lc_range Pv p0 (fun i H' hi p => ?_) pd
  obtain ⟨e, _, q1, q2⟩ := ps i _ H' (rngV_at hi) p
  exact hs i H' _ _ hi e q1 q2
/-- all turns tell something -/
theorem all_some {os : List (Option PyData)} (h : ∀ o ∈ os, o ≠ none) : ∃ ds, os = ds.map some ∧ os.filterMap id = ds := by
  induction os with
  | nil => exact ⟨[], rfl, rfl⟩
  | cons o os ih =>
    obtain ⟨ds, e, f⟩ := ih fun o ho => h o (List.mem_cons_of_mem _ ho)
    cases o with
    | none => exact absurd rfl (h none List.mem_cons_self)
    | some d => exact ⟨d :: ds, by rw [e]; rfl, by rw [List.filterMap_cons]; simp [f]⟩
theorem some_of {xs : List V} {os : List (Option PyData)} {S : V → PyData → Prop} (hl : os.length = xs.length) (hS : ∀ (j : Nat) (x : V) (o : Option PyData), xs[j]? = some x → os[j]? = some o → ∃ d, o = some d ∧ S x d) :
    ∃ ds, os.filterMap id = ds ∧ ds.length = xs.length ∧ ∀ (j : Nat) (x : V) (d : PyData), xs[j]? = some x → ds[j]? = some d → S x d := by
  obtain ⟨ds, e, f⟩ := all_some (os := os) fun o ho => by
    obtain ⟨j, hj, rfl⟩ := List.getElem_of_mem ho
    obtain ⟨d, e, _⟩ := hS j xs[j] _ (List.getElem?_eq_getElem (by omega)) (List.getElem?_eq_getElem hj)
    rw [e]; intro z; cases z
  refine ⟨ds, f, by rw [← hl, e, List.length_map], fun j x d hx hd => ?_⟩
  obtain ⟨d', e', q⟩ := hS j x (some d) hx (by rw [e, List.getElem?_map, hd]; rfl)
  cases e'
  exact q
/-- over a list, no test -/
theorem w_lcL1 (S : V → PyData → Prop) (hL : SqL K H a xs) (hx : xs.length ≤ 1000000)
    (hs : ∀ (i : Nat) (x : V) (H' : Hp) (kT : VK), xs[i]? = some x → Ex H H' → (∀ y H4 d, Ex H' H4 → noL d = true → S x d → Dp K H4 y d → kT y H4) → g x (wipe σ vs) H' fun σ2 H2 => wipe σ2 vs = wipe σ vs ∧ te σ2 H2 kT)
    (hd : ∀ D H' ys ds, H D = none → Ex H H' → H' D = some (.lst ys) → DpAll K H' ys ds → ds.length = xs.length →
      (∀ (j : Nat) (x : V) (d : PyData), xs[j]? = some x → ds[j]? = some d → S x d) → Q (.ref D) H') : LcB (Itl K a) g tYes te vs σ H Q :=
  w_lcL (fun x o => ∃ d, o = some d ∧ S x d) hL hx (fun i x H' kT kN hxi e q1 q2 => hs i x H' kT hxi e fun y H4 d e4 nd hS hy => q1 y H4 d e4 nd ⟨d, rfl, hS⟩ hy) fun D H' ys os hn e h1 h2 h3 h4 => by
    obtain ⟨ds, rfl, hl, hS⟩ := some_of h3 h4
    exact hd D H' ys _ hn e h1 h2 hl hS
theorem w_lcR1 {lo : Int} {n : Nat} (S : V → PyData → Prop) (hx : n ≤ 1000000)
    (hs : ∀ (i : Nat) (H' : Hp) (kT : VK), i < n → Ex H H' → (∀ y H4 d, Ex H' H4 → noL d = true → S (.int (lo + i)) d → Dp K H4 y d → kT y H4) → g (.int (lo + i)) (wipe σ vs) H' fun σ2 H2 => wipe σ2 vs = wipe σ vs ∧ te σ2 H2 kT)
    (hd : ∀ D H' ys ds, H D = none → Ex H H' → H' D = some (.lst ys) → DpAll K H' ys ds → ds.length = n →
      (∀ (j : Nat) (d : PyData), ds[j]? = some d → S (.int (lo + j)) d) → Q (.ref D) H') : LcB (Itr lo n) g tYes te vs σ H Q :=
  w_lcR (fun x o => ∃ d, o = some d ∧ S x d) hx (fun i H' kT kN hi e q1 q2 => hs i H' kT hi e fun y H4 d e4 nd hS hy => q1 y H4 d e4 nd ⟨d, rfl, hS⟩ hy) fun D H' ys os hn e h1 h2 h3 h4 => by
    obtain ⟨ds, rfl, hl, hS⟩ := some_of (xs := rngV lo n) (S := S) (by rw [h3, rngV_len]) fun j x o hx ho => by
      have hj : j < n := by have := (List.getElem?_eq_some_iff.mp hx).1; rwa [rngV_len] at this
      rw [rngV_at hj] at hx; cases hx
      exact h4 j o hj ho
    refine hd D H' ys _ hn e h1 h2 (by rw [hl, rngV_len]) fun j d hj => ?_
    have : j < n := by have := (List.getElem?_eq_some_iff.mp hj).1; rw [hl, rngV_len] at this; exact this
    exact hS j _ d (rngV_at this) hj
end
/-! ### the rules that name the frame's K, by a K said ahead (within comprehensions) -/
section
variable (K : PySem.W.Frag) {X : Cx}
theorem kx_add (h : X.K = K := by rfl) : OpR X (binaryOp .Add) (uAdd K) := by subst h; exact ou_add
theorem kx_eq (hu : X.A.units + 64 < cLine) (h : X.K = K := by rfl) : OpR X (compareOp .Eq) (uEq K) := by subst h; exact ou_eq hu
theorem kx_ne (hu : X.A.units + 64 < cLine) (h : X.K = K := by rfl) : OpR X (compareOp .NotEq) (uNe K) := by subst h; exact ou_ne hu
theorem kx_in (hu : X.A.units + 64 < cLine) (h : X.K = K := by rfl) : OpR X (compareOp .In) (uIn K) := by subst h; exact ou_in hu
theorem kx_nin (hu : X.A.units + 64 < cLine) (h : X.K = K := by rfl) : OpR X (compareOp .NotIn) (uNin K) := by subst h; exact ou_nin hu
theorem kx_len (h : X.K = K := by rfl) : CallR X (.builtin "len") (uLen K) := by subst h; exact cu_len
theorem kx_isi (h : X.K = K := by rfl) : CallR X (.builtin "isinstance") (uIsi K) := by subst h; exact cu_isi
theorem kx_max (hc : X.calm = true) (h : X.K = K := by rfl) : CallR X (.builtin "max") (uMax K) := by subst h; exact cu_max hc
theorem kx_min (hc : X.calm = true) (h : X.K = K := by rfl) : CallR X (.builtin "min") (uMin K) := by subst h; exact cu_min hc
theorem kx_any (hc : X.calm = true) (h : X.K = K := by rfl) : CallR X (.builtin "any") (uAny K) := by subst h; exact cu_any hc
theorem kx_all (hc : X.calm = true) (h : X.K = K := by rfl) : CallR X (.builtin "all") (uAll K) := by subst h; exact cu_all hc
theorem kx_list (h : X.K = K := by rfl) : CallR X (.type "list") (uList K) := by subst h; exact cu_list
theorem kx_sl (h : X.K = K := by rfl) : SlR X (uSl K) := by subst h; exact su_list
theorem kx_ix (h : X.K = K := by rfl) : IxR X (rIx K) := by subst h; exact ix_seq
theorem pt_trK {a : Expr} {ta : TE} (ha : PE X a ta) (he : ∀ whole, isTrue a X.env whole = (do let v ← whole; standAt a.pos; holding [v] (truthy v)) := by intro _; rfl) (h : X.K = K := by rfl) : PT X a (tTr K ta) := by subst h; exact pt_tr ha he
theorem pi_listK {tg l : Expr} {tl : TE} (hl : PE X l tl) (h : X.K = K := by rfl) : PI X tg l (iList K tl) := by subst h; exact pi_list hl
theorem pg_tupK {es : List Expr} {k : Nat} {t : TGs} {n : Nat} {pos : Pos} (hc : X.calm = true) (q : PGs X es t)
    (hn : (assignEach es X.env).length = n := by rfl) (hst : (assignEach es X.env).findIdx? (·.1) = none := by rfl) (h : X.K = K := by rfl) : PG X (.Tuple es k pos) (gTup K n t) := by subst h; exact pg_tup hc q hn hst
theorem pg_tupZK {es : List Expr} {k : Nat} {t : TGs} {n : Nat} {pos : Pos} (hc : X.calm = true) (q : PGs X es t)
    (hn : (assignEach es X.env).length = n + 1 := by rfl) (hst : (assignEach es X.env).findIdx? (·.1) = some n := by rfl) (h : X.K = K := by rfl) : PG X (.Tuple es k pos) (gStar K n t) := by subst h; exact pg_tupZ hc q hn hst
end
end Ny
namespace Ny
open PySem PySem.Spec PyProof.Rows L2 Evl
theorem len2 {α : Type} {ds : List α} (h : ds.length = 2) : ∃ a b, ds = [a, b] := by
  match ds, h with
  | [a, b], _ => exact ⟨a, b, rfl⟩
theorem len3 {α : Type} {ds : List α} (h : ds.length = 3) : ∃ a b c, ds = [a, b, c] := by
  match ds, h with
  | [a, b, c], _ => exact ⟨a, b, c, rfl⟩
theorem len4 {α : Type} {ds : List α} (h : ds.length = 4) : ∃ a b c d, ds = [a, b, c, d] := by
  match ds, h with
  | [a, b, c, d], _ => exact ⟨a, b, c, d, rfl⟩
section
variable {K : PySem.W.Frag} {σ : L2.St} {H : Hp} {Q : VK} {x y : V}
theorem w_wipe {a b : L2.St} {A : Prop} (h : a = b) (q : A) : a = b ∧ A := ⟨h, q⟩
theorem w_eq_datB {d e : PyData} {b : Bool} (h1 : Dp K H x d) (h2 : Dp K H y e) (s1 : SeqAt.shaped d = true) (s2 : SeqAt.shaped e = true) (hb : PyData.eqv d e = b) (q : Q (.bl b) H) : uEq K x y H Q := w_eq_dat h1 h2 s1 s2 (by rw [hb]; exact q)
theorem w_ne_datB {d e : PyData} {b : Bool} (h1 : Dp K H x d) (h2 : Dp K H y e) (s1 : SeqAt.shaped d = true) (s2 : SeqAt.shaped e = true) (hb : PyData.eqv d e = b) (q : Q (.bl (!b)) H) : uNe K x y H Q := w_ne_dat h1 h2 s1 s2 (by rw [hb]; exact q)
end
end Ny

set_option Elab.async false
set_option linter.all false
set_option maxRecDepth 100000
set_option maxHeartbeats 4000000
namespace Ny
open PySem PySem.Spec PySem.W PySem.Calls PyProof.Rows L2 Evl
/-! ### xs[a:b] = ys -/
def gSlc (to : TE) (tl tu : TO) : TG := fun v σ H Q => to σ H fun o H1 => tl σ H1 fun l H2 => tu σ H2 fun u H3 =>
  ∃ (p b : Addr) (xs ys : List V) (i j : Int), o = .ref p ∧ v = .ref b ∧ l = some i ∧ u = some j ∧ H3 p = some (.lst xs) ∧ H3 b = some (.lst ys) ∧ p ≠ b ∧ 0 ≤ i ∧ i ≤ j ∧ j ≤ xs.length ∧ xs.length + ys.length ≤ sizeLine ∧
    Q σ (upd H3 p (.lst (xs.take i.toNat ++ ys ++ xs.drop j.toNat)))
section
variable {X : Cx}
theorem part_int {v : Value} {i : Int} (h : IsPart v (some i)) : RelV (.int i) v := by
  cases h
  exact ⟨_, rfl⟩
theorem pg_slc {o : Expr} {lo hi : Option Expr} {to : TE} {tl tu : TO} {p2 pos : Pos} (ho : PE X o to) (hl : PO X lo tl) (hu : PO X hi tu)
    (ha : ∀ v, assign (.Subscript o (.Slice lo hi none p2) pos) X.env v = (do
      let ov ← holding [v] (eval o X.env)
      let iv ← holding [v, ov] (eval (.Slice lo hi none p2) X.env)
      standAt pos
      holding [v, ov, iv] (setItem ov iv v)
      release [iv, v, ov] []) := by intro _; rfl) : PG X (.Subscript o (.Slice lo hi none p2) pos) (gSlc to tl tu) := by
  refine ⟨fun pins s σ H v u Q I r h => ?_⟩
  rw [ha]
  refine wpAny_bind (wpAny_holding (thn (ho.run pins s σ H _ I h) fun ov s1 ⟨x, H1, I1, r1, q1⟩ => ?_))
  refine wpAny_bind (wpAny_holding (wpAny_Slice (thn (hl.run pins s1 σ H1 _ I1 q1) fun vl s2 ⟨l, H2, I2, pl, q2⟩ => thn (hu.run pins s2 σ H2 _ I2 q2) fun vu s3 ⟨w, H3, I3, pu, q3⟩ => ?_)))
  rw [evalPart_none]
  refine wpAny_pure ?_
  obtain ⟨p, b, xs, ys, i, j, rfl, rfl, rfl, rfl, hp, hb, hne, h0, hij, hj, hz, q⟩ := q3
  have I4 : Inv X pins σ H3 { s3 with heap := s3.heap.push { cls := .type "slice", data := .fields #[vl, vu, .none] } } := I3.kept (t' := s3.toks) fun b ob q => Heap.get?_push_of_some _ q
  cases r
  cases r1
  refine wpAny_bind (wpAny_standAt (wpAny_bind (wpAny_holding (set_slice I4 hp hb hne (Heap.IsSliceOf.new ..) (part_int pl) (part_int pu) h0 hij hj hz fun s' I' => ?_))))
  exact wpAny_release ⟨σ, _, I', q⟩
end
section
variable {K : PySem.W.Frag} {σ : L2.St} {H : Hp} {Q : VK} {R : L2.St → Hp → Prop} {v : V}
def kSlc (b : V) (σ : L2.St) (o : V) (l u : Option Int) (R : L2.St → Hp → Prop) (H3 : Hp) : Prop := ∃ (p a : Addr) (xs ys : List V) (i j : Int), o = .ref p ∧ b = .ref a ∧ l = some i ∧ u = some j ∧ H3 p = some (.lst xs) ∧ H3 a = some (.lst ys) ∧ p ≠ a ∧ 0 ≤ i ∧ i ≤ j ∧ j ≤ xs.length ∧ xs.length + ys.length ≤ sizeLine ∧
    R σ (upd H3 p (.lst (xs.take i.toNat ++ ys ++ xs.drop j.toNat)))
instance {to : TE} {tl tu : TO} : Step (gSlc to tl tu v σ H R) (to σ H fun o H1 => tl σ H1 fun l H2 => tu σ H2 fun u H3 => kSlc v σ o l u R H3) := ⟨id⟩
theorem w_slc {p a : Addr} {xs ys : List V} {i j : Int} (hp : H p = some (.lst xs)) (ha : H a = some (.lst ys)) (hne : p ≠ a) (h0 : 0 ≤ i) (hij : i ≤ j) (hj : j ≤ xs.length) (hz : xs.length + ys.length ≤ 1000000)
    (q : ∀ H2, PutL p xs (xs.take i.toNat ++ ys ++ xs.drop j.toNat) H H2 → R σ H2) : kSlc (.ref a) σ (.ref p) (some i) (some j) R H :=
  ⟨p, a, xs, ys, i, j, rfl, rfl, rfl, rfl, hp, ha, hne, h0, hij, hj, Nat.le_trans hz (by decide), q _ (putL hp)⟩
/-! ### xs[::-1] -/
def kRev (K : PySem.W.Frag) (Q : VK) : VK := fun x H => ∃ a xs, x = .ref a ∧ SqL K H a xs ∧ ∀ p, H p = none → Q (.ref p) (upd H p (.lst xs.reverse))
instance {te : TE} : Step (tRevL K te σ H Q) (te σ H (kRev K Q)) := ⟨id⟩
theorem w_rev {a : Addr} {xs : List V} (h : SqL K H a xs) (q : ∀ p H2, H p = none → Ex H H2 → H2 p = some (.lst xs.reverse) → Q (.ref p) H2) : kRev K Q (.ref a) H := ⟨a, xs, rfl, h, fun p hp => q p _ hp (Ex.new hp) upd_same⟩
end
end Ny
namespace Ny
open PySem PySem.Spec PyProof.Rows L2 Evl
/-! ### slices in plain words -/
theorem cut_from {xs : List V} (k : Nat) : cutV xs (some (k : Int)) none = xs.drop k := by
  unfold cutV
  rw [HT.sIx_nat, HT.sIx_none]
  rcases Nat.lt_or_ge k xs.length with h | h
  · rw [Nat.min_eq_left (Nat.le_of_lt h)]
    exact List.take_of_length_le (by rw [List.length_drop]; omega)
  · rw [Nat.min_eq_right h, List.drop_length, List.drop_eq_nil_of_le h]
    simp
theorem cut_upto {xs : List V} (k : Nat) : cutV xs none (some (k : Int)) = xs.take k := by
  unfold cutV
  rw [HT.sIx_nat, HT.sIx_none, List.drop_zero, Nat.sub_zero]
  rcases Nat.lt_or_ge k xs.length with h | h
  · rw [Nat.min_eq_left (Nat.le_of_lt h)]
  · rw [Nat.min_eq_right h, List.take_length, List.take_of_length_le h]
theorem cut_init {us : List V} {v : V} : cutV (us ++ [v]) none (some (-1)) = us := by
  unfold cutV
  have e : HT.sIx (us ++ [v]).length (us ++ [v]).length (some (-1)) = us.length := by
    rw [List.length_append]
    show HT.sIx (us.length + 1) _ (some (-1)) = _
    unfold HT.sIx
    simp only []
    split <;> simp <;> omega
  rw [e, HT.sIx_none, List.drop_zero, Nat.sub_zero, List.take_left]
theorem dpAll_snoc {K : PySem.W.Frag} {H : Hp} {ys : List V} {ds : List PyData} {d : PyData} (h : DpAll K H ys (ds ++ [d])) : ∃ us v, ys = us ++ [v] ∧ DpAll K H us ds ∧ Dp K H v d := by
  induction ds generalizing ys with
  | nil =>
    cases h with
    | cons h1 h2 => cases h2; exact ⟨[], _, rfl, .nil, h1⟩
  | cons e ds ih =>
    cases h with
    | cons h1 h2 =>
      obtain ⟨us, v, rfl, h3, h4⟩ := ih h2
      exact ⟨_ :: us, v, rfl, .cons h1 h3, h4⟩
theorem exB_at {p a : Addr} {o : HO} {H H' : Hp} (e : ExB p H H') (hn : a ≠ p) (h : H a = some o) : H' a = some o := e a o hn h
end Ny

set_option Elab.async false
set_option linter.all false
set_option maxRecDepth 100000
set_option maxHeartbeats 4000000
namespace My
open PySem PySem.Spec PyProof.Rows L2 Evl Ny
def top (i : Nat) : Stmt := PySem.Challenge.pw_notefall_k09_whole_rows_of_actions.main.body.getD i (.Pass ⟨0, 0, 0, 0⟩)
abbrev s_is_number : Stmt := top 4
abbrev s_is_half : Stmt := top 7
abbrev s_is_action : Stmt := top 8
abbrev s_sure_action : Stmt := top 9
abbrev s_done_to : Stmt := top 10
abbrev s_acts : Stmt := top 11
abbrev s_half_behind : Stmt := top 12
abbrev s_behind : Stmt := top 13
abbrev s_law_well : Stmt := top 15
abbrev s_law_draw : Stmt := top 16
abbrev s_law_number : Stmt := top 17
abbrev s_law_action : Stmt := top 18
abbrev s_law_done : Stmt := top 19
abbrev s_law_from_right : Stmt := top 20
abbrev s_law_anyhow : Stmt := top 21
abbrev s_law : Stmt := top 22
structure Txt (K : PySem.W.Frag) (mg : Str → Option Value) : Prop where
  z_bool : mg "bool" = none
  z_int : mg "int" = none
  z_isinstance : mg "isinstance" = none
  z_len : mg "len" = none
  z_list : mg "list" = none
  z_range : mg "range" = none
  z_str : mg "str" = none
  z_tuple : mg "tuple" = none
  k_NOTHING : mg "NOTHING" = some (.ref (He.ga K "NOTHING"))
  n_NOTHING : ∀ H, Dp K H (.ref (He.ga K "NOTHING")) (.tuple [(.tuple [(.str "plus"), (.int 0)]), (.tuple [(.str "gone")])])
  d_is_number : ∃ f fd, mg "is_number" = some (.ref f) ∧ FunD K "is_number" "is_number" (defArgs s_is_number) (defBody s_is_number) (defScope s_is_number) [] [] f fd
  d_is_half : ∃ f fd, mg "is_half" = some (.ref f) ∧ FunD K "is_half" "is_half" (defArgs s_is_half) (defBody s_is_half) (defScope s_is_half) [] [] f fd
  d_is_action : ∃ f fd, mg "is_action" = some (.ref f) ∧ FunD K "is_action" "is_action" (defArgs s_is_action) (defBody s_is_action) (defScope s_is_action) [] [] f fd
  d_sure_action : ∃ f fd, mg "sure_action" = some (.ref f) ∧ FunD K "sure_action" "sure_action" (defArgs s_sure_action) (defBody s_sure_action) (defScope s_sure_action) [] [] f fd
  d_done_to : ∃ f fd, mg "done_to" = some (.ref f) ∧ FunD K "done_to" "done_to" (defArgs s_done_to) (defBody s_done_to) (defScope s_done_to) [] [] f fd
  d_acts : ∃ f fd, mg "acts" = some (.ref f) ∧ FunD K "acts" "acts" (defArgs s_acts) (defBody s_acts) (defScope s_acts) [] [] f fd
  d_half_behind : ∃ f fd, mg "half_behind" = some (.ref f) ∧ FunD K "half_behind" "half_behind" (defArgs s_half_behind) (defBody s_half_behind) (defScope s_half_behind) [] [] f fd
  d_behind : ∃ f fd, mg "behind" = some (.ref f) ∧ FunD K "behind" "behind" (defArgs s_behind) (defBody s_behind) (defScope s_behind) [] [] f fd
  d_law_well : ∃ f fd, mg "_law_well" = some (.ref f) ∧ FunD K "_law_well" "_law_well" (defArgs s_law_well) (defBody s_law_well) (defScope s_law_well) [] [] f fd
  d_law_draw : ∃ f fd, mg "_law_draw" = some (.ref f) ∧ FunD K "_law_draw" "_law_draw" (defArgs s_law_draw) (defBody s_law_draw) (defScope s_law_draw) [] [] f fd
  d_law_number : ∃ f fd, mg "_law_number" = some (.ref f) ∧ FunD K "_law_number" "_law_number" (defArgs s_law_number) (defBody s_law_number) (defScope s_law_number) [] [] f fd
  d_law_action : ∃ f fd, mg "_law_action" = some (.ref f) ∧ FunD K "_law_action" "_law_action" (defArgs s_law_action) (defBody s_law_action) (defScope s_law_action) [] [] f fd
  d_law_done : ∃ f fd, mg "_law_done" = some (.ref f) ∧ FunD K "_law_done" "_law_done" (defArgs s_law_done) (defBody s_law_done) (defScope s_law_done) [] [] f fd
  d_law_from_right : ∃ f fd, mg "_law_from_right" = some (.ref f) ∧ FunD K "_law_from_right" "_law_from_right" (defArgs s_law_from_right) (defBody s_law_from_right) (defScope s_law_from_right) [] [] f fd
  d_law_anyhow : ∃ f fd, mg "_law_anyhow" = some (.ref f) ∧ FunD K "_law_anyhow" "_law_anyhow" (defArgs s_law_anyhow) (defBody s_law_anyhow) (defScope s_law_anyhow) [] [] f fd
  d_law : ∃ f fd, mg "law" = some (.ref f) ∧ FunD K "law" "law" (defArgs s_law) (defBody s_law) (defScope s_law) [] [] f fd
theorem pe_k_NOTHING {X : Cx} {pos : Pos} (T : Txt X.K X.mg) (hg : Gl X "NOTHING" := by rfl) : PE X (.Name "NOTHING" pos) (tC (.ref (He.ga X.K "NOTHING"))) := pe_glob hg T.k_NOTHING rfl
theorem nd_NOTHING {K : PySem.W.Frag} {mg : Str → Option Value} (T : Txt K mg) (H : Hp) : Dp K H (.ref (He.ga K "NOTHING")) (.tuple [(.tuple [(.str "plus"), (.int 0)]), (.tuple [(.str "gone")])]) := T.n_NOTHING H
local macro_rules | `(tactic| walk_at "h") => `(tactic| first
  | assumption
  | ((with_reducible refine' SqL.of ?k2); (case k2 => walk_at "h"))
  | ((with_reducible refine' SqT.of ?k2); (case k2 => walk_at "h"))
  | exact PutL.now (by assumption)
  | ((with_reducible refine' ex_at ?k1 ?k2); (case k1 => assumption); (case k2 => walk_at "h"))
  | ((with_reducible refine' exT_t (PutL.exT ?k1) ?k2); (case k1 => assumption); (case k2 => walk_at "h"))
  | ((with_reducible refine' PutL.at ?k1 ?k2 ?k3); (case k1 => assumption); (case k2 => walk_at "ne"); (case k3 => walk_at "h"))
  | ((with_reducible refine' ex_l ?k1 ?k2); (case k1 => assumption); (case k2 => walk_at "h"))
  | ((with_reducible refine' ex_t ?k1 ?k2); (case k1 => assumption); (case k2 => walk_at "h"))
  | ((with_reducible refine' dp_mono ?k1 _ ?k2); (case k1 => assumption); (case k2 => walk_at "h"))
  | exact ThOf.int _
  | ((with_reducible refine' ThOf.mono ?k1 ?k2); (case k1 => assumption); (case k2 => walk_at "h"))
  | ((with_reducible refine' KdOf.mono ?k1 ?k2); (case k1 => assumption); (case k2 => walk_at "h")))
local macro_rules | `(tactic| walk_at "ne") => `(tactic| first
  | assumption
  | ((refine' ne_of_none ?k1 ?k2); (case k2 => assumption); (case k1 => walk_at "h"))
  | ((refine' Ne.symm (ne_of_none ?k1 ?k2)); (case k2 => assumption); (case k1 => walk_at "h"))
  | ((refine' ne_of ?k1 ?k2 ?k3); (case k1 => walk_at "h"); (case k2 => walk_at "h"); (case k3 => (intro z; cases z))))
local macro_rules | `(tactic| walk_at "eB") => `(tactic| first
  | assumption
  | exact ExB.refl _ _
  | ((refine' ExB.trans ?k1 (PutL.exB ?k2)); (case k2 => assumption); (case k1 => walk_at "eB"))
  | ((refine' ExB.trans ?k1 (exB_of ?k2)); (case k2 => assumption); (case k1 => walk_at "eB")))
local macro_rules | `(tactic| walk_at "no") => `(tactic| first
  | assumption
  | ((refine' fresh_back ?k1 ?k2); (case k2 => assumption); (case k1 => walk_at "ex"))
  | ((refine' fresh_back ?k1 ?k2); (case k1 => assumption); (case k2 => walk_at "no")))
local macro_rules | `(tactic| walk_at "ex") => `(tactic| first
  | assumption
  | exact Ex.refl _
  | ((refine' PutL.ex ?k1 ?k2 ?k3); (case k1 => assumption); (case k2 => walk_at "ex"); (case k3 => walk_at "no"))
  | ((refine' Ex.trans ?k1 ?k2); (case k2 => assumption); (case k1 => walk_at "ex")))
local macro_rules | `(tactic| walk_at "dpa") => `(tactic| first
  | assumption
  | exact DpAll.nil
  | ((refine' DpAll.cons ?k1 ?k2); (case k1 => walk_at "dp"); (case k2 => walk_at "dpa")))
local macro_rules | `(tactic| walk_at "dp") => `(tactic| first
  | assumption
  | exact Dp.int _
  | exact Dp.str _
  | exact Dp.non
  | exact Dp.bl _
  | exact dp_opt _
  | ((with_reducible refine' dp_mono ?k1 _ ?k2); (case k1 => assumption); (case k2 => (walk_at "h"; done)))
  | ((refine' Dp.tup ?k1 ?k2); (case k1 => walk_at "h"); (case k2 => walk_at "dpa"))
  | ((refine' Dp.lst ?k1 ?k2); (case k1 => walk_at "h"); (case k2 => walk_at "dpa")))
local macro_rules | `(tactic| walk_at "ok") => `(tactic| first
  | assumption
  | with_reducible exact optH_ok _
  | with_reducible exact trivial
  | with_reducible exact ok_is _
  | with_reducible exact ok_gone
  | ((with_reducible refine' behind_ok ?k7 _ _); (case k7 => walk_at "ok")))
local macro_rules | `(tactic| walk_at "sh") => `(tactic| first | exact hf_shaped _ | exact act_shaped _ _ | exact opt_shaped _ | (simp [Hf.d, actD, optD, SeqAt.shaped, PyData.canLay0, PyData.canLayAll0, PyData.depth, PyData.depthAll]; done) | (simp [Hf.d, actD, optD, SeqAt.shaped, PyData.canLay0, PyData.canLayAll0, PyData.depth, PyData.depthAll]; decide +kernel))
local macro_rules | `(tactic| walk_at "kd") => `(tactic| first
  | assumption
  | exact KdOf.int _
  | exact KdOf.bl _
  | exact KdOf.non
  | exact KdOf.str _
  | (refine' KdOf.lst ?k9; (case k9 => walk_at "h"))
  | (refine' KdOf.tup ?k9; (case k9 => walk_at "h"))
  | (refine' KdOf.dct ?k9; (case k9 => walk_at "h"))
  | (refine' kd_dp ?k9; (case k9 => walk_at "h"))
  | walk_at "h")
local macro_rules | `(tactic| walk_at "tf") => `(tactic| first
  | exact (rfl : _ = true)
  | exact (rfl : _ = false)
  | exact rfl)
local macro_rules | `(tactic| walk_at "bb") => `(tactic| first
  | exact rfl
  | exact decide_eq_decide.mpr (by omega)
  | exact (decide_eq_true (by omega)).symm
  | exact (decide_eq_false (by omega)).symm
  | exact decide_eq_true (by omega)
  | exact decide_eq_false (by omega)
  | (simp; done)
  | (simp; omega)
  | (simp_all; done)
  | (simp_all; omega))
local macro_rules | `(tactic| walk_at "use") => `(tactic| fail "no use")
local macro_rules | `(tactic| walk_at "w1") => `(tactic| first
  | with_reducible refine Step.go ?_
  | ((with_reducible refine' w_mkT ?k1 ?_); (case k1 => (first | decide | (simp; done) | (simp; omega))); intro _ _ _ _ _)
  | ((with_reducible refine' w_mkL ?k1 ?_); (case k1 => (first | decide | (simp; done) | (simp; omega))); intro _ _ _ _ _)
  | ((with_reducible refine' w_mod ?k1 ?_); (case k1 => (first | omega | decide)))
  | ((with_reducible refine' w_div ?k1 ?k2 ?_); (case k1 => (first | omega | decide)); (case k2 => (first | assumption | decide | exact log2_small (by omega))))
  | ((with_reducible refine' w_pow ?k1 ?k2 ?k3 ?k4 ?_); (case k1 => decide); (case k2 => decide); (case k3 => decide); (case k4 => ((simp only [Int.reduceToNat, Int.reducePow, Nat.reducePow]); (first | done | exact rfl))))
  | ((with_reducible refine' w_mulR ?k1 ?_); (case k1 => (first | omega | decide | (split <;> omega) | (constructor <;> split <;> omega))))
  | ((with_reducible refine' w_mulL ?k1 ?_); (case k1 => (first | omega | decide)))
  | ((with_reducible refine' w_isi_int ?k1 ?k2 ?_); (case k1 => walk_at "kd"); (case k2 => walk_at "tf"))
  | ((with_reducible refine' w_isi_bool ?k1 ?k2 ?_); (case k1 => walk_at "kd"); (case k2 => walk_at "tf"))
  | ((with_reducible refine' w_isi_tuple ?k1 ?k2 ?_); (case k1 => walk_at "kd"); (case k2 => walk_at "tf"))
  | ((with_reducible refine' w_isi_list ?k1 ?k2 ?_); (case k1 => walk_at "kd"); (case k2 => walk_at "tf"))
  | ((with_reducible refine' w_isi_str ?k1 ?k2 ?_); (case k1 => walk_at "kd"); (case k2 => walk_at "tf"))
  | ((with_reducible refine' w_isi_dict ?k1 ?k2 ?_); (case k1 => walk_at "kd"); (case k2 => walk_at "tf"))
  | ((with_reducible refine' w_lenL ?k1 ?_); (case k1 => walk_at "h"))
  | ((with_reducible refine' w_lenT ?k1 ?_); (case k1 => walk_at "h"))
  | ((with_reducible refine' w_ixL ?k1 ?k2 ?_); (case k1 => walk_at "h"); (case k2 => exact rfl))
  | ((with_reducible refine' w_ixT ?k1 ?k2 ?_); (case k1 => walk_at "h"); (case k2 => exact rfl))
  | ((with_reducible refine' w_ktrL ?k1 ?_); (case k1 => walk_at "h"))
  | ((with_reducible refine' w_ktrT ?k1 ?_); (case k1 => walk_at "h"))
  | ((with_reducible refine' w_kIl ?k1 ?_); (case k1 => walk_at "h"))
  | ((with_reducible refine' w_kR1 ?k1 ?k2 ?_); (case k1 => (first | omega | decide)); (case k2 => (first | omega | decide)))
  | ((with_reducible refine' w_ne_act ?k1 ?k2 ?_); (case k1 => walk_at "dp"); (case k2 => walk_at "dp"))
  | ((with_reducible refine' w_eq_act ?k1 ?k2 ?_); (case k1 => walk_at "dp"); (case k2 => walk_at "dp"))
  | ((with_reducible refine' w_ixD0 ?k1 ?_); (case k1 => walk_at "dp"); intro _ _)
  | ((with_reducible refine' w_ixD1 ?k1 ?_); (case k1 => walk_at "dp"); intro _ _)
  | ((with_reducible refine' w_kR2 ?k1 ?_); (case k1 => (refine ⟨?_, ?_, ?_, ?_⟩ <;> omega)))
  | ((with_reducible refine w_dnew ?_); (intro _ _ _ _ _))
  | ((with_reducible refine' w_mkH ?k1 ?k2 ?_); (case k1 => (first | decide | (simp; done))); (case k2 => (first | exact ⟨_, _, _, rfl⟩ | exact Or.inl ⟨_, rfl⟩ | exact Or.inr ⟨_, _, _, rfl⟩)); intro _ _ _ _ _)
  | ((with_reducible refine' w_set ?k1 ?k2 ?k3 ?_); (case k1 => walk_at "h"); (case k2 => (first | exact (rfl : _ = some 0) | exact (rfl : _ = some 1) | exact (rfl : _ = some 2) | exact rfl)); (case k3 => (first | (simp only [List.set]; exact rfl) | exact rfl)); intro _ _)
  | ((with_reducible refine' w_tyl ?k1 ?_); (case k1 => walk_at "h"))
  | ((with_reducible refine' w_append ?k1 ?k2 ?k3 ?_); (case k1 => walk_at "h"); (case k2 => (first | omega | (simp only [List.length_append, List.length_cons, List.length_nil]; omega) | decide | simp)); (case k3 => (first | (simp only [List.nil_append, List.cons_append]; exact rfl) | exact rfl)); intro _ _)
  | ((with_reducible refine' w_extend ?k1 ?k2 ?k3 ?k4 ?_); (case k1 => walk_at "h"); (case k2 => walk_at "h"); (case k3 => (first | omega | decide | simp)); (case k4 => (first | (simp only [List.nil_append, List.cons_append]; exact rfl) | exact rfl)); intro _ _)
  | ((with_reducible refine' w_clear ?k1 ?_); (case k1 => walk_at "h"); intro _ _)
  | ((with_reducible refine' w_addL ?k1 ?k2 ?k3 ?_); (case k1 => walk_at "h"); (case k2 => walk_at "h"); (case k3 => (first | decide | (refine Nat.le_trans (Nat.add_le_add_left (cutV_length _ _ _) _) ?_; rw [sizeLine_eq]; simp only [List.length_map, List.length_cons, List.length_nil]; omega) | (rw [sizeLine_eq]; simp only [List.length_map, List.length_cons, List.length_nil]; omega) | (simp; done) | (simp; omega))); intro _ _ _ _ _)
  | ((with_reducible refine' w_listL ?k1 ?_); (case k1 => walk_at "h"); intro _ _ _ _ _)
  | ((with_reducible refine' w_listT ?k1 ?_); (case k1 => walk_at "h"); intro _ _ _ _ _)
  | ((with_reducible refine' w_slL ?k1 ?_); (case k1 => walk_at "h"); intro _ _ _ _ _)
  | ((with_reducible refine' w_gstar ?k1 ?k2 ?k3 ?k4 ?_); (case k1 => walk_at "h"); (case k2 => (first | decide | (simp; done))); (case k3 => (first | (simp only [List.take]; exact rfl) | exact rfl)); (case k4 => (first | (simp only [List.drop]; exact rfl) | exact rfl)); intro _ _ _ _ _)
  | ((with_reducible refine' w_gtup ?k1 ?k2 ?_); (case k1 => walk_at "h"); (case k2 => exact rfl))
  | ((with_reducible refine' w_inT ?k1 ?k2 ?k3 ?_); (case k1 => walk_at "h"); (case k2 => exact rfl); (case k3 => exact rfl))
  | ((with_reducible refine' w_inL ?k1 ?k2 ?k3 ?_); (case k1 => walk_at "h"); (case k2 => exact rfl); (case k3 => exact rfl))
  | ((with_reducible refine' w_itd1 ?k1 ?_); (case k1 => (first | exact rfl | ((with_reducible refine' actB_of _ ?k8); (case k8 => walk_at "ok")) | omega | exact rfl | decide | (simp; done) | (simp; omega) | (simp only [stretchB]; exact rfl) | (simp only [stretchB]; walk_at "bb") | walk_at "bb")))
  | ((with_reducible refine' w_itd0 ?k1 ?_); (case k1 => (first | omega | decide | (simp; done) | (simp; omega))))
  | ((with_reducible refine' w_wipe ?k1 ?_); (case k1 => exact rfl))
  | walk_at "use")
local macro_rules | `(tactic| walk_at "rng") => `(tactic| first | omega | (simp only [List.length_cons, List.length_nil]; omega) | (split <;> omega) | (simp only [List.length_cons, List.length_nil]; split <;> omega) | (simp; done) | (simp; omega))
local macro_rules | `(tactic| walk_at "pickv") => `(tactic| first
  | ((with_reducible refine' w_ixLm ?k1 ?k2 ?k3 ?_); (case k1 => walk_at "h"); (case k2 => walk_at "rng"); (case k3 => walk_at "rng"))
  | ((with_reducible refine' w_ixTm ?k1 ?k2 ?k3 ?_); (case k1 => walk_at "h"); (case k2 => walk_at "rng"); (case k3 => walk_at "rng")))
local macro_rules | `(tactic| walk_at "pick") => `(tactic| (walk_at "pickv"; (repeat' (first | exact each_nil | (with_reducible refine each_cons ?_ ?_)))))
local macro_rules | `(tactic| walk_at "lc") => `(tactic| dsimp only [L2.wipe, List.map, List.set])
local macro_rules | `(tactic| walk_at "in") => `(tactic| (intro p0 H0 n0 e0 h0))
local macro_rules | `(tactic| walk_at "ws") => `(tactic| ((try walk_at "st"); (repeat' (first | walk_at "w1" | (refine w_itd ?_ ?_ <;> intro _)))))
local macro_rules | `(tactic| walk_at "w") => `(tactic| ((try walk_at "st"); (repeat walk_at "w1")))

local macro_rules | `(tactic| walk_at "dp") => `(tactic| exact nd_NOTHING (by assumption) _)
theorem nothing_act {K : PySem.W.Frag} {mg : Str → Option Value} (T : Txt K mg) (H : Hp) : Dp K H (.ref (He.ga K "NOTHING")) (actD (.plus 0) .gone) := T.n_NOTHING H
local macro_rules | `(tactic| walk_at "dp") => `(tactic| exact nothing_act (by assumption) _)
abbrev Act := Hf × Hf
abbrev AD (a : Act) : PyData := actD a.1 a.2
abbrev AOk (a : Act) : Prop := a.2.ok
def mul (a b : Act) : Act := (a.1.behind b.1 b.2, a.2.behind b.1 b.2)
def one : Act := (.plus 0, .gone)
abbrev adu (a : Act) (o : Option Int) : Option Int := actDo a.1 a.2 o
theorem mul_ok {a b : Act} (h : AOk a) : AOk (mul a b) := behind_ok h _ _
theorem adu_mul {a b : Act} (h : AOk a) (o : Option Int) : adu (mul a b) o = adu b (adu a o) := behind_do _ _ h o
theorem act_ext {a b : Act} (ha : AOk a) (hb : AOk b) (h : ∀ o, adu a o = adu b o) : a = b := by
  obtain ⟨t, n⟩ := a
  obtain ⟨t', n'⟩ := b
  have h0 := h (some 0)
  have h1 := h (some 1)
  have h2 := h none
  cases t <;> cases t' <;> cases n <;> cases n' <;> simp [adu, actDo, Hf.do_, AOk, Hf.ok] at * <;> omega
theorem adu_one (o : Option Int) : adu one o = o := by
  cases o with
  | none => rfl
  | some i => show some (i + 0) = _; rw [Int.add_zero]
theorem one_ok : AOk one := trivial
theorem mul_assoc {a b c : Act} (ha : AOk a) (hb : AOk b) : mul (mul a b) c = mul a (mul b c) := by
  refine act_ext (mul_ok (mul_ok ha)) (mul_ok ha) fun o => ?_
  rw [adu_mul (mul_ok ha), adu_mul ha, adu_mul ha, adu_mul hb]
theorem mul_one' {a : Act} (ha : AOk a) : mul a one = a := act_ext (mul_ok ha) ha fun o => by rw [adu_mul ha, adu_one]
theorem one_mul' {a : Act} (ha : AOk a) : mul one a = a := act_ext (mul_ok one_ok) ha fun o => by rw [adu_mul one_ok, adu_one]
def prod : List Act → Act
  | [] => one
  | a :: l => mul a (prod l)
abbrev AllOk (l : List Act) : Prop := ∀ a ∈ l, AOk a
theorem prod_ok {l : List Act} (h : AllOk l) : AOk (prod l) := by
  cases l with
  | nil => exact one_ok
  | cons a l => exact mul_ok (h a List.mem_cons_self)
theorem allOk_tail {a : Act} {l : List Act} (h : AllOk (a :: l)) : AllOk l := fun x hx => h x (List.mem_cons_of_mem _ hx)
theorem prod_app {l m : List Act} (h : AllOk l) (hm : AllOk m) : prod (l ++ m) = mul (prod l) (prod m) := by
  induction l with
  | nil => exact (one_mul' (prod_ok hm)).symm
  | cons a l ih =>
    show mul a (prod (l ++ m)) = mul (mul a (prod l)) (prod m)
    rw [ih (allOk_tail h), mul_assoc (h a List.mem_cons_self) (prod_ok (allOk_tail h))]
theorem prod_one {a : Act} (h : AOk a) : prod [a] = a := mul_one' h
theorem prod_snoc {l : List Act} {a : Act} (h : AllOk l) (ha : AOk a) : prod (l ++ [a]) = mul (prod l) a := by
  rw [prod_app h (fun x hx => by rw [List.mem_singleton.mp hx]; exact ha), prod_one ha]
theorem adu_prod {l : List Act} (h : AllOk l) (o : Option Int) : adu (prod l) o = l.foldl (fun o a => adu a o) o := by
  induction l generalizing o with
  | nil => exact adu_one o
  | cons a l ih =>
    show adu (mul a (prod l)) o = _
    rw [adu_mul (h a List.mem_cons_self), ih (allOk_tail h)]
    rfl
/-- two neighbours put together -/
theorem prod_put {l m : List Act} {a b : Act} (h : AllOk l) (ha : AOk a) (hb : AOk b) (hm : AllOk m) : prod (l ++ ([mul a b] ++ m)) = prod (l ++ (a :: b :: m)) := by
  have hc : AllOk ([mul a b] ++ m) := fun x hx => by
    rcases List.mem_append.mp hx with hx | hx
    · rw [List.mem_singleton.mp hx]; exact mul_ok ha
    · exact hm x hx
  have hd : AllOk (a :: b :: m) := fun x hx => by
    rcases List.mem_cons.mp hx with rfl | hx
    · exact ha
    · rcases List.mem_cons.mp hx with rfl | hx
      · exact hb
      · exact hm x hx
  rw [prod_app h hc, prod_app h hd]
  show mul _ (mul (mul a b) (prod m)) = mul _ (mul a (mul b (prod m)))
  rw [mul_assoc ha hb]
theorem noLs_acts (l : List Act) : noLs (l.map AD) = true := noLs_of fun d hd => by
  obtain ⟨a, _, rfl⟩ := List.mem_map.mp hd
  exact act_noL _ _
theorem acts_at {K : PySem.W.Frag} {H : Hp} {ys : List V} {l : List Act} (h : DpAll K H ys (l.map AD)) {i : Nat} {v : V} (e : ys[i]? = some v) : ∃ a, l[i]? = some a ∧ Dp K H v (AD a) := by
  obtain ⟨d, hd, hv⟩ := dpAll_at h e
  rw [List.getElem?_map] at hd
  cases ha : l[i]? with
  | none => rw [ha] at hd; cases hd
  | some a => rw [ha] at hd; cases hd; exact ⟨a, rfl, hv⟩
theorem ok_at {l : List Act} (h : AllOk l) {i : Nat} {a : Act} (e : l[i]? = some a) : AOk a := h a (List.mem_of_getElem? e)
theorem acts_len {K : PySem.W.Frag} {H : Hp} {ys : List V} {l : List Act} (h : DpAll K H ys (l.map AD)) : ys.length = l.length := by rw [dpAll_len h, List.length_map]
theorem take_next {l : List Act} {i : Nat} {a : Act} (e : l[i]? = some a) : l.take (i + 1) = l.take i ++ [a] := by
  rw [List.take_succ, e]; rfl
theorem ok_take {l : List Act} (h : AllOk l) (n : Nat) : AllOk (l.take n) := fun x hx => h x (List.mem_of_mem_take hx)
theorem ok_drop {l : List Act} (h : AllOk l) (n : Nat) : AllOk (l.drop n) := fun x hx => h x (List.mem_of_mem_drop hx)
theorem acts_split2 {K : PySem.W.Frag} {H : Hp} : ∀ (k : Nat) {zs : List V} {m : List Act}, DpAll K H zs (m.map AD) → k + 1 < m.length → ∃ z1 u v z2 m1 x y m2, zs = z1 ++ u :: v :: z2 ∧ m = m1 ++ x :: y :: m2 ∧ z1.length = k ∧ m1.length = k ∧ DpAll K H z1 (m1.map AD) ∧ Dp K H u (AD x) ∧ Dp K H v (AD y) ∧ DpAll K H z2 (m2.map AD)
  | 0, zs, m, h, hk => by
    match m, hk with
    | x :: y :: m2, _ =>
      obtain ⟨u, _, rfl, hu, h⟩ := dpAll_cons h
      obtain ⟨v, z2, rfl, hv, h⟩ := dpAll_cons h
      exact ⟨[], u, v, z2, [], x, y, m2, rfl, rfl, rfl, rfl, .nil, hu, hv, h⟩
  | k + 1, zs, m, h, hk => by
    match m, hk with
    | x0 :: m, hk =>
      obtain ⟨u0, zs', rfl, hu0, h⟩ := dpAll_cons h
      obtain ⟨z1, u, v, z2, m1, x, y, m2, rfl, rfl, e1, e2, h1, hu, hv, h2⟩ := acts_split2 k h (by simpa using hk)
      exact ⟨u0 :: z1, u, v, z2, x0 :: m1, x, y, m2, rfl, rfl, by rw [List.length_cons, e1], by rw [List.length_cons, e2], .cons hu0 h1, hu, hv, h2⟩
theorem at_mid0 {z1 z2 : List V} {u v : V} : atI (z1 ++ u :: v :: z2) (z1.length : Int) = some u := atI_nat (by rw [List.getElem?_append_right (Nat.le_refl _), Nat.sub_self]; rfl)
theorem at_mid1 {z1 z2 : List V} {u v : V} : atI (z1 ++ u :: v :: z2) ((z1.length : Int) + 1) = some v := by
  have e : ((z1.length : Int) + 1) = ((z1.length + 1 : Nat) : Int) := by omega
  rw [e]
  exact atI_nat (by rw [List.getElem?_append_right (Nat.le_succ _), Nat.succ_sub (Nat.le_refl _), Nat.sub_self]; rfl)
theorem put_mid {z1 z2 : List V} {u v w : V} : (z1 ++ u :: v :: z2).take (z1.length : Int).toNat ++ [w] ++ (z1 ++ u :: v :: z2).drop ((z1.length : Int) + 2).toNat = z1 ++ ([w] ++ z2) := by
  have e : ((z1.length : Int) + 2).toNat = z1.length + 2 := by omega
  rw [e, Int.toNat_natCast, List.take_left, ← List.drop_drop, List.drop_left, List.append_assoc]
  rfl
section
variable {P : Program} {w : World} {K : PySem.W.Frag} {mg : Str → Option Value} {base : Heap}
/-! ### is_number -/
def sp_is_number (K : PySem.W.Frag) : Sp := fun vs H Q _ => ∃ v d, vs = [v] ∧ Dp K H v d ∧ Q (.bl (numB d)) H
theorem sp_is_number_len {K : PySem.W.Frag} {vs H Q E} (h : sp_is_number K vs H Q E) : vs.length = 1 := by
  obtain ⟨_, _, rfl, _⟩ := h; rfl
theorem sc_is_number : FnScope ["thing"] ["thing"] (defScope s_is_number) := ⟨rfl, rfl, rfl, by decide +kernel, rfl, by decide +kernel, by decide +kernel⟩
local macro_rules | `(tactic| walk_at "st") => `(tactic| ((rw [show ∀ a0 : V, L2.start ["thing"] [a0] = [some a0] from fun _ => rfl]); (try dsimp only [L2.cxOf])))
theorem c_is_number (T : Txt K mg) : CallOk P w K mg base CX0 1 "is_number" ["thing"] [] (sp_is_number K) := by
  obtain ⟨f, fd, hm, F⟩ := T.d_is_number
  refine ⟨f, fd, [], hm, F.kp, F.bindsN (fun _ _ _ _ _ _ us hl => match us, hl with | [_], _ => rfl), .nil, ?_⟩
  refine F.ok sc_is_number (fun vs H Q E h => ?len) (fun cdv A outer s H vs Q E hr h => ?body)
  case len =>
    exact sp_is_number_len h
  case body =>
    refine ⟨_, PSs.nox (pss_one (ps_ret (pe_and (pe_callB cu_isi (by rfl) T.z_isinstance bo_isinstance (pa_cons (pv 0) (pa_cons (pe_bltn (v := .ty "int") (by rfl) T.z_int bo_int rfl) pa_nil))) (pe_one (pe_not (pe_callB cu_isi (by rfl) T.z_isinstance bo_isinstance (pa_cons (pv 0) (pa_cons (pe_bltn (v := .ty "bool") (by rfl) T.z_bool bo_bool rfl) pa_nil)))))))), ?_⟩
    obtain ⟨v, d, rfl, hd, q⟩ := h
    have hk := kd_dp hd
    cases hd <;> (walk_at "w"; exact q)
theorem use_is_number {K : PySem.W.Frag} {H : Hp} {Q : VK} {E : XK} {v : V} {d : PyData} (h : Dp K H v d) (q : Q (.bl (numB d)) H) : sp_is_number K [v] H Q E := ⟨v, d, rfl, h, q⟩
local macro_rules | `(tactic| walk_at "use") => `(tactic| ((with_reducible refine' use_is_number ?k1 ?_); (case k1 => walk_at "dp")))
/-! ### is_half -/
def sp_is_half (K : PySem.W.Frag) : Sp := fun vs H Q _ => ∃ (v : V) (p : Addr) (d : PyData) (pl : Bool), vs = [v, .ref p] ∧ Dp K H v d ∧ SqT K H p (if pl then [.str "plus", .str "is"] else [.str "is"]) ∧ Q (.bl (halfB pl d)) H
theorem sp_is_half_len {K : PySem.W.Frag} {vs H Q E} (h : sp_is_half K vs H Q E) : vs.length = 2 := by
  obtain ⟨_, _, _, _, rfl, _⟩ := h; rfl
theorem sc_is_half : FnScope ["thing", "words"] ["thing", "words"] (defScope s_is_half) := ⟨rfl, rfl, rfl, by decide +kernel, rfl, by decide +kernel, by decide +kernel⟩
local macro_rules | `(tactic| walk_at "st") => `(tactic| ((rw [show ∀ a0 a1 : V, L2.start ["thing", "words"] [a0, a1] = [some a0, some a1] from fun _ _ => rfl]); (try dsimp only [L2.cxOf])))
theorem c_is_half (T : Txt K mg) : CallOk P w K mg base CX0 2 "is_half" ["thing", "words"] [] (sp_is_half K) := by
  obtain ⟨f, fd, hm, F⟩ := T.d_is_half
  refine ⟨f, fd, [], hm, F.kp, F.bindsN (fun _ _ _ _ _ _ us hl => match us, hl with | [_, _], _ => rfl), .nil, ?_⟩
  refine F.ok sc_is_half (fun vs H Q E h => ?len) (fun cdv A outer s H vs Q E hr h => ?body)
  case len =>
    exact sp_is_half_len h
  case body =>
    refine ⟨_, PSs.nox (pss_cons (ps_if (PW.pt (pw_or (pt_not (pt_tr (pe_callB cu_isi (by rfl) T.z_isinstance bo_isinstance (pa_cons (pv 0) (pa_cons (pe_bltn (v := .ty "tuple") (by rfl) T.z_tuple bo_tuple rfl) pa_nil))))) (pw_or (pt_not (pt_chain ou_le ou_le pe_int (pe_callB cu_len (by rfl) T.z_len bo_len (pa_cons (pv 0) pa_nil)) pe_int)) (pw_or1 (pt_not (pt_tr (pe_callB cu_isi (by rfl) T.z_isinstance bo_isinstance (pa_cons (pe_ix ix_seq (pv 0) pe_int (fun _ _ => rfl)) (pa_cons (pe_bltn (v := .ty "str") (by rfl) T.z_str bo_str rfl) pa_nil))))))))) (pss_one (ps_ret pe_bl)) pss_nil)
      (pss_cons (ps_if (pt_cmpR (ou_eq hr.units) (pe_callB cu_len (by rfl) T.z_len bo_len (pa_cons (pv 0) pa_nil)) pe_int (nomark _)) (pss_one (ps_ret (pe_cmpR (ou_eq hr.units) (pe_ix ix_seq (pv 0) pe_int (fun _ _ => rfl)) pe_str (nomark _)))) pss_nil)
      (pss_one (ps_ret (pe_and (pe_cmpR (ou_in hr.units) (pe_ix ix_seq (pv 0) pe_int (fun _ _ => rfl)) (pv 1) (by rfl)) (pe_one (pe_callF (c_is_number T) (hr.mono (by decide)) pass0 (pa_cons (pe_ix ix_seq (pv 0) pe_int (fun _ _ => rfl)) pa_nil)))))))), ?_⟩
    obtain ⟨v, p, d, pl, rfl, hd, hp, q⟩ := h
    cases hd with
    | non => walk_at "w"; exact q
    | bl b => walk_at "w"; exact q
    | int b => walk_at "w"; exact q
    | str b => walk_at "w"; exact q
    | lst hs ha => walk_at "w"; exact q
    | tup hs ha =>
      cases ha with
      | nil => walk_at "w"; exact q
      | cons h1 ht =>
        cases ht with
        | nil => cases h1 <;> (walk_at "w"; exact q)
        | cons h2 ht =>
          cases ht with
          | nil =>
            cases h1 with
            | str w =>
              walk_at "w"
              refine w_inT hp rfl (half_flat pl) ?_
              rw [inV_half]
              refine w_bl ?_
              refine w_itb (fun e => ?_) (fun e => ?_)
              · walk_at "w"
                exact q_bl q (by show _ = (_ && _); rw [e]; rfl)
              · exact q_bl q (by show _ = (_ && _); rw [e]; rfl)
            | _ => walk_at "w"; exact q
          | cons h3 ht =>
            walk_at "w"
            exact q_bl q (by cases h1 <;> rfl)
theorem use_is_half {K : PySem.W.Frag} {H : Hp} {Q : VK} {E : XK} {v : V} {p : Addr} {d : PyData} (hd : Dp K H v d) (hp : SqT K H p [.str "plus", .str "is"]) (q : Q (.bl (halfB true d)) H) : sp_is_half K [v, .ref p] H Q E := ⟨v, p, d, true, rfl, hd, hp, q⟩
theorem use_is_half2 {K : PySem.W.Frag} {H : Hp} {Q : VK} {E : XK} {v : V} {p : Addr} {d : PyData} (hd : Dp K H v d) (hp : SqT K H p [.str "is"]) (q : Q (.bl (halfB false d)) H) : sp_is_half K [v, .ref p] H Q E := ⟨v, p, d, false, rfl, hd, hp, q⟩
local macro_rules | `(tactic| walk_at "use") => `(tactic| ((with_reducible refine' use_is_half ?k1 ?k2 ?_); (case k1 => walk_at "dp"); (case k2 => walk_at "h")))
local macro_rules | `(tactic| walk_at "use") => `(tactic| ((with_reducible refine' use_is_half2 ?k1 ?k2 ?_); (case k1 => walk_at "dp"); (case k2 => walk_at "h")))
/-! ### is_action -/
def sp_is_action (K : PySem.W.Frag) : Sp := fun vs H Q _ => ∃ v d, vs = [v] ∧ Dp K H v d ∧ ∀ H1, Ex H H1 → Q (.bl (actB d)) H1
theorem sp_is_action_len {K : PySem.W.Frag} {vs H Q E} (h : sp_is_action K vs H Q E) : vs.length = 1 := by
  obtain ⟨_, _, rfl, _⟩ := h; rfl
theorem sc_is_action : FnScope ["thing", "there", "none"] ["thing"] (defScope s_is_action) := ⟨rfl, rfl, rfl, by decide +kernel, rfl, by decide +kernel, by decide +kernel⟩
local macro_rules | `(tactic| walk_at "st") => `(tactic| ((rw [show ∀ a0 : V, L2.start ["thing", "there", "none"] [a0] = [some a0, none, none] from fun _ => rfl]); (try dsimp only [L2.cxOf])))
theorem c_is_action (T : Txt K mg) : CallOk P w K mg base CX0 3 "is_action" ["thing"] [] (sp_is_action K) := by
  obtain ⟨f, fd, hm, F⟩ := T.d_is_action
  refine ⟨f, fd, [], hm, F.kp, F.bindsN (fun _ _ _ _ _ _ us hl => match us, hl with | [_], _ => rfl), .nil, ?_⟩
  refine F.ok sc_is_action (fun vs H Q E h => ?len) (fun cdv A outer s H vs Q E hr h => ?body)
  case len =>
    exact sp_is_action_len h
  case body =>
    refine ⟨_, PSs.nox (pss_cons (ps_if (PW.pt (pw_or (pt_not (pt_tr (pe_callB cu_isi (by rfl) T.z_isinstance bo_isinstance (pa_cons (pv 0) (pa_cons (pe_bltn (v := .ty "tuple") (by rfl) T.z_tuple bo_tuple rfl) pa_nil))))) (pw_or1 (pt_cmpR (ou_ne hr.units) (pe_callB cu_len (by rfl) T.z_len bo_len (pa_cons (pv 0) pa_nil)) pe_int (nomark _))))) (pss_one (ps_ret pe_bl)) pss_nil)
      (pss_cons (ps_asg (pv 0) (pg_tup (n := 2) rfl (pgs_cons (pg_name (i := 1) sc_is_action.nd rfl (Or.inl rfl)) (pgs_cons (pg_name (i := 2) sc_is_action.nd rfl (Or.inl rfl)) pgs_nil))))
      (pss_one (ps_ret (pe_and (pe_callF (c_is_half T) (hr.mono (by decide)) pass0 (pa_cons (pv 1) (pa_cons (pe_tup (pa_cons pe_str (pa_cons pe_str pa_nil))) pa_nil))) (pe_one (pe_callF (c_is_half T) (hr.mono (by decide)) pass0 (pa_cons (pv 2) (pa_cons (pe_tup (pa_cons pe_str pa_nil)) pa_nil))))))))), ?_⟩
    obtain ⟨v, d, rfl, hd, q⟩ := h
    have q0 := q H (Ex.refl H)
    cases hd with
    | non => walk_at "w"; exact q0
    | bl b => walk_at "w"; exact q0
    | int b => walk_at "w"; exact q0
    | str b => walk_at "w"; exact q0
    | lst hs ha => walk_at "w"; exact q0
    | tup hs ha =>
      cases ha with
      | nil => walk_at "w"; exact q0
      | cons h1 ht =>
        cases ht with
        | nil => walk_at "w"; exact q0
        | cons h2 ht =>
          cases ht with
          | nil =>
            walk_at "w"
            refine w_itb (fun e => ?_) (fun e => ?_)
            · walk_at "w"
              exact q_bl (q _ (by walk_at "ex")) (by show _ = (_ && _); rw [e]; rfl)
            · exact q_bl (q _ (by walk_at "ex")) (by show _ = (_ && _); rw [e]; rfl)
          | cons h3 ht => walk_at "w"; exact q0
theorem use_is_action {K : PySem.W.Frag} {H : Hp} {Q : VK} {E : XK} {v : V} {d : PyData} (hd : Dp K H v d) (q : ∀ H1, Ex H H1 → Q (.bl (actB d)) H1) : sp_is_action K [v] H Q E := ⟨v, d, rfl, hd, q⟩
local macro_rules | `(tactic| walk_at "use") => `(tactic| ((with_reducible refine' use_is_action ?k1 ?_); (case k1 => walk_at "dp"); intro _ _))
/-! ### sure_action -/
/-- of what is an action -/
def sp_sure_action (K : PySem.W.Frag) : Sp := fun vs H Q _ => ∃ v d, vs = [v] ∧ Dp K H v d ∧ actB d = true ∧ ∀ H1, Ex H H1 → Q .non H1
theorem sp_sure_action_len {K : PySem.W.Frag} {vs H Q E} (h : sp_sure_action K vs H Q E) : vs.length = 1 := by
  obtain ⟨_, _, rfl, _⟩ := h; rfl
theorem sc_sure_action : FnScope ["thing"] ["thing"] (defScope s_sure_action) := ⟨rfl, rfl, rfl, by decide +kernel, rfl, by decide +kernel, by decide +kernel⟩
local macro_rules | `(tactic| walk_at "st") => `(tactic| ((rw [show ∀ a0 : V, L2.start ["thing"] [a0] = [some a0] from fun _ => rfl]); (try dsimp only [L2.cxOf])))
theorem c_sure_action (T : Txt K mg) : CallOk P w K mg base CX0 4 "sure_action" ["thing"] [] (sp_sure_action K) := by
  obtain ⟨f, fd, hm, F⟩ := T.d_sure_action
  refine ⟨f, fd, [], hm, F.kp, F.bindsN (fun _ _ _ _ _ _ us hl => match us, hl with | [_], _ => rfl), .nil, ?_⟩
  refine F.ok sc_sure_action (fun vs H Q E h => ?len) (fun cdv A outer s H vs Q E hr h => ?body)
  case len =>
    exact sp_sure_action_len h
  case body =>
    refine ⟨_, PSs.nox (pss_one (ps_if (pt_not (pt_tr (pe_callF (c_is_action T) (hr.mono (by decide)) pass0 (pa_cons (pv 0) pa_nil)))) (pss_one ps_never) pss_nil)), ?_⟩
    obtain ⟨v, d, rfl, hd, e, q⟩ := h
    walk_at "w"
    rw [e]
    walk_at "w"
    exact q _ (by walk_at "ex")
theorem use_sure_action {K : PySem.W.Frag} {H : Hp} {Q : VK} {E : XK} {v : V} {d : PyData} (hd : Dp K H v d) (e : actB d = true) (q : ∀ H1, Ex H H1 → Q .non H1) : sp_sure_action K [v] H Q E := ⟨v, d, rfl, hd, e, q⟩
local macro_rules | `(tactic| walk_at "use") => `(tactic| ((with_reducible refine' use_sure_action ?k1 ?k2 ?_); (case k1 => walk_at "dp"); (case k2 => (first | assumption | exact actB_of _ (by assumption) | (exact actB_of _ trivial))); intro _ _))
/-! ### done_to -/
def sp_done_to (K : PySem.W.Frag) : Sp := fun vs H Q _ => ∃ (v : V) (t n : Hf) (o : Option Int), vs = [v, optV o] ∧ Dp K H v (actD t n) ∧ n.ok ∧ ∀ H1, Ex H H1 → Q (optV (actDo t n o)) H1
theorem sp_done_to_len {K : PySem.W.Frag} {vs H Q E} (h : sp_done_to K vs H Q E) : vs.length = 2 := by
  obtain ⟨_, _, _, _, rfl, _⟩ := h; rfl
theorem sc_done_to : FnScope ["action", "value", "there", "none", "word", "rest"] ["action", "value"] (defScope s_done_to) := ⟨rfl, rfl, rfl, by decide +kernel, rfl, by decide +kernel, by decide +kernel⟩
local macro_rules | `(tactic| walk_at "st") => `(tactic| ((rw [show ∀ a0 a1 : V, L2.start ["action", "value", "there", "none", "word", "rest"] [a0, a1] = [some a0, some a1, none, none, none, none] from fun _ _ => rfl]); (try dsimp only [L2.cxOf])))
theorem c_done_to (T : Txt K mg) : CallOk P w K mg base CX0 1 "done_to" ["action", "value"] [] (sp_done_to K) := by
  obtain ⟨f, fd, hm, F⟩ := T.d_done_to
  refine ⟨f, fd, [], hm, F.kp, F.bindsN (fun _ _ _ _ _ _ us hl => match us, hl with | [_, _], _ => rfl), .nil, ?_⟩
  refine F.ok sc_done_to (fun vs H Q E h => ?len) (fun cdv A outer s H vs Q E hr h => ?body)
  case len =>
    exact sp_done_to_len h
  case body =>
    refine ⟨_, PSs.nox (pss_cons (ps_asg (pv 0) (pg_tup (n := 2) rfl (pgs_cons (pg_name (i := 2) sc_done_to.nd rfl (Or.inl rfl)) (pgs_cons (pg_name (i := 3) sc_done_to.nd rfl (Or.inl rfl)) pgs_nil))))
      (pss_cons (ps_asg (pe_ifExp (pt_cmpR ov_is (pv 1) pe_non (nomark _)) (pv 3) (pv 2)) (pg_tupZ (n := 1) rfl (pgs_cons (pg_name (i := 4) sc_done_to.nd rfl (Or.inl rfl)) (pgs_star (pg_name (i := 5) sc_done_to.nd rfl (Or.inl rfl)) pgs_nil))))
      (pss_cons (ps_if (pt_cmpR (ou_eq hr.units) (pv 4) pe_str (nomark _)) (pss_one (ps_ret (pe_op ou_add (pv 1) (pe_ix ix_seq (pv 5) pe_int (fun _ _ => rfl))))) pss_nil)
      (pss_cons (ps_if (pt_cmpR (ou_eq hr.units) (pv 4) pe_str (nomark _)) (pss_one (ps_ret (pe_ix ix_seq (pv 5) pe_int (fun _ _ => rfl)))) pss_nil)
      (pss_one (ps_ret pe_non)))))), ?_⟩
    obtain ⟨v, t, n, o, rfl, hd, hn, q⟩ := h
    obtain ⟨p, x, y, rfl, hp, hx, hy⟩ := dp_tup2 hd
    cases o with
    | none =>
      show _
      unfold optV
      cases n with
      | plus k => exact hn.elim
      | is_ k =>
        obtain ⟨p2, x2, y2, rfl, hp2, hx2, hy2⟩ := dp_tup2 hy
        obtain rfl := dp_str hx2
        obtain rfl := dp_int hy2
        walk_at "w"
        exact q _ (by walk_at "ex")
      | gone =>
        obtain ⟨p2, x2, rfl, hp2, hx2⟩ := dp_tup1 hy
        obtain rfl := dp_str hx2
        walk_at "w"
        exact q _ (by walk_at "ex")
    | some i =>
      unfold optV
      cases t with
      | plus k =>
        obtain ⟨p2, x2, y2, rfl, hp2, hx2, hy2⟩ := dp_tup2 hx
        obtain rfl := dp_str hx2
        obtain rfl := dp_int hy2
        walk_at "w"
        exact q _ (by walk_at "ex")
      | is_ k =>
        obtain ⟨p2, x2, y2, rfl, hp2, hx2, hy2⟩ := dp_tup2 hx
        obtain rfl := dp_str hx2
        obtain rfl := dp_int hy2
        walk_at "w"
        exact q _ (by walk_at "ex")
      | gone =>
        obtain ⟨p2, x2, rfl, hp2, hx2⟩ := dp_tup1 hx
        obtain rfl := dp_str hx2
        walk_at "w"
        exact q _ (by walk_at "ex")
theorem use_done_to {K : PySem.W.Frag} {H : Hp} {Q : VK} {E : XK} {v : V} {t n : Hf} {o : Option Int} (hd : Dp K H v (actD t n)) (hn : n.ok) (q : ∀ H1, Ex H H1 → Q (optV (actDo t n o)) H1) : sp_done_to K [v, optV o] H Q E := ⟨v, t, n, o, rfl, hd, hn, q⟩
theorem use_done_to_non {K : PySem.W.Frag} {H : Hp} {Q : VK} {E : XK} {v : V} {t n : Hf} (hd : Dp K H v (actD t n)) (hn : n.ok) (q : ∀ H1, Ex H H1 → Q (optV (actDo t n none)) H1) : sp_done_to K [v, .non] H Q E := ⟨v, t, n, none, rfl, hd, hn, q⟩
theorem use_done_to_int {K : PySem.W.Frag} {H : Hp} {Q : VK} {E : XK} {v : V} {t n : Hf} {i : Int} (hd : Dp K H v (actD t n)) (hn : n.ok) (q : ∀ H1, Ex H H1 → Q (optV (actDo t n (some i))) H1) : sp_done_to K [v, .int i] H Q E := ⟨v, t, n, some i, rfl, hd, hn, q⟩
local macro_rules | `(tactic| walk_at "use") => `(tactic| ((with_reducible refine' use_done_to ?k1 ?k2 ?_); (case k1 => walk_at "dp"); (case k2 => walk_at "ok"); intro _ _))
local macro_rules | `(tactic| walk_at "use") => `(tactic| ((with_reducible refine' use_done_to_non ?k1 ?k2 ?_); (case k1 => walk_at "dp"); (case k2 => walk_at "ok"); intro _ _))
local macro_rules | `(tactic| walk_at "use") => `(tactic| ((with_reducible refine' use_done_to_int ?k1 ?k2 ?_); (case k1 => walk_at "dp"); (case k2 => walk_at "ok"); intro _ _))
/-! ### acts -/
def sp_acts (K : PySem.W.Frag) : Sp := fun vs H Q _ => ∃ (v : V) (t n : Hf) (o : Option Int), vs = [v, optV o] ∧ Dp K H v (actD t n) ∧ n.ok ∧ ∀ H1, Ex H H1 → Q (optV (actDo t n o)) H1
theorem sp_acts_len {K : PySem.W.Frag} {vs H Q E} (h : sp_acts K vs H Q E) : vs.length = 2 := by
  obtain ⟨_, _, _, _, rfl, _⟩ := h; rfl
theorem sc_acts : FnScope ["action", "value"] ["action", "value"] (defScope s_acts) := ⟨rfl, rfl, rfl, by decide +kernel, rfl, by decide +kernel, by decide +kernel⟩
local macro_rules | `(tactic| walk_at "st") => `(tactic| ((rw [show ∀ a0 a1 : V, L2.start ["action", "value"] [a0, a1] = [some a0, some a1] from fun _ _ => rfl]); (try dsimp only [L2.cxOf])))
theorem c_acts (T : Txt K mg) : CallOk P w K mg base CX0 5 "acts" ["action", "value"] [] (sp_acts K) := by
  obtain ⟨f, fd, hm, F⟩ := T.d_acts
  refine ⟨f, fd, [], hm, F.kp, F.bindsN (fun _ _ _ _ _ _ us hl => match us, hl with | [_, _], _ => rfl), .nil, ?_⟩
  refine F.ok sc_acts (fun vs H Q E h => ?len) (fun cdv A outer s H vs Q E hr h => ?body)
  case len =>
    exact sp_acts_len h
  case body =>
    refine ⟨_, PSs.nox (pss_cons (ps_expr (pe_callF (c_sure_action T) (hr.mono (by decide)) pass0 (pa_cons (pv 0) pa_nil)))
      (pss_one (ps_ret (pe_callF (c_done_to T) (hr.mono (by decide)) pass0 (pa_cons (pv 0) (pa_cons (pv 1) pa_nil)))))), ?_⟩
    obtain ⟨v, t, n, o, rfl, hd, hn, q⟩ := h
    walk_at "w"
    exact q _ (by walk_at "ex")
theorem use_acts {K : PySem.W.Frag} {H : Hp} {Q : VK} {E : XK} {v : V} {t n : Hf} {o : Option Int} (hd : Dp K H v (actD t n)) (hn : n.ok) (q : ∀ H1, Ex H H1 → Q (optV (actDo t n o)) H1) : sp_acts K [v, optV o] H Q E := ⟨v, t, n, o, rfl, hd, hn, q⟩
theorem use_acts_non {K : PySem.W.Frag} {H : Hp} {Q : VK} {E : XK} {v : V} {t n : Hf} (hd : Dp K H v (actD t n)) (hn : n.ok) (q : ∀ H1, Ex H H1 → Q (optV (actDo t n none)) H1) : sp_acts K [v, .non] H Q E := ⟨v, t, n, none, rfl, hd, hn, q⟩
theorem use_acts_int {K : PySem.W.Frag} {H : Hp} {Q : VK} {E : XK} {v : V} {t n : Hf} {i : Int} (hd : Dp K H v (actD t n)) (hn : n.ok) (q : ∀ H1, Ex H H1 → Q (optV (actDo t n (some i))) H1) : sp_acts K [v, .int i] H Q E := ⟨v, t, n, some i, rfl, hd, hn, q⟩
local macro_rules | `(tactic| walk_at "use") => `(tactic| ((with_reducible refine' use_acts ?k1 ?k2 ?_); (case k1 => walk_at "dp"); (case k2 => walk_at "ok"); intro _ _))
local macro_rules | `(tactic| walk_at "use") => `(tactic| ((with_reducible refine' use_acts_non ?k1 ?k2 ?_); (case k1 => walk_at "dp"); (case k2 => walk_at "ok"); intro _ _))
local macro_rules | `(tactic| walk_at "use") => `(tactic| ((with_reducible refine' use_acts_int ?k1 ?k2 ?_); (case k1 => walk_at "dp"); (case k2 => walk_at "ok"); intro _ _))
/-! ### half_behind -/
def sp_half_behind (K : PySem.W.Frag) : Sp := fun vs H Q _ => ∃ (v u : V) (h t n : Hf), vs = [v, u] ∧ Dp K H v h.d ∧ Dp K H u (actD t n) ∧ n.ok ∧ ∀ w H1, Ex H H1 → Dp K H1 w (h.behind t n).d → Q w H1
theorem sp_half_behind_len {K : PySem.W.Frag} {vs H Q E} (h : sp_half_behind K vs H Q E) : vs.length = 2 := by
  obtain ⟨_, _, _, _, _, rfl, _⟩ := h; rfl
theorem sc_half_behind : FnScope ["half", "other", "word", "rest", "value"] ["half", "other"] (defScope s_half_behind) := ⟨rfl, rfl, rfl, by decide +kernel, rfl, by decide +kernel, by decide +kernel⟩
local macro_rules | `(tactic| walk_at "st") => `(tactic| ((rw [show ∀ a0 a1 : V, L2.start ["half", "other", "word", "rest", "value"] [a0, a1] = [some a0, some a1, none, none, none] from fun _ _ => rfl]); (try dsimp only [L2.cxOf])))
theorem c_half_behind (T : Txt K mg) : CallOk P w K mg base CX0 2 "half_behind" ["half", "other"] [] (sp_half_behind K) := by
  obtain ⟨f, fd, hm, F⟩ := T.d_half_behind
  refine ⟨f, fd, [], hm, F.kp, F.bindsN (fun _ _ _ _ _ _ us hl => match us, hl with | [_, _], _ => rfl), .nil, ?_⟩
  refine F.ok sc_half_behind (fun vs H Q E h => ?len) (fun cdv A outer s H vs Q E hr h => ?body)
  case len =>
    exact sp_half_behind_len h
  case body =>
    refine ⟨_, PSs.nox (pss_cons (ps_asg (pv 0) (pg_tupZ (n := 1) rfl (pgs_cons (pg_name (i := 2) sc_half_behind.nd rfl (Or.inl rfl)) (pgs_star (pg_name (i := 3) sc_half_behind.nd rfl (Or.inl rfl)) pgs_nil))))
      (pss_cons (ps_if (pt_cmpR (ou_eq hr.units) (pv 2) pe_str (nomark _)) (pss_cons (ps_if (pt_cmpR (ou_eq hr.units) (pe_ix ix_seq (pe_ix ix_seq (pv 1) pe_int (fun _ _ => rfl)) pe_int (fun _ _ => rfl)) pe_str (nomark _)) (pss_one (ps_ret (pe_tup (pa_cons pe_str (pa_cons (pe_op ou_add (pe_ix ix_seq (pv 3) pe_int (fun _ _ => rfl)) (pe_ix ix_seq (pe_ix ix_seq (pv 1) pe_int (fun _ _ => rfl)) pe_int (fun _ _ => rfl))) pa_nil))))) pss_nil)
      (pss_one (ps_ret (pe_ix ix_seq (pv 1) pe_int (fun _ _ => rfl))))) pss_nil)
      (pss_cons (ps_asg pe_non (pg_name (i := 4) sc_half_behind.nd rfl (Or.inl rfl)))
      (pss_cons (ps_if (pt_cmpR (ou_eq hr.units) (pv 2) pe_str (nomark _)) (pss_one (ps_asg (pe_ix ix_seq (pv 3) pe_int (fun _ _ => rfl)) (pg_name (i := 4) sc_half_behind.nd rfl (Or.inl rfl)))) pss_nil)
      (pss_cons (ps_asg (pe_callF (c_done_to T) (hr.mono (by decide)) pass0 (pa_cons (pv 1) (pa_cons (pv 4) pa_nil))) (pg_name (i := 4) sc_half_behind.nd rfl (Or.inl rfl)))
      (pss_cons (ps_if (pt_cmpR ov_is (pv 4) pe_non (nomark _)) (pss_one (ps_ret (pe_tup (pa_cons pe_str pa_nil)))) pss_nil)
      (pss_one (ps_ret (pe_tup (pa_cons pe_str (pa_cons (pv 4) pa_nil))))))))))), ?_⟩
    obtain ⟨v, u, h, t, n, rfl, hd, hu, hn, q⟩ := h
    obtain ⟨p, x, y, rfl, hp, hx, hy⟩ := dp_tup2 hu
    have hu2 := hu
    cases h with
    | plus k =>
      obtain ⟨p2, x2, y2, rfl, hp2, hx2, hy2⟩ := dp_tup2 hd
      obtain rfl := dp_str hx2
      obtain rfl := dp_int hy2
      have hx' := hx
      cases t with
      | plus m =>
        obtain ⟨p3, x3, y3, rfl, hp3, hx3, hy3⟩ := dp_tup2 hx
        obtain rfl := dp_str hx3
        obtain rfl := dp_int hy3
        walk_at "w"
        exact q _ _ (by walk_at "ex") (by walk_at "dp")
      | is_ m =>
        obtain ⟨p3, x3, y3, rfl, hp3, hx3, hy3⟩ := dp_tup2 hx
        obtain rfl := dp_str hx3
        walk_at "w"
        exact q _ _ (by walk_at "ex") (by walk_at "dp")
      | gone =>
        obtain ⟨p3, x3, rfl, hp3, hx3⟩ := dp_tup1 hx
        obtain rfl := dp_str hx3
        walk_at "w"
        exact q _ _ (by walk_at "ex") (by walk_at "dp")
    | is_ k =>
      obtain ⟨p2, x2, y2, rfl, hp2, hx2, hy2⟩ := dp_tup2 hd
      obtain rfl := dp_str hx2
      obtain rfl := dp_int hy2
      have e : Hf.behind (.is_ k) t n = optH (actDo t n (some k)) := rfl
      rw [e] at q
      walk_at "w"
      generalize actDo t n (some k) = o at *
      cases o <;> walk_at "w" <;> exact q _ _ (by walk_at "ex") (by walk_at "dp")
    | gone =>
      obtain ⟨p2, x2, rfl, hp2, hx2⟩ := dp_tup1 hd
      obtain rfl := dp_str hx2
      have e : Hf.behind .gone t n = optH (actDo t n none) := rfl
      rw [e] at q
      walk_at "w"
      generalize actDo t n none = o at *
      cases o <;> walk_at "w" <;> exact q _ _ (by walk_at "ex") (by walk_at "dp")
theorem use_half_behind {K : PySem.W.Frag} {H : Hp} {Q : VK} {E : XK} {v u : V} {h t n : Hf} (hd : Dp K H v h.d) (hu : Dp K H u (actD t n)) (hn : n.ok) (q : ∀ w H1, Ex H H1 → Dp K H1 w (h.behind t n).d → Q w H1) : sp_half_behind K [v, u] H Q E := ⟨v, u, h, t, n, rfl, hd, hu, hn, q⟩
local macro_rules | `(tactic| walk_at "use") => `(tactic| ((with_reducible refine' use_half_behind ?k1 ?k2 ?k3 ?_); (case k1 => walk_at "dp"); (case k2 => walk_at "dp"); (case k3 => walk_at "ok"); intro _ _ _ _))
/-! ### behind -/
def sp_behind (K : PySem.W.Frag) : Sp := fun vs H Q _ => ∃ (v u : V) (t n t' n' : Hf), vs = [v, u] ∧ Dp K H v (actD t n) ∧ n.ok ∧ Dp K H u (actD t' n') ∧ n'.ok ∧ ∀ w H1, Ex H H1 → Dp K H1 w (actD (t.behind t' n') (n.behind t' n')) → Q w H1
theorem sp_behind_len {K : PySem.W.Frag} {vs H Q E} (h : sp_behind K vs H Q E) : vs.length = 2 := by
  obtain ⟨_, _, _, _, _, _, rfl, _⟩ := h; rfl
theorem sc_behind : FnScope ["one", "other"] ["one", "other"] (defScope s_behind) := ⟨rfl, rfl, rfl, by decide +kernel, rfl, by decide +kernel, by decide +kernel⟩
local macro_rules | `(tactic| walk_at "st") => `(tactic| ((rw [show ∀ a0 a1 : V, L2.start ["one", "other"] [a0, a1] = [some a0, some a1] from fun _ _ => rfl]); (try dsimp only [L2.cxOf])))
theorem c_behind (T : Txt K mg) : CallOk P w K mg base CX0 5 "behind" ["one", "other"] [] (sp_behind K) := by
  obtain ⟨f, fd, hm, F⟩ := T.d_behind
  refine ⟨f, fd, [], hm, F.kp, F.bindsN (fun _ _ _ _ _ _ us hl => match us, hl with | [_, _], _ => rfl), .nil, ?_⟩
  refine F.ok sc_behind (fun vs H Q E h => ?len) (fun cdv A outer s H vs Q E hr h => ?body)
  case len =>
    exact sp_behind_len h
  case body =>
    refine ⟨_, PSs.nox (pss_cons (ps_expr (pe_callF (c_sure_action T) (hr.mono (by decide)) pass0 (pa_cons (pv 0) pa_nil)))
      (pss_cons (ps_expr (pe_callF (c_sure_action T) (hr.mono (by decide)) pass0 (pa_cons (pv 1) pa_nil)))
      (pss_one (ps_ret (pe_tup (pa_cons (pe_callF (c_half_behind T) (hr.mono (by decide)) pass0 (pa_cons (pe_ix ix_seq (pv 0) pe_int (fun _ _ => rfl)) (pa_cons (pv 1) pa_nil))) (pa_cons (pe_callF (c_half_behind T) (hr.mono (by decide)) pass0 (pa_cons (pe_ix ix_seq (pv 0) pe_int (fun _ _ => rfl)) (pa_cons (pv 1) pa_nil))) pa_nil))))))), ?_⟩
    obtain ⟨v, u, t, n, t', n', rfl, hd, hn, hu, hn', q⟩ := h
    obtain ⟨p, x, y, rfl, hp, hx, hy⟩ := dp_tup2 hd
    walk_at "w"
    exact q _ _ (by walk_at "ex") (by unfold actD; walk_at "dp")
theorem use_behind {K : PySem.W.Frag} {H : Hp} {Q : VK} {E : XK} {v u : V} {t n t' n' : Hf} (hd : Dp K H v (actD t n)) (hn : n.ok) (hu : Dp K H u (actD t' n')) (hn' : n'.ok) (q : ∀ w H1, Ex H H1 → Dp K H1 w (actD (t.behind t' n') (n.behind t' n')) → Q w H1) : sp_behind K [v, u] H Q E := ⟨v, u, t, n, t', n', rfl, hd, hn, hu, hn', q⟩
local macro_rules | `(tactic| walk_at "use") => `(tactic| ((with_reducible refine' use_behind ?k1 ?k2 ?k3 ?k4 ?_); (case k1 => walk_at "dp"); (case k2 => walk_at "ok"); (case k3 => walk_at "dp"); (case k4 => walk_at "ok"); intro _ _ _ _))
/-! ### _law_well -/
def sp_law_well : Sp := fun vs H Q _ => ∃ z, vs = [.int z] ∧ ∀ p H1, H p = none → Ex H H1 → WellAt H1 p → Q (.ref p) H1
theorem sp_law_well_len {vs H Q E} (h : sp_law_well vs H Q E) : vs.length = 1 := by
  obtain ⟨_, rfl, _⟩ := h; rfl
theorem sc_law_well : FnScope ["_law_cell"] ["_law_cell"] (defScope s_law_well) := ⟨rfl, rfl, rfl, by decide +kernel, rfl, by decide +kernel, by decide +kernel⟩
local macro_rules | `(tactic| walk_at "st") => `(tactic| ((rw [show ∀ a0 : V, L2.start ["_law_cell"] [a0] = [some a0] from fun _ => rfl]); (try dsimp only [L2.cxOf])))
theorem c_law_well (T : Txt K mg) : CallOk P w K mg base CX0 1 "_law_well" ["_law_cell"] [] sp_law_well := by
  obtain ⟨f, fd, hm, F⟩ := T.d_law_well
  refine ⟨f, fd, [], hm, F.kp, F.bindsN (fun _ _ _ _ _ _ us hl => match us, hl with | [_], _ => rfl), .nil, ?_⟩
  refine F.ok sc_law_well (fun vs H Q E h => ?len) (fun cdv A outer s H vs Q E hr h => ?body)
  case len =>
    exact sp_law_well_len h
  case body =>
    refine ⟨_, PSs.nox (pss_one (ps_ret (pe_hid Well3 (pe_lst (pa_cons (pe_op ou_mul (pv 0) (pe_callTy cu_int (by rfl) T.z_int bo_int (pa_cons (pe_cmpR ou_ge (pv 0) (pe_op ou_pow pe_int pe_int) (nomark _)) pa_nil))) (pa_cons (pv 0) (pa_cons pe_int pa_nil))))))), ?_⟩
    obtain ⟨z, rfl, q⟩ := h
    walk_at "w"
    exact q _ _ (by assumption) (by walk_at "ex") (by walk_at "h")
theorem use_law_well {H : Hp} {Q : VK} {E : XK} {z : Int} (q : ∀ p H1, H p = none → Ex H H1 → WellAt H1 p → Q (.ref p) H1) : sp_law_well [.int z] H Q E := ⟨z, rfl, q⟩
local macro_rules | `(tactic| walk_at "use") => `(tactic| (with_reducible refine use_law_well ?_; intro _ _ _ _ _))
/-! ### _law_draw -/
def sp_law_draw_raw : Sp := fun vs H Q _ => ∃ p m xs, vs = [.ref p, .int m] ∧ H p = some (.lst xs) ∧ Well3 xs ∧ 0 < m ∧ m.natAbs.log2 < 9000 ∧ ∀ d H1 ys, 0 ≤ d → d < m → ExB p H H1 → H1 p = some (.lst ys) → Well3 ys → Q (.int d) H1
def sp_law_draw : Sp := fun vs H Q _ => ∃ p m, vs = [.ref p, .int m] ∧ WellAt H p ∧ 0 < m ∧ m.natAbs.log2 < 9000 ∧ ∀ d H1, 0 ≤ d → d < m → Ex H H1 → Q (.int d) H1
theorem sp_law_draw_len {vs H Q E} (h : sp_law_draw_raw vs H Q E) : vs.length = 2 := by
  obtain ⟨_, _, _, rfl, _⟩ := h; rfl
theorem sc_law_draw : FnScope ["_law_well_here", "_law_many", "_law_found", "_law_low"] ["_law_well_here", "_law_many"] (defScope s_law_draw) := ⟨rfl, rfl, rfl, by decide +kernel, rfl, by decide +kernel, by decide +kernel⟩
local macro_rules | `(tactic| walk_at "st") => `(tactic| ((rw [show ∀ a0 a1 : V, L2.start ["_law_well_here", "_law_many", "_law_found", "_law_low"] [a0, a1] = [some a0, some a1, none, none] from fun _ _ => rfl]); (try dsimp only [L2.cxOf])))
theorem c_law_draw_raw (T : Txt K mg) : CallOk P w K mg base CX0 1 "_law_draw" ["_law_well_here", "_law_many"] [] sp_law_draw_raw := by
  obtain ⟨f, fd, hm, F⟩ := T.d_law_draw
  refine ⟨f, fd, [], hm, F.kp, F.bindsN (fun _ _ _ _ _ _ us hl => match us, hl with | [_, _], _ => rfl), .nil, ?_⟩
  refine F.ok sc_law_draw (fun vs H Q E h => ?len) (fun cdv A outer s H vs Q E hr h => ?body)
  case len =>
    exact sp_law_draw_len h
  case body =>
    refine ⟨_, PSs.nox (pss_cons (ps_if (pt_cmpR ou_gt (pe_ix ix_seq (pv 0) pe_int (fun _ _ => rfl)) pe_int (nomark _)) (pss_cons (ps_asg (pe_op ou_mod (pe_ix ix_seq (pv 0) pe_int (fun _ _ => rfl)) (pv 1)) (pg_name (i := 2) sc_law_draw.nd rfl (Or.inl rfl)))
      (pss_cons (ps_asg (pe_op ou_div (pe_ix ix_seq (pv 0) pe_int (fun _ _ => rfl)) (pv 1)) (pg_sub (pv 0) pe_int set_list))
      (pss_one (ps_ret (pv 2))))) pss_nil)
      (pss_cons (ps_asg (pe_op ou_add (pe_ix ix_seq (pv 0) pe_int (fun _ _ => rfl)) pe_int) (pg_sub (pv 0) pe_int set_list))
      (pss_cons (ps_asg (pe_op ou_add (pe_op ou_mod (pe_ix ix_seq (pv 0) pe_int (fun _ _ => rfl)) pe_int) (pe_op ou_mul (pe_op ou_div (pe_ix ix_seq (pv 0) pe_int (fun _ _ => rfl)) pe_int) pe_int)) (pg_name (i := 3) sc_law_draw.nd rfl (Or.inl rfl)))
      (pss_cons (ps_asg (pe_op ou_mod (pe_op ou_mul (pe_op ou_add (pe_op ou_add (pv 3) (pe_op ou_mul pe_int (pe_ix ix_seq (pv 0) pe_int (fun _ _ => rfl)))) pe_int) pe_int) pe_int) (pg_name (i := 3) sc_law_draw.nd rfl (Or.inl rfl)))
      (pss_cons (ps_asg (pe_op ou_mod (pe_op ou_mul (pv 3) (pe_op ou_add (pe_op ou_add (pe_op ou_div (pv 3) pe_int) pe_int) (pe_ix ix_seq (pv 0) pe_int (fun _ _ => rfl)))) pe_int) (pg_name (i := 3) sc_law_draw.nd rfl (Or.inl rfl)))
      (pss_one (ps_ret (pe_op ou_mod (pe_op ou_mod (pe_op ou_mul (pv 3) (pe_op ou_add (pe_op ou_div (pv 3) pe_int) pe_int)) pe_int) (pv 1))))))))), ?_⟩
    obtain ⟨p, m, xs, rfl, hp, ⟨a, b, c, rfl⟩, h0, hm, q⟩ := h
    walk_at "w"
    refine w_itd (fun hpos => ?_) (fun hneg => ?_)
    · walk_at "w"
      exact q _ _ _ (Int.emod_nonneg _ (by omega)) (Int.emod_lt_of_pos _ h0) (by walk_at "eB") (by walk_at "h") ⟨_, _, _, rfl⟩
    · walk_at "w"
      exact q _ _ _ (Int.emod_nonneg _ (by omega)) (Int.emod_lt_of_pos _ h0) (by walk_at "eB") (by walk_at "h") ⟨_, _, _, rfl⟩
theorem use_law_draw {H : Hp} {Q : VK} {E : XK} {p : Addr} {m : Int} (hw : WellAt H p) (h0 : 0 < m) (hm : m.natAbs.log2 < 9000) (q : ∀ d H1, 0 ≤ d → d < m → Ex H H1 → Q (.int d) H1) : sp_law_draw [.ref p, .int m] H Q E := ⟨p, m, rfl, hw, h0, hm, q⟩
theorem c_law_draw (T : Txt K mg) : CallOk P w K mg base CX0 1 "_law_draw" ["_law_well_here", "_law_many"] [] sp_law_draw := by
  refine (c_law_draw_raw T).hide (fun vs H Q E h => ?_) (fun vs H Q E h => ?_)
  · obtain ⟨_, _, rfl, _⟩ := h; rfl
  · obtain ⟨p, m, rfl, hw, h0, hm, q⟩ := h
    refine ⟨p, Well3, hw, fun xs hx => ⟨p, m, xs, rfl, upd_same, hx, h0, hm, fun d H1 ys d0 d1 e h1 wy => ⟨ys, h1, wy, q _ _ d0 d1 fun a o ha => ?_⟩⟩⟩
    by_cases hn : a = p
    · rw [hn] at ha ⊢
      rw [upd_same, ← ha]
      exact hw.symm
    · rw [upd_ne hn]; exact e a o hn (by rw [upd_ne hn]; exact ha)
local macro_rules | `(tactic| walk_at "use") => `(tactic| ((with_reducible refine' use_law_draw ?k1 ?k2 ?k3 ?_); (case k1 => walk_at "h"); (case k2 => (first | omega | decide)); (case k3 => (first | assumption | decide | exact log2_small (by omega))); intro _ _ _ _ _))
/-! ### _law_number -/
def sp_law_number : Sp := fun vs H Q _ => ∃ p, vs = [.ref p] ∧ WellAt H p ∧ ∀ z H1, Ex H H1 → Q (.int z) H1
theorem sp_law_number_len {vs H Q E} (h : sp_law_number vs H Q E) : vs.length = 1 := by
  obtain ⟨_, rfl, _⟩ := h; rfl
theorem sc_law_number : FnScope ["_law_well_here", "_law_way", "_law_sign", "_law_near"] ["_law_well_here"] (defScope s_law_number) := ⟨rfl, rfl, rfl, by decide +kernel, rfl, by decide +kernel, by decide +kernel⟩
local macro_rules | `(tactic| walk_at "st") => `(tactic| ((rw [show ∀ a0 : V, L2.start ["_law_well_here", "_law_way", "_law_sign", "_law_near"] [a0] = [some a0, none, none, none] from fun _ => rfl]); (try dsimp only [L2.cxOf])))
theorem c_law_number (T : Txt K mg) : CallOk P w K mg base CX0 2 "_law_number" ["_law_well_here"] [] sp_law_number := by
  obtain ⟨f, fd, hm, F⟩ := T.d_law_number
  refine ⟨f, fd, [], hm, F.kp, F.bindsN (fun _ _ _ _ _ _ us hl => match us, hl with | [_], _ => rfl), .nil, ?_⟩
  refine F.ok sc_law_number (fun vs H Q E h => ?len) (fun cdv A outer s H vs Q E hr h => ?body)
  case len =>
    exact sp_law_number_len h
  case body =>
    refine ⟨_, PSs.nox (pss_cons (ps_asg (pe_callF (c_law_draw T) (hr.mono (by decide)) pass0 (pa_cons (pv 0) (pa_cons pe_int pa_nil))) (pg_name (i := 1) sc_law_number.nd rfl (Or.inl rfl)))
      (pss_cons (ps_asg (pe_ix ix_seq (pe_lst (pa_cons pe_int (pa_cons pe_int (pa_cons (pe_un ou_neg pe_int) pa_nil)))) (pe_callF (c_law_draw T) (hr.mono (by decide)) pass0 (pa_cons (pv 0) (pa_cons pe_int pa_nil))) (fun _ _ => rfl)) (pg_name (i := 2) sc_law_number.nd rfl (Or.inl rfl)))
      (pss_cons (ps_asg (pe_callF (c_law_draw T) (hr.mono (by decide)) pass0 (pa_cons (pv 0) (pa_cons (pe_ix ix_seq (pe_lst (pa_cons pe_int (pa_cons pe_int (pa_cons (pe_op ou_pow pe_int pe_int) (pa_cons (pe_op ou_pow pe_int pe_int) (pa_cons (pe_op ou_pow pe_int pe_int) pa_nil)))))) (pv 1) (fun _ _ => rfl)) pa_nil))) (pg_name (i := 3) sc_law_number.nd rfl (Or.inl rfl)))
      (pss_cons (ps_if (pt_cmpR (ou_eq hr.units) (pv 1) pe_int (nomark _)) (pss_one (ps_asg (pe_op ou_add (pe_op ou_mul (pv 3) (pe_op ou_pow pe_int pe_int)) (pe_callF (c_law_draw T) (hr.mono (by decide)) pass0 (pa_cons (pv 0) (pa_cons (pe_op ou_pow pe_int pe_int) pa_nil)))) (pg_name (i := 3) sc_law_number.nd rfl (Or.inl rfl)))) pss_nil)
      (pss_cons (ps_if (pt_cmpR (ou_eq hr.units) (pv 1) pe_int (nomark _)) (pss_one (ps_asg (pe_op ou_sub (pe_op ou_sub (pe_op ou_pow pe_int pe_int) pe_int) (pv 3)) (pg_name (i := 3) sc_law_number.nd rfl (Or.inl rfl)))) pss_nil)
      (pss_one (ps_ret (pe_op ou_mul (pv 2) (pv 3))))))))), ?_⟩
    obtain ⟨p, rfl, hw, q⟩ := h
    walk_at "w"
    walk_at "pickv"
    intro v hv
    obtain ⟨m, rfl, hm⟩ : ∃ m, v = V.int m ∧ (-2 < m ∧ m < 2) := by
      simp only [List.mem_cons, List.not_mem_nil, or_false] at hv
      rcases hv with rfl | rfl | rfl <;> exact ⟨_, rfl, by omega⟩
    walk_at "w"
    walk_at "pickv"
    intro v hv
    obtain ⟨m2, rfl, hm2⟩ : ∃ m, v = V.int m ∧ (0 < m ∧ m < 2000000000) := by
      simp only [List.mem_cons, List.not_mem_nil, or_false] at hv
      rcases hv with rfl | rfl | rfl | rfl | rfl <;> exact ⟨_, rfl, by omega⟩
    walk_at "ws"
    all_goals exact q _ _ (by walk_at "ex")
theorem use_law_number {H : Hp} {Q : VK} {E : XK} {p : Addr} (h : WellAt H p) (q : ∀ z H1, Ex H H1 → Q (.int z) H1) : sp_law_number [.ref p] H Q E := ⟨p, rfl, h, q⟩
local macro_rules | `(tactic| walk_at "use") => `(tactic| ((with_reducible refine' use_law_number ?k1 ?_); (case k1 => walk_at "h"); intro _ _ _))
/-! ### _law_action -/
def sp_law_action (K : PySem.W.Frag) : Sp := fun vs H Q _ => ∃ p, vs = [.ref p] ∧ WellAt H p ∧ ∀ v t n H1, n.ok → Ex H H1 → Dp K H1 v (actD t n) → Q v H1
theorem sp_law_action_len {K : PySem.W.Frag} {vs H Q E} (h : sp_law_action K vs H Q E) : vs.length = 1 := by
  obtain ⟨_, rfl, _⟩ := h; rfl
theorem sc_law_action : FnScope ["_law_well_here", "_law_way", "_law_number_here", "_law_there"] ["_law_well_here"] (defScope s_law_action) := ⟨rfl, rfl, rfl, by decide +kernel, rfl, by decide +kernel, by decide +kernel⟩
local macro_rules | `(tactic| walk_at "st") => `(tactic| ((rw [show ∀ a0 : V, L2.start ["_law_well_here", "_law_way", "_law_number_here", "_law_there"] [a0] = [some a0, none, none, none] from fun _ => rfl]); (try dsimp only [L2.cxOf])))
theorem c_law_action (T : Txt K mg) : CallOk P w K mg base CX0 3 "_law_action" ["_law_well_here"] [] (sp_law_action K) := by
  obtain ⟨f, fd, hm, F⟩ := T.d_law_action
  refine ⟨f, fd, [], hm, F.kp, F.bindsN (fun _ _ _ _ _ _ us hl => match us, hl with | [_], _ => rfl), .nil, ?_⟩
  refine F.ok sc_law_action (fun vs H Q E h => ?len) (fun cdv A outer s H vs Q E hr h => ?body)
  case len =>
    exact sp_law_action_len h
  case body =>
    refine ⟨_, PSs.nox (pss_cons (ps_asg (pe_callF (c_law_draw T) (hr.mono (by decide)) pass0 (pa_cons (pv 0) (pa_cons pe_int pa_nil))) (pg_name (i := 1) sc_law_action.nd rfl (Or.inl rfl)))
      (pss_cons (ps_asg (pe_callF (c_law_number T) (hr.mono (by decide)) pass0 (pa_cons (pv 0) pa_nil)) (pg_name (i := 2) sc_law_action.nd rfl (Or.inl rfl)))
      (pss_cons (ps_asg (pe_ix ix_seq (pe_lst (pa_cons (pe_tup (pa_cons pe_str (pa_cons (pv 2) pa_nil))) (pa_cons (pe_tup (pa_cons pe_str (pa_cons (pv 2) pa_nil))) (pa_cons (pe_tup (pa_cons pe_str pa_nil)) pa_nil)))) (pe_op ou_mod (pv 1) pe_int) (fun _ _ => rfl)) (pg_name (i := 3) sc_law_action.nd rfl (Or.inl rfl)))
      (pss_one (ps_ret (pe_tup (pa_cons (pv 3) (pa_cons (pe_ix ix_seq (pe_lst (pa_cons (pe_tup (pa_cons pe_str pa_nil)) (pa_cons (pe_tup (pa_cons pe_str (pa_cons (pe_callF (c_law_number T) (hr.mono (by decide)) pass0 (pa_cons (pv 0) pa_nil)) pa_nil))) pa_nil))) (pe_op ou_div (pv 1) pe_int) (fun _ _ => rfl)) pa_nil)))))))), ?_⟩
    obtain ⟨p, rfl, hw, q⟩ := h
    walk_at "w"
    walk_at "pick"
    all_goals
      walk_at "w"
      walk_at "pick"
      all_goals
        walk_at "w"
        first
        | exact q _ (.plus _) .gone _ trivial (by walk_at "ex") (by walk_at "dp")
        | exact q _ (.is_ _) .gone _ trivial (by walk_at "ex") (by walk_at "dp")
        | exact q _ .gone .gone _ trivial (by walk_at "ex") (by walk_at "dp")
        | exact q _ (.plus _) (.is_ _) _ trivial (by walk_at "ex") (by walk_at "dp")
        | exact q _ (.is_ _) (.is_ _) _ trivial (by walk_at "ex") (by walk_at "dp")
        | exact q _ .gone (.is_ _) _ trivial (by walk_at "ex") (by walk_at "dp")
theorem use_law_action {K : PySem.W.Frag} {H : Hp} {Q : VK} {E : XK} {p : Addr} (h : WellAt H p) (q : ∀ v t n H1, Hf.ok n → Ex H H1 → Dp K H1 v (actD t n) → Q v H1) : sp_law_action K [.ref p] H Q E := ⟨p, rfl, h, q⟩
local macro_rules | `(tactic| walk_at "use") => `(tactic| ((with_reducible refine' use_law_action ?k1 ?_); (case k1 => walk_at "h"); intro _ _ _ _ _ _ _))
/-! ### _law_done -/
def sp_law_done (K : PySem.W.Frag) : Sp := fun vs H Q _ => ∃ (v : V) (t n : Hf) (o : Option Int), vs = [v, optV o] ∧ Dp K H v (actD t n) ∧ n.ok ∧ ∀ H1, Ex H H1 → Q (optV (actDo t n o)) H1
theorem sp_law_done_len {K : PySem.W.Frag} {vs H Q E} (h : sp_law_done K vs H Q E) : vs.length = 2 := by
  obtain ⟨_, _, _, _, rfl, _⟩ := h; rfl
theorem sc_law_done : FnScope ["_law_action_here", "_law_value", "_law_half"] ["_law_action_here", "_law_value"] (defScope s_law_done) := ⟨rfl, rfl, rfl, by decide +kernel, rfl, by decide +kernel, by decide +kernel⟩
local macro_rules | `(tactic| walk_at "st") => `(tactic| ((rw [show ∀ a0 a1 : V, L2.start ["_law_action_here", "_law_value", "_law_half"] [a0, a1] = [some a0, some a1, none] from fun _ _ => rfl]); (try dsimp only [L2.cxOf])))
theorem c_law_done (T : Txt K mg) : CallOk P w K mg base CX0 1 "_law_done" ["_law_action_here", "_law_value"] [] (sp_law_done K) := by
  obtain ⟨f, fd, hm, F⟩ := T.d_law_done
  refine ⟨f, fd, [], hm, F.kp, F.bindsN (fun _ _ _ _ _ _ us hl => match us, hl with | [_, _], _ => rfl), .nil, ?_⟩
  refine F.ok sc_law_done (fun vs H Q E h => ?len) (fun cdv A outer s H vs Q E hr h => ?body)
  case len =>
    exact sp_law_done_len h
  case body =>
    refine ⟨_, PSs.nox (pss_cons (ps_asg (pe_ix ix_seq (pv 0) (pe_callTy cu_int (by rfl) T.z_int bo_int (pa_cons (pe_cmpR ov_is (pv 1) pe_non (nomark _)) pa_nil)) (fun _ _ => rfl)) (pg_name (i := 2) sc_law_done.nd rfl (Or.inl rfl)))
      (pss_cons (ps_if (pt_cmpR (ou_eq hr.units) (pe_ix ix_seq (pv 2) pe_int (fun _ _ => rfl)) pe_str (nomark _)) (pss_one (ps_ret (pe_op ou_add (pv 1) (pe_ix ix_seq (pv 2) pe_int (fun _ _ => rfl))))) pss_nil)
      (pss_one (ps_ret (pe_ix ix_seq (pe_lst (pa_cons pe_non (pa_cons (pe_ix ix_seq (pv 2) (pe_un ou_neg pe_int) (fun _ _ => rfl)) pa_nil))) (pe_callTy cu_int (by rfl) T.z_int bo_int (pa_cons (pe_cmpR (ou_eq hr.units) (pe_ix ix_seq (pv 2) pe_int (fun _ _ => rfl)) pe_str (nomark _)) pa_nil)) (fun _ _ => rfl)))))), ?_⟩
    obtain ⟨v, t, n, o, rfl, hd, hn, q⟩ := h
    obtain ⟨p, x, y, rfl, hp, hx, hy⟩ := dp_tup2 hd
    cases o with
    | none =>
      unfold optV
      cases n with
      | plus k => exact hn.elim
      | is_ k =>
        obtain ⟨p2, x2, y2, rfl, hp2, hx2, hy2⟩ := dp_tup2 hy
        obtain rfl := dp_str hx2
        obtain rfl := dp_int hy2
        walk_at "w"
        exact q _ (by walk_at "ex")
      | gone =>
        obtain ⟨p2, x2, rfl, hp2, hx2⟩ := dp_tup1 hy
        obtain rfl := dp_str hx2
        walk_at "w"
        exact q _ (by walk_at "ex")
    | some i =>
      unfold optV
      cases t with
      | plus k =>
        obtain ⟨p2, x2, y2, rfl, hp2, hx2, hy2⟩ := dp_tup2 hx
        obtain rfl := dp_str hx2
        obtain rfl := dp_int hy2
        walk_at "w"
        exact q _ (by walk_at "ex")
      | is_ k =>
        obtain ⟨p2, x2, y2, rfl, hp2, hx2, hy2⟩ := dp_tup2 hx
        obtain rfl := dp_str hx2
        obtain rfl := dp_int hy2
        walk_at "w"
        exact q _ (by walk_at "ex")
      | gone =>
        obtain ⟨p2, x2, rfl, hp2, hx2⟩ := dp_tup1 hx
        obtain rfl := dp_str hx2
        walk_at "w"
        exact q _ (by walk_at "ex")
theorem use_law_done {K : PySem.W.Frag} {H : Hp} {Q : VK} {E : XK} {v : V} {t n : Hf} {o : Option Int} (hd : Dp K H v (actD t n)) (hn : n.ok) (q : ∀ H1, Ex H H1 → Q (optV (actDo t n o)) H1) : sp_law_done K [v, optV o] H Q E := ⟨v, t, n, o, rfl, hd, hn, q⟩
theorem use_law_done_non {K : PySem.W.Frag} {H : Hp} {Q : VK} {E : XK} {v : V} {t n : Hf} (hd : Dp K H v (actD t n)) (hn : n.ok) (q : ∀ H1, Ex H H1 → Q (optV (actDo t n none)) H1) : sp_law_done K [v, .non] H Q E := ⟨v, t, n, none, rfl, hd, hn, q⟩
theorem use_law_done_int {K : PySem.W.Frag} {H : Hp} {Q : VK} {E : XK} {v : V} {t n : Hf} {i : Int} (hd : Dp K H v (actD t n)) (hn : n.ok) (q : ∀ H1, Ex H H1 → Q (optV (actDo t n (some i))) H1) : sp_law_done K [v, .int i] H Q E := ⟨v, t, n, some i, rfl, hd, hn, q⟩
local macro_rules | `(tactic| walk_at "use") => `(tactic| ((with_reducible refine' use_law_done ?k1 ?k2 ?_); (case k1 => walk_at "dp"); (case k2 => walk_at "ok"); intro _ _))
local macro_rules | `(tactic| walk_at "use") => `(tactic| ((with_reducible refine' use_law_done_non ?k1 ?k2 ?_); (case k1 => walk_at "dp"); (case k2 => walk_at "ok"); intro _ _))
local macro_rules | `(tactic| walk_at "use") => `(tactic| ((with_reducible refine' use_law_done_int ?k1 ?k2 ?_); (case k1 => walk_at "dp"); (case k2 => walk_at "ok"); intro _ _))
/-! ### _law_from_right -/
def sp_law_from_right (K : PySem.W.Frag) : Sp := fun vs H Q _ => ∃ p ys l, vs = [.ref p] ∧ SqL K H p ys ∧ DpAll K H ys (l.map AD) ∧ AllOk l ∧ l ≠ [] ∧ ∀ w H1, Ex H H1 → Dp K H1 w (AD (prod l)) → Q w H1
theorem sp_law_from_right_len {K : PySem.W.Frag} {vs H Q E} (h : sp_law_from_right K vs H Q E) : vs.length = 1 := by
  obtain ⟨_, _, _, rfl, _⟩ := h; rfl
theorem sc_law_from_right : FnScope ["_law_row", "_law_found", "_law_action_here"] ["_law_row"] (defScope s_law_from_right) := ⟨rfl, rfl, rfl, by decide +kernel, rfl, by decide +kernel, by decide +kernel⟩
local macro_rules | `(tactic| walk_at "st") => `(tactic| ((rw [show ∀ a0 : V, L2.start ["_law_row", "_law_found", "_law_action_here"] [a0] = [some a0, none, none] from fun _ => rfl]); (try dsimp only [L2.cxOf])))
theorem c_law_from_right (T : Txt K mg) : CallOk P w K mg base CX0 6 "_law_from_right" ["_law_row"] [] (sp_law_from_right K) := by
  obtain ⟨f, fd, hm, F⟩ := T.d_law_from_right
  refine ⟨f, fd, [], hm, F.kp, F.bindsN (fun _ _ _ _ _ _ us hl => match us, hl with | [_], _ => rfl), .nil, ?_⟩
  refine F.ok sc_law_from_right (fun vs H Q E h => ?len) (fun cdv A outer s H vs Q E hr h => ?body)
  case len =>
    exact sp_law_from_right_len h
  case body =>
    refine ⟨_, PSs.nox (pss_cons (ps_asg (pe_ix ix_seq (pv 0) (pe_un ou_neg pe_int) (fun _ _ => rfl)) (pg_name (i := 1) sc_law_from_right.nd rfl (Or.inl rfl)))
      (pss_cons (ps_for PassesOwn.never rfl (pi_list (pe_revL (pe_slice su_list (pv 0) po_none (po_some (pe_un ou_neg pe_int))))) (pg_name (i := 2) sc_law_from_right.nd rfl (Or.inl rfl)) (pss_one (ps_asg (pe_callF (c_behind T) (hr.mono (by decide)) pass0 (pa_cons (pv 2) (pa_cons (pv 1) pa_nil))) (pg_name (i := 1) sc_law_from_right.nd rfl (Or.inl rfl)))))
      (pss_one (ps_ret (pv 1))))), ?_⟩
    obtain ⟨p, ys, l, rfl, hp, hA, hok, hne, q⟩ := h
    obtain ⟨m, z, rfl⟩ : ∃ m z, l = m ++ [z] := ⟨_, _, (List.dropLast_concat_getLast hne).symm⟩
    rw [List.map_append] at hA
    obtain ⟨us, v, rfl, hu, hv⟩ := dpAll_snoc hA
    have hz : AOk z := hok z (by simp)
    have hm : AllOk m := fun x hx => hok x (by simp [hx])
    walk_at "w"
    refine w_ixL hp (atI_last us v) ?_
    walk_at "w"
    rename_i l1 H1 n1 e1 h1
    rw [cut_init] at h1
    refine w_rev (by walk_at "h") fun p2 H2 n2 e2 h2 => ?_
    walk_at "w"
    have hr : DpAll K H2 us.reverse (m.reverse.map AD) := by rw [List.map_reverse]; exact dpAll_rev (dpAll_mono (Ex.trans e1 e2) _ hu)
    refine w_forL (fun i σ H4 => ∃ w v2, σ = [some (.ref p), some w, v2] ∧ Ex H2 H4 ∧ Dp K H4 w (AD (prod ((m.reverse.take i).reverse ++ [z])))) ⟨_, _, rfl, Ex.refl _, ?_⟩ (fun i σ H4 _ ⟨_, _, _, e, _⟩ => ex_l e (SqL.of h2)) ?_ ?_
    · rw [List.take_zero]
      show Dp K H2 v (AD (prod [z]))
      rw [prod_one hz]
      exact dp_mono (Ex.trans e1 e2) _ hv
    · rintro i x σ H4 hx ⟨w, v2, rfl, e4, hw⟩
      obtain ⟨a, ha, hxa⟩ := acts_at (dpAll_mono e4 _ hr) hx
      have hmr : AllOk m.reverse := fun x hx => hm x (List.mem_reverse.mp hx)
      have hoka := ok_at hmr ha
      have hok2 : AllOk ((m.reverse.take i).reverse ++ [z]) := fun x hx => by
        rcases List.mem_append.mp hx with hx | hx
        · exact ok_take hmr i x (List.mem_reverse.mp hx)
        · rw [List.mem_singleton.mp hx]; exact hz
      have hokw := prod_ok hok2
      walk_at "w"
      rename_i w5 H5 e5 h5
      refine ⟨_, _, rfl, by walk_at "ex", ?_⟩
      rw [take_next ha, List.reverse_append]
      exact h5
    · rintro σ H4 ⟨w, v2, rfl, e4, hw⟩
      walk_at "w"
      refine q _ _ (by walk_at "ex") ?_
      have e : us.reverse.length = m.reverse.length := by rw [acts_len hr]
      rw [e, List.take_length, List.reverse_reverse] at hw
      exact hw
theorem use_law_from_right {K : PySem.W.Frag} {H : Hp} {Q : VK} {E : XK} {p : Addr} {ys : List V} {l : List Act} (hp : SqL K H p ys) (hA : DpAll K H ys (l.map AD)) (hok : AllOk l) (hne : l ≠ []) (q : ∀ w H1, Ex H H1 → Dp K H1 w (AD (prod l)) → Q w H1) : sp_law_from_right K [.ref p] H Q E := ⟨p, ys, l, rfl, hp, hA, hok, hne, q⟩
/-! ### _law_anyhow -/
def sp_law_anyhow (K : PySem.W.Frag) : Sp := fun vs H Q _ => ∃ r p ys l, vs = [.ref r, .ref p] ∧ WellAt H r ∧ SqL K H p ys ∧ DpAll K H ys (l.map AD) ∧ AllOk l ∧ l ≠ [] ∧ l.length < 1000 ∧ ∀ w H1, Ex H H1 → Dp K H1 w (AD (prod l)) → Q w H1
theorem sp_law_anyhow_len {K : PySem.W.Frag} {vs H Q E} (h : sp_law_anyhow K vs H Q E) : vs.length = 2 := by
  obtain ⟨_, _, _, _, rfl, _⟩ := h; rfl
theorem sc_law_anyhow : FnScope ["_law_well_here", "_law_row", "_law_left", "_law_k", "_law_at"] ["_law_well_here", "_law_row"] (defScope s_law_anyhow) := ⟨rfl, rfl, rfl, by decide +kernel, rfl, by decide +kernel, by decide +kernel⟩
local macro_rules | `(tactic| walk_at "st") => `(tactic| ((rw [show ∀ a0 a1 : V, L2.start ["_law_well_here", "_law_row", "_law_left", "_law_k", "_law_at"] [a0, a1] = [some a0, some a1, none, none, none] from fun _ _ => rfl]); (try dsimp only [L2.cxOf])))
theorem c_law_anyhow (T : Txt K mg) : CallOk P w K mg base CX0 6 "_law_anyhow" ["_law_well_here", "_law_row"] [] (sp_law_anyhow K) := by
  obtain ⟨f, fd, hm, F⟩ := T.d_law_anyhow
  refine ⟨f, fd, [], hm, F.kp, F.bindsN (fun _ _ _ _ _ _ us hl => match us, hl with | [_, _], _ => rfl), .nil, ?_⟩
  refine F.ok sc_law_anyhow (fun vs H Q E h => ?len) (fun cdv A outer s H vs Q E hr h => ?body)
  case len =>
    exact sp_law_anyhow_len h
  case body =>
    refine ⟨_, PSs.nox (pss_cons (ps_asg (pe_callTy cu_list (by rfl) T.z_list bo_list (pa_cons (pv 1) pa_nil)) (pg_name (i := 2) sc_law_anyhow.nd rfl (Or.inl rfl)))
      (pss_cons (ps_for PassesOwn.never rfl (pi_range1 (by rfl) T.z_range (pa_cons (pe_op ou_sub (pe_callB cu_len (by rfl) T.z_len bo_len (pa_cons (pv 1) pa_nil)) pe_int) pa_nil)) (pg_name (i := 3) sc_law_anyhow.nd rfl (Or.inl rfl)) (pss_cons (ps_asg (pe_callF (c_law_draw T) (hr.mono (by decide)) pass0 (pa_cons (pv 0) (pa_cons (pe_op ou_sub (pe_callB cu_len (by rfl) T.z_len bo_len (pa_cons (pv 2) pa_nil)) pe_int) pa_nil))) (pg_name (i := 4) sc_law_anyhow.nd rfl (Or.inl rfl)))
      (pss_one (ps_asg (pe_lst (pa_cons (pe_callF (c_behind T) (hr.mono (by decide)) pass0 (pa_cons (pe_ix ix_seq (pv 2) (pv 4) (fun _ _ => rfl)) (pa_cons (pe_ix ix_seq (pv 2) (pe_op ou_add (pv 4) pe_int) (fun _ _ => rfl)) pa_nil))) pa_nil)) (pg_slc (pv 2) (po_some (pv 4)) (po_some (pe_op ou_add (pv 4) pe_int)))))))
      (pss_one (ps_ret (pe_ix ix_seq (pv 2) pe_int (fun _ _ => rfl)))))), ?_⟩
    obtain ⟨r, p, ys, l, rfl, hr, hp, hA, hok, hne, hlen, q⟩ := h
    have hyl := acts_len hA
    have hl0 : 0 < l.length := by cases l with
      | nil => exact absurd rfl hne
      | cons _ _ => exact Nat.succ_pos _
    walk_at "w"
    rename_i p0 H1 n1 e1 h1
    have hA1 := dpAll_mono e1 _ hA
    refine w_forR (fun i σ H4 => ∃ v3 v4 zs m, σ = [some (.ref r), some (.ref p), some (.ref p0), v3, v4] ∧ Ex H H4 ∧ H4 p0 = some (.lst zs) ∧ DpAll K H4 zs (m.map AD) ∧ AllOk m ∧ m.length + i = l.length ∧ prod m = prod l) ⟨_, _, ys, l, rfl, e1, h1, hA1, hok, rfl, rfl⟩ ?_ ?_
    · rintro i σ H4 hi ⟨v3, v4, zs, m, rfl, e4, h4, hA4, hokm, hlm, hpm⟩
      have hzm := acts_len hA4
      have hr4 := ex_at e4 hr
      walk_at "w"
      rename_i d H5 d0 d1 e5
      obtain ⟨k, rfl⟩ := Int.eq_ofNat_of_zero_le d0
      obtain ⟨z1, u, v, z2, m1, x, y, m2, rfl, rfl, ez, em, hz1, hu, hv, hz2⟩ := acts_split2 k hA4 (by omega)
      subst ez
      have hx : AOk x := hokm x (by simp)
      have hy : AOk y := hokm y (by simp)
      have hm1 : AllOk m1 := fun b hb => hokm b (by simp [hb])
      have hm2 : AllOk m2 := fun b hb => hokm b (by simp [hb])
      refine w_ixL (SqL.of (by walk_at "h")) at_mid0 ?_
      walk_at "w"
      refine w_ixL (SqL.of (by walk_at "h")) at_mid1 ?_
      walk_at "w"
      rename_i w6 H6 e6 h6 p7 H7 n7 e7 h7
      refine w_slc (xs := z1 ++ u :: v :: z2) (ys := [w6]) (by walk_at "h") (by walk_at "h") (by walk_at "ne") (by omega) (by omega) ?_ ?_ ?_
      · rw [hzm]; simp at hlm ⊢; omega
      · rw [hzm]; simp at hlm ⊢; omega
      intro H8 u8
      rw [put_mid] at u8
      have e47 : Ex H4 H7 := Ex.trans (Ex.trans e5 e6) e7
      refine ⟨_, _, z1 ++ ([w6] ++ z2), m1 ++ ([mul x y] ++ m2), rfl, u8.ex (Ex.trans e4 e47) n1, u8.now, ?_, ?_, ?_, ?_⟩
      · rw [List.map_append, List.map_append]
        exact dpAll_app (dpAll_put u8 _ (noLs_acts m1) (dpAll_mono e47 _ hz1)) (dpAll_app (.cons (dp_put u8 _ (act_noL _ _) (dp_mono e7 _ h6)) .nil) (dpAll_put u8 _ (noLs_acts m2) (dpAll_mono e47 _ hz2)))
      · intro b hb
        simp at hb
        rcases hb with hb | rfl | hb
        · exact hm1 b hb
        · exact mul_ok hx
        · exact hm2 b hb
      · simp at hlm ⊢; omega
      · rw [prod_put hm1 hx hy hm2]; exact hpm
    · rintro σ H4 ⟨v3, v4, zs, m, rfl, e4, h4, hA4, hokm, hlm, hpm⟩
      have hm1 : m.length = 1 := by omega
      obtain ⟨x, rfl⟩ : ∃ x, m = [x] := by
        match m, hm1 with
        | [x], _ => exact ⟨x, rfl⟩
      obtain ⟨v, _, rfl, hv, hn⟩ := dpAll_cons hA4
      cases hn
      walk_at "w"
      refine q _ _ (by walk_at "ex") ?_
      rw [← hpm, prod_one (hokm x (by simp))]
      exact hv
theorem use_law_anyhow {K : PySem.W.Frag} {H : Hp} {Q : VK} {E : XK} {r p : Addr} {ys : List V} {l : List Act} (hr : WellAt H r) (hp : SqL K H p ys) (hA : DpAll K H ys (l.map AD)) (hok : AllOk l) (hne : l ≠ []) (hl : l.length < 1000) (q : ∀ w H1, Ex H H1 → Dp K H1 w (AD (prod l)) → Q w H1) : sp_law_anyhow K [.ref r, .ref p] H Q E := ⟨r, p, ys, l, rfl, hr, hp, hA, hok, hne, hl, q⟩
/-! ### law -/
abbrev sp_law (K : PySem.W.Frag) : Sp := spLaw K
theorem sp_law_len {K : PySem.W.Frag} {vs H Q E} (h : sp_law K vs H Q E) : vs.length = 1 := spLaw_len h
theorem take_len {l : List Act} {ys : List V} (h : ys.length = l.length) : l.take ys.length = l := by rw [h, List.take_length]
theorem sc_law : FnScope ["_law_script", "_law_first", "_law_row", "_law_cell", "_law_well_here", "_law_way", "_law_found", "_law_action_here", "_law_value", "_law_due"] ["_law_script"] (defScope s_law) := ⟨rfl, rfl, rfl, by decide +kernel, rfl, by decide +kernel, by decide +kernel⟩
local macro_rules | `(tactic| walk_at "st") => `(tactic| ((rw [show ∀ a0 : V, L2.start ["_law_script", "_law_first", "_law_row", "_law_cell", "_law_well_here", "_law_way", "_law_found", "_law_action_here", "_law_value", "_law_due"] [a0] = [some a0, none, none, none, none, none, none, none, none, none] from fun _ => rfl]); (try dsimp only [L2.cxOf])))
theorem ok_law (T : Txt K mg) {f : Addr} {fd : FuncData} (F : FunD K "law" "law" (defArgs s_law) (defBody s_law) (defScope s_law) [] [] f fd) : FnOk P w K mg base CX0 7 f fd ["_law_script"] (sp_law K) := by
  refine F.ok sc_law (fun vs H Q E h => ?len) (fun cdv A outer s H vs Q E hr h => ?body)
  case len =>
    exact sp_law_len h
  case body =>
    refine ⟨_, PSs.nox (pss_cons (ps_asg (pe_callF (c_law_well T) (hr.mono (by decide)) pass0 (pa_cons (pe_ix ix_seq (pe_op ou_add (pv 0) (pe_lst (pa_cons pe_int pa_nil))) pe_int (fun _ _ => rfl)) pa_nil)) (pg_name (i := 1) sc_law.nd rfl (Or.inl rfl)))
      (pss_cons (ps_asg (pe_lst pa_nil) (pg_name (i := 2) sc_law.nd rfl (Or.inl rfl)))
      (pss_cons (ps_for PassesOwn.never rfl (pi_list (pe_op ou_add (pe_lst (pa_cons pe_int (pa_cons pe_int pa_nil))) (pe_slice su_list (pv 0) (po_some pe_int) (po_some pe_int)))) (pg_name (i := 3) sc_law.nd rfl (Or.inl rfl)) (pss_cons (ps_asg (pe_callF (c_law_well T) (hr.mono (by decide)) pass0 (pa_cons (pv 3) pa_nil)) (pg_name (i := 4) sc_law.nd rfl (Or.inl rfl)))
      (pss_cons (ps_asg (pe_callF (c_law_draw T) (hr.mono (by decide)) pass0 (pa_cons (pv 4) (pa_cons pe_int pa_nil))) (pg_name (i := 5) sc_law.nd rfl (Or.inl rfl)))
      (pss_one (ps_expr (pe_bm PySem.F.plainAttrs_list PySem.F.slot_list_append PySem.F.type_list_append mt_append (pv 2) (pa_cons (pe_ix ix_seq (pe_lst (pa_cons (pe_callF (c_law_action T) (hr.mono (by decide)) pass0 (pa_cons (pv 4) pa_nil)) (pa_cons (pe_k_NOTHING T) pa_nil))) (pe_callTy cu_int (by rfl) T.z_int bo_int (pa_cons (pe_cmpR (ou_eq hr.units) (pv 5) pe_int (nomark _)) pa_nil)) (fun _ _ => rfl)) pa_nil)))))))
      (pss_cons (ps_asg (pe_ix ix_seq (pv 2) pe_int (fun _ _ => rfl)) (pg_name (i := 6) sc_law.nd rfl (Or.inl rfl)))
      (pss_cons (ps_for PassesOwn.never rfl (pi_list (pe_slice su_list (pv 2) (po_some pe_int) po_none)) (pg_name (i := 7) sc_law.nd rfl (Or.inl rfl)) (pss_one (ps_asg (pe_callF (c_behind T) (hr.mono (by decide)) pass0 (pa_cons (pv 6) (pa_cons (pv 7) pa_nil))) (pg_name (i := 6) sc_law.nd rfl (Or.inl rfl)))))
      (pss_cons (ps_if (PW.pt (pw_or (pt_cmpR (ou_ne hr.units) (pe_callF (c_law_from_right T) (hr.mono (by decide)) pass0 (pa_cons (pv 2) pa_nil)) (pv 6) (nomark _)) (pw_or1 (pt_cmpR (ou_ne hr.units) (pe_callF (c_law_anyhow T) (hr.mono (by decide)) pass0 (pa_cons (pv 1) (pa_cons (pv 2) pa_nil))) (pv 6) (nomark _))))) (pss_one (ps_ret pe_bl)) pss_nil)
      (pss_cons (ps_for PassesOwn.never rfl (pi_list (pe_lst (pa_cons pe_non (pa_cons pe_int (pa_cons pe_int (pa_cons (pe_callF (c_law_number T) (hr.mono (by decide)) pass0 (pa_cons (pv 1) pa_nil)) (pa_cons (pe_callF (c_law_number T) (hr.mono (by decide)) pass0 (pa_cons (pv 1) pa_nil)) pa_nil))))))) (pg_name (i := 8) sc_law.nd rfl (Or.inl rfl)) (pss_cons (ps_asg (pv 8) (pg_name (i := 9) sc_law.nd rfl (Or.inl rfl)))
      (pss_cons (ps_for PassesOwn.never rfl (pi_list (pv 2)) (pg_name (i := 7) sc_law.nd rfl (Or.inl rfl)) (pss_one (ps_asg (pe_callF (c_law_done T) (hr.mono (by decide)) pass0 (pa_cons (pv 7) (pa_cons (pv 9) pa_nil))) (pg_name (i := 9) sc_law.nd rfl (Or.inl rfl)))))
      (pss_one (ps_if (pt_cmpR (ou_ne hr.units) (pe_callF (c_acts T) (hr.mono (by decide)) pass0 (pa_cons (pv 6) (pa_cons (pv 8) pa_nil))) (pv 9) (nomark _)) (pss_one (ps_ret pe_bl)) pss_nil)))))
      (pss_one (ps_ret pe_bl))))))))), ?_⟩
    obtain ⟨a, ns, rfl, hS, hlen, q⟩ := h
    walk_at "w"
    refine w_ixLm (by walk_at "h") (by omega) (by rw [List.length_append]; simp only [List.length_cons, List.length_nil]; omega) ?_
    intro v hv
    obtain ⟨z, rfl⟩ := intL_app (intL_map ns) (intL_cons intL_nil) v hv
    walk_at "w"
    rename_i wf Hf nf ef hf pr Hr nr er hr pa Ha na ea ha pb Hb nb eb hb pc Hc nc ec hc
    have hcl : ([V.int 0, V.int 7] ++ cutV (ns.map V.int) (some 1) (some 61)).length < 70 := by
      have := cutV_length (ns.map V.int) (some 1) (some 61)
      rw [List.length_map] at this
      rw [List.length_append]
      simp only [List.length_cons, List.length_nil]
      omega
    have hcl2 : 2 ≤ ([V.int 0, V.int 7] ++ cutV (ns.map V.int) (some 1) (some 61)).length := by
      rw [List.length_append]
      simp only [List.length_cons, List.length_nil]
      omega
    have hcI : IntL ([V.int 0, V.int 7] ++ cutV (ns.map V.int) (some 1) (some 61)) := intL_app (intL_cons (intL_cons intL_nil)) (intL_cut (intL_map ns) _ _)
    generalize ([V.int 0, V.int 7] ++ cutV (ns.map V.int) (some 1) (some 61)) = cells at *
    have hpc : pc ≠ pr := by walk_at "ne"
    have hrc : Hc pr = some (.lst []) := by walk_at "h"
    have hfc : WellAt Hc wf := by walk_at "h"
    have hwp : wf ≠ pr := by walk_at "ne"
    refine w_forL (fun i σ H4 => ∃ v3 v4 v5 v6 v7 v8 v9 ys l, σ = [some (.ref a), some (.ref wf), some (.ref pr), v3, v4, v5, v6, v7, v8, v9] ∧ ExB pr Hc H4 ∧ H4 pr = some (.lst ys) ∧ DpAll K H4 ys (l.map AD) ∧ AllOk l ∧ l.length = i) ⟨_, _, _, _, _, _, _, [], [], rfl, ExB.refl _ _, hrc, .nil, (fun _ h => nomatch h), rfl⟩ (fun i σ H4 _ ⟨_, _, _, _, _, _, _, _, _, _, e, _⟩ => SqL.of (exB_at e hpc hc)) ?_ ?_
    · rintro i x σ H4 hx ⟨v3, v4, v5, v6, v7, v8, v9, ys, l, rfl, e4, h4, hA4, hok, hli⟩
      obtain ⟨z, rfl⟩ := IntL.at hcI hx
      have hib := (List.getElem?_eq_some_iff.mp hx).1
      have hyl := acts_len hA4
      walk_at "w"
      rename_i p9 H9 n9 e9 h9
      walk_at "pickv"
      intro v hv
      obtain ⟨b, hb, hdb⟩ : ∃ b : Act, AOk b ∧ Dp K H9 v (AD b) := by
        simp only [List.mem_cons, List.not_mem_nil, or_false] at hv
        rcases hv with rfl | rfl
        · exact ⟨(_, _), by assumption, by walk_at "dp"⟩
        · exact ⟨one, one_ok, nothing_act T _⟩
      walk_at "w"
      rename_i H10 u10
      have e49 : Ex H4 H9 := by walk_at "ex"
      refine ⟨_, _, _, _, _, _, _, ys ++ [v], l ++ [b], rfl, by walk_at "eB", u10.now, ?_, ?_, ?_⟩
      · rw [List.map_append]
        exact dpAll_app (dpAll_put u10 _ (noLs_acts l) (dpAll_mono e49 _ hA4)) (.cons (dp_put u10 _ (act_noL _ _) hdb) .nil)
      · intro c hc
        rcases List.mem_append.mp hc with hc | hc
        · exact hok c hc
        · rw [List.mem_singleton.mp hc]; exact hb
      · rw [List.length_append, hli]; rfl
    · rintro σ H4 ⟨v3, v4, v5, v6, v7, v8, v9, ys, l, rfl, e4, h4, hA4, hok, hli⟩
      have hf4 : WellAt H4 wf := exB_at e4 hwp hfc
      obtain ⟨a0, l, rfl⟩ : ∃ a0 m, l = a0 :: m := by
        match l, hli with
        | [], hli => simp at hli; omega
        | a0 :: m, _ => exact ⟨a0, m, rfl⟩
      have hA := hA4
      obtain ⟨y0, ys, rfl, hy0, hA0⟩ := dpAll_cons hA4
      have hyl := acts_len hA0
      have hok0 : AOk a0 := hok a0 List.mem_cons_self
      have hokt := allOk_tail hok
      walk_at "w"
      refine w_ixL (SqL.of (by walk_at "h")) (atI_nat (j := 0) rfl) ?_
      walk_at "w"
      rename_i ps Hs ns2 es hs
      have ec1 : cutV (y0 :: ys) (some 1) none = ys := cut_from 1
      rw [ec1] at hs
      refine w_forL (fun i σ H5 => ∃ w v7, σ = [some (.ref a), some (.ref wf), some (.ref pr), v3, v4, v5, some w, v7, v8, v9] ∧ Ex Hs H5 ∧ Dp K H5 w (AD (prod (a0 :: l.take i)))) ⟨_, _, rfl, Ex.refl _, ?_⟩ (fun i σ H5 _ ⟨_, _, _, e, _⟩ => ex_l e (SqL.of hs)) ?_ ?_
      · rw [List.take_zero, prod_one hok0]
        exact dp_mono es _ hy0
      · rintro i x σ H5 hx ⟨w, v7, rfl, e5, hw⟩
        obtain ⟨b, hb, hxb⟩ := acts_at (dpAll_mono (Ex.trans es e5) _ hA0) hx
        have hokb := ok_at hokt hb
        have hok2 : AllOk (a0 :: l.take i) := fun c hc => by
          rcases List.mem_cons.mp hc with rfl | hc
          · exact hok0
          · exact ok_take hokt i c hc
        have hokw := prod_ok hok2
        walk_at "w"
        rename_i w6 H6 e6 h6
        refine ⟨_, _, rfl, by walk_at "ex", ?_⟩
        rw [take_next hb, ← List.cons_append, prod_snoc hok2 hokb]
        exact h6
      · rintro σ H5 ⟨w, v7, rfl, e5, hw⟩
        rw [take_len hyl] at hw
        have hokw := prod_ok hok
        have eP : Ex H4 H5 := Ex.trans es e5
        generalize hP : prod (a0 :: l) = P at *
        walk_at "w"
        refine use_law_from_right (l := a0 :: l) (SqL.of (by walk_at "h")) (dpAll_mono eP _ hA) hok (by simp) fun w7 H7 e7 h7 => ?_
        rw [hP] at h7
        walk_at "w"
        refine use_law_anyhow (l := a0 :: l) (by walk_at "h") (SqL.of (by walk_at "h")) (dpAll_mono (Ex.trans eP e7) _ hA) hok (by simp) (by omega) fun w8 H8 e8 h8 => ?_
        rw [hP] at h8
        walk_at "w"
        rename_i z1 Ha1 ea1 z2 Ha2 ea2 pv Hv nv ev hv
        have eP2 : Ex H5 Hv := by walk_at "ex"
        have e48 : Ex H4 Hv := Ex.trans eP eP2
        refine w_forL (fun i σ H6 => ∃ v7 v8 v9, σ = [some (.ref a), some (.ref wf), some (.ref pr), v3, v4, v5, some w, v7, v8, v9] ∧ Ex Hv H6) ⟨_, _, _, rfl, Ex.refl _⟩ (fun i σ H6 _ ⟨_, _, _, _, e⟩ => ex_l e (SqL.of hv)) ?_ ?_
        · rintro i x σ H6 hx ⟨v7, v8, v9, rfl, e6⟩
          obtain ⟨o, rfl⟩ : ∃ o, x = optV o := OptL.at (by (repeat first | exact optL_nil | apply optL_int | apply optL_non | apply optL_opt)) hx
          have e46 : Ex H4 H6 := Ex.trans e48 e6
          walk_at "w"
          refine w_forL (fun i σ H7 => ∃ v7, σ = [some (.ref a), some (.ref wf), some (.ref pr), v3, v4, v5, some w, v7, some (optV o), some (optV (((a0 :: l).take i).foldl (fun o a => adu a o) o))] ∧ Ex H6 H7) ⟨_, rfl, Ex.refl _⟩ (fun i σ H7 _ ⟨_, _, e⟩ => ex_l (Ex.trans e46 e) (SqL.of h4)) ?_ ?_
          · rintro i x σ H7 hx ⟨v7, rfl, e7⟩
            obtain ⟨b, hb, hxb⟩ := acts_at (dpAll_mono (Ex.trans e46 e7) _ hA) hx
            have hokb := ok_at hok hb
            walk_at "w"
            refine ⟨some x, ?_, by walk_at "ex"⟩
            rw [take_next hb, List.foldl_append]
            rfl
          · rintro σ H7 ⟨v7, rfl, e7⟩
            rw [take_len (acts_len hA), ← adu_prod hok, hP]
            have hw7 : Dp K H7 w (AD P) := dp_mono (Ex.trans eP2 (Ex.trans e6 e7)) _ hw
            walk_at "w"
            exact ⟨_, _, _, rfl, by walk_at "ex"⟩
        · rintro σ H6 ⟨v7, v8, v9, rfl, e6⟩
          walk_at "w"
          exact q _

end
def dd_is_number : He.DefD := ⟨("is_number", none), "is_number", "is_number", defArgs s_is_number, defBody s_is_number, defScope s_is_number, [], []⟩
def dd_is_half : He.DefD := ⟨("is_half", none), "is_half", "is_half", defArgs s_is_half, defBody s_is_half, defScope s_is_half, [], []⟩
def dd_is_action : He.DefD := ⟨("is_action", none), "is_action", "is_action", defArgs s_is_action, defBody s_is_action, defScope s_is_action, [], []⟩
def dd_sure_action : He.DefD := ⟨("sure_action", none), "sure_action", "sure_action", defArgs s_sure_action, defBody s_sure_action, defScope s_sure_action, [], []⟩
def dd_done_to : He.DefD := ⟨("done_to", none), "done_to", "done_to", defArgs s_done_to, defBody s_done_to, defScope s_done_to, [], []⟩
def dd_acts : He.DefD := ⟨("acts", none), "acts", "acts", defArgs s_acts, defBody s_acts, defScope s_acts, [], []⟩
def dd_half_behind : He.DefD := ⟨("half_behind", none), "half_behind", "half_behind", defArgs s_half_behind, defBody s_half_behind, defScope s_half_behind, [], []⟩
def dd_behind : He.DefD := ⟨("behind", none), "behind", "behind", defArgs s_behind, defBody s_behind, defScope s_behind, [], []⟩
def dd_law_well : He.DefD := ⟨("_law_well", none), "_law_well", "_law_well", defArgs s_law_well, defBody s_law_well, defScope s_law_well, [], []⟩
def dd_law_draw : He.DefD := ⟨("_law_draw", none), "_law_draw", "_law_draw", defArgs s_law_draw, defBody s_law_draw, defScope s_law_draw, [], []⟩
def dd_law_number : He.DefD := ⟨("_law_number", none), "_law_number", "_law_number", defArgs s_law_number, defBody s_law_number, defScope s_law_number, [], []⟩
def dd_law_action : He.DefD := ⟨("_law_action", none), "_law_action", "_law_action", defArgs s_law_action, defBody s_law_action, defScope s_law_action, [], []⟩
def dd_law_done : He.DefD := ⟨("_law_done", none), "_law_done", "_law_done", defArgs s_law_done, defBody s_law_done, defScope s_law_done, [], []⟩
def dd_law_from_right : He.DefD := ⟨("_law_from_right", none), "_law_from_right", "_law_from_right", defArgs s_law_from_right, defBody s_law_from_right, defScope s_law_from_right, [], []⟩
def dd_law_anyhow : He.DefD := ⟨("_law_anyhow", none), "_law_anyhow", "_law_anyhow", defArgs s_law_anyhow, defBody s_law_anyhow, defScope s_law_anyhow, [], []⟩
def dd_law : He.DefD := ⟨("law", none), "law", "law", defArgs s_law, defBody s_law, defScope s_law, [], []⟩
def fn : List He.DefD := [dd_is_number, dd_is_half, dd_is_action, dd_sure_action, dd_done_to, dd_acts, dd_half_behind, dd_behind, dd_law_well, dd_law_draw, dd_law_number, dd_law_action, dd_law_done, dd_law_from_right, dd_law_anyhow, dd_law]
def fa : List He.Fa := [.glo "is_number", .glo "is_half", .glo "is_action", .glo "sure_action", .glo "done_to", .glo "acts", .glo "half_behind", .glo "behind", .glo "_law_well", .glo "_law_draw", .glo "_law_number", .glo "_law_action", .glo "_law_done", .glo "_law_from_right", .glo "_law_anyhow", .glo "law", .free "bool", .free "int", .free "isinstance", .free "len", .free "list", .free "range", .free "str", .free "tuple", .glo "NOTHING"]
abbrev RR : PySem.W.OpenRow := PySem.W.OpenLaw.row PySem.Challenge.rw_notefall_k09_whole_rows_of_actions
def exc (K : PySem.W.Frag) : Bool := glD K "NOTHING" (.tuple [(.tuple [(.str "plus"), (.int 0)]), (.tuple [(.str "gone")])])
abbrev hk : PySem.W.Hook := He.hookX 5 fa fn [] [] exc
def ob (s : PySem.W.SharedT) : He.AlX := He.obsX 5 fa fn [] [] exc (HandSHeadRun.getT s)
theorem ob_eq (s : PySem.W.SharedT) : ob s = hk.obs s.abs := He.obsX_eq (HandSHeadRun.getT_eq s)
def loose : List Str := (["FallError", "NoAction", "is_number", "NOTHING", "is_half", "is_action", "sure_action", "done_to", "acts", "half_behind", "behind", "_law_well", "_law_draw", "_law_number", "_law_action", "_law_done", "_law_from_right", "_law_anyhow"] : List Str)
theorem run (w : World) : HandSHeadRun.RunEq RR (PySem.W.view RR.prog [22]) hk ob 1780 loose w := by
  intro os
  kernel_rfl
theorem facts {P : Program} {w : World} {K : PySem.W.Frag} {h : Heap} {mg : Str → Option Value} {f : Addr} (X : K.In h) (G : h.Ns mainGlobals mg) (hfa : mg ("law" : Str) = some (.ref f)) (c0 : He.SaysX fa fn [] [] exc w h K) :
    ∃ fd : FuncData, (∀ (s : Shared) (v : Value), BindsTo s fd ⟨[v], []⟩ [("_law_script", v)]) ∧ ∀ base : Heap, K.In base → base.Ns mainGlobals mg → FnOk P w K mg base CX0 7 f fd ["_law_script"] (sp_law K) := by
  have c : He.SaysD fa fn K := c0.t.d
  have cx : exc K = true := c0.more
  unfold exc at cx
  try simp only [Bool.and_eq_true] at cx
  have T : Txt K mg := {
    z_bool := He.free_ok X G (c.fact 16 (f := .free "bool") rfl),
    z_int := He.free_ok X G (c.fact 17 (f := .free "int") rfl),
    z_isinstance := He.free_ok X G (c.fact 18 (f := .free "isinstance") rfl),
    z_len := He.free_ok X G (c.fact 19 (f := .free "len") rfl),
    z_list := He.free_ok X G (c.fact 20 (f := .free "list") rfl),
    z_range := He.free_ok X G (c.fact 21 (f := .free "range") rfl),
    z_str := He.free_ok X G (c.fact 22 (f := .free "str") rfl),
    z_tuple := He.free_ok X G (c.fact 23 (f := .free "tuple") rfl),
    k_NOTHING := He.glo_ok X G (c.fact 24 (f := .glo "NOTHING") rfl),
    n_NOTHING := fun H => glD_ok cx H,
    d_is_number := (c.def_ 0 (d := dd_is_number) rfl).elim fun fd F => ⟨_, fd, He.glo_ok X G (c.fact 0 (f := .glo "is_number") rfl), F⟩,
    d_is_half := (c.def_ 1 (d := dd_is_half) rfl).elim fun fd F => ⟨_, fd, He.glo_ok X G (c.fact 1 (f := .glo "is_half") rfl), F⟩,
    d_is_action := (c.def_ 2 (d := dd_is_action) rfl).elim fun fd F => ⟨_, fd, He.glo_ok X G (c.fact 2 (f := .glo "is_action") rfl), F⟩,
    d_sure_action := (c.def_ 3 (d := dd_sure_action) rfl).elim fun fd F => ⟨_, fd, He.glo_ok X G (c.fact 3 (f := .glo "sure_action") rfl), F⟩,
    d_done_to := (c.def_ 4 (d := dd_done_to) rfl).elim fun fd F => ⟨_, fd, He.glo_ok X G (c.fact 4 (f := .glo "done_to") rfl), F⟩,
    d_acts := (c.def_ 5 (d := dd_acts) rfl).elim fun fd F => ⟨_, fd, He.glo_ok X G (c.fact 5 (f := .glo "acts") rfl), F⟩,
    d_half_behind := (c.def_ 6 (d := dd_half_behind) rfl).elim fun fd F => ⟨_, fd, He.glo_ok X G (c.fact 6 (f := .glo "half_behind") rfl), F⟩,
    d_behind := (c.def_ 7 (d := dd_behind) rfl).elim fun fd F => ⟨_, fd, He.glo_ok X G (c.fact 7 (f := .glo "behind") rfl), F⟩,
    d_law_well := (c.def_ 8 (d := dd_law_well) rfl).elim fun fd F => ⟨_, fd, He.glo_ok X G (c.fact 8 (f := .glo "_law_well") rfl), F⟩,
    d_law_draw := (c.def_ 9 (d := dd_law_draw) rfl).elim fun fd F => ⟨_, fd, He.glo_ok X G (c.fact 9 (f := .glo "_law_draw") rfl), F⟩,
    d_law_number := (c.def_ 10 (d := dd_law_number) rfl).elim fun fd F => ⟨_, fd, He.glo_ok X G (c.fact 10 (f := .glo "_law_number") rfl), F⟩,
    d_law_action := (c.def_ 11 (d := dd_law_action) rfl).elim fun fd F => ⟨_, fd, He.glo_ok X G (c.fact 11 (f := .glo "_law_action") rfl), F⟩,
    d_law_done := (c.def_ 12 (d := dd_law_done) rfl).elim fun fd F => ⟨_, fd, He.glo_ok X G (c.fact 12 (f := .glo "_law_done") rfl), F⟩,
    d_law_from_right := (c.def_ 13 (d := dd_law_from_right) rfl).elim fun fd F => ⟨_, fd, He.glo_ok X G (c.fact 13 (f := .glo "_law_from_right") rfl), F⟩,
    d_law_anyhow := (c.def_ 14 (d := dd_law_anyhow) rfl).elim fun fd F => ⟨_, fd, He.glo_ok X G (c.fact 14 (f := .glo "_law_anyhow") rfl), F⟩,
    d_law := (c.def_ 15 (d := dd_law) rfl).elim fun fd F => ⟨_, fd, He.glo_ok X G (c.fact 15 (f := .glo "law") rfl), F⟩ }
  obtain ⟨fd, F⟩ := c.def_ 15 (d := dd_law) rfl
  have e := hfa.symm.trans (He.glo_ok X G (c.fact 15 (f := .glo "law") rfl))
  cases e
  have b := FunD.bindsA (ps := ["_law_script"]) F fun _ _ _ _ _ _ us hl => match us, hl with | [_], _ => rfl
  exact ⟨fd, fun s v => b s [v] rfl, fun base _ _ => ok_law T F⟩
end My
open PySem PySem.W PySem.Calls PyProof.Rows
set_option maxHeartbeats 0 in
theorem PySem.Challenge.cw_notefall_k09_whole_rows_of_actions_holds : PySem.Challenge.rw_notefall_k09_whole_rows_of_actions.Holds := by
  w_on; o_law
  refine HandSHeadRun.head_any (r := OpenLaw.row PySem.Challenge.rw_notefall_k09_whole_rows_of_actions) (q := view (OpenLaw.row PySem.Challenge.rw_notefall_k09_whole_rows_of_actions).prog [22]) (H := My.hk) (ob := My.ob) (M := 1780) (loose := My.loose) (d := HandSHeadRun.topDef (OpenLaw.row PySem.Challenge.rw_notefall_k09_whole_rows_of_actions).prog 22) (kwd := []) My.ob_eq
    (by kernel_rfl) (fun s => by kernel_rfl) My.run (by kernel_rfl) (by kernel_rfl) (by kernel_rfl) (by rfl) (by first | assumption | decide +kernel) (by decide +kernel) ⟨rfl, rfl, rfl, rfl, rfl, by decide +kernel⟩ ?hw ?hc
  case hw => w_witness2
  case hc =>
    refine L2.walk_ofE (l := PySem.Challenge.rw_notefall_k09_whole_rows_of_actions) (n := 63) (k := 7) (x := "_law_script") (CX := L2.CX0) rfl (by decide) (by kernel_rfl) ⟨rfl, by decide, by decide⟩ ?F (fun _ _ _ _ z => z)
    intro w mg fa h Y G hmg0
    obtain ⟨K, KX, c⟩ := Y
    have hmg : mg ("law" : PySem.Str) = some (.ref fa) := by
      have e : (HandSHeadRun.topDef (OpenLaw.row PySem.Challenge.rw_notefall_k09_whole_rows_of_actions).prog 22).name = ("law" : PySem.Str) := by kernel_rfl
      rw [← e]
      exact hmg0
    obtain ⟨fd, hb, hF⟩ := My.facts (P := (PySem.Challenge.rw_notefall_k09_whole_rows_of_actions).prog) (w := w) KX G hmg c
    exact ⟨K, fd, My.sp_law K, KX, hb, fun H a ns hl _ hS => ⟨a, ns, rfl, hS, hl, fun _ => rfl⟩, hF⟩
#print axioms PySem.Challenge.cw_notefall_k09_whole_rows_of_actions_holds

